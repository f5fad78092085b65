import PyProof.Rows.All
import Wide.All
import OpenK.AllK
import Wide.FinOn
import KE.KStateDown
import HandS.Head0
import HandS.Head1
import HandS.Head2
import HandS.ForMost
import HandS.ForExc
import HandS.TryMany
import HandS.Slots
import HandS.SlotsOwn
import HandS.IsInst
import HandS.Star
import HandS.TupAny
import HandS.TupMul
import HandS.Style
import HandS.Conv
import HandS.Wide
import HandS.SortInts
import HandS.RaiseMore
import HandS.FStr
import HandS.CallLocal
import HandS.ExcOwn
import HandS.ExcInit
import HandS.ExcField
import HandS.ExcIs
import HandS.Zip
import HandS.HeadHook3
import KE.KDictIter
import PyProof.EnumMake
import HandS.NoneIn
import HandS.Text
import HandS.Small
import HandS.HeadEnd
import HandS.HeadHook1
import HandS.HeadHook2
import HandS.HeadHook4
import HandS.EndBits
import HandS.Defaults
import HandS.Property
import KE.KTupSum
import PySem.Challenge.RW_dealtround_k10_whole_dealings
set_option Elab.async false
set_option linter.all false
set_option maxRecDepth 100000
set_option maxHeartbeats 1000000
/-! The tree layer: values as trees, readings as predicate transformers over trees. -/
namespace Dl
open PySem PySem.Spec PyProof.Rows L2

/-- a value as a tree -/
inductive D where
  | non
  | bl (b : Bool)
  | int (i : Int)
  | str (x : Str)
  | tup (ds : List D)
  | lst (ds : List D)
  | obj (C : Addr) (ds : List D)
  | raw (v : V)
  | vol

/-- a raised own exception: its class, its fields (none: a class without own __init__) -/
structure Exc where
  cls : Addr
  fs : Option (List (Str × D))

mutual
/-- the value stands for the tree, in the heap G -/
inductive Rep (K : PySem.W.Frag) (vl : Option (Addr × Addr)) (G : Hp) : V → D → Prop
  | non : Rep K vl G .non .non
  | bl (b : Bool) : Rep K vl G (.bl b) (.bl b)
  | int (i : Int) : Rep K vl G (.int i) (.int i)
  | str (x : Str) : Rep K vl G (.str x) (.str x)
  | tup (a : Addr) (vs : List V) (ds : List D) (h : SqT K G a vs) (r : Reps K vl G vs ds) : Rep K vl G (.ref a) (.tup ds)
  | lst (a : Addr) (vs : List V) (ds : List D) (h : G a = some (.lst vs)) (r : Reps K vl G vs ds) : Rep K vl G (.ref a) (.lst ds)
  | obj (a C dx : Addr) (vs : List V) (ds : List D) (h : SlX.Slt G a C dx (vs.map some)) (r : Reps K vl G vs ds) : Rep K vl G (.ref a) (.obj C ds)
  | raw (v : V) : Rep K vl G v (.raw v)
  | vol (h c : Addr) (e : vl = some (h, c)) : Rep K vl G (.ref h) .vol
inductive Reps (K : PySem.W.Frag) (vl : Option (Addr × Addr)) (G : Hp) : List V → List D → Prop
  | nil : Reps K vl G [] []
  | cons (v : V) (d : D) (vs : List V) (ds : List D) (h : Rep K vl G v d) (r : Reps K vl G vs ds) : Reps K vl G (v :: vs) (d :: ds)
end

/-- all that G tracks, G' tracks the same -/
def Le (G G' : Hp) : Prop := ∀ a o, G a = some o → G' a = some o
theorem Le.refl (G : Hp) : Le G G := fun _ _ h => h
theorem Le.trans {G G1 G2 : Hp} (a : Le G G1) (b : Le G1 G2) : Le G G2 := fun x o h => b x o (a x o h)
theorem Le.rd {G G' : Hp} {a : Addr} {u : HO} (e : Le G G') (h : Rd G a u) : Rd G' a u := by
  rcases h with h | ⟨o, h⟩
  · exact Or.inl (e a _ h)
  · exact Or.inr ⟨o, e a _ h⟩
theorem Le.sql {K : PySem.W.Frag} {G G' : Hp} {a : Addr} {xs : List V} (e : Le G G') (h : SqL K G a xs) : SqL K G' a xs := by
  rcases h with h | h
  · exact Or.inl (e.rd h)
  · exact Or.inr h
theorem Le.sqt {K : PySem.W.Frag} {G G' : Hp} {a : Addr} {xs : List V} (e : Le G G') (h : SqT K G a xs) : SqT K G' a xs := by
  rcases h with h | h
  · exact Or.inl (e.rd h)
  · exact Or.inr h
theorem Le.slt {G G' : Hp} {a C dx : Addr} {vs : List (Option V)} (e : Le G G') (h : SlX.Slt G a C dx vs) : SlX.Slt G' a C dx vs := by
  rcases h with ⟨h1, h2⟩ | ⟨h1, h2⟩
  · exact Or.inl ⟨e _ _ h1, h2⟩
  · exact Or.inr ⟨e _ _ h1, e _ _ h2⟩

section
variable {K : PySem.W.Frag} {vl : Option (Addr × Addr)} {G G' : Hp}
mutual
theorem Rep.mono (e : Le G G') : ∀ {v : V} {d : D}, Rep K vl G v d → Rep K vl G' v d
  | _, _, .non => .non
  | _, _, .bl b => .bl b
  | _, _, .int i => .int i
  | _, _, .str x => .str x
  | _, _, .tup a vs ds h r => .tup a vs ds (e.sqt h) (Reps.mono e r)
  | _, _, .lst a vs ds h r => .lst a vs ds (e _ _ h) (Reps.mono e r)
  | _, _, .obj a C dx vs ds h r => .obj a C dx vs ds (e.slt h) (Reps.mono e r)
  | _, _, .raw v => .raw v
  | _, _, .vol h c q => .vol h c q
theorem Reps.mono (e : Le G G') : ∀ {vs : List V} {ds : List D}, Reps K vl G vs ds → Reps K vl G' vs ds
  | _, _, .nil => .nil
  | _, _, .cons v d vs ds h r => .cons v d vs ds (Rep.mono e h) (Reps.mono e r)
end
theorem Reps.length : ∀ {vs : List V} {ds : List D}, Reps K vl G vs ds → vs.length = ds.length
  | _, _, .nil => rfl
  | _, _, .cons _ _ _ _ _ r => congrArg (· + 1) (Reps.length r)
theorem Reps.get : ∀ {vs : List V} {ds : List D} {i : Nat} {d : D}, Reps K vl G vs ds → ds[i]? = some d → ∃ v, vs[i]? = some v ∧ Rep K vl G v d
  | _, _, _, _, .nil, e => by simp at e
  | _, _, 0, _, .cons v _ _ _ h _, e => by simp at e; subst e; exact ⟨v, rfl, h⟩
  | _, _, i + 1, _, .cons _ _ _ _ _ r, e => by
    obtain ⟨v, h1, h2⟩ := Reps.get (i := i) r (by simpa using e)
    exact ⟨v, by simpa using h1, h2⟩
theorem Reps.getV : ∀ {vs : List V} {ds : List D} {i : Nat} {v : V}, Reps K vl G vs ds → vs[i]? = some v → ∃ d, ds[i]? = some d ∧ Rep K vl G v d
  | _, _, _, _, .nil, e => by simp at e
  | _, _, 0, _, .cons _ d _ _ h _, e => by simp at e; subst e; exact ⟨d, rfl, h⟩
  | _, _, i + 1, _, .cons _ _ _ _ _ r, e => by
    obtain ⟨d, h1, h2⟩ := Reps.getV (i := i) r (by simpa using e)
    exact ⟨d, by simpa using h1, h2⟩
theorem Reps.append : ∀ {vs ws : List V} {ds es : List D}, Reps K vl G vs ds → Reps K vl G ws es → Reps K vl G (vs ++ ws) (ds ++ es)
  | _, _, _, _, .nil, s => s
  | _, _, _, _, .cons v d vs ds h r, s => .cons v d _ _ h (Reps.append r s)
theorem Reps.take : ∀ {vs : List V} {ds : List D} (n : Nat), Reps K vl G vs ds → Reps K vl G (vs.take n) (ds.take n)
  | _, _, 0, _ => .nil
  | _, _, _ + 1, .nil => .nil
  | _, _, n + 1, .cons v d _ _ h r => .cons v d _ _ h (Reps.take n r)
theorem Reps.drop : ∀ {vs : List V} {ds : List D} (n : Nat), Reps K vl G vs ds → Reps K vl G (vs.drop n) (ds.drop n)
  | _, _, 0, r => r
  | _, _, _ + 1, .nil => .nil
  | _, _, n + 1, .cons _ _ _ _ _ r => Reps.drop n r
theorem Reps.reverse : ∀ {vs : List V} {ds : List D}, Reps K vl G vs ds → Reps K vl G vs.reverse ds.reverse
  | _, _, .nil => .nil
  | _, _, .cons v d vs ds h r => by
    rw [List.reverse_cons, List.reverse_cons]
    exact Reps.append (Reps.reverse r) (.cons v d _ _ h .nil)
theorem Reps.set : ∀ {vs : List V} {ds : List D} {v : V} {d : D} (i : Nat), Reps K vl G vs ds → Rep K vl G v d → Reps K vl G (vs.set i v) (ds.set i d)
  | _, _, _, _, _, .nil, _ => .nil
  | _, _, _, _, 0, .cons _ _ _ _ _ r, h => .cons _ _ _ _ h r
  | _, _, _, _, i + 1, .cons v d _ _ h r, q => .cons v d _ _ h (Reps.set i r q)
theorem Reps.one {v : V} {d : D} (h : Rep K vl G v d) : Reps K vl G [v] [d] := .cons v d _ _ h .nil
theorem Reps.ints : ∀ (ns : List Int), Reps K vl G (ns.map V.int) (ns.map D.int)
  | [] => .nil
  | n :: r => .cons _ _ _ _ (.int n) (Reps.ints r)
theorem Reps.ofInts : ∀ {vs : List V} {ns : List Int}, Reps K vl G vs (ns.map D.int) → vs = ns.map V.int
  | _, [], .nil => rfl
  | _, n :: r, .cons _ _ _ _ (.int _) q => by rw [Reps.ofInts q]; rfl
end

/-- what is kept apart: lists that the def owns (they change), the draws' state -/
structure Zn where
  own : List (Addr × List V)
  vol : Option (Addr × Addr)
def Zn.vs (Z : Zn) : List Addr := match Z.vol with
  | none => []
  | some (h, c) => [h, c]
def Zn.msk (Z : Zn) : List Addr := Z.own.map (·.1) ++ Z.vs
def mask (Z : Zn) (H : Hp) : Hp := fun a => if a ∈ Z.msk then none else H a
/-- the draws' state -/
def Vol (H : Hp) (h c : Addr) : Prop := ∃ (s i : Int) (cs : List Int), H h = some (.lst [.int s, .ref c, .int i, .int 14]) ∧ H c = some (.lst (cs.map V.int)) ∧ cs.length ≤ 63 ∧ ∀ x ∈ cs, x.natAbs < 2 ^ 1048576
structure Good (Z : Zn) (H : Hp) : Prop where
  own : ∀ a vs, (a, vs) ∈ Z.own → H a = some (.lst vs)
  vol : ∀ h c, Z.vol = some (h, c) → Vol H h c
  nd : Z.msk.Nodup

theorem mask_le (Z : Zn) (H : Hp) : Le (mask Z H) H := fun a o h => by
  unfold mask at h
  split at h
  · cases h
  · exact h
theorem mask_of {Z : Zn} {H : Hp} {a : Addr} (h : a ∉ Z.msk) : mask Z H a = H a := if_neg h
theorem mask_in {Z : Zn} {H : Hp} {a : Addr} (h : a ∈ Z.msk) : mask Z H a = none := if_pos h
/-- what is kept apart is there -/
theorem Good.there {Z : Zn} {H : Hp} (g : Good Z H) {a : Addr} (h : a ∈ Z.msk) : ∃ o, H a = some o := by
  rcases List.mem_append.mp h with h | h
  · obtain ⟨p, hp, rfl⟩ := List.mem_map.mp h
    exact ⟨_, g.own p.1 p.2 hp⟩
  · unfold Zn.vs at h
    cases e : Z.vol with
    | none => rw [e] at h; cases h
    | some p =>
      obtain ⟨x, c⟩ := p
      rw [e] at h
      obtain ⟨s, i, cs, h1, h2, _⟩ := g.vol x c e
      rcases List.mem_cons.mp h with q | q
      · exact ⟨_, by rw [q]; exact h1⟩
      · have q' : a = c := by simpa using q
        exact ⟨_, by rw [q']; exact h2⟩
/-- fresh to the whole is fresh to what is apart -/
theorem Good.fresh {Z : Zn} {H : Hp} (g : Good Z H) {p : Addr} (h : H p = none) : p ∉ Z.msk := fun hm => by
  obtain ⟨o, e⟩ := g.there hm
  rw [h] at e
  cases e

/-- the state goes on -/
structure Step (Z : Zn) (H H' : Hp) : Prop where
  le : Le (mask Z H) (mask Z H')
  good : Good Z H'
theorem Step.refl {Z : Zn} {H : Hp} (g : Good Z H) : Step Z H H := ⟨Le.refl _, g⟩
theorem Step.trans {Z : Zn} {H H1 H2 : Hp} (a : Step Z H H1) (b : Step Z H1 H2) : Step Z H H2 := ⟨a.le.trans b.le, b.good⟩
/-- a new object -/
theorem Step.new {Z : Zn} {H : Hp} (g : Good Z H) {p : Addr} (o : HO) (h : H p = none) : Step Z H (upd H p o) := by
  have hp := g.fresh h
  refine ⟨fun a u e => ?_, ⟨fun a vs q => ?_, fun x c q => ?_, g.nd⟩⟩
  · have e2 := mask_le Z H a u e
    have hm : a ∉ Z.msk := fun hm => by rw [mask_in hm] at e; cases e
    rw [mask_of hm, upd_ne (ne_of_none e2 h)]
    exact e2
  · have e := g.own a vs q
    rw [upd_ne (ne_of_none e h)]
    exact e
  · obtain ⟨s, i, cs, h1, h2, h3⟩ := g.vol x c q
    exact ⟨s, i, cs, by rw [upd_ne (ne_of_none h1 h)]; exact h1, by rw [upd_ne (ne_of_none h2 h)]; exact h2, h3⟩
theorem mask_new {Z : Zn} {H : Hp} (g : Good Z H) {p : Addr} {o : HO} (h : H p = none) : mask Z (upd H p o) p = some o := by
  rw [mask_of (g.fresh h), upd_same]

abbrev RepZ (K : PySem.W.Frag) (Z : Zn) (H : Hp) : V → D → Prop := Rep K Z.vol (mask Z H)
abbrev RepsZ (K : PySem.W.Frag) (Z : Zn) (H : Hp) : List V → List D → Prop := Reps K Z.vol (mask Z H)
theorem RepZ.step {K : PySem.W.Frag} {Z : Zn} {H H' : Hp} {v : V} {d : D} (r : RepZ K Z H v d) (s : Step Z H H') : RepZ K Z H' v d := Rep.mono s.le r
theorem RepsZ.step {K : PySem.W.Frag} {Z : Zn} {H H' : Hp} {v : List V} {d : List D} (r : RepsZ K Z H v d) (s : Step Z H H') : RepsZ K Z H' v d := Reps.mono s.le r
theorem Step.sql {K : PySem.W.Frag} {Z : Zn} {H H' : Hp} {a : Addr} {xs : List V} (s : Step Z H H') (h : SqL K (mask Z H) a xs) : SqL K (mask Z H') a xs := s.le.sql h
theorem unm_l {K : PySem.W.Frag} {Z : Zn} {H : Hp} {a : Addr} {xs : List V} (h : SqL K (mask Z H) a xs) : SqL K H a xs := (mask_le Z H).sql h
theorem unm_t {K : PySem.W.Frag} {Z : Zn} {H : Hp} {a : Addr} {xs : List V} (h : SqT K (mask Z H) a xs) : SqT K H a xs := (mask_le Z H).sqt h
theorem new_tup {K : PySem.W.Frag} {Z : Zn} {H : Hp} (g : Good Z H) {p : Addr} {vs : List V} {ds : List D} (h : H p = none) (r : RepsZ K Z H vs ds) : RepZ K Z (upd H p (.tup vs)) (.ref p) (.tup ds) :=
  .tup p vs ds (SqT.of (mask_new g h)) (r.step (Step.new g _ h))
theorem new_lst {K : PySem.W.Frag} {Z : Zn} {H : Hp} (g : Good Z H) {p : Addr} {vs : List V} {ds : List D} (h : H p = none) (r : RepsZ K Z H vs ds) : RepZ K Z (upd H p (.lst vs)) (.ref p) (.lst ds) :=
  .lst p vs ds (mask_new g h) (r.step (Step.new g _ h))

/-- an exception stands for its data -/
def RepX (K : PySem.W.Frag) (Z : Zn) (H : Hp) (cls : Value) (d : Option Addr) (x : Exc) : Prop :=
  cls = .ref x.cls ∧ match x.fs with
    | none => d = none
    | some l => ∃ dd vs, d = some dd ∧ mask Z H dd = some (.xd vs) ∧ vs.map (·.1) = l.map (·.1) ∧ RepsZ K Z H (vs.map (·.2)) (l.map (·.2))

theorem RepX.step {K : PySem.W.Frag} {Z : Zn} {H H' : Hp} {cls : Value} {d : Option Addr} {x : Exc} (h : RepX K Z H cls d x) (s : Step Z H H') : RepX K Z H' cls d x := by
  obtain ⟨e, h⟩ := h
  refine ⟨e, ?_⟩
  cases q : x.fs with
  | none => rw [q] at h; exact h
  | some l =>
    rw [q] at h
    obtain ⟨dd, vs, h1, h2, h3, h4⟩ := h
    exact ⟨dd, vs, h1, s.le _ _ h2, h3, h4.step s⟩
theorem RepX.le {K : PySem.W.Frag} {Z Z' : Zn} {H H' : Hp} {cls : Value} {d : Option Addr} {x : Exc} (h : RepX K Z H cls d x) (le : Le (mask Z H) (mask Z' H')) (ev : Z'.vol = Z.vol) : RepX K Z' H' cls d x := by
  obtain ⟨e, h⟩ := h
  refine ⟨e, ?_⟩
  cases q : x.fs with
  | none => rw [q] at h; exact h
  | some l =>
    rw [q] at h
    obtain ⟨dd, vs, h1, h2, h3, h4⟩ := h
    exact ⟨dd, vs, h1, le _ _ h2, h3, by show Reps K Z'.vol _ _ _; rw [ev]; exact Reps.mono le h4⟩
/-- a caught exception: where it is, its class, its dict, its data -/
structure ExcV where
  a : Addr
  cls : Value
  d : Option Addr
  x : Exc
/-- an instance that leads a dealing: where it is, its dict, its list of states, its class; its fields, its states -/
structure Dlg where
  a : Addr
  dx : Addr
  b : Addr
  C : Addr
  src : D
  m : Int
  n : Int
  vs : List V
  sts : List D
def Dlg.fs (g : Dlg) (x : V) : List (Str × V) := [("source", x), ("people", .int g.m), ("whole", .int g.n), ("states", .ref g.b)]
structure DAt (K : PySem.W.Frag) (Z : Zn) (H : Hp) (g : Dlg) : Prop where
  ins : ∃ x, mask Z H g.a = some (.ins g.C g.dx (g.fs x)) ∧ RepZ K Z H x g.src
  reps : RepsZ K Z H g.vs g.sts
theorem DAt.le {K : PySem.W.Frag} {Z Z' : Zn} {H H' : Hp} {g : Dlg} (h : DAt K Z H g) (le : Le (mask Z H) (mask Z' H')) (ev : Z'.vol = Z.vol): DAt K Z' H' g := by
  obtain ⟨⟨x, h1, h2⟩, h3⟩ := h
  exact ⟨⟨x, le _ _ h1, by show Rep K Z'.vol _ _ _; rw [ev]; exact Rep.mono le h2⟩, by show Reps K Z'.vol _ _ _; rw [ev]; exact Reps.mono le h3⟩
/-- a slot of the frame -/
inductive Slot where
  | un
  | val (d : D)
  | own (ds : List D)
  | exc (e : ExcV)
  | dlg (g : Dlg)
abbrev Env' := List Slot
abbrev Own := List (Nat × Addr × List V)
def SlotOk (K : PySem.W.Frag) (Z : Zn) (O : Own) (H : Hp) (i : Nat) (v : Option V) : Slot → Prop
  | .un => True
  | .val d => ∃ x, v = some x ∧ RepZ K Z H x d
  | .own ds => ∃ a vs, v = some (.ref a) ∧ (i, a, vs) ∈ O ∧ RepsZ K Z H vs ds
  | .exc e => v = some (.ref e.a) ∧ RepX K Z H e.cls e.d e.x
  | .dlg g => v = some (.ref g.a) ∧ (i, g.b, g.vs) ∈ O ∧ DAt K Z H g
structure RepE (K : PySem.W.Frag) (Z : Zn) (O : Own) (H : Hp) (σ : L2.St) (env : Env') : Prop where
  len : σ.length = env.length
  at_ : ∀ (i : Nat) (s : Slot), env[i]? = some s → ∃ v, σ[i]? = some v ∧ SlotOk K Z O H i v s
  sub : ∀ i a vs, (i, a, vs) ∈ O → (a, vs) ∈ Z.own
theorem SlotOk.mono {K : PySem.W.Frag} {Z : Zn} {O : Own} {H H' : Hp} {i : Nat} {v : Option V} {s : Slot} (h : SlotOk K Z O H i v s) (e : Step Z H H') : SlotOk K Z O H' i v s := by
  cases s with
  | un => trivial
  | val d => obtain ⟨x, h1, h2⟩ := h; exact ⟨x, h1, h2.step e⟩
  | own ds => obtain ⟨a, vs, h1, h2, h3⟩ := h; exact ⟨a, vs, h1, h2, h3.step e⟩
  | exc x => exact ⟨h.1, h.2.step e⟩
  | dlg g => exact ⟨h.1, h.2.1, h.2.2.le e.le rfl⟩
theorem RepE.step {K : PySem.W.Frag} {Z : Zn} {O : Own} {H H' : Hp} {σ : L2.St} {env : Env'} (h : RepE K Z O H σ env) (e : Step Z H H') : RepE K Z O H' σ env :=
  ⟨h.len, fun i s q => let ⟨v, h1, h2⟩ := h.at_ i s q; ⟨v, h1, h2.mono e⟩, h.sub⟩
theorem RepE.val {K : PySem.W.Frag} {Z : Zn} {O : Own} {H : Hp} {σ : L2.St} {env : Env'} (h : RepE K Z O H σ env) {i : Nat} {d : D} (e : env[i]? = some (.val d)) : ∃ x, σ[i]? = some (some x) ∧ RepZ K Z H x d := by
  obtain ⟨v, h1, x, rfl, h2⟩ := h.at_ i _ e
  exact ⟨x, h1, h2⟩

/-! ### readings over trees -/
abbrev DX := Exc → Prop
abbrev DE := Env' → (D → Prop) → DX → Prop
abbrev DA := Env' → (List D → Prop) → DX → Prop
abbrev DB := Env' → (Bool → Prop) → DX → Prop

/-- the state at an expression: what is apart, what is owned, the slots -/
structure At (K : PySem.W.Frag) (Z : Zn) (O : Own) (H : Hp) (σ : L2.St) (env : Env') : Prop where
  good : Good Z H
  env : RepE K Z O H σ env
theorem At.step {K : PySem.W.Frag} {Z : Zn} {O : Own} {H H' : Hp} {σ : L2.St} {env : Env'} (a : At K Z O H σ env) (e : Step Z H H') : At K Z O H' σ env := ⟨e.good, a.env.step e⟩

/-- an exception is wished for -/
def Xk (K : PySem.W.Frag) (Z : Zn) (H : Hp) (σ : L2.St) (R : DX) (W : WX) : Prop := ∀ x, R x → ∀ cls d H', Step Z H H' → RepX K Z H' cls d x → W cls d σ H'
theorem Xk.step {K : PySem.W.Frag} {Z : Zn} {H H1 : Hp} {σ : L2.St} {R : DX} {W : WX} (h : Xk K Z H σ R W) (e : Step Z H H1) : Xk K Z H1 σ R W := fun x q cls d H' s r => h x q cls d H' (e.trans s) r

def DT (K : PySem.W.Frag) (f : DE) (W : WX) : TE := fun σ H Q => ∃ Z O env, ∃ (Q0 : D → Prop) (R0 : DX), At K Z O H σ env ∧ f env Q0 R0 ∧ Xk K Z H σ R0 W ∧ ∀ d, Q0 d → ∀ v H', Step Z H H' → RepZ K Z H' v d → Q v H'
def DTA (K : PySem.W.Frag) (f : DA) (W : WX) : TA := fun σ H Q => ∃ Z O env, ∃ (Q0 : List D → Prop) (R0 : DX), At K Z O H σ env ∧ f env Q0 R0 ∧ Xk K Z H σ R0 W ∧ ∀ ds, Q0 ds → ∀ vs H', Step Z H H' → RepsZ K Z H' vs ds → Q vs H'
def DTB (K : PySem.W.Frag) (f : DB) (W : WX) : TT := fun σ H Q => ∃ Z O env, ∃ (Q0 : Bool → Prop) (R0 : DX), At K Z O H σ env ∧ f env Q0 R0 ∧ Xk K Z H σ R0 W ∧ ∀ b, Q0 b → ∀ H', Step Z H H' → Q b H'

/-- use of a part's reading -/
theorem DT.mk {K : PySem.W.Frag} {f : DE} {W : WX} {Z : Zn} {O : Own} {H : Hp} {σ : L2.St} {env : Env'} {Q0 : D → Prop} {R0 : DX} {Q : VK} (a : At K Z O H σ env) (hf : f env Q0 R0) (x : Xk K Z H σ R0 W) (q : ∀ d, Q0 d → ∀ v H', Step Z H H' → RepZ K Z H' v d → Q v H') : DT K f W σ H Q :=
  ⟨Z, O, env, Q0, R0, a, hf, x, q⟩
theorem DTA.mk {K : PySem.W.Frag} {f : DA} {W : WX} {Z : Zn} {O : Own} {H : Hp} {σ : L2.St} {env : Env'} {Q0 : List D → Prop} {R0 : DX} {Q : List V → Hp → Prop} (a : At K Z O H σ env) (hf : f env Q0 R0) (x : Xk K Z H σ R0 W) (q : ∀ d, Q0 d → ∀ v H', Step Z H H' → RepsZ K Z H' v d → Q v H') : DTA K f W σ H Q :=
  ⟨Z, O, env, Q0, R0, a, hf, x, q⟩
theorem DTB.mk {K : PySem.W.Frag} {f : DB} {W : WX} {Z : Zn} {O : Own} {H : Hp} {σ : L2.St} {env : Env'} {Q0 : Bool → Prop} {R0 : DX} {Q : Bool → Hp → Prop} (a : At K Z O H σ env) (hf : f env Q0 R0) (x : Xk K Z H σ R0 W) (q : ∀ d, Q0 d → ∀ H', Step Z H H' → Q d H') : DTB K f W σ H Q :=
  ⟨Z, O, env, Q0, R0, a, hf, x, q⟩

theorem PE.imp {X : Cx} {e : Expr} {t t' : TE} (h : L2.PE X e t) (i : ∀ σ H Q, t' σ H Q → t σ H Q) : L2.PE X e t' := ⟨fun pins s σ H Q I q => h.run pins s σ H Q I (i σ H Q q)⟩
theorem PT.imp {X : Cx} {e : Expr} {t t' : TT} (h : L2.PT X e t) (i : ∀ σ H Q, t' σ H Q → t σ H Q) : L2.PT X e t' := ⟨fun pins s σ H Q I q => h.run pins s σ H Q I (i σ H Q q)⟩
theorem PW.imp {X : Cx} {e : Expr} {t t' : TT} (h : L2.PW X e t) (i : ∀ σ H Q, t' σ H Q → t σ H Q) : L2.PW X e t' := ⟨fun w pins s σ H Q I q => h.run w pins s σ H Q I (i σ H Q q)⟩
theorem PA.imp {X : Cx} {e : List Expr} {t t' : TA} (h : L2.PA X e t) (i : ∀ σ H Q, t' σ H Q → t σ H Q) : L2.PA X e t' := ⟨fun p pins s σ H Q I q => h.run p pins s σ H Q I (i σ H Q q)⟩
theorem PS.imp {X : Cx} {e : Stmt} {t t' : TS} (h : L2.PS X e t) (i : ∀ D σ H, t' D σ H → t D σ H) : L2.PS X e t' := ⟨fun pins s σ H Q I q => h.run pins s σ H Q I (i Q σ H q)⟩
theorem PSs.imp {X : Cx} {e : List Stmt} {t t' : TS} (h : L2.PSs X e t) (i : ∀ D σ H, t' D σ H → t D σ H) : L2.PSs X e t' := ⟨fun pins s σ H Q I q => h.run pins s σ H Q I (i Q σ H q)⟩
theorem PG.imp {X : Cx} {e : Expr} {t t' : TG} (h : L2.PG X e t) (i : ∀ v σ H Q, t' v σ H Q → t v σ H Q) : L2.PG X e t' := ⟨fun pins s σ H v u Q I r q => h.run pins s σ H v u Q I r (i v σ H Q q)⟩

abbrev PD (X : Cx) (W : WX) (e : Expr) (f : DE) : Prop := L2.PE X e (DT X.K f W)
abbrev PDA (X : Cx) (W : WX) (es : List Expr) (f : DA) : Prop := L2.PA X es (DTA X.K f W)
abbrev PDB (X : Cx) (W : WX) (e : Expr) (f : DB) : Prop := L2.PT X e (DTB X.K f W)

section
variable {X : Cx} {W : WX} {a b : Expr} {pos : Pos} {fa fb : DE}
/-! ### names, constants -/
def dVar (i : Nat) : DE := fun env Q _ => match env[i]? with
  | some (.val d) => Q d
  | _ => False
theorem pd_var {i : Nat} {x : Str} (h : L2.PE X (.Name x pos) (tVar i)) : PD X W (.Name x pos) (dVar i) := PE.imp h fun σ H Q ⟨Z, O, env, Q0, R0, a, hf, _, q⟩ => by
  unfold dVar at hf
  cases e : env[i]? with
  | none => rw [e] at hf; cases hf
  | some s =>
    rw [e] at hf
    cases s with
    | val d =>
      obtain ⟨v, h1, h2⟩ := a.env.val e
      exact ⟨v, h1, q d hf v H (Step.refl a.good) h2⟩
    | un => cases hf
    | own _ => cases hf
    | exc _ => cases hf
    | dlg _ => cases hf
def dC (d : D) : DE := fun _ Q _ => Q d
theorem pd_c {e : Expr} {v : V} {d : D} (h : L2.PE X e (tC v)) (r : ∀ vl G, Rep X.K vl G v d) : PD X W e (dC d) := PE.imp h fun σ H Q ⟨Z, O, env, Q0, R0, a, hf, _, q⟩ => q d hf v H (Step.refl a.good) (r _ _)
theorem pd_int {i : Int} {j : Nat} : PD X W (.Constant (.int i) j pos) (dC (.int i)) := pd_c pe_int fun _ _ => .int i
theorem pd_bl {i : Bool} {j : Nat} : PD X W (.Constant (.bool i) j pos) (dC (.bl i)) := pd_c pe_bl fun _ _ => .bl i
theorem pd_str {i : Str} {j : Nat} : PD X W (.Constant (.str i) j pos) (dC (.str i)) := pd_c pe_str fun _ _ => .str i
theorem pd_non {j : Nat} : PD X W (.Constant .none j pos) (dC .non) := pd_c pe_non fun _ _ => .non

/-! ### two operands -/
/-- an operation on trees: what it gives of two trees -/
abbrev D2 := D → D → (D → Prop) → Prop
def dOp (r : D2) (fa fb : DE) : DE := fun env Q R => fa env (fun x => fb env (fun y => r x y Q) R) R
/-- the operation by values does what it does by trees -/
def OpD (K : PySem.W.Frag) (r : R2) (g : D2) : Prop := ∀ Z H x y dx dy (Q0 : D → Prop) (Q : VK), Good Z H → RepZ K Z H x dx → RepZ K Z H y dy → g dx dy Q0 → (∀ d, Q0 d → ∀ v H', Step Z H H' → RepZ K Z H' v d → Q v H') → r x y H Q
/-- evaluation of two operands -/
theorem two_ev {K : PySem.W.Frag} {r : R2} {g : D2} (hr : OpD K r g) : ∀ σ H Q, DT K (dOp g fa fb) W σ H Q → tOp r (DT K fa W) (DT K fb W) σ H Q := fun σ H Q ⟨Z, O, env, Q0, R0, a, hf, x, q⟩ => by
  refine DT.mk a hf x fun d1 h1 v1 H1 s1 r1 => ?_
  refine DT.mk (a.step s1) h1 (x.step s1) fun d2 h2 v2 H2 s2 r2 => ?_
  exact hr Z H2 v1 v2 d1 d2 Q0 Q s2.good (r1.step s2) r2 h2 fun d hd v H' s' rv => q d hd v H' ((s1.trans s2).trans s') rv
theorem pd_op {op : Operator} {r : R2} {g : D2} (ho : OpR X (binaryOp op) r) (hr : OpD X.K r g) (ha : PD X W a fa) (hb : PD X W b fb) : PD X W (.BinOp a op b pos) (dOp g fa fb) := PE.imp (pe_op ho ha hb) (two_ev hr)
theorem pd_cmp {op : CmpOp} {r : R2} {g : D2} (ho : OpR X (compareOp op) r) (hr : OpD X.K r g) (ha : PD X W a fa) (hb : PD X W b fb) (hm : behindInMarks op b = false) : PD X W (.Compare a [op] [b] pos) (dOp g fa fb) := PE.imp (pe_cmpR ho ha hb hm) (two_ev hr)
end
end Dl

set_option maxHeartbeats 1000000
/-! The tree layer: operators, comparisons, built-ins, displays, subscripts, slices. -/
namespace Dl
open PySem PySem.Spec PyProof.Rows L2

/-! ### operators on ints -/
def gI (C : Int → Int → Prop) (h : Int → Int → D) : D2 := fun x y Q => match x, y with
  | .int i, .int j => C i j ∧ Q (h i j)
  | _, _ => False
def gI0 (h : Int → Int → D) : D2 := fun x y Q => match x, y with
  | .int i, .int j => Q (h i j)
  | _, _ => False
section
variable {K : PySem.W.Frag}
theorem opd_I {C : Int → Int → Prop} {g : Int → Int → Int} : OpD K (rI C fun i j => .int (g i j)) (gI C fun i j => .int (g i j)) := fun Z H x y dx dy Q0 Q gd rx ry hg q => by
  cases dx <;> cases dy <;> first | exact False.elim hg | skip
  cases rx; cases ry
  exact ⟨_, _, rfl, rfl, hg.1, q _ hg.2 _ H (Step.refl gd) (.int _)⟩
theorem opd_I0 {g : Int → Int → Int} : OpD K (rI0 fun i j => .int (g i j)) (gI0 fun i j => .int (g i j)) := fun Z H x y dx dy Q0 Q gd rx ry hg q => by
  cases dx <;> cases dy <;> first | exact False.elim hg | skip
  cases rx; cases ry
  exact ⟨_, _, rfl, rfl, q _ hg _ H (Step.refl gd) (.int _)⟩
theorem opd_B0 {g : Int → Int → Bool} : OpD K (rI0 fun i j => .bl (g i j)) (gI0 fun i j => .bl (g i j)) := fun Z H x y dx dy Q0 Q gd rx ry hg q => by
  cases dx <;> cases dy <;> first | exact False.elim hg | skip
  cases rx; cases ry
  exact ⟨_, _, rfl, rfl, q _ hg _ H (Step.refl gd) (.bl _)⟩
end
abbrev gAdd : D2 := gI0 fun i j => .int (i + j)
abbrev gSub : D2 := gI0 fun i j => .int (i - j)
abbrev gMul : D2 := gI CMul fun i j => .int (i * j)
abbrev gDiv : D2 := gI CDiv fun i j => .int (i / j)
abbrev gMod : D2 := gI (fun _ j => 0 < j) fun i j => .int (i % j)
abbrev gPow : D2 := gI CPow fun i j => .int (i ^ j.toNat)
abbrev gMulW : D2 := gI CMulW fun i j => .int (i * j)
abbrev gDivW : D2 := gI CDivW fun i j => .int (i / j)
abbrev gLt : D2 := gI0 fun i j => .bl (decide (i < j))
abbrev gLe : D2 := gI0 fun i j => .bl (decide (i ≤ j))
abbrev gGt : D2 := gI0 fun i j => .bl (decide (j < i))
abbrev gGe : D2 := gI0 fun i j => .bl (decide (j ≤ i))

/-! ### equality -/
mutual
def py : D → PyData
  | .non => .none
  | .bl b => .bool b
  | .int i => .int i
  | .str x => .str x
  | .tup ds => .tuple (pys ds)
  | .lst ds => .list (pys ds)
  | .obj _ _ => .none
  | .raw _ => .none
  | .vol => .none
def pys : List D → List PyData
  | [] => []
  | d :: ds => py d :: pys ds
end
mutual
/-- data of at most this depth -/
def dat : Nat → D → Bool
  | _, .non => true
  | _, .bl _ => true
  | _, .int _ => true
  | _, .str x => PyData.strOk x
  | 0, .tup _ => false
  | n + 1, .tup ds => dats n ds
  | 0, .lst _ => false
  | n + 1, .lst ds => dats n ds
  | _, .obj _ _ => false
  | _, .raw _ => false
  | _, .vol => false
def dats : Nat → List D → Bool
  | _, [] => true
  | n, d :: ds => dat n d && dats n ds
end
section
variable {K : PySem.W.Frag} {vl : Option (Addr × Addr)} {G : Hp}
mutual
theorem Rep.dp : ∀ {n : Nat} {v : V} {d : D}, Rep K vl G v d → dat n d = true → Dp K G v (py d)
  | _, _, _, .non, _ => .non
  | _, _, _, .bl b, _ => .bl b
  | _, _, _, .int b, _ => .int b
  | _, _, _, .str b, _ => .str b
  | 0, _, _, .tup a vs ds h r, e => by simp [dat] at e
  | n + 1, _, _, .tup a vs ds h r, e => .tup h (Reps.dp r (by simpa [dat] using e))
  | 0, _, _, .lst a vs ds h r, e => by simp [dat] at e
  | n + 1, _, _, .lst a vs ds h r, e => .lst (SqL.of h) (Reps.dp r (by simpa [dat] using e))
  | n, _, _, .obj _ _ _ _ _ _ _, e => by simp [dat] at e
  | n, _, _, .raw _, e => by simp [dat] at e
  | n, _, _, .vol _ _ _, e => by simp [dat] at e
theorem Reps.dp : ∀ {n : Nat} {vs : List V} {ds : List D}, Reps K vl G vs ds → dats n ds = true → DpAll K G vs (pys ds)
  | _, _, _, .nil, _ => .nil
  | n, _, _, .cons v d vs ds h r, e => by
    simp only [dats, Bool.and_eq_true] at e
    exact .cons (Rep.dp h e.1) (Reps.dp r e.2)
end
end
mutual
theorem dat_shape : ∀ (n : Nat) (d : D), dat n d = true → (py d).canLay0 = true ∧ (py d).depth ≤ n
  | n, .non, _ => ⟨by simp [py, PyData.canLay0], by simp [py, PyData.depth]⟩
  | n, .bl _, _ => ⟨by simp [py, PyData.canLay0], by simp [py, PyData.depth]⟩
  | n, .int _, _ => ⟨by simp [py, PyData.canLay0], by simp [py, PyData.depth]⟩
  | n, .str x, e => ⟨by simp [py, PyData.canLay0]; simpa [dat] using e, by simp [py, PyData.depth]⟩
  | 0, .tup ds, e => by simp [dat] at e
  | n + 1, .tup ds, e => by
    obtain ⟨h1, h2⟩ := dats_shape n ds (by simpa [dat] using e)
    exact ⟨by simpa [py, PyData.canLay0] using h1, by simp only [py, PyData.depth]; omega⟩
  | 0, .lst ds, e => by simp [dat] at e
  | n + 1, .lst ds, e => by
    obtain ⟨h1, h2⟩ := dats_shape n ds (by simpa [dat] using e)
    exact ⟨by simpa [py, PyData.canLay0] using h1, by simp only [py, PyData.depth]; omega⟩
  | n, .obj _ _, e => by simp [dat] at e
  | n, .raw _, e => by simp [dat] at e
  | n, .vol, e => by simp [dat] at e
theorem dats_shape : ∀ (n : Nat) (ds : List D), dats n ds = true → PyData.canLayAll0 (pys ds) = true ∧ PyData.depthAll (pys ds) ≤ n
  | n, [], _ => ⟨by simp [pys, PyData.canLayAll0], by simp [pys, PyData.depthAll]⟩
  | n, d :: ds, e => by
    simp only [dats, Bool.and_eq_true] at e
    obtain ⟨h1, h2⟩ := dat_shape n d e.1
    obtain ⟨h3, h4⟩ := dats_shape n ds e.2
    exact ⟨by simp [pys, PyData.canLayAll0, h1, h3], by simp only [pys, PyData.depthAll]; omega⟩
end
theorem dat_shaped {n : Nat} {d : D} (h : dat n d = true) (hn : n ≤ 64) : SeqAt.shaped (py d) = true := by
  obtain ⟨h1, h2⟩ := dat_shape n d h
  unfold SeqAt.shaped
  rw [h1, decide_eq_true (by omega)]
  rfl
/-- Python's == on trees -/
def deq (x y : D) : Bool := PyData.eqv (py x) (py y)
def gEq : D2 := fun x y Q => dat 9 x = true ∧ dat 9 y = true ∧ Q (.bl (deq x y))
def gNe : D2 := fun x y Q => dat 9 x = true ∧ dat 9 y = true ∧ Q (.bl (!deq x y))
theorem Dp.le {K : PySem.W.Frag} {G G' : Hp} (e : Le G G') : ∀ {v : V} {d : PyData}, Dp K G v d → Dp K G' v d := by
  intro v d h
  refine Dp.rec (K := K) (H := G) (motive_1 := fun v d _ => Dp K G' v d) (motive_2 := fun vs ds _ => DpAll K G' vs ds) .non .bl .int .str (fun h _ r => .lst (e.sql h) r) (fun h _ r => .tup (e.sqt h) r) .nil (fun _ _ a b => .cons a b) h
section
variable {K : PySem.W.Frag}
theorem opd_eq : OpD K (rEqD K) gEq := fun Z H x y dx dy Q0 Q gd rx ry hg q =>
  ⟨py dx, py dy, Dp.le (mask_le Z H) (rx.dp hg.1), Dp.le (mask_le Z H) (ry.dp hg.2.1), dat_shaped hg.1 (by decide), dat_shaped hg.2.1 (by decide), q _ hg.2.2 _ H (Step.refl gd) (.bl _)⟩
theorem opd_ne : OpD K (rNeD K) gNe := fun Z H x y dx dy Q0 Q gd rx ry hg q =>
  ⟨py dx, py dy, Dp.le (mask_le Z H) (rx.dp hg.1), Dp.le (mask_le Z H) (ry.dp hg.2.1), dat_shaped hg.1 (by decide), dat_shaped hg.2.1 (by decide), q _ hg.2.2 _ H (Step.refl gd) (.bl _)⟩
def isNon : D → Bool
  | .non => true
  | _ => false
/-- is None: of anything but an opaque value -/
def gIsN : D2 := fun x y Q => match x, y with
  | .raw _, _ => False
  | x, .non => Q (.bl (isNon x))
  | _, _ => False
def gNotN : D2 := fun x y Q => match x, y with
  | .raw _, _ => False
  | x, .non => Q (.bl (!isNon x))
  | _, _ => False
theorem isNon_rep {vl : Option (Addr × Addr)} {G : Hp} {v : V} {d : D} (r : Rep K vl G v d) (h : ∀ v, d ≠ .raw v) : decide (v = .non) = isNon d := by
  cases r <;> first | rfl | exact absurd rfl (h _)
theorem opd_isN : OpD K (fun x y H Q => y = .non ∧ Q (.bl (decide (x = .non))) H) gIsN := fun Z H x y dx dy Q0 Q gd rx ry hg q => by
  have hx : ∀ v, dx ≠ .raw v := fun v e => by subst e; exact hg
  have hy : dy = .non := by cases dx <;> cases dy <;> first | rfl | exact False.elim hg
  subst hy
  cases ry
  refine ⟨rfl, ?_⟩
  rw [isNon_rep rx hx]
  have hg' : Q0 (.bl (isNon dx)) := by cases dx <;> first | exact hg | exact False.elim hg
  exact q _ hg' _ H (Step.refl gd) (.bl _)
theorem opd_notN : OpD K (fun x y H Q => y = .non ∧ Q (.bl (!decide (x = .non))) H) gNotN := fun Z H x y dx dy Q0 Q gd rx ry hg q => by
  have hx : ∀ v, dx ≠ .raw v := fun v e => by subst e; exact hg
  have hy : dy = .non := by cases dx <;> cases dy <;> first | rfl | exact False.elim hg
  subst hy
  cases ry
  refine ⟨rfl, ?_⟩
  rw [isNon_rep rx hx]
  have hg' : Q0 (.bl (!isNon dx)) := by cases dx <;> first | exact hg | exact False.elim hg
  exact q _ hg' _ H (Step.refl gd) (.bl _)
/-! ### in a list or tuple of flat things -/
def toV : D → Option V
  | .non => some .non
  | .bl b => some (.bl b)
  | .int i => some (.int i)
  | .str x => some (.str x)
  | _ => none
def toVs : List D → Option (List V)
  | [] => some []
  | d :: ds => match toV d, toVs ds with
    | some v, some vs => some (v :: vs)
    | _, _ => none
theorem toV_rep {vl : Option (Addr × Addr)} {G : Hp} {v w : V} {d : D} (r : Rep K vl G v d) (h : toV d = some w) : v = w ∧ flatV w = true := by
  cases r <;> simp [toV] at h <;> subst h <;> exact ⟨rfl, rfl⟩
theorem toVs_rep {vl : Option (Addr × Addr)} {G : Hp} : ∀ {vs ws : List V} {ds : List D}, Reps K vl G vs ds → toVs ds = some ws → vs = ws ∧ ws.all flatV = true
  | _, ws, _, .nil, h => by simp [toVs] at h; subst h; exact ⟨rfl, rfl⟩
  | _, ws, _, .cons v d vs ds hr r, h => by
    unfold toVs at h
    split at h
    · rename_i a b e1 e2
      cases h
      obtain ⟨h1, h2⟩ := toV_rep hr e1
      obtain ⟨h3, h4⟩ := toVs_rep r e2
      subst h1 h3
      exact ⟨rfl, by simp [h2, h4]⟩
    · cases h
def seqOf : D → Option (List D)
  | .tup ds => some ds
  | .lst ds => some ds
  | _ => none
def gIn (neg : Bool) : D2 := fun x y Q => ∃ v ds vs, toV x = some v ∧ seqOf y = some ds ∧ toVs ds = some vs ∧ Q (.bl (if neg then !inV v vs else inV v vs))
theorem seq_rep {Z : Zn} {H : Hp} {v : V} {d : D} {ds : List D} (r : RepZ K Z H v d) (h : seqOf d = some ds) : ∃ a vs, v = .ref a ∧ (SqL K H a vs ∨ SqT K H a vs) ∧ RepsZ K Z H vs ds := by
  cases r <;> simp [seqOf] at h
  · subst h; exact ⟨_, _, rfl, .inr (unm_t (by assumption)), by assumption⟩
  · subst h; exact ⟨_, _, rfl, .inl (unm_l (SqL.of (by assumption))), by assumption⟩
theorem opd_in {neg : Bool} : OpD K (rIn K neg) (gIn neg) := fun Z H x y dx dy Q0 Q gd rx ry hg q => by
  obtain ⟨v, ds, vs, h1, h2, h3, h4⟩ := hg
  obtain ⟨a, ws, rfl, hs, rs⟩ := seq_rep ry h2
  obtain ⟨rfl, fx⟩ := toV_rep rx h1
  obtain ⟨rfl, fs⟩ := toVs_rep rs h3
  exact ⟨a, ws, rfl, hs, fx, fs, q _ h4 _ H (Step.refl gd) (.bl _)⟩
/-! ### a subscript -/
def gIx : D2 := fun x y Q => match x, y with
  | .lst ds, .int i => ∃ d, atI ds i = some d ∧ Q d
  | .tup ds, .int i => ∃ d, atI ds i = some d ∧ Q d
  | _, _ => False
theorem atI_rep {vl : Option (Addr × Addr)} {G : Hp} {vs : List V} {ds : List D} {i : Int} {d : D} (r : Reps K vl G vs ds) (h : atI ds i = some d) : ∃ v, atI vs i = some v ∧ Rep K vl G v d := by
  unfold atI at h ⊢
  rw [r.length]
  cases e : ixN ds.length i with
  | none => rw [e] at h; cases h
  | some j =>
    rw [e] at h
    exact r.get h
theorem opd_ix : OpD K (rIx K) gIx := fun Z H x y dx dy Q0 Q gd rx ry hg q => by
  cases dx <;> cases dy <;> first | exact False.elim hg | skip
  · cases ry
    cases rx with
    | tup a vs ds h r =>
      obtain ⟨d, h1, h2⟩ := hg
      obtain ⟨v, h3, h4⟩ := atI_rep r h1
      exact Or.inr (Or.inl ⟨a, vs, _, v, rfl, rfl, unm_t h, h3, q d h2 v H (Step.refl gd) h4⟩)
  · cases ry
    cases rx with
    | lst a vs ds h r =>
      obtain ⟨d, h1, h2⟩ := hg
      obtain ⟨v, h3, h4⟩ := atI_rep r h1
      exact Or.inl ⟨a, vs, _, v, rfl, rfl, unm_l (SqL.of h), h3, q d h2 v H (Step.refl gd) h4⟩
/-! ### tuple + tuple, tuple * int -/
def gCatT : D2 := fun x y Q => match x, y with
  | .tup xs, .tup ys => xs.length + ys.length ≤ sizeLine ∧ Q (.tup (xs ++ ys))
  | _, _ => False
theorem opd_catT : OpD K (rCatA K) gCatT := fun Z H x y dx dy Q0 Q gd rx ry hg q => by
  cases dx <;> cases dy <;> first | exact False.elim hg | skip
  cases rx with
  | tup a vs ds h r =>
    cases ry with
    | tup b ws es h' r' =>
      obtain ⟨h1, h2⟩ := hg
      refine ⟨a, b, vs, ws, rfl, rfl, unm_t h, unm_t h', by rw [r.length, r'.length]; exact h1, fun e => ?_, fun _ e => ?_, fun _ _ p hp => ?_⟩
      · refine q _ h2 _ H (Step.refl gd) ?_
        subst e
        cases r
        exact .tup b _ _ h' r'
      · refine q _ h2 _ H (Step.refl gd) ?_
        subst e
        cases r'
        rw [List.append_nil]
        exact .tup a _ _ h r
      · exact q _ h2 _ _ (Step.new gd _ hp) (new_tup gd hp (r.append r'))
def gRepT : D2 := fun x y Q => match x, y with
  | .tup xs, .int k => xs ≠ [] ∧ 2 ≤ k ∧ k ≤ 1000 ∧ xs.length ≤ 1000 ∧ Q (.tup (List.replicate k.toNat xs).flatten)
  | _, _ => False
theorem Reps.rep {vl : Option (Addr × Addr)} {G : Hp} {vs : List V} {ds : List D} (r : Reps K vl G vs ds) : ∀ n, Reps K vl G (List.replicate n vs).flatten (List.replicate n ds).flatten
  | 0 => .nil
  | n + 1 => by
    rw [List.replicate_succ, List.replicate_succ, List.flatten_cons, List.flatten_cons]
    exact r.append (Reps.rep r n)
theorem opd_repT : OpD K (rRepT K) gRepT := fun Z H x y dx dy Q0 Q gd rx ry hg q => by
  cases dx <;> cases dy <;> first | exact False.elim hg | skip
  cases ry
  cases rx with
  | tup a vs ds h r =>
    obtain ⟨h1, h2, h3, h4, h5⟩ := hg
    exact ⟨a, _, vs, rfl, rfl, unm_t h, (fun e => by subst e; cases r; exact h1 rfl), h2, h3, by rw [r.length]; exact h4, fun p hp => q _ h5 _ _ (Step.new gd _ hp) (new_tup gd hp (r.rep _))⟩
end

/-! ### unary -/
def dNeg (f : DE) : DE := fun env Q R => f env (fun d => match d with
  | .int i => Q (.int (-i))
  | _ => False) R
section
variable {X : Cx} {W : WX} {a b c : Expr} {es : List Expr} {pos : Pos} {fa fb fc : DE} {fs : DA}
theorem pd_neg (ha : PD X W a fa) : PD X W (.UnaryOp .USub a pos) (dNeg fa) := PE.imp (pe_un un_neg ha) fun σ H Q ⟨Z, O, env, Q0, R0, at_, hf, x, q⟩ => by
  refine DT.mk at_ hf x fun d h v H1 s r => ?_
  cases d <;> first | exact False.elim h | skip
  cases r
  exact ⟨_, rfl, q _ h _ H1 s (.int _)⟩

/-! ### tests -/
def dTst (f : DE) : DB := fun env Q R => f env (fun d => match d with
  | .bl b => Q b
  | _ => False) R
theorem tst_ev {t : TE} {f : DE} (h : ∀ σ H Q, DT X.K f W σ H Q → t σ H Q) : ∀ σ H Q, DTB X.K (dTst f) W σ H Q → tTest t σ H Q := fun σ H Q ⟨Z, O, env, Q0, R0, at_, hf, x, q⟩ =>
  h σ H _ (DT.mk at_ hf x fun d hd v H1 s r => by
    cases d <;> first | exact False.elim hd | skip
    cases r
    exact ⟨_, rfl, q _ hd H1 s⟩)
theorem pdb_val {e : Expr} {f : DE} (h : PD X W e f) (he : ∀ whole, isTrue e X.env whole = (do let v ← whole; standAt e.pos; holding [v] (truthy v)) := by intro _; rfl) : PDB X W e (dTst f) :=
  PT.imp (pt_val h he) (tst_ev (t := DT X.K f W) fun _ _ _ z => z)
theorem pdb_cmp {op : CmpOp} {r : R2} {g : D2} (ho : OpR X (compareOp op) r) (hr : OpD X.K r g) (ha : PD X W a fa) (hb : PD X W b fb) (hm : behindInMarks op b = false) : PDB X W (.Compare a [op] [b] pos) (dTst (dOp g fa fb)) :=
  PT.imp (pt_cmpR ho ha hb hm) (tst_ev (two_ev hr))
/-- a op b op' c -/
def dChain (g g' : D2) (fa fb fc : DE) : DE := fun env Q R => fa env (fun x => fb env (fun y => g x y fun z => match z with
  | .bl k => if k = true then fc env (fun w => g' y w Q) R else Q (.bl false)
  | _ => False) R) R
theorem chain_ev {r r' : R2} {g g' : D2} (hr : OpD X.K r g) (hr' : OpD X.K r' g') : ∀ σ H Q, DT X.K (dChain g g' fa fb fc) W σ H Q → tChain r r' (DT X.K fa W) (DT X.K fb W) (DT X.K fc W) σ H Q := fun σ H Q ⟨Z, O, env, Q0, R0, a, hf, x, q⟩ => by
  refine DT.mk a hf x fun d1 h1 v1 H1 s1 r1 => ?_
  refine DT.mk (a.step s1) h1 (x.step s1) fun d2 h2 v2 H2 s2 r2 => ?_
  refine hr Z H2 v1 v2 d1 d2 _ _ s2.good (r1.step s2) r2 h2 fun d hd v H3 s3 rv => ?_
  cases d <;> first | exact False.elim hd | skip
  rename_i k
  cases rv
  refine ⟨k, rfl, ?_⟩
  have s13 := (s1.trans s2).trans s3
  cases k with
  | false => exact q _ hd _ H3 s13 (.bl _)
  | true =>
    have hd : fc env (fun w => g' d2 w Q0) R0 := hd
    rw [if_pos rfl]
    refine DT.mk (a.step s13) hd (x.step s13) fun d4 h4 v4 H4 s4 r4 => ?_
    exact hr' Z H4 v2 v4 d2 d4 Q0 Q s4.good ((r2.step s3).step s4) r4 h4 fun d hd v H' s' rv => q d hd v H' ((s13.trans s4).trans s') rv
theorem pd_chain {op op' : CmpOp} {r r' : R2} {g g' : D2} (ho : OpR X (compareOp op) r) (hr : OpD X.K r g) (ho' : OpR X (compareOp op') r') (hr' : OpD X.K r' g') (ha : PD X W a fa) (hb : PD X W b fb) (hc : PD X W c fc)
    (hm : lastMarks [op, op'] [b, c] = false := by with_unfolding_all rfl) : PD X W (.Compare a [op, op'] [b, c] pos) (dChain g g' fa fb fc) := PE.imp (pe_chain ho ho' ha hb hc hm) (chain_ev hr hr')
theorem pdb_chain {op op' : CmpOp} {r r' : R2} {g g' : D2} (ho : OpR X (compareOp op) r) (hr : OpD X.K r g) (ho' : OpR X (compareOp op') r') (hr' : OpD X.K r' g') (ha : PD X W a fa) (hb : PD X W b fb) (hc : PD X W c fc)
    (hm : lastMarks [op, op'] [b, c] = false := by with_unfolding_all rfl) : PDB X W (.Compare a [op, op'] [b, c] pos) (dTst (dChain g g' fa fb fc)) := PT.imp (pt_chain ho ho' ha hb hc hm) (tst_ev (chain_ev hr hr'))
def dNotB (f : DB) : DB := fun env Q R => f env (fun b => Q (!b)) R
theorem pdb_not {f : DB} (h : PDB X W a f) : PDB X W (.UnaryOp .Not a pos) (dNotB f) := PT.imp (pt_not h) fun σ H Q ⟨Z, O, env, Q0, R0, at_, hf, x, q⟩ => DTB.mk at_ hf x fun b hb H1 s => q _ hb H1 s
abbrev PDW (X : Cx) (W : WX) (e : Expr) (f : DB) : Prop := L2.PW X e (DTB X.K f W)
def dAndB (f g : DB) : DB := fun env Q R => f env (fun b => if b = true then g env Q R else Q false) R
def dOrB (f g : DB) : DB := fun env Q R => f env (fun b => if b = true then Q true else g env Q R) R
theorem pdw_and1 {f : DB} (h : PDB X W a f) : PDW X W (.BoolOp .And [a] pos) f := pw_and1 h
theorem pdw_or1 {f : DB} (h : PDB X W a f) : PDW X W (.BoolOp .Or [a] pos) f := pw_or1 h
theorem pdw_and {f g : DB} {rest : List Expr} (h : PDB X W a f) (h2 : PDW X W (.BoolOp .And (b :: rest) pos) g) : PDW X W (.BoolOp .And (a :: b :: rest) pos) (dAndB f g) := PW.imp (pw_and h h2) fun σ H Q ⟨Z, O, env, Q0, R0, at_, hf, x, q⟩ =>
  DTB.mk at_ hf x fun k hk H1 s => by
    cases k with
    | true => rw [if_pos rfl] at hk ⊢; exact DTB.mk (at_.step s) hk (x.step s) fun b hb H2 s2 => q b hb H2 (s.trans s2)
    | false => rw [if_neg Bool.false_ne_true] at hk ⊢; exact q _ hk H1 s
theorem pdw_or {f g : DB} {rest : List Expr} (h : PDB X W a f) (h2 : PDW X W (.BoolOp .Or (b :: rest) pos) g) : PDW X W (.BoolOp .Or (a :: b :: rest) pos) (dOrB f g) := PW.imp (pw_or h h2) fun σ H Q ⟨Z, O, env, Q0, R0, at_, hf, x, q⟩ =>
  DTB.mk at_ hf x fun k hk H1 s => by
    cases k with
    | false => rw [if_neg Bool.false_ne_true] at hk ⊢; exact DTB.mk (at_.step s) hk (x.step s) fun b hb H2 s2 => q b hb H2 (s.trans s2)
    | true => rw [if_pos rfl] at hk ⊢; exact q _ hk H1 s
theorem pdb_w {f : DB} (h : PDW X W a f) : PDB X W a f := h.pt
/-! and, or, not as values (bools but the last) -/
def dAndV (f g : DE) : DE := fun env Q R => f env (fun d => match d with
  | .bl b => if b = true then g env Q R else Q (.bl false)
  | _ => False) R
def dOrV (f g : DE) : DE := fun env Q R => f env (fun d => match d with
  | .bl b => if b = true then Q (.bl true) else g env Q R
  | _ => False) R
def dNotV (f : DE) : DE := fun env Q R => f env (fun d => match d with
  | .bl b => Q (.bl (!b))
  | _ => False) R
theorem pd_one {op : BoolOp} (h : PD X W a fa) : PD X W (.BoolOp op [a] pos) fa := pe_one h
theorem pd_and {rest : List Expr} (h : PD X W a fa) (h2 : PD X W (.BoolOp .And (b :: rest) pos) fb) : PD X W (.BoolOp .And (a :: b :: rest) pos) (dAndV fa fb) := PE.imp (pe_and h h2) fun σ H Q ⟨Z, O, env, Q0, R0, at_, hf, x, q⟩ =>
  DT.mk at_ hf x fun d hd v H1 s r => by
    cases d <;> first | exact False.elim hd | skip
    rename_i k
    cases r
    refine ⟨k, rfl, ?_⟩
    cases k with
    | true => dsimp only at hd; rw [if_pos rfl] at hd ⊢; exact DT.mk (at_.step s) hd (x.step s) fun d hd v H2 s2 r => q d hd v H2 (s.trans s2) r
    | false => dsimp only at hd; rw [if_neg Bool.false_ne_true] at hd ⊢; exact q _ hd _ H1 s (.bl _)
theorem pd_or {rest : List Expr} (h : PD X W a fa) (h2 : PD X W (.BoolOp .Or (b :: rest) pos) fb) : PD X W (.BoolOp .Or (a :: b :: rest) pos) (dOrV fa fb) := PE.imp (pe_or h h2) fun σ H Q ⟨Z, O, env, Q0, R0, at_, hf, x, q⟩ =>
  DT.mk at_ hf x fun d hd v H1 s r => by
    cases d <;> first | exact False.elim hd | skip
    rename_i k
    cases r
    refine ⟨k, rfl, ?_⟩
    cases k with
    | false => dsimp only at hd; rw [if_neg Bool.false_ne_true] at hd ⊢; exact DT.mk (at_.step s) hd (x.step s) fun d hd v H2 s2 r => q d hd v H2 (s.trans s2) r
    | true => dsimp only at hd; rw [if_pos rfl] at hd ⊢; exact q _ hd _ H1 s (.bl _)
theorem pd_not (h : PD X W a fa) : PD X W (.UnaryOp .Not a pos) (dNotV fa) := PE.imp (pe_not h) fun σ H Q ⟨Z, O, env, Q0, R0, at_, hf, x, q⟩ =>
  DT.mk at_ hf x fun d hd v H1 s r => by
    cases d <;> first | exact False.elim hd | skip
    cases r
    exact ⟨_, rfl, q _ hd _ H1 s (.bl _)⟩
def dIf (t : DB) (f g : DE) : DE := fun env Q R => t env (fun b => if b = true then f env Q R else g env Q R) R
theorem pd_if {t : DB} (ht : PDB X W c t) (ha : PD X W a fa) (hb : PD X W b fb) : PD X W (.IfExp c a b pos) (dIf t fa fb) := PE.imp (pe_ifExp ht ha hb) fun σ H Q ⟨Z, O, env, Q0, R0, at_, hf, x, q⟩ =>
  DTB.mk at_ hf x fun k hk H1 s => by
    cases k with
    | true => rw [if_pos rfl] at hk ⊢; exact DT.mk (at_.step s) hk (x.step s) fun d hd v H2 s2 r => q d hd v H2 (s.trans s2) r
    | false => rw [if_neg Bool.false_ne_true] at hk ⊢; exact DT.mk (at_.step s) hk (x.step s) fun d hd v H2 s2 r => q d hd v H2 (s.trans s2) r

/-! ### argument lists -/
def dNil : DA := fun _ Q _ => Q []
def dCons (f : DE) (g : DA) : DA := fun env Q R => f env (fun d => g env (fun ds => Q (d :: ds)) R) R
def dStar (f : DE) (g : DA) : DA := fun env Q R => f env (fun d => ∃ xs, seqOf d = some xs ∧ g env (fun ds => Q (xs ++ ds)) R) R
theorem pda_nil : PDA X W [] dNil := PA.imp pa_nil fun σ H Q ⟨Z, O, env, Q0, R0, at_, hf, x, q⟩ => q _ hf _ H (Step.refl at_.good) .nil
theorem pda_cons (h : PD X W a fa) (r : PDA X W es fs) (hs : starEach (a :: es) X.env = (false, eval a X.env) :: starEach es X.env := by rfl) : PDA X W (a :: es) (dCons fa fs) := PA.imp (pa_cons h r hs) fun σ H Q ⟨Z, O, env, Q0, R0, at_, hf, x, q⟩ =>
  DT.mk at_ hf x fun d hd v H1 s rv => DTA.mk (at_.step s) hd (x.step s) fun ds hds vs H2 s2 rs => q _ hds _ H2 (s.trans s2) (.cons _ _ _ _ (rv.step s2) rs)
theorem pda_star {p : Pos} (h : PD X W a fa) (r : PDA X W es fs) (hs : starEach (.Starred a p :: es) X.env = (true, eval a X.env) :: starEach es X.env := by rfl) : PDA X W (.Starred a p :: es) (dStar fa fs) := PA.imp (StX.pa_star h r hs) fun σ H Q ⟨Z, O, env, Q0, R0, at_, hf, x, q⟩ =>
  DT.mk at_ hf x fun d hd v H1 s rv => by
    obtain ⟨xs, e, hd⟩ := hd
    obtain ⟨a, vs, rfl, hsq, rs⟩ := seq_rep rv e
    exact ⟨a, vs, rfl, hsq.symm, DTA.mk (at_.step s) hd (x.step s) fun ds hds ws H2 s2 r2 => q _ hds _ H2 (s.trans s2) ((rs.step s2).append r2)⟩

/-! ### new lists, new tuples -/
/-- a new list (its address is known to nobody) -/
def DTL (K : PySem.W.Frag) (f : DA) (W : WX) : TE := fun σ H Q => ∃ Z O env, ∃ (Q0 : List D → Prop) (R0 : DX), At K Z O H σ env ∧ f env Q0 R0 ∧ Xk K Z H σ R0 W ∧
  ∀ ds, Q0 ds → ∀ p vs H1, Step Z H H1 → H1 p = none → RepsZ K Z H1 vs ds → Q (.ref p) (upd H1 p (.lst vs))
abbrev PDL (X : Cx) (W : WX) (e : Expr) (f : DA) : Prop := L2.PE X e (DTL X.K f W)
def dL (f : DA) : DE := fun env Q R => f env (fun ds => Q (.lst ds)) R
theorem PDL.pd {e : Expr} {f : DA} (h : PDL X W e f) : PD X W e (dL f) := PE.imp h fun σ H Q ⟨Z, O, env, Q0, R0, at_, hf, x, q⟩ =>
  ⟨Z, O, env, _, R0, at_, hf, x, fun ds hds p vs H1 s hp r => q _ hds _ _ (s.trans (Step.new s.good _ hp)) (new_lst s.good hp r)⟩
def dLst (f : DA) : DA := fun env Q R => f env (fun ds => ds.length ≤ sizeLine ∧ Q ds) R
theorem pdl_lst (h : PDA X W es fs) : PDL X W (.List es pos) (dLst fs) := PE.imp (pe_lst h) fun σ H Q ⟨Z, O, env, Q0, R0, at_, hf, x, q⟩ =>
  DTA.mk at_ hf x fun ds hds vs H1 s r => ⟨by rw [r.length]; exact hds.1, fun p hp => q _ hds.2 _ _ H1 s hp r⟩
def dTup (f : DA) : DE := fun env Q R => f env (fun ds => ds.length ≤ sizeLine ∧ Q (.tup ds)) R
theorem pd_tup {k : Nat} (h : PDA X W es fs) : PD X W (.Tuple es k pos) (dTup fs) := PE.imp (pe_tup h) fun σ H Q ⟨Z, O, env, Q0, R0, at_, hf, x, q⟩ =>
  DTA.mk at_ hf x fun ds hds vs H1 s r => ⟨by rw [r.length]; exact hds.1, fun p hp => q _ hds.2 _ _ (s.trans (Step.new s.good _ hp)) (new_tup s.good hp r)⟩
/-- list + list, list * int: new lists -/
abbrev D2L := D → D → (List D → Prop) → Prop
def dOpL (r : D2L) (fa fb : DE) : DA := fun env Q R => fa env (fun x => fb env (fun y => r x y Q) R) R
def OpDL (K : PySem.W.Frag) (r : R2) (g : D2L) : Prop := ∀ Z H x y dx dy (Q0 : List D → Prop) (Q : VK), Good Z H → RepZ K Z H x dx → RepZ K Z H y dy → g dx dy Q0 → (∀ ds, Q0 ds → ∀ p vs H1, Step Z H H1 → H1 p = none → RepsZ K Z H1 vs ds → Q (.ref p) (upd H1 p (.lst vs))) → r x y H Q
theorem pdl_op {op : Operator} {r : R2} {g : D2L} (ho : OpR X (binaryOp op) r) (hr : OpDL X.K r g) (ha : PD X W a fa) (hb : PD X W b fb) : PDL X W (.BinOp a op b pos) (dOpL g fa fb) := PE.imp (pe_op ho ha hb) fun σ H Q ⟨Z, O, env, Q0, R0, at_, hf, x, q⟩ => by
  refine DT.mk at_ hf x fun d1 h1 v1 H1 s1 r1 => ?_
  refine DT.mk (at_.step s1) h1 (x.step s1) fun d2 h2 v2 H2 s2 r2 => ?_
  exact hr Z H2 v1 v2 d1 d2 Q0 Q s2.good (r1.step s2) r2 h2 fun ds hd p vs H' s' hp rv => q ds hd p vs H' ((s1.trans s2).trans s') hp rv
end
section
variable {K : PySem.W.Frag}
theorem rep_lst {Z : Zn} {H : Hp} {v : V} {ds : List D} (r : RepZ K Z H v (.lst ds)) : ∃ a vs, v = .ref a ∧ H a = some (.lst vs) ∧ mask Z H a = some (.lst vs) ∧ RepsZ K Z H vs ds := by
  cases r with
  | lst a vs ds h r => exact ⟨a, vs, rfl, mask_le Z H _ _ h, h, r⟩
def gCatL : D2L := fun x y Q => match x, y with
  | .lst xs, .lst ys => xs.length + ys.length ≤ sizeLine ∧ Q (xs ++ ys)
  | _, _ => False
theorem opd_catL : OpDL K rCat gCatL := fun Z H x y dx dy Q0 Q gd rx ry hg q => by
  cases dx <;> cases dy <;> first | exact False.elim hg | skip
  obtain ⟨a, vs, rfl, h1, _, r⟩ := rep_lst rx
  obtain ⟨b, ws, rfl, h2, _, r'⟩ := rep_lst ry
  exact ⟨a, b, vs, ws, rfl, rfl, h1, h2, by rw [r.length, r'.length]; exact hg.1, fun p hp => q _ hg.2 p _ H (Step.refl gd) hp (r.append r')⟩
def gRepL : D2L := fun x y Q => match x, y with
  | .lst xs, .int k => -(2 ^ 63) ≤ k ∧ k < 2 ^ 63 ∧ xs.length * k.toNat ≤ sizeLine ∧ Q (List.replicate k.toNat xs).flatten
  | _, _ => False
theorem opd_repL : OpDL K rRep gRepL := fun Z H x y dx dy Q0 Q gd rx ry hg q => by
  cases dx <;> cases dy <;> first | exact False.elim hg | skip
  obtain ⟨a, vs, rfl, h1, _, r⟩ := rep_lst rx
  cases ry
  exact ⟨a, _, vs, rfl, rfl, h1, hg.1, hg.2.1, by rw [r.length]; exact hg.2.2.1, fun p hp => q _ hg.2.2.2 p _ H (Step.refl gd) hp (r.rep _)⟩
end
end Dl

set_option maxHeartbeats 1000000
/-! The tree layer: calls of built-ins, slices, slots, calls of defs. -/
namespace Dl
open PySem PySem.Spec PyProof.Rows L2

/-! ### built-ins by values -/
abbrev DC1 := List D → (D → Prop) → Prop
def CallD (K : PySem.W.Frag) (r : List V → Hp → VK → Prop) (g : DC1) : Prop := ∀ Z H vs ds (Q0 : D → Prop) (Q : VK), Good Z H → RepsZ K Z H vs ds → g ds Q0 → (∀ d, Q0 d → ∀ v H', Step Z H H' → RepZ K Z H' v d → Q v H') → r vs H Q
def dCB (g : DC1) (fs : DA) : DE := fun env Q R => fs env (fun ds => g ds Q) R
abbrev DCL1 := List D → (List D → Prop) → Prop
def CallDL (K : PySem.W.Frag) (r : List V → Hp → VK → Prop) (g : DCL1) : Prop := ∀ Z H vs ds (Q0 : List D → Prop) (Q : VK), Good Z H → RepsZ K Z H vs ds → g ds Q0 → (∀ ds, Q0 ds → ∀ p vs H1, Step Z H H1 → H1 p = none → RepsZ K Z H1 vs ds → Q (.ref p) (upd H1 p (.lst vs))) → r vs H Q
def dCBL (g : DCL1) (fs : DA) : DA := fun env Q R => fs env (fun ds => g ds Q) R
theorem Reps.inv1 {K : PySem.W.Frag} {vl : Option (Addr × Addr)} {G : Hp} {vs : List V} {d : D} (r : Reps K vl G vs [d]) : ∃ v, vs = [v] ∧ Rep K vl G v d := by
  cases r with
  | cons v d vs ds h r => cases r; exact ⟨v, rfl, h⟩
theorem Reps.inv2 {K : PySem.W.Frag} {vl : Option (Addr × Addr)} {G : Hp} {vs : List V} {d e : D} (r : Reps K vl G vs [d, e]) : ∃ v w, vs = [v, w] ∧ Rep K vl G v d ∧ Rep K vl G w e := by
  cases r with
  | cons v d vs ds h r =>
    obtain ⟨w, rfl, h2⟩ := r.inv1
    exact ⟨v, w, rfl, h, h2⟩
section
variable {K : PySem.W.Frag}
def gLen : DC1 := fun ds Q => match ds with
  | [.str z] => z.length ≤ sizeLine ∧ Q (.int z.length)
  | [d] => ∃ xs, seqOf d = some xs ∧ Q (.int xs.length)
  | _ => False
theorem cd_len : CallD K (fun xs H Q => ∃ x n, xs = [x] ∧ LenV K x H n ∧ Q (.int n) H) gLen := fun Z H vs ds Q0 Q gd r hg q => by
  match ds, hg with
  | [.str z], hg =>
    obtain ⟨v, rfl, h⟩ := r.inv1
    cases h
    exact ⟨_, z.length, rfl, ⟨hg.1, rfl⟩, q _ hg.2 _ H (Step.refl gd) (.int _)⟩
  | [.tup xs], hg =>
    obtain ⟨v, rfl, h⟩ := r.inv1
    obtain ⟨ys, e, hg⟩ := hg
    obtain ⟨a, ws, rfl, hs, rs⟩ := seq_rep h e
    refine ⟨_, ws.length, rfl, ?_, q _ (by rw [rs.length]; exact hg) _ H (Step.refl gd) (.int _)⟩
    rcases hs with hs | hs
    · exact .inl ⟨ws, hs, rfl⟩
    · exact .inr ⟨ws, hs, rfl⟩
  | [.lst xs], hg =>
    obtain ⟨v, rfl, h⟩ := r.inv1
    obtain ⟨ys, e, hg⟩ := hg
    obtain ⟨a, ws, rfl, hs, rs⟩ := seq_rep h e
    refine ⟨_, ws.length, rfl, ?_, q _ (by rw [rs.length]; exact hg) _ H (Step.refl gd) (.int _)⟩
    rcases hs with hs | hs
    · exact .inl ⟨ws, hs, rfl⟩
    · exact .inr ⟨ws, hs, rfl⟩
  | [.non], hg => obtain ⟨_, e, _⟩ := hg; cases e
  | [.bl _], hg => obtain ⟨_, e, _⟩ := hg; cases e
  | [.int _], hg => obtain ⟨_, e, _⟩ := hg; cases e
  | [.obj _ _], hg => obtain ⟨_, e, _⟩ := hg; cases e
  | [.raw _], hg => obtain ⟨_, e, _⟩ := hg; cases e
  | [.vol], hg => obtain ⟨_, e, _⟩ := hg; cases e
  | [], hg => exact hg.elim
  | _ :: _ :: _, hg => exact False.elim (by revert hg; unfold gLen; split <;> simp_all)
def gInt : DC1 := fun ds Q => match ds with
  | [.int i] => Q (.int i)
  | [.bl k] => Q (.int (if k then 1 else 0))
  | _ => False
theorem cd_int : CallD K (fun xs H Q => (∃ i, xs = [.int i] ∧ Q (.int i) H) ∨ ∃ k, xs = [.bl k] ∧ Q (.int (if k then 1 else 0)) H) gInt := fun Z H vs ds Q0 Q gd r hg q => by
  unfold gInt at hg
  split at hg
  · obtain ⟨v, rfl, h⟩ := r.inv1
    cases h
    exact .inl ⟨_, rfl, q _ hg _ H (Step.refl gd) (.int _)⟩
  · obtain ⟨v, rfl, h⟩ := r.inv1
    cases h
    exact .inr ⟨_, rfl, q _ hg _ H (Step.refl gd) (.int _)⟩
  · exact hg.elim
def gMax2 : DC1 := fun ds Q => match ds with
  | [.int i, .int j] => Q (.int (if j > i then j else i))
  | _ => False
theorem cd_max2 : CallD K (fun xs H Q => ∃ i j, xs = [.int i, .int j] ∧ Q (.int (if j > i then j else i)) H) gMax2 := fun Z H vs ds Q0 Q gd r hg q => by
  unfold gMax2 at hg
  split at hg
  · obtain ⟨v, w, rfl, h, h2⟩ := r.inv2
    cases h; cases h2
    exact ⟨_, _, rfl, q _ hg _ H (Step.refl gd) (.int _)⟩
  · exact hg.elim
def gMin2 : DC1 := fun ds Q => match ds with
  | [.int i, .int j] => Q (.int (if j < i then j else i))
  | _ => False
theorem cd_min2 : CallD K (fun xs H Q => ∃ i j, xs = [.int i, .int j] ∧ Q (.int (if j < i then j else i)) H) gMin2 := fun Z H vs ds Q0 Q gd r hg q => by
  unfold gMin2 at hg
  split at hg
  · obtain ⟨v, w, rfl, h, h2⟩ := r.inv2
    cases h; cases h2
    exact ⟨_, _, rfl, q _ hg _ H (Step.refl gd) (.int _)⟩
  · exact hg.elim
/-- a list of ints -/
theorem ints_rep {Z : Zn} {H : Hp} {v : V} {ns : List Int} (r : RepZ K Z H v (.lst (ns.map .int))) : ∃ a, v = .ref a ∧ SqL K H a (ns.map V.int) := by
  obtain ⟨a, vs, rfl, h1, _, r⟩ := rep_lst r
  rw [r.ofInts] at h1
  exact ⟨a, rfl, SqL.of h1⟩
def gMaxL : DC1 := fun ds Q => ∃ ns : List Int, ds = [.lst (ns.map .int)] ∧ 0 < ns.length ∧ ∀ m ∈ ns, (∀ y ∈ ns, y ≤ m) → Q (.int m)
theorem cd_maxL : CallD K (rMax K) gMaxL := fun Z H vs ds Q0 Q gd r hg q => by
  obtain ⟨ns, rfl, h0, hg⟩ := hg
  obtain ⟨v, rfl, h⟩ := r.inv1
  obtain ⟨a, rfl, hs⟩ := ints_rep h
  exact ⟨a, ns, rfl, hs, h0, fun m hm hle => q _ (hg m hm hle) _ H (Step.refl gd) (.int _)⟩
def gMinL : DC1 := fun ds Q => ∃ ns : List Int, ds = [.lst (ns.map .int)] ∧ 0 < ns.length ∧ ∀ m ∈ ns, (∀ y ∈ ns, m ≤ y) → Q (.int m)
theorem cd_minL : CallD K (rMin K) gMinL := fun Z H vs ds Q0 Q gd r hg q => by
  obtain ⟨ns, rfl, h0, hg⟩ := hg
  obtain ⟨v, rfl, h⟩ := r.inv1
  obtain ⟨a, rfl, hs⟩ := ints_rep h
  exact ⟨a, ns, rfl, hs, h0, fun m hm hle => q _ (hg m hm hle) _ H (Step.refl gd) (.int _)⟩
def gSumL : DC1 := fun ds Q => ∃ ns : List Int, ds = [.lst (ns.map .int)] ∧ Q (.int ns.sum)
theorem cd_sumL : CallD K (rSum K) gSumL := fun Z H vs ds Q0 Q gd r hg q => by
  obtain ⟨ns, rfl, hg⟩ := hg
  obtain ⟨v, rfl, h⟩ := r.inv1
  obtain ⟨a, rfl, hs⟩ := ints_rep h
  exact ⟨a, ns, rfl, hs, q _ hg _ H (Step.refl gd) (.int _)⟩
theorem Reps.ofBls {vl : Option (Addr × Addr)} {G : Hp} : ∀ {vs : List V} {ns : List Bool}, Reps K vl G vs (ns.map D.bl) → vs = ns.map V.bl
  | _, [], .nil => rfl
  | _, n :: r, .cons _ _ _ _ (.bl _) q => by rw [Reps.ofBls q]; rfl
def gAll : DC1 := fun ds Q => ∃ bs : List Bool, ds = [.lst (bs.map .bl)] ∧ Q (.bl (bs.all id))
theorem cd_all : CallD K (rAll K) gAll := fun Z H vs ds Q0 Q gd r hg q => by
  obtain ⟨ns, rfl, hg⟩ := hg
  obtain ⟨v, rfl, h⟩ := r.inv1
  obtain ⟨a, vs, rfl, h1, _, r⟩ := rep_lst h
  rw [r.ofBls] at h1
  exact ⟨a, ns, rfl, SqL.of h1, q _ hg _ H (Step.refl gd) (.bl _)⟩
def gStr : DC1 := fun ds Q => match ds with
  | [.int i] => i.natAbs.log2 < 1920 ∧ Q (.str (toString i))
  | [.str x] => Q (.str x)
  | _ => False
theorem cd_str : CallD K (fun xs H Q => (∃ i, xs = [V.int i] ∧ i.natAbs.log2 < 1920 ∧ Q (.str (toString i)) H) ∨ ∃ a, xs = [V.str a] ∧ Q (.str a) H) gStr := fun Z H vs ds Q0 Q gd r hg q => by
  unfold gStr at hg
  split at hg
  · obtain ⟨v, rfl, h⟩ := r.inv1
    cases h
    exact .inl ⟨_, rfl, hg.1, q _ hg.2 _ H (Step.refl gd) (.str _)⟩
  · obtain ⟨v, rfl, h⟩ := r.inv1
    cases h
    exact .inr ⟨_, rfl, q _ hg _ H (Step.refl gd) (.str _)⟩
  · exact hg.elim
/-- list(x) of a list or a tuple -/
def gListOf : DCL1 := fun ds Q => match ds with
  | [d] => ∃ xs, seqOf d = some xs ∧ Q xs
  | _ => False
theorem cdl_list : CallDL K (fun xs H Q => ∃ p ys, xs = [.ref p] ∧ (SqL K H p ys ∨ SqT K H p ys) ∧ ∀ l, H l = none → Q (.ref l) (upd H l (.lst ys))) gListOf := fun Z H vs ds Q0 Q gd r hg q => by
  unfold gListOf at hg
  split at hg
  · obtain ⟨v, rfl, h⟩ := r.inv1
    obtain ⟨ys, e, hg⟩ := hg
    obtain ⟨a, ws, rfl, hs, rs⟩ := seq_rep h e
    exact ⟨a, ws, rfl, hs, fun l hl => q _ hg l ws H (Step.refl gd) hl rs⟩
  · exact hg.elim
/-- tuple(x) of a list or a tuple -/
def gTupleOf : DC1 := fun ds Q => match ds with
  | [.lst xs] => Q (.tup xs)
  | [.tup xs] => Q (.tup xs)
  | _ => False
theorem cd_tuple : CallD K (fun xs H Q => ∃ p ys, xs = [.ref p] ∧ ((SqL K H p ys ∧ ∀ l, H l = none → Q (.ref l) (upd H l (.tup ys))) ∨ (SqT K H p ys ∧ Q (.ref p) H))) gTupleOf := fun Z H vs ds Q0 Q gd r hg q => by
  unfold gTupleOf at hg
  split at hg
  · obtain ⟨v, rfl, h⟩ := r.inv1
    obtain ⟨a, ws, rfl, h1, _, rs⟩ := rep_lst h
    exact ⟨a, ws, rfl, .inl ⟨SqL.of h1, fun l hl => q _ hg _ _ (Step.new gd _ hl) (new_tup gd hl rs)⟩⟩
  · obtain ⟨v, rfl, h⟩ := r.inv1
    cases h with
    | tup a vs ds h r => exact ⟨a, vs, rfl, .inr ⟨unm_t h, q _ hg _ H (Step.refl gd) (.tup a vs _ h r)⟩⟩
  · exact hg.elim
/-! isinstance: of a tree whose type is told, and a built-in class -/
def dty : D → Option String
  | .non => some "NoneType"
  | .bl _ => some "bool"
  | .int _ => some "int"
  | .str _ => some "str"
  | .tup _ => some "tuple"
  | .lst _ => some "list"
  | _ => none
theorem dty_rep {Z : Zn} {H : Hp} {v : V} {d : D} {t : String} (r : RepZ K Z H v d) (h : dty d = some t) : TyX K H v (.type t) := by
  cases r <;> simp [dty] at h <;> subst h
  · exact .base .non
  · exact .base (.bl _)
  · exact .base (.int _)
  · exact .base (.str _)
  · rename_i a vs ds hs _
    have hs := unm_t hs
    rcases hs with (hs | ⟨o, hs⟩) | ⟨o, its, n, hk, hc, _⟩
    · exact .base (.tup hs)
    · exact .fTuple hs
    · exact .kTuple hk hc
  · exact .base (.lst (mask_le _ _ _ _ (by assumption)))
def gIsi : DC1 := fun ds Q => match ds with
  | [d, .raw (.ty T)] => ∃ t b, dty d = some t ∧ kitB t T = some b ∧ Q (.bl b)
  | _ => False
theorem cd_isi : CallD K (rIsi K) gIsi := fun Z H vs ds Q0 Q gd r hg q => by
  unfold gIsi at hg
  split at hg
  · obtain ⟨v, w, rfl, h, h2⟩ := r.inv2
    obtain ⟨t, b, h3, h4, h5⟩ := hg
    cases h2
    exact ⟨v, _, _, _, b, rfl, .ty _, dty_rep h h3, kit_ty h4, q _ h5 _ H (Step.refl gd) (.bl _)⟩
  · exact hg.elim
end

section
variable {X : Cx} {W : WX} {e : Expr} {es : List Expr} {pos p : Pos} {fs : DA} {x : Str}
theorem pd_callB {id : String} {r : List V → Hp → VK → Prop} {g : DC1} (hc : CallR X (.builtin id) r) (hr : CallD X.K r g) (hg : Gl X x) (hm : X.mg x = none) (hv : bootBuiltins x = some (.builtin id)) (ha : PDA X W (e :: es) fs)
    (hn : x ≠ "__name__" := by decide) (hdb : (x == ("__debug__" : Str)) = false := by decide) (hs : starEach (e :: es) X.env = (false, eval e X.env) :: starEach es X.env := by rfl) (hpl : (backTo pos (starEach es X.env)).any (·.1) = false := by rfl) : PD X W (.Call (.Name x p) (e :: es) [] pos) (dCB g fs) :=
  PE.imp (pe_callB hc hg hm hv ha hn hdb hs hpl) fun σ H Q ⟨Z, O, env, Q0, R0, at_, hf, xk, q⟩ =>
    DTA.mk at_ hf xk fun ds hds vs H1 s r => hr Z H1 vs ds Q0 Q s.good r hds fun d hd v H2 s2 rv => q d hd v H2 (s.trans s2) rv
theorem pd_callTy {T : String} {r : List V → Hp → VK → Prop} {g : DC1} (hc : CallR X (.type T) r) (hr : CallD X.K r g) (hg : Gl X x) (hm : X.mg x = none) (hv : bootBuiltins x = some (.type T)) (ha : PDA X W (e :: es) fs)
    (hn : x ≠ "__name__" := by decide) (hdb : (x == ("__debug__" : Str)) = false := by decide) (hs : starEach (e :: es) X.env = (false, eval e X.env) :: starEach es X.env := by rfl) (hpl : (backTo pos (starEach es X.env)).any (·.1) = false := by rfl) : PD X W (.Call (.Name x p) (e :: es) [] pos) (dCB g fs) :=
  PE.imp (pe_callTy hc hg hm hv ha hn hdb hs hpl) fun σ H Q ⟨Z, O, env, Q0, R0, at_, hf, xk, q⟩ =>
    DTA.mk at_ hf xk fun ds hds vs H1 s r => hr Z H1 vs ds Q0 Q s.good r hds fun d hd v H2 s2 rv => q d hd v H2 (s.trans s2) rv
theorem pdl_callTy {T : String} {r : List V → Hp → VK → Prop} {g : DCL1} (hc : CallR X (.type T) r) (hr : CallDL X.K r g) (hg : Gl X x) (hm : X.mg x = none) (hv : bootBuiltins x = some (.type T)) (ha : PDA X W (e :: es) fs)
    (hn : x ≠ "__name__" := by decide) (hdb : (x == ("__debug__" : Str)) = false := by decide) (hs : starEach (e :: es) X.env = (false, eval e X.env) :: starEach es X.env := by rfl) (hpl : (backTo pos (starEach es X.env)).any (·.1) = false := by rfl) : PDL X W (.Call (.Name x p) (e :: es) [] pos) (dCBL g fs) :=
  PE.imp (pe_callTy hc hg hm hv ha hn hdb hs hpl) fun σ H Q ⟨Z, O, env, Q0, R0, at_, hf, xk, q⟩ =>
    DTA.mk at_ hf xk fun ds hds vs H1 s r => hr Z H1 vs ds Q0 Q s.good r hds fun d hd p v H2 s2 hp rv => q d hd p v H2 (s.trans s2) hp rv
theorem pdl_callB {T : String} {r : List V → Hp → VK → Prop} {g : DCL1} (hc : CallR X (.builtin T) r) (hr : CallDL X.K r g) (hg : Gl X x) (hm : X.mg x = none) (hv : bootBuiltins x = some (.builtin T)) (ha : PDA X W (e :: es) fs)
    (hn : x ≠ "__name__" := by decide) (hdb : (x == ("__debug__" : Str)) = false := by decide) (hs : starEach (e :: es) X.env = (false, eval e X.env) :: starEach es X.env := by rfl) (hpl : (backTo pos (starEach es X.env)).any (·.1) = false := by rfl) : PDL X W (.Call (.Name x p) (e :: es) [] pos) (dCBL g fs) :=
  PE.imp (pe_callB hc hg hm hv ha hn hdb hs hpl) fun σ H Q ⟨Z, O, env, Q0, R0, at_, hf, xk, q⟩ =>
    DTA.mk at_ hf xk fun ds hds vs H1 s r => hr Z H1 vs ds Q0 Q s.good r hds fun d hd p v H2 s2 hp rv => q d hd p v H2 (s.trans s2) hp rv
/-- a built-in class's name as a value; a global constant -/
theorem pd_ty {T : String} (hg : Gl X x) (hm : X.mg x = none) (hv : bootBuiltins x = some (.type T)) (hn : x ≠ "__name__" := by decide) (hdb : (x == ("__debug__" : Str)) = false := by decide) : PD X W (.Name x p) (dC (.raw (.ty T))) :=
  pd_c (pe_bltn hg hm hv (v := .ty T) rfl hn hdb) fun _ _ => .raw _
theorem pd_glob {v : V} {u : Value} {d : D} (hg : Gl X x) (hm : X.mg x = some u) (r : RelV v u) (rd : ∀ vl G, Rep X.K vl G v d) (hdb : (x == ("__debug__" : Str)) = false := by decide) : PD X W (.Name x p) (dC d) :=
  pd_c (pe_glob hg hm r hdb) rd

/-! ### subscripts, slices -/
theorem pd_ix {a b : Expr} {fa fb : DE} (ha : PD X W a fa) (hb : PD X W b fb) (hs : PlainIx b := by exact fun _ _ => rfl) : PD X W (.Subscript a b pos) (dOp gIx fa fb) := PE.imp (pe_ix ix_seq ha hb hs) (two_ev opd_ix)
abbrev DO := Env' → (Option Int → Prop) → DX → Prop
def dPart (f : DE) : DO := fun env Q R => f env (fun d => match d with
  | .int i => Q (some i)
  | _ => False) R
def dNoPart : DO := fun _ Q _ => Q none
def DTO (K : PySem.W.Frag) (f : DO) (W : WX) : TO := fun σ H Q => ∃ Z O env, ∃ (Q0 : Option Int → Prop) (R0 : DX), At K Z O H σ env ∧ f env Q0 R0 ∧ Xk K Z H σ R0 W ∧ ∀ o, Q0 o → ∀ H', Step Z H H' → Q o H'
theorem PO.imp {X : Cx} {e : Option Expr} {t t' : TO} (h : L2.PO X e t) (i : ∀ σ H Q, t' σ H Q → t σ H Q) : L2.PO X e t' := ⟨fun pins s σ H Q I q => h.run pins s σ H Q I (i σ H Q q)⟩
abbrev PDO (X : Cx) (W : WX) (e : Option Expr) (f : DO) : Prop := L2.PO X e (DTO X.K f W)
theorem pdo_none : PDO X W none dNoPart := PO.imp po_none fun σ H Q ⟨Z, O, env, Q0, R0, at_, hf, x, q⟩ => q _ hf H (Step.refl at_.good)
theorem pdo_some {a : Expr} {fa : DE} (h : PD X W a fa) : PDO X W (some a) (dPart fa) := PO.imp (po_some h) fun σ H Q ⟨Z, O, env, Q0, R0, at_, hf, x, q⟩ =>
  DT.mk at_ hf x fun d hd v H1 s r => by
    cases d <;> first | exact False.elim hd | skip
    cases r
    exact ⟨_, rfl, q _ hd H1 s⟩
def cutD (xs : List D) (lo hi : Option Int) : List D := (xs.drop (HT.sIx xs.length 0 lo)).take (HT.sIx xs.length xs.length hi - HT.sIx xs.length 0 lo)
theorem cut_rep {K : PySem.W.Frag} {vl : Option (Addr × Addr)} {G : Hp} {vs : List V} {ds : List D} (r : Reps K vl G vs ds) (lo hi : Option Int) : Reps K vl G (cutV vs lo hi) (cutD ds lo hi) := by
  unfold cutV cutD
  rw [r.length]
  exact (r.drop _).take _
def dSlL (f : DE) (lo hi : DO) : DA := fun env Q R => f env (fun d => lo env (fun i => hi env (fun j => match d with
  | .lst xs => Q (cutD xs i j)
  | _ => False) R) R) R
theorem pdl_slice {a : Expr} {fa : DE} {lo hi : Option Expr} {fl fh : DO} {p2 : Pos} (ha : PD X W a fa) (hl : PDO X W lo fl) (hh : PDO X W hi fh) : PDL X W (.Subscript a (.Slice lo hi none p2) pos) (dSlL fa fl fh) := PE.imp (pe_slice sl_list ha hl hh) fun σ H Q ⟨Z, O, env, Q0, R0, at_, hf, x, q⟩ =>
  DT.mk at_ hf x fun d hd v H1 s1 r1 => by
    refine ⟨Z, O, env, _, R0, at_.step s1, hd, x.step s1, fun i hi H2 s2 => ?_⟩
    refine ⟨Z, O, env, _, R0, at_.step (s1.trans s2), hi, x.step (s1.trans s2), fun j hj H3 s3 => ?_⟩
    cases d <;> first | exact False.elim hj | skip
    obtain ⟨a, vs, rfl, h1, _, r⟩ := rep_lst ((r1.step s2).step s3)
    exact ⟨a, vs, rfl, SqL.of h1, fun p hp => q _ hj p _ H3 ((s1.trans s2).trans s3) hp (cut_rep r i j)⟩
def dSlT (f : DE) (lo hi : DO) : DE := fun env Q R => f env (fun d => lo env (fun i => hi env (fun j => match d with
  | .tup xs => Q (.tup (cutD xs i j))
  | _ => False) R) R) R
theorem pd_sliceT {a : Expr} {fa : DE} {lo hi : Option Expr} {fl fh : DO} {p2 : Pos} (ha : PD X W a fa) (hl : PDO X W lo fl) (hh : PDO X W hi fh) : PD X W (.Subscript a (.Slice lo hi none p2) pos) (dSlT fa fl fh) := PE.imp (pe_slice sl_tupA ha hl hh) fun σ H Q ⟨Z, O, env, Q0, R0, at_, hf, x, q⟩ =>
  DT.mk at_ hf x fun d hd v H1 s1 r1 => by
    refine ⟨Z, O, env, _, R0, at_.step s1, hd, x.step s1, fun i hi H2 s2 => ?_⟩
    refine ⟨Z, O, env, _, R0, at_.step (s1.trans s2), hi, x.step (s1.trans s2), fun j hj H3 s3 => ?_⟩
    cases d <;> first | exact False.elim hj | skip
    rename_i es
    have s13 := (s1.trans s2).trans s3
    have r3 := (r1.step s2).step s3
    have hj : Q0 (.tup (cutD es i j)) := hj
    cases r3 with
    | tup a vs ds h r =>
      refine ⟨a, vs, rfl, unm_t h, fun hw => q _ hj _ H3 s13 ?_, fun hw p hp => q _ hj _ _ (s13.trans (Step.new s3.good _ hp)) (new_tup s3.good hp (cut_rep r i j))⟩
      have e : cutD es i j = es := by
        unfold cutD
        rw [← r.length, hw.1, hw.2, List.drop_zero, Nat.sub_zero, r.length, List.take_length]
      rw [e]
      exact .tup a vs _ h r
/-- xs[::-1] -/
def dRevL (f : DE) : DA := fun env Q R => f env (fun d => match d with
  | .lst xs => Q xs.reverse
  | _ => False) R
theorem pdl_rev {a : Expr} {fa : DE} {k : Nat} {p1 p2 p3 : Pos} (ha : PD X W a fa) : PDL X W (.Subscript a (.Slice none none (some (.UnaryOp .USub (.Constant (.int 1) k p1) p2)) p3) pos) (dRevL fa) := PE.imp (pe_revL ha) fun σ H Q ⟨Z, O, env, Q0, R0, at_, hf, x, q⟩ =>
  DT.mk at_ hf x fun d hd v H1 s r => by
    cases d <;> first | exact False.elim hd | skip
    obtain ⟨a, vs, rfl, h1, _, r⟩ := rep_lst r
    exact ⟨a, vs, rfl, SqL.of h1, fun p hp => q _ hd p _ H1 s hp r.reverse⟩

/-! ### a slot of an instance -/
def dSlot (C : Addr) (i : Nat) (f : DE) : DE := fun env Q R => f env (fun d => match d with
  | .obj C' ds => C' = C ∧ ∃ y, ds[i]? = some y ∧ Q y
  | _ => False) R
theorem pd_slot {a : Expr} {fa : DE} {f : Str} {C q : Addr} {i : Nat} (ha : PD X W a fa) (hc : SlX.SCls X.K C) (hs : SlX.Slot1 X.K C f q i) (hb : attributeBase a f X.env (eval a X.env) = eval a X.env := by rfl) : PD X W (.Attribute a f pos) (dSlot C i fa) := PE.imp (SlX.pe_sl ha hb) fun σ H Q ⟨Z, O, env, Q0, R0, at_, hf, x, qq⟩ =>
  DT.mk at_ hf x fun d hd v H1 s r => by
    cases d <;> first | exact False.elim hd | skip
    obtain ⟨ec, y, hy, hd⟩ := hd
    subst ec
    cases r with
    | obj a _ dx vs ds h r =>
      obtain ⟨u, hu, ru⟩ := r.get hy
      exact ⟨a, _, dx, q, vs.map some, i, u, rfl, (mask_le Z H1).slt h, hc, hs, by rw [List.getElem?_map, hu]; rfl, qq _ hd _ H1 s ru⟩
end

/-! ### promises of defs -/
abbrev DF := List D → (D → Prop) → DX → Prop
def spD (K : PySem.W.Frag) (n : Nat) (F : DF) : Sp := fun vs H Q E => vs.length = n ∧ ∃ Z ds, ∃ (Q0 : D → Prop) (R0 : DX), Good Z H ∧ RepsZ K Z H vs ds ∧ F ds Q0 R0 ∧
  (∀ x, R0 x → ∀ cls d H', Step Z H H' → RepX K Z H' cls d x → E cls d H') ∧ ∀ d, Q0 d → ∀ v H', Step Z H H' → RepZ K Z H' v d → Q v H'
theorem spD_imp {K : PySem.W.Frag} {n : Nat} {F G : DF} (h : ∀ ds Q R, G ds Q R → F ds Q R) : ∀ vs H Q E, spD K n G vs H Q E → spD K n F vs H Q E := fun vs H Q E ⟨hl, Z, ds, Q0, R0, a, b, c, d⟩ => ⟨hl, Z, ds, Q0, R0, a, b, h _ _ _ c, d⟩
/-- a def that is called by its global name -/
structure Cal (P : Program) (w : World) (K : PySem.W.Frag) (mg : Str → Option Value) (base : Heap) (k : Nat) (x : Str) (n : Nat) (F : DF) : Prop where
  ex : ∃ f fd ps, FnOk P w K mg base (L2.CX P w) k f fd ps (spD K n F) ∧ mg x = some (.ref f) ∧ PySem.W.keepIn K (.ref f) = true ∧ Binds K fd ps []
theorem Cal.imp {P : Program} {w : World} {K : PySem.W.Frag} {mg : Str → Option Value} {base : Heap} {k : Nat} {x : Str} {n : Nat} {F G : DF} (c : Cal P w K mg base k x n F) (h : ∀ ds Q R, G ds Q R → F ds Q R) : Cal P w K mg base k x n G := by
  obtain ⟨f, fd, ps, a, b⟩ := c.ex
  exact ⟨f, fd, ps, a.imp (spD_imp h), b⟩
def dCall (n : Nat) (F : DF) (fs : DA) : DE := fun env Q R => fs env (fun ds => ds.length = n ∧ F ds Q R) R
section
variable {X : Cx} {W : WX} {e : Expr} {es : List Expr} {pos p : Pos} {fs : DA} {x : Str} {k j n : Nat} {F : DF}
theorem pd_call (c : Cal X.prog X.w X.K X.mg X.base k x n F) (hr : Room j X.A) (hk : k ≤ j) (hg : Gl X x) (tk : Takes X W) (ha : PDA X W (e :: es) fs) 
    (hdb : (x == ("__debug__" : Str)) = false := by decide) (he : starEach (e :: es) X.env = (false, eval e X.env) :: starEach es X.env := by rfl) (hpl : (backTo pos (starEach es X.env)).any (·.1) = false := by rfl) :
    PD X W (.Call (.Name x p) (e :: es) [] pos) (dCall n F fs) := by
  obtain ⟨f, fd, ps, FO, hm, hkp, hb⟩ := c.ex
  exact PE.imp (pe_callS FO (hr.mono hk) hg hm hkp hb (fun σ => passAt tk σ) ha hdb he hpl) fun σ H Q ⟨Z, O, env, Q0, R0, at_, hf, xk, q⟩ =>
    DTA.mk at_ hf xk fun ds hds vs H1 s r => ⟨by rw [r.length]; exact hds.1, Z, ds, Q0, R0, s.good, r, hds.2, fun y hy cls d H2 s2 rx => xk y hy cls d H2 (s.trans s2) rx, fun d hd v H2 s2 rv => q d hd v H2 (s.trans s2) rv⟩
end
end Dl

set_option maxHeartbeats 1000000
/-! The tree layer: what is walked, targets, statements, loops, comprehensions. -/
namespace Dl
open PySem PySem.Spec PyProof.Rows L2

/-! ### what is walked -/
structure ItR (K : PySem.W.Frag) (vl : Option (Addr × Addr)) (J : It) (G : Hp) (ds : List D) : Prop where
  go : ∀ (Z : Zn) (H : Hp), Z.vol = vl → Le G (mask Z H) → Good Z H → ∀ (i : Nat) (d : D), ds[i]? = some d → J.go i H ∧ ∀ x H2, J.yld i H x H2 → Step Z H H2 ∧ RepZ K Z H2 x d
  stop : ∀ (Z : Zn) (H : Hp), Z.vol = vl → Le G (mask Z H) → Good Z H → ∀ (i : Nat), ds[i]? = none → J.stop i H
theorem ItR.mono {K : PySem.W.Frag} {vl : Option (Addr × Addr)} {J : It} {G G' : Hp} {ds : List D} (r : ItR K vl J G ds) (e : Le G G') : ItR K vl J G' ds := ⟨fun Z H a b c => r.go Z H a (e.trans b) c, fun Z H a b c => r.stop Z H a (e.trans b) c⟩
def DTI (K : PySem.W.Frag) (f : DA) (W : WX) : TI := fun σ H R => ∃ Z O env, ∃ (Q0 : List D → Prop) (R0 : DX), At K Z O H σ env ∧ f env Q0 R0 ∧ Xk K Z H σ R0 W ∧ ∀ ds, Q0 ds → ∀ J H', Step Z H H' → ItR K Z.vol J (mask Z H') ds → R J H'
theorem PI.imp {X : Cx} {tg e : Expr} {t t' : TI} (h : L2.PI X tg e t) (i : ∀ σ H Q, t' σ H Q → t σ H Q) : L2.PI X tg e t' := ⟨fun pins s σ H Q I q => h.run pins s σ H Q I (i σ H Q q)⟩
abbrev PDI (X : Cx) (W : WX) (tg e : Expr) (f : DA) : Prop := L2.PI X tg e (DTI X.K f W)
section
variable {K : PySem.W.Frag}
theorem itr_list {vl : Option (Addr × Addr)} {G : Hp} {a : Addr} {vs : List V} {ds : List D} (h : G a = some (.lst vs)) (r : Reps K vl G vs ds) : ItR K vl (Itl K a) G ds where
  go := fun Z H e le gd i d hd => by
    obtain ⟨v, hv, rv⟩ := r.get hd
    have hs : SqL K H a vs := SqL.of (mask_le Z H _ _ (le _ _ h))
    refine ⟨⟨vs, v, hs, hv⟩, fun x H2 y => ?_⟩
    obtain ⟨rfl, y⟩ := y
    have e2 := y vs hs
    rw [hv] at e2
    cases e2
    subst e
    exact ⟨Step.refl gd, Rep.mono le rv⟩
  stop := fun Z H e le gd i hd => ⟨vs, SqL.of (mask_le Z H _ _ (le _ _ h)), by rw [r.length]; exact List.getElem?_eq_none_iff.mp hd⟩
theorem itr_tup {vl : Option (Addr × Addr)} {G : Hp} {a : Addr} {vs : List V} {ds : List D} (h : SqT K G a vs) (r : Reps K vl G vs ds) : ItR K vl (Itt K a) G ds where
  go := fun Z H e le gd i d hd => by
    obtain ⟨v, hv, rv⟩ := r.get hd
    have hs : SqT K H a vs := (mask_le Z H).sqt (le.sqt h)
    refine ⟨⟨vs, v, hs, hv⟩, fun x H2 y => ?_⟩
    obtain ⟨rfl, y⟩ := y
    have e2 := y vs hs
    rw [hv] at e2
    cases e2
    subst e
    exact ⟨Step.refl gd, Rep.mono le rv⟩
  stop := fun Z H e le gd i hd => ⟨vs, (mask_le Z H).sqt (le.sqt h), by rw [r.length]; exact List.getElem?_eq_none_iff.mp hd⟩
/-- lo, lo + 1, .. -/
def rng (lo : Int) (n : Nat) : List D := (List.range n).map fun k => .int (lo + (k : Nat))
theorem rng_get {lo : Int} {n i : Nat} : (rng lo n)[i]? = if i < n then some (.int (lo + (i : Nat))) else none := by
  unfold rng
  rw [List.getElem?_map]
  by_cases h : i < n
  · rw [List.getElem?_range h, if_pos h]; rfl
  · rw [List.getElem?_eq_none (by rw [List.length_range]; omega), if_neg h]; rfl
theorem rng_length {lo : Int} {n : Nat} : (rng lo n).length = n := by unfold rng; rw [List.length_map, List.length_range]
theorem itr_range {vl : Option (Addr × Addr)} {G : Hp} {lo : Int} {n : Nat} : ItR K vl (Itr lo n) G (rng lo n) where
  go := fun Z H e le gd i d hd => by
    rw [rng_get] at hd
    split at hd
    · rename_i hi
      cases hd
      refine ⟨hi, fun x H2 y => ?_⟩
      obtain ⟨rfl, rfl⟩ := y
      exact ⟨Step.refl gd, .int _⟩
    · cases hd
  stop := fun Z H e le gd i hd => by
    rw [rng_get] at hd
    split at hd
    · cases hd
    · rename_i hi
      exact Nat.le_of_not_lt hi
end
def dItL (f : DE) : DA := fun env Q R => f env (fun d => match d with
  | .lst xs => Q xs
  | _ => False) R
def dItT (f : DE) : DA := fun env Q R => f env (fun d => match d with
  | .tup xs => Q xs
  | _ => False) R
def dRng1 (f : DA) : DA := fun env Q R => f env (fun ds => match ds with
  | [.int j] => -(2 ^ 62) ≤ j ∧ j < 2 ^ 62 ∧ Q (rng 0 j.toNat)
  | _ => False) R
def dRng2 (f : DA) : DA := fun env Q R => f env (fun ds => match ds with
  | [.int i, .int j] => (-(2 ^ 62) ≤ i ∧ i < 2 ^ 62 ∧ -(2 ^ 62) ≤ j ∧ j < 2 ^ 62) ∧ Q (rng i (j - i).toNat)
  | _ => False) R
section
variable {X : Cx} {W : WX} {tg e a b : Expr} {pos p : Pos} {fe : DE} {fs : DA}
theorem pdi_list (h : PD X W e fe) : PDI X W tg e (dItL fe) := PI.imp (pi_list h) fun σ H Q ⟨Z, O, env, Q0, R0, at_, hf, x, q⟩ =>
  DT.mk at_ hf x fun d hd v H1 s r => by
    cases d <;> first | exact False.elim hd | skip
    obtain ⟨a, vs, rfl, h1, h2, r⟩ := rep_lst r
    exact ⟨a, rfl, ⟨vs, SqL.of h1⟩, q _ hd _ H1 s (itr_list h2 r)⟩
theorem pdi_tup (h : PD X W e fe) : PDI X W tg e (dItT fe) := PI.imp (pi_tup h) fun σ H Q ⟨Z, O, env, Q0, R0, at_, hf, x, q⟩ =>
  DT.mk at_ hf x fun d hd v H1 s r => by
    cases d <;> first | exact False.elim hd | skip
    cases r with
    | tup a vs ds h r => exact ⟨a, rfl, ⟨vs, unm_t h⟩, q _ hd _ H1 s (itr_tup h r)⟩
theorem pdi_range1 (hg : Gl X "range") (hm : X.mg "range" = none) (ha : PDA X W [a] fs) (hs : starEach [a] X.env = [(false, eval a X.env)] := by rfl) : PDI X W tg (.Call (.Name "range" p) [a] [] pos) (dRng1 fs) := PI.imp (pi_range1 hg hm ha hs) fun σ H Q ⟨Z, O, env, Q0, R0, at_, hf, x, q⟩ =>
  DTA.mk at_ hf x fun ds hd vs H1 s r => by
    split at hd
    · obtain ⟨v, rfl, h⟩ := r.inv1
      cases h
      exact ⟨_, rfl, hd.1, hd.2.1, q _ hd.2.2 _ H1 s itr_range⟩
    · exact hd.elim
theorem pdi_range2 (hg : Gl X "range") (hm : X.mg "range" = none) (ha : PDA X W [a, b] fs) (hs : starEach [a, b] X.env = [(false, eval a X.env), (false, eval b X.env)] := by rfl) (hs2 : starEach [b] X.env = [(false, eval b X.env)] := by rfl) : PDI X W tg (.Call (.Name "range" p) [a, b] [] pos) (dRng2 fs) :=
  PI.imp (pi_range2 hg hm ha hs hs2) fun σ H Q ⟨Z, O, env, Q0, R0, at_, hf, x, q⟩ =>
  DTA.mk at_ hf x fun ds hd vs H1 s r => by
    split at hd
    · obtain ⟨v, w, rfl, h, h2⟩ := r.inv2
      cases h; cases h2
      exact ⟨_, _, rfl, hd.1, q _ hd.2 _ H1 s itr_range⟩
    · exact hd.elim
end

/-! ### targets -/
abbrev DTg := D → Env' → (Env' → Prop) → Prop
/-- names set: the slots ws alone change -/
def TgOk (K : PySem.W.Frag) (g : TG) (gt : DTg) (ws : List Nat) : Prop := ∀ (Z : Zn) (O : Own) (H : Hp) (σ : L2.St) (env : Env') (v : V) (d : D) (Q : L2.St → Hp → Prop) (Q0 : Env' → Prop), At K Z O H σ env → RepZ K Z H v d → gt d env Q0 →
  (∀ env', Q0 env' → ∀ σ', At K Z O H σ' env' → (∀ us : List Nat, (∀ i ∈ ws, i ∈ us) → wipe σ' us = wipe σ us) → Q σ' H) → g v σ H Q
theorem wipe_set {σ : L2.St} {i : Nat} {x : Option V} : ∀ {us : List Nat}, i ∈ us → wipe (σ.set i x) us = wipe σ us
  | [], h => by simp at h
  | u :: us, h => by
    unfold wipe
    by_cases hu : i ∈ us
    · rw [wipe_set hu]
    · have e : i = u := by
        rcases List.mem_cons.mp h with h | h
        · exact h
        · exact absurd h hu
      subst e
      have hh : ∀ vs : List Nat, i ∉ vs → wipe (σ.set i x) vs = (wipe σ vs).set i x := by
        intro vs
        induction vs with
        | nil => intro _; rfl
        | cons w ws ih =>
          intro hn
          simp only [List.mem_cons, not_or] at hn
          unfold wipe
          rw [ih hn.2, List.set_comm _ _ (fun q => hn.1 q)]
      rw [hh us hu, List.set_set]
theorem RepE.set {K : PySem.W.Frag} {Z : Zn} {O : Own} {H : Hp} {σ : L2.St} {env : Env'} (h : RepE K Z O H σ env) {v : V} {d : D} (r : RepZ K Z H v d) (i : Nat) : RepE K Z O H (σ.set i (some v)) (env.set i (.val d)) := by
  refine ⟨by rw [List.length_set, List.length_set]; exact h.len, fun j s e => ?_, h.sub⟩
  by_cases hj : i = j
  · subst hj
    by_cases hi : i < env.length
    · rw [List.getElem?_set_self hi] at e
      cases e
      exact ⟨some v, List.getElem?_set_self (by rw [h.len]; exact hi), v, rfl, r⟩
    · rw [List.getElem?_eq_none (by rw [List.length_set]; omega)] at e
      cases e
  · rw [List.getElem?_set_ne hj] at e ⊢
    exact h.at_ j s e
theorem At.set {K : PySem.W.Frag} {Z : Zn} {O : Own} {H : Hp} {σ : L2.St} {env : Env'} (h : At K Z O H σ env) {v : V} {d : D} (r : RepZ K Z H v d) (i : Nat) : At K Z O H (σ.set i (some v)) (env.set i (.val d)) := ⟨h.good, h.env.set r i⟩
def dgName (i : Nat) : DTg := fun d env Q => Q (env.set i (.val d))
theorem tg_name {K : PySem.W.Frag} {i : Nat} : TgOk K (gName i) (dgName i) [i] := fun Z O H σ env v d Q Q0 a r h q => q _ h _ (a.set r i) fun us hu => wipe_set (hu i (by simp))
def dgSets : List Nat → List D → Env' → (Env' → Prop) → Prop
  | [], [], env, Q => Q env
  | i :: is, d :: ds, env, Q => dgSets is ds (env.set i (.val d)) Q
  | _, _, _, _ => False
def dgTup (is : List Nat) : DTg := fun d env Q => match d with
  | .tup ds => dgSets is ds env Q
  | _ => False
def gNames : List Nat → TGs
  | [] => gNil
  | i :: is => gCons (gName i) (gNames is)
theorem sets_ok {K : PySem.W.Frag} {Z : Zn} {O : Own} {H : Hp} {Q : L2.St → Hp → Prop} {Q0 : Env' → Prop} {σ0 : L2.St} {ws : List Nat} (q : ∀ env', Q0 env' → ∀ σ', At K Z O H σ' env' → (∀ us : List Nat, (∀ i ∈ ws, i ∈ us) → wipe σ' us = wipe σ0 us) → Q σ' H) :
    ∀ (is : List Nat) (vs : List V) (ds : List D) (σ : L2.St) (env : Env'), (∀ i ∈ is, i ∈ ws) → At K Z O H σ env → RepsZ K Z H vs ds → (∀ us : List Nat, (∀ i ∈ ws, i ∈ us) → wipe σ us = wipe σ0 us) → dgSets is ds env Q0 → gNames is vs σ H Q
  | [], _, [], σ, env, _, a, .nil, hw, h => ⟨rfl, q _ h _ a hw⟩
  | i :: is, _, _ :: _, σ, env, hi, a, .cons v d vs ds rv r, hw, h =>
    ⟨v, vs, rfl, sets_ok q is vs ds _ _ (fun j hj => hi j (List.mem_cons_of_mem _ hj)) (a.set rv i) r (fun us hu => (wipe_set (hu i (hi i List.mem_cons_self))).trans (hw us hu)) h⟩
  | [], _, _ :: _, σ, env, _, a, r, hw, h => False.elim h
  | i :: is, _, [], σ, env, _, a, r, hw, h => False.elim h
theorem sets_len {Q : Env' → Prop} : ∀ (is : List Nat) (ds : List D) (env : Env'), dgSets is ds env Q → is.length = ds.length
  | [], [], _, _ => rfl
  | i :: is, d :: ds, env, h => by
    have := sets_len is ds _ h
    simp only [List.length_cons]
    omega
  | [], _ :: _, _, h => False.elim h
  | _ :: _, [], _, h => False.elim h
theorem tg_tup {K : PySem.W.Frag} {is : List Nat} {n : Nat} (hn : is.length = n := by rfl) : TgOk K (gTup K n (gNames is)) (dgTup is) is := fun Z O H σ env v d Q Q0 a r h q => by
  cases d <;> first | exact False.elim h | skip
  have h : dgSets is _ env Q0 := h
  cases r with
  | tup b vs ds hs r =>
    have hl : is.length = vs.length := (sets_len _ _ _ h).trans r.length.symm
    refine ⟨b, vs, rfl, unm_t hs, by rw [← hl]; exact hn, ?_⟩
    exact sets_ok q is vs _ σ env (fun _ z => z) a r (fun _ _ => rfl) h

/-! ### statements -/
structure Kn where
  nx : Env' → Prop
  rt : Env' → D → Prop
  rtL : List D → Prop
  bk : Env' → Prop
  ct : Env' → Prop
  xc : Exc → Env' → Prop
abbrev DG := Env' → Kn → Prop
def Zn.add (Z : Zn) (O : Own) : Zn := ⟨O.map (fun q => (q.2.1, q.2.2)) ++ Z.own, Z.vol⟩
abbrev StAt (K : PySem.W.Frag) (Z : Zn) (O : Own) (H : Hp) (σ : L2.St) (env : Env') : Prop := At K (Z.add O) O H σ env
abbrev Lt (Z : Zn) (O : Own) (H : Hp) (O' : Own) (H' : Hp) : Prop := Le (mask (Z.add O) H) (mask (Z.add O') H')
structure KOk (K : PySem.W.Frag) (Z : Zn) (O : Own) (H : Hp) (k : Kn) (D : Ends) (W : WX) : Prop where
  nx : ∀ env', k.nx env' → ∀ O' σ' H', Lt Z O H O' H' → StAt K Z O' H' σ' env' → D.nx σ' H'
  rt : ∀ env' d, k.rt env' d → ∀ O' σ' v H', Lt Z O H O' H' → StAt K Z O' H' σ' env' → RepZ K (Z.add O') H' v d → D.rt v H'
  rtL : ∀ ds, k.rtL ds → ∀ O' p vs H', Lt Z O H O' H' → Good (Z.add O') H' → H' p = none → RepsZ K (Z.add O') H' vs ds → D.rt (.ref p) (upd H' p (.lst vs))
  bk : ∀ env', k.bk env' → ∀ O' σ' H', Lt Z O H O' H' → StAt K Z O' H' σ' env' → D.bk σ' H'
  ct : ∀ env', k.ct env' → ∀ O' σ' H', Lt Z O H O' H' → StAt K Z O' H' σ' env' → D.ct σ' H'
  xc : ∀ x env', k.xc x env' → ∀ O' cls d σ' H', Lt Z O H O' H' → StAt K Z O' H' σ' env' → RepX K (Z.add O') H' cls d x → W cls d σ' H'
theorem KOk.step {K : PySem.W.Frag} {Z : Zn} {O O1 : Own} {H H1 : Hp} {k : Kn} {D : Ends} {W : WX} (h : KOk K Z O H k D W) (e : Lt Z O H O1 H1) : KOk K Z O1 H1 k D W :=
  ⟨fun env' a O' σ' H' b => h.nx env' a O' σ' H' (e.trans b), fun env' d a O' σ' v H' b => h.rt env' d a O' σ' v H' (e.trans b), fun ds a O' p vs H' b => h.rtL ds a O' p vs H' (e.trans b), fun env' a O' σ' H' b => h.bk env' a O' σ' H' (e.trans b), fun env' a O' σ' H' b => h.ct env' a O' σ' H' (e.trans b), fun x env' a O' cls d σ' H' b => h.xc x env' a O' cls d σ' H' (e.trans b)⟩
theorem KOk.xk {K : PySem.W.Frag} {Z : Zn} {O : Own} {H : Hp} {σ : L2.St} {env : Env'} {k : Kn} {D : Ends} {W : WX} (h : KOk K Z O H k D W) (a : StAt K Z O H σ env) : Xk K (Z.add O) H σ (fun x => k.xc x env) W := fun x hx cls d H' s r => h.xc x env hx O cls d σ H' s.le (a.step s) r
def DS (K : PySem.W.Frag) (g : DG) (W : WX) : TS := fun D σ H => ∃ Z O env k, StAt K Z O H σ env ∧ g env k ∧ KOk K Z O H k D W
abbrev PDS (X : Cx) (W : WX) (st : Stmt) (g : DG) : Prop := L2.PS X st (DS X.K g W)
abbrev PDSs (X : Cx) (W : WX) (st : List Stmt) (g : DG) : Prop := L2.PSs X st (DS X.K g W)
def dNx : DG := fun env k => k.nx env
def dSeq (g1 g2 : DG) : DG := fun env k => g1 env { k with nx := fun e => g2 e k }
section
variable {X : Cx} {W : WX} {st : Stmt} {rest : List Stmt} {g g2 : DG} {pos pos' : Pos} {e a b : Expr} {fe : DE} {fs : DA}
theorem dss_nil : PDSs X W [] dNx := PSs.imp pss_nil fun D σ H ⟨Z, O, env, k, a, h, ko⟩ => ko.nx _ h O σ H (Le.refl _) a
theorem dss_cons (h1 : PDS X W st g) (h2 : PDSs X W rest g2) : PDSs X W (st :: rest) (dSeq g g2) := PSs.imp (pss_cons h1 h2) fun D σ H ⟨Z, O, env, k, a, h, ko⟩ =>
  ⟨Z, O, env, _, a, h, ⟨fun env' q O' σ' H' l s => ⟨Z, O', env', k, s, q, ko.step l⟩, ko.rt, ko.rtL, ko.bk, ko.ct, ko.xc⟩⟩
theorem dss_one (h1 : PDS X W st g) : PDSs X W [st] g := pss_one h1
/-- what the proof never comes to -/
def dNever : DG := fun _ _ => False
theorem ds_never : PDS X W st dNever := PS.imp ps_never fun D σ H ⟨Z, O, env, k, a, h, ko⟩ => h
theorem dss_never : PDSs X W rest dNever := PSs.imp pss_never fun D σ H ⟨Z, O, env, k, a, h, ko⟩ => h
theorem ds_pass : PDS X W (.Pass pos) dNx := PS.imp ps_pass fun D σ H ⟨Z, O, env, k, a, h, ko⟩ => ko.nx _ h O σ H (Le.refl _) a
theorem ds_doc {x : Str} {j : Nat} : PDS X W (.Expr (.Constant (.str x) j pos) pos') dNx := PS.imp ps_doc fun D σ H ⟨Z, O, env, k, a, h, ko⟩ => ko.nx _ h O σ H (Le.refl _) a
def dSet (i : Nat) (f : DE) : DG := fun env k => f env (fun d => k.nx (env.set i (.val d))) (fun x => k.xc x env)
theorem ds_set {i : Nat} {x : Str} (hN : X.N.Nodup) (hi : X.N[i]? = some x) (hx : Loc X.env.scope x) (he : PD X W e fe) (hs : swapsWith e (some (.Name x pos')) pos.line X.env = pure false := by rfl) (hf : X.fn x = true ∨ X.env.scope.names.lookup x = some .local := by first | exact .inl rfl | exact .inr rfl | assumption) :
    PDS X W (.Assign [.Name x pos'] e pos) (dSet i fe) := PS.imp (ps_set hN hi hx he hs hf) fun D σ H ⟨Z, O, env, k, a, h, ko⟩ =>
  DT.mk a h (ko.xk a) fun d hd v H1 s r => ko.nx _ hd O _ H1 s.le ((a.step s).set r i)
def dAsg (f : DE) (gt : DTg) : DG := fun env k => f env (fun d => gt d env k.nx) (fun x => k.xc x env)
theorem ds_asg {tg : Expr} {t : TG} {gt : DTg} {ws : List Nat} (he : PD X W e fe) (hg : L2.PG X tg t) (ht : TgOk X.K t gt ws) (hs : swapsWithSole [tg] e pos.line X.env = pure false := by rfl) (hw : swappedStores [tg] e X.env = pure none := by rfl)
    (h1 : (assignEach [tg] X.env).map (·.2) = [assign tg X.env] := by rfl) : PDS X W (.Assign [tg] e pos) (dAsg fe gt) := PS.imp (ps_asg he hg hs hw h1) fun D σ H ⟨Z, O, env, k, a, h, ko⟩ =>
  DT.mk a h (ko.xk a) fun d hd v H1 s r => ht _ O H1 σ env v d D.nx k.nx (a.step s) r hd fun env' hn σ' a' _ => ko.nx env' hn O σ' H1 s.le a'
/-- a, b = e, e' -/
def dPar (i j : Nat) (f : DA) : DG := fun env k => f env (fun ds => match ds with
  | [d, e] => k.nx ((env.set i (.val d)).set j (.val e))
  | _ => False) (fun x => k.xc x env)
theorem ds_par {i j : Nat} {x y : Str} {px py pt pt2 : Pos} {kt k2 : Nat} (hc : X.calm = true) (hN : X.N.Nodup) (hi : X.N[i]? = some x) (hj : X.N[j]? = some y) (hij : i ≠ j)
    (hx : X.env.scope.names.lookup x = some .local) (hy : X.env.scope.names.lookup y = some .local) (ha : PDA X W [a, b] fs)
    (hw : swappedStores [.Tuple [.Name x px, .Name y py] kt pt] (.Tuple [a, b] k2 pt2) X.env = pure (some [x, y]))
    (hs : swapsWithSole [.Tuple [.Name x px, .Name y py] kt pt] (.Tuple [a, b] k2 pt2) pos.line X.env = pure false := by rfl) :
    PDS X W (.Assign [.Tuple [.Name x px, .Name y py] kt pt] (.Tuple [a, b] k2 pt2) pos) (dPar i j fs) := PS.imp (ps_par hc hN hi hj hij hx hy ha hw hs) fun D σ H ⟨Z, O, env, k, a, h, ko⟩ =>
  DTA.mk a h (ko.xk a) fun ds hd vs H1 s r => by
    split at hd
    · obtain ⟨v, w, rfl, h1, h2⟩ := r.inv2
      exact ⟨v, w, rfl, ko.nx _ hd O _ H1 s.le (((a.step s).set h1 i).set h2 j)⟩
    · exact hd.elim
def dExpr (f : DE) : DG := fun env k => f env (fun _ => k.nx env) (fun x => k.xc x env)
theorem ds_expr (he : PD X W e fe) (hs : swapsWith e none pos.line X.env = pure false := by rfl) : PDS X W (.Expr e pos) (dExpr fe) := PS.imp (ps_expr he hs) fun D σ H ⟨Z, O, env, k, a, h, ko⟩ =>
  DT.mk a h (ko.xk a) fun d hd v H1 s r => ko.nx _ hd O _ H1 s.le (a.step s)
def dRet (f : DE) : DG := fun env k => f env (k.rt env) (fun x => k.xc x env)
theorem ds_ret (he : PD X W e fe) : PDS X W (.Return (some e) pos) (dRet fe) := PS.imp (ps_ret he) fun D σ H ⟨Z, O, env, k, a, h, ko⟩ =>
  DT.mk a h (ko.xk a) fun d hd v H1 s r => ko.rt _ _ hd O _ _ H1 s.le (a.step s) r
/-- a new list is returned -/
def dRetL (f : DA) : DG := fun env k => f env k.rtL (fun x => k.xc x env)
theorem ds_retL {fl : DA} (he : PDL X W e fl) : PDS X W (.Return (some e) pos) (dRetL fl) := PS.imp (ps_ret he) fun D σ H ⟨Z, O, env, k, a, h, ko⟩ =>
  ⟨_, O, env, _, _, a, h, ko.xk a, fun ds hd p vs H1 s hp r => ko.rtL _ hd O p vs H1 s.le s.good hp r⟩
def dIfS (t : DB) (g1 g2 : DG) : DG := fun env k => t env (fun b => if b = true then g1 env k else g2 env k) (fun x => k.xc x env)
theorem ds_if {c : Expr} {t : DB} {xs ys : List Stmt} (hc : PDB X W c t) (h1 : PDSs X W xs g) (h2 : PDSs X W ys g2) : PDS X W (.If c xs ys pos) (dIfS t g g2) := PS.imp (ps_if hc h1 h2) fun D σ H ⟨Z, O, env, k, a, h, ko⟩ =>
  DTB.mk a h (ko.xk a) fun q hq H1 s => by
    cases q with
    | true => rw [if_pos rfl] at hq ⊢; exact ⟨Z, O, env, k, a.step s, hq, ko.step s.le⟩
    | false => rw [if_neg Bool.false_ne_true] at hq ⊢; exact ⟨Z, O, env, k, a.step s, hq, ko.step s.le⟩

/-! ### for, while -/
def dForL (gt : DTg) (gb : DG) : List D → Env' → Kn → Prop
  | [], env, k => k.nx env
  | d :: ds, env, k => gt d env fun e1 => gb e1 { k with nx := fun e => dForL gt gb ds e k, ct := fun e => dForL gt gb ds e k, bk := k.nx }
def dFor (fi : DA) (gt : DTg) (gb : DG) : DG := fun env k => fi env (fun ds => dForL gt gb ds env k) (fun x => k.xc x env)
theorem add_vol (Z : Zn) (O : Own) : (Z.add O).vol = Z.vol := rfl
theorem for_ev {K : PySem.W.Frag} {t : TG} {gt : DTg} {ws : List Nat} {gb : DG} (ht : TgOk K t gt ws) {D : Ends} {σ : L2.St} {H1 : Hp} {Z : Zn} {O : Own} {env : Env'} {k : Kn} {ds : List Dl.D} {J : It} (a : StAt K Z O H1 σ env) (h : dForL gt gb ds env k) (ko : KOk K Z O H1 k D W) (it : ItR K Z.vol J (mask (Z.add O) H1) ds) :
    ∃ Wv : Nat → Nat → L2.St → Hp → Prop, (∃ m, Wv 0 m σ H1) ∧ ∀ i m σ H, Wv i m σ H → (J.stop i H ∧ D.nx σ H) ∨ (J.go i H ∧ ∃ N : L2.St → Hp → Prop, (∀ σ' H', N σ' H' → ∃ m', m' < m ∧ Wv (i + 1) m' σ' H') ∧ ∀ x H', J.yld i H x H' → t x σ H' fun σ2 H2 => DS K gb W { D with nx := N, ct := N, bk := D.nx } σ2 H2) := by
  refine ⟨fun i m σ' H' => m = ds.length - i ∧ i ≤ ds.length ∧ ∃ O' env', Lt Z O H1 O' H' ∧ StAt K Z O' H' σ' env' ∧ dForL gt gb (ds.drop i) env' k, ⟨_, rfl, Nat.zero_le _, O, env, Le.refl _, a, h⟩, ?_⟩
  rintro i m σ' H' ⟨rfl, hi, O', env', l, a', h'⟩
  by_cases hlt : i < ds.length
  · have hd : ds[i]? = some ds[i] := List.getElem?_eq_getElem hlt
    obtain ⟨g1, g2⟩ := it.go (Z.add O') H' rfl l a'.good i _ hd
    rw [List.drop_eq_getElem_cons hlt] at h'
    refine .inr ⟨g1, fun σ3 H3 => ∃ O3 env3, Lt Z O H1 O3 H3 ∧ StAt K Z O3 H3 σ3 env3 ∧ dForL gt gb (ds.drop (i + 1)) env3 k, fun σ3 H3 ⟨O3, env3, l3, a3, h3⟩ => ⟨ds.length - (i + 1), by omega, rfl, hlt, O3, env3, l3, a3, h3⟩, fun x H2 y => ?_⟩
    obtain ⟨s, r⟩ := g2 x H2 y
    refine ht _ O' H2 σ' env' x _ _ _ (a'.step s) r h' fun e1 h1 σ2 a2 _ => ?_
    have l2 : Lt Z O H1 O' H2 := l.trans s.le
    exact ⟨Z, O', e1, _, a2, h1, ⟨fun e3 q O3 σ3 H3 l3 a3 => ⟨O3, e3, l2.trans l3, a3, q⟩, (ko.step l2).rt, (ko.step l2).rtL, (ko.step l2).nx, fun e3 q O3 σ3 H3 l3 a3 => ⟨O3, e3, l2.trans l3, a3, q⟩, (ko.step l2).xc⟩⟩
  · have e : i = ds.length := by omega
    subst e
    rw [List.drop_length] at h'
    exact .inl ⟨it.stop (Z.add O') H' rfl l a'.good _ (List.getElem?_eq_none (Nat.le_refl _)), ko.nx _ h' O' σ' H' l a'⟩
theorem ds_for {tg iter : Expr} {body : List Stmt} {fi : DA} {t : TG} {gt : DTg} {ws : List Nat} {gb : DG} (hp : PassesOwn (model X.prog X.w) X.A X.env X.xe) (hc : X.calm = true) (hi : PDI X W tg iter fi) (hg : L2.PG X tg t) (ht : TgOk X.K t gt ws) (hb : PDSs X W body gb)
    (hs : ∀ x, foldedSetIterable iter X.env x = pure x := by intro _; rfl) : PDS X W (.For tg iter body [] pos) (dFor fi gt gb) := PS.imp (ps_for hp hc hi hg hb hs) fun D σ H ⟨Z, O, env, k, a, h, ko⟩ =>
  ⟨Z.add O, O, env, _, _, a, h, ko.xk a, fun ds hds J H1 s it => for_ev ht (a.step s) hds (ko.step s.le) it⟩
def dWhileN (ft : DB) (gb : DG) : Nat → Env' → Kn → Prop
  | 0, _, _ => False
  | n + 1, env, k => ft env (fun b => if b = true then gb env { k with nx := fun e => dWhileN ft gb n e k, ct := fun e => dWhileN ft gb n e k, bk := k.nx } else k.nx env) (fun x => k.xc x env)
def dWhile (ft : DB) (gb : DG) : DG := fun env k => ∃ n, dWhileN ft gb n env k
theorem ds_while {c : Expr} {body : List Stmt} {ft : DB} {gb : DG} (hp : PassesOwn (model X.prog X.w) X.A X.env X.xe) (hc : PDB X W c ft) (hb : PDSs X W body gb) : PDS X W (.While c body [] pos) (dWhile ft gb) := PS.imp (ps_while hp hc hb) fun D σ H ⟨Z, O, env, k, a, ⟨n, h⟩, ko⟩ => by
  refine ⟨fun m σ' H' => ∃ O' env', Lt Z O H O' H' ∧ StAt X.K Z O' H' σ' env' ∧ dWhileN ft gb m env' k, ⟨n, O, env, Le.refl _, a, h⟩, ?_⟩
  rintro m σ' H' ⟨O', env', l, a', h'⟩
  cases m with
  | zero => exact h'.elim
  | succ m =>
    refine DTB.mk a' h' ((ko.step l).xk a') fun q hq H1 s => ?_
    have l1 : Lt Z O H O' H1 := l.trans s.le
    cases q with
    | true =>
      rw [if_pos rfl] at hq ⊢
      refine ⟨fun σ3 H3 => ∃ O3 env3, Lt Z O H O3 H3 ∧ StAt X.K Z O3 H3 σ3 env3 ∧ dWhileN ft gb m env3 k, fun σ3 H3 z => ⟨m, Nat.lt_succ_self _, z⟩, ?_⟩
      exact ⟨Z, O', env', _, a'.step s, hq, ⟨fun e3 q O3 σ3 H3 l3 a3 => ⟨O3, e3, l1.trans l3, a3, q⟩, (ko.step l1).rt, (ko.step l1).rtL, (ko.step l1).nx, fun e3 q O3 σ3 H3 l3 a3 => ⟨O3, e3, l1.trans l3, a3, q⟩, (ko.step l1).xc⟩⟩
    | false =>
      rw [if_neg Bool.false_ne_true] at hq ⊢
      exact ko.nx _ hq O' σ' H1 l1 (a'.step s)
end

/-! ### the rule for a def -/
def dDef (N : Nat) (g : DG) : DF := fun ds Q R => g (ds.map .val ++ List.replicate (N - ds.length) .un) ⟨fun _ => Q .non, fun _ => Q, fun ds => Q (.lst ds), fun _ => False, fun _ => False, fun x _ => R x⟩
theorem add_le {Z : Zn} {O : Own} {H : Hp} : Le (mask (Z.add O) H) (mask Z H) := fun a o h => by
  have h1 : a ∉ (Z.add O).msk := fun hm => by rw [mask_in hm] at h; cases h
  rw [mask_of h1] at h
  rw [mask_of fun hm => h1 ?_]
  · exact h
  · rcases List.mem_append.mp hm with hm | hm
    · refine List.mem_append_left _ ?_
      show a ∈ (O.map (fun q => (q.2.1, q.2.2)) ++ Z.own).map (·.1)
      rw [List.map_append]
      exact List.mem_append_right _ hm
    · exact List.mem_append_right _ hm
theorem Good.sub {Z : Zn} {O : Own} {H : Hp} (g : Good (Z.add O) H) : Good Z H := by
  refine ⟨fun a vs h => g.own a vs (List.mem_append_right _ h), fun h c e => g.vol h c e, ?_⟩
  refine g.nd.sublist ?_
  show List.Sublist (Z.own.map (·.1) ++ Z.vs) ((O.map (fun q => (q.2.1, q.2.2)) ++ Z.own).map (·.1) ++ Z.vs)
  rw [List.map_append, List.append_assoc]
  exact List.sublist_append_right _ _
theorem add_nil (Z : Zn) : Z.add [] = Z := by
  unfold Zn.add
  rfl
theorem start_rep {K : PySem.W.Frag} {Z : Zn} {H : Hp} {vs : List V} {ds : List D} {N : List Str} (r : RepsZ K Z H vs ds) : RepE K (Z.add []) [] H (L2.start N vs) (ds.map .val ++ List.replicate (N.length - ds.length) .un) := by
  have hl := r.length
  refine ⟨by unfold L2.start; simp [hl], fun i s e => ?_, fun _ _ _ h => by simp at h⟩
  unfold L2.start
  by_cases hi : i < ds.length
  · rw [List.getElem?_append_left (by simpa using hi), List.getElem?_map] at e
    cases hd : ds[i]? with
    | none => rw [hd] at e; cases e
    | some d =>
      rw [hd] at e
      cases e
      obtain ⟨v, hv, rv⟩ := r.get hd
      exact ⟨some v, by rw [List.getElem?_append_left (by simpa [hl] using hi), List.getElem?_map, hv]; rfl, v, rfl, rv⟩
  · rw [List.getElem?_append_right (by simpa using hi), List.getElem?_replicate] at e
    split at e
    · cases e
      rename_i h2
      refine ⟨none, ?_, trivial⟩
      rw [List.getElem?_append_right (by simp [hl]; omega), List.getElem?_replicate]
      simp only [List.length_map] at h2 ⊢
      rw [hl, if_pos h2]
    · cases e
theorem RepX.sub {K : PySem.W.Frag} {Z : Zn} {O : Own} {H : Hp} {cls : Value} {d : Option Addr} {x : Exc} (r : RepX K (Z.add O) H cls d x) : RepX K Z H cls d x := by
  obtain ⟨e, r⟩ := r
  refine ⟨e, ?_⟩
  cases h : x.fs with
  | none => rw [h] at r; exact r
  | some l =>
    rw [h] at r
    obtain ⟨dd, vs, h1, h2, h3, h4⟩ := r
    exact ⟨dd, vs, h1, add_le _ _ h2, h3, Reps.mono add_le h4⟩
/-- the context of a def's body: what its rules lean on -/
structure Cn (X : Cx) (W : WX) (k : Nat) : Prop where
  tk : Takes X W
  hp : PassesOwn (model X.prog X.w) X.A X.env X.xe
  hr : Room k X.A
  hc : X.calm = true
section
variable {P : Program} {w : World} {K : PySem.W.Frag} {mg : Str → Option Value} {base : Heap}
theorem Fun.okD {x qual : Str} {st : Stmt} {f : Addr} {fd : FuncData} {N ps : List Str} {k : Nat} {g : DG} (F : L2.Fun K x qual st f fd) (S : FnScope N ps (defScope st))
    (hbody : ∀ (cdv : Value) (A : Around) (outer : List Env) (s : Shared) (H : Hp) (E : XK), Cn (cxOf (L2.CX P w) P w K mg base N qual (defScope st) f cdv A outer s H E) (fun cls d _ H' => E cls d H') k →
      PDSs (cxOf (L2.CX P w) P w K mg base N qual (defScope st) f cdv A outer s H E) (fun cls d _ H' => E cls d H') (defBody st) g) :
    FnOk P w K mg base (L2.CX P w) (k + 1) f fd ps (spD K ps.length (dDef N.length g)) := by
  refine L2.Fun.okX F S (fun vs H Q E h => h.1) fun cdv A outer s H vs Q E hr h => ?_
  obtain ⟨hl, Z, ds, Q0, R0, gd, r, hf, hx, hq⟩ := h
  refine ⟨_, hbody cdv A outer s H E ⟨takes_of rfl rfl rfl rfl, passes_of rfl, hr, rfl⟩, Z, [], _, _, ⟨by rw [add_nil]; exact gd, start_rep r⟩, hf, ?_⟩
  have st : ∀ {O' : Own} {H' : Hp}, Lt Z [] H O' H' → Good (Z.add O') H' → Step Z H H' := fun l g' => ⟨fun a o e => add_le _ _ (l a o (by rw [add_nil]; exact e)), g'.sub⟩
  refine ⟨fun env' h' O' σ' H' l a => hq _ h' _ H' (st l a.good) .non, fun env' d h' O' σ' v H' l a r' => hq _ h' v H' (st l a.good) (Rep.mono add_le r'), fun ds h' O' p vs H' l g' hp r' => (have s2 := st l g'; hq _ h' _ _ (s2.trans (Step.new s2.good _ hp)) (new_lst s2.good hp (Reps.mono add_le r'))), fun _ h' => h'.elim, fun _ h' => h'.elim, fun y env' h' O' cls d σ' H' l a r' => hx y h' cls d H' (st l a.good) r'.sub⟩
/-- .. as a def that is called by its name -/
theorem Cal.of {x : Str} {f : Addr} {fd : FuncData} {ps : List Str} {k n : Nat} {F G : DF} (c : FnOk P w K mg base (L2.CX P w) k f fd ps (spD K n F)) (hm : mg x = some (.ref f)) (hk : PySem.W.keepIn K (.ref f) = true) (hb : Binds K fd ps []) (h : ∀ ds Q R, G ds Q R → F ds Q R) : Cal P w K mg base k x n G :=
  ⟨f, fd, ps, c.imp (spD_imp h), hm, hk, hb⟩
end
end Dl

set_option maxHeartbeats 1000000
/-! The tree layer: comprehensions, lists that a def owns. -/
namespace Dl
open PySem PySem.Spec PyProof.Rows L2

/-! ### comprehensions -/
abbrev WF : WX := fun _ _ _ _ => False
def FX : DX := fun _ => False
def wipeE (env : Env') : List Nat → Env'
  | [] => env
  | v :: vs => (wipeE env vs).set v .un
theorem RepE.unset {K : PySem.W.Frag} {Z : Zn} {O : Own} {H : Hp} {σ : L2.St} {env : Env'} (h : RepE K Z O H σ env) (i : Nat) (x : Option V) : RepE K Z O H (σ.set i x) (env.set i .un) := by
  refine ⟨by rw [List.length_set, List.length_set]; exact h.len, fun j s e => ?_, h.sub⟩
  by_cases hj : i = j
  · subst hj
    by_cases hi : i < env.length
    · rw [List.getElem?_set_self hi] at e
      cases e
      exact ⟨x, List.getElem?_set_self (by rw [h.len]; exact hi), trivial⟩
    · rw [List.getElem?_eq_none (by rw [List.length_set]; omega)] at e
      cases e
  · rw [List.getElem?_set_ne hj] at e ⊢
    exact h.at_ j s e
theorem RepE.wipe {K : PySem.W.Frag} {Z : Zn} {O : Own} {H : Hp} {σ : L2.St} {env : Env'} (h : RepE K Z O H σ env) : ∀ vs : List Nat, RepE K Z O H (L2.wipe σ vs) (wipeE env vs)
  | [] => h
  | v :: vs => (RepE.wipe h vs).unset v none
theorem wipe_wipe (σ : L2.St) (vs : List Nat) : wipe (wipe σ vs) vs = wipe σ vs := by
  have h : ∀ us : List Nat, (∀ i ∈ us, i ∈ vs) → wipe (wipe σ us) vs = wipe σ vs := by
    intro us
    induction us with
    | nil => intro _; rfl
    | cons u us ih =>
      intro hu
      show wipe ((wipe σ us).set u none) vs = wipe σ vs
      rw [wipe_set (hu u List.mem_cons_self), ih fun i hi => hu i (List.mem_cons_of_mem _ hi)]
  exact h vs fun _ z => z
abbrev DFl := Env' → (Bool → Prop) → DX → Prop
def dYes : DB := fun _ Q _ => Q true
def dLcL (gt : DTg) (ft : DB) (fe : DE) (env : Env') : List D → List D → (List D → Prop) → Prop
  | [], acc, Q => Q acc
  | d :: ds, acc, Q => gt d env fun e1 => ft e1 (fun b => if b = true then fe e1 (fun y => acc.length < sizeLine ∧ dLcL gt ft fe env ds (acc ++ [y]) Q) FX else dLcL gt ft fe env ds acc Q) FX
def dLc (fi : DA) (vs : List Nat) (gt : DTg) (ft : DB) (fe : DE) : DA := fun env Q R => fi env (fun ds => dLcL gt ft fe (wipeE env vs) ds [] Q) R
def Zn.cons (Z : Zn) (a : Addr) (vs : List V) : Zn := ⟨(a, vs) :: Z.own, Z.vol⟩
theorem cons_msk (Z : Zn) (a : Addr) (vs : List V) : (Z.cons a vs).msk = a :: Z.msk := rfl
theorem cons_new {Z : Zn} {H : Hp} {p : Addr} (g : Good Z H) (vs : List V) (hp : H p = none) : Good (Z.cons p vs) (upd H p (.lst vs)) ∧ Le (mask Z H) (mask (Z.cons p vs) (upd H p (.lst vs))) := by
  have hm := g.fresh hp
  refine ⟨⟨fun a ws h => ?_, fun h c e => (Step.new g (.lst vs) hp).good.vol h c e, ?_⟩, fun a o e => ?_⟩
  · rcases List.mem_cons.mp h with h | h
    · cases h; exact upd_same
    · exact (Step.new g (.lst vs) hp).good.own a ws h
  · rw [cons_msk]; exact List.nodup_cons.mpr ⟨hm, g.nd⟩
  · have e2 := mask_le Z H a o e
    have h1 : a ∉ Z.msk := fun z => by rw [mask_in z] at e; cases e
    have h2 : a ≠ p := ne_of_none e2 hp
    rw [mask_of (by rw [cons_msk]; simp only [List.mem_cons, not_or]; exact ⟨h2, h1⟩), upd_ne h2]
    exact e2
/-- the list at p is changed by its owner -/
theorem cons_upd {Z : Zn} {H : Hp} {p : Addr} {vs : List V} (g : Good (Z.cons p vs) H) (ws : List V) : Good (Z.cons p ws) (upd H p (.lst ws)) ∧ mask (Z.cons p ws) (upd H p (.lst ws)) = mask (Z.cons p vs) H := by
  have hnd := List.nodup_cons.mp (show (p :: Z.msk).Nodup from g.nd)
  have np : ∀ {a}, a ∈ Z.msk → a ≠ p := fun {a} ha z => hnd.1 (by rw [← z]; exact ha)
  have hv : ∀ {h c}, Z.vol = some (h, c) → h ∈ Z.msk ∧ c ∈ Z.msk := fun {h c} e => by
    unfold Zn.msk Zn.vs
    rw [e]
    simp
  refine ⟨⟨fun a us h => ?_, fun h c e => ?_, g.nd⟩, ?_⟩
  · rcases List.mem_cons.mp h with h | h
    · cases h; exact upd_same
    · have ha : a ∈ Z.msk := List.mem_append_left _ (List.mem_map.mpr ⟨_, h, rfl⟩)
      rw [upd_ne (np ha)]
      exact g.own a us (List.mem_cons_of_mem _ h)
  · obtain ⟨s, i, cs, h1, h2, h3⟩ := g.vol h c e
    obtain ⟨m1, m2⟩ := hv e
    exact ⟨s, i, cs, by rw [upd_ne (np m1)]; exact h1, by rw [upd_ne (np m2)]; exact h2, h3⟩
  · funext a
    unfold mask
    rw [cons_msk, cons_msk]
    by_cases h : a ∈ p :: Z.msk
    · rw [if_pos h, if_pos h]
    · rw [if_neg h, if_neg h, upd_ne fun z => h (by rw [z]; exact List.mem_cons_self)]
/-- the list at p is given away -/
def del (H : Hp) (p : Addr) : Hp := fun a => if a = p then none else H a
theorem del_same {H : Hp} {p : Addr} : del H p p = none := if_pos rfl
theorem upd_del {H : Hp} {p : Addr} {o : HO} (h : H p = some o) : upd (del H p) p o = H := by
  funext a
  unfold upd del
  by_cases e : a = p
  · rw [if_pos e, e, h]
  · rw [if_neg e, if_neg e]
theorem cons_del {Z : Zn} {H : Hp} {p : Addr} {vs : List V} (g : Good (Z.cons p vs) H) : Good Z (del H p) ∧ mask Z (del H p) = mask (Z.cons p vs) H := by
  have hnd := List.nodup_cons.mp (show (p :: Z.msk).Nodup from g.nd)
  have ne : ∀ {a}, a ∈ Z.msk → del H p a = H a := fun {a} h => if_neg fun z => hnd.1 (by rw [← z]; exact h)
  have hv : ∀ {h c}, Z.vol = some (h, c) → h ∈ Z.msk ∧ c ∈ Z.msk := fun {h c} e => by
    unfold Zn.msk Zn.vs
    rw [e]
    simp
  refine ⟨⟨fun a us h => ?_, fun h c e => ?_, hnd.2⟩, ?_⟩
  · rw [ne (List.mem_append_left _ (List.mem_map.mpr ⟨_, h, rfl⟩))]
    exact g.own a us (List.mem_cons_of_mem _ h)
  · obtain ⟨s, i, cs, h1, h2, h3⟩ := g.vol h c e
    obtain ⟨m1, m2⟩ := hv e
    exact ⟨s, i, cs, by rw [ne m1]; exact h1, by rw [ne m2]; exact h2, h3⟩
  · funext a
    unfold mask del
    rw [cons_msk]
    by_cases h : a = p
    · rw [if_pos (show a ∈ p :: Z.msk by rw [h]; exact List.mem_cons_self), if_pos h]
      split <;> rfl
    · by_cases h2 : a ∈ Z.msk
      · rw [if_pos h2, if_pos (List.mem_cons_of_mem _ h2)]
      · have h3 : a ∉ p :: Z.msk := fun z => (List.mem_cons.mp z).elim h h2
        rw [if_neg h2, if_neg h, if_neg h3]
theorem RepE.le {K : PySem.W.Frag} {Z Z' : Zn} {O : Own} {H H' : Hp} {σ : L2.St} {env : Env'} (h : RepE K Z O H σ env) (le : Le (mask Z H) (mask Z' H')) (ev : Z'.vol = Z.vol) (sub : ∀ i a vs, (i, a, vs) ∈ O → (a, vs) ∈ Z'.own) : RepE K Z' O H' σ env := by
  refine ⟨h.len, fun i s e => ?_, sub⟩
  obtain ⟨v, h1, h2⟩ := h.at_ i s e
  refine ⟨v, h1, ?_⟩
  cases s with
  | un => trivial
  | val d => obtain ⟨x, q1, q2⟩ := h2; exact ⟨x, q1, by show Rep K Z'.vol _ _ _; rw [ev]; exact Rep.mono le q2⟩
  | own ds => obtain ⟨a, vs, q1, q2, q3⟩ := h2; exact ⟨a, vs, q1, q2, by show Reps K Z'.vol _ _ _; rw [ev]; exact Reps.mono le q3⟩
  | exc x => exact ⟨h2.1, h2.2.le le ev⟩
  | dlg g => exact ⟨h2.1, h2.2.1, h2.2.2.le le ev⟩
theorem fx_xk {K : PySem.W.Frag} {Z : Zn} {H : Hp} {σ : L2.St} {W : WX} : Xk K Z H σ FX W := fun _ h => h.elim
/-- the state of a comprehension's turn -/
structure LcAt (K : PySem.W.Frag) (Z : Zn) (O : Own) (G : Hp) (D : Addr) (acc : List V) (accd : List Dl.D) (H : Hp) : Prop where
  good : Good (Z.cons D acc) H
  le : Le G (mask (Z.cons D acc) H)
  rep : Reps K Z.vol (mask (Z.cons D acc) H) acc accd
theorem LcAt.step {K : PySem.W.Frag} {Z : Zn} {O : Own} {G : Hp} {D : Addr} {acc : List V} {accd : List Dl.D} {H H' : Hp} (a : LcAt K Z O G D acc accd H) (s : Step (Z.cons D acc) H H') : LcAt K Z O G D acc accd H' :=
  ⟨s.good, a.le.trans s.le, Reps.mono s.le a.rep⟩
theorem LcAt.push {K : PySem.W.Frag} {Z : Zn} {O : Own} {G : Hp} {D : Addr} {acc : List V} {accd : List Dl.D} {H : Hp} {v : V} {d : Dl.D} (a : LcAt K Z O G D acc accd H) (r : Rep K Z.vol (mask (Z.cons D acc) H) v d) : LcAt K Z O G D (acc ++ [v]) (accd ++ [d]) (upd H D (.lst (acc ++ [v]))) := by
  obtain ⟨h1, h2⟩ := cons_upd a.good (acc ++ [v])
  exact ⟨h1, by rw [h2]; exact a.le, by rw [h2]; exact a.rep.append (.one r)⟩
theorem LcAt.done {K : PySem.W.Frag} {Z : Zn} {O : Own} {H1 H : Hp} {D : Addr} {acc : List V} {accd : List Dl.D} {σ : L2.St} {Q0 : List Dl.D → Prop} {Q : VK} (a : LcAt K Z O (mask Z H1) D acc accd H) (h : Q0 accd)
    (q : ∀ ds, Q0 ds → ∀ p vs H2, Step Z H1 H2 → H2 p = none → RepsZ K Z H2 vs ds → Q (.ref p) (upd H2 p (.lst vs))) : Q (.ref D) H := by
  obtain ⟨h1, h2⟩ := cons_del a.good
  have e := q accd h D acc (del H D) ⟨by rw [h2]; exact a.le, h1⟩ del_same (by show Reps K Z.vol _ _ _; rw [h2]; exact a.rep)
  rw [upd_del (a.good.own D acc List.mem_cons_self)] at e
  exact e
section
variable {K : PySem.W.Frag} {W : WX}
theorem lc_ev {fi : DA} {t : TG} {gt : DTg} {ws vs : List Nat} {ft : DB} {fe : DE} (ht : TgOk K t gt ws) (hw : ∀ i ∈ ws, i ∈ vs) : ∀ σ H Q, DTL K (dLc fi vs gt ft fe) W σ H Q → tLc (DTI K fi W) t (DTB K ft WF) (DT K fe WF) vs σ H Q := fun σ H Q ⟨Z, O, env, Q0, R0, at_, hf, x, q⟩ => by
  refine ⟨Z, O, env, _, R0, at_, hf, x, fun ds hds J H1 s it D hD => ?_⟩
  have a1 := at_.step s
  refine ⟨fun i m H' => m = ds.length - i ∧ i ≤ ds.length ∧ ∃ acc accd, LcAt K Z O (mask Z H1) D acc accd H' ∧ dLcL gt ft fe (wipeE env vs) (ds.drop i) accd Q0, ⟨_, rfl, Nat.zero_le _, [], [], ?_, hds⟩, ?_⟩
  · obtain ⟨g1, g2⟩ := cons_new a1.good [] hD
    exact ⟨g1, g2, .nil⟩
  rintro i m H' ⟨rfl, hi, acc, accd, la, h'⟩
  have evn : ∀ {acc : List V} {H' : Hp}, Good (Z.cons D acc) H' → Le (mask Z H1) (mask (Z.cons D acc) H') → At K (Z.cons D acc) O H' (wipe σ vs) (wipeE env vs) := fun {acc H'} g l =>
    ⟨g, (a1.env.le l rfl fun i a vs h => List.mem_cons_of_mem _ (a1.env.sub i a vs h)).wipe vs⟩
  by_cases hlt : i < ds.length
  · have hd : ds[i]? = some ds[i] := List.getElem?_eq_getElem hlt
    obtain ⟨g1, g2⟩ := it.go (Z.cons D acc) H' rfl la.le la.good i _ hd
    rw [List.drop_eq_getElem_cons hlt] at h'
    refine .inr ⟨g1, fun H3 => ∃ acc accd, LcAt K Z O (mask Z H1) D acc accd H3 ∧ dLcL gt ft fe (wipeE env vs) (ds.drop (i + 1)) accd Q0, fun H3 ⟨acc3, accd3, l3, h3⟩ => ⟨ds.length - (i + 1), by omega, rfl, hlt, acc3, accd3, l3, h3⟩, fun y H2 hy => ?_⟩
    obtain ⟨s2, r2⟩ := g2 y H2 hy
    have la2 := la.step s2
    refine ht _ O H2 (wipe σ vs) (wipeE env vs) y _ _ _ (evn la2.good la2.le) r2 h' fun e1 h1 σ2 a2 hwp => ?_
    refine ⟨(hwp vs hw).trans (wipe_wipe σ vs), ?_⟩
    refine DTB.mk a2 h1 fx_xk fun b hb H3 s3 => ?_
    have la3 := la2.step s3
    cases b with
    | false =>
      rw [if_neg Bool.false_ne_true] at hb ⊢
      exact ⟨acc, accd, la3, hb⟩
    | true =>
      rw [if_pos rfl] at hb ⊢
      refine DT.mk (a2.step s3) hb fx_xk fun z hz v H4 s4 r4 => ?_
      have la4 := la3.step s4
      refine ⟨acc, la4.good.own D acc List.mem_cons_self, by rw [la4.rep.length]; exact hz.1, acc ++ [v], accd ++ [z], la4.push r4, hz.2⟩
  · have e : i = ds.length := by omega
    subst e
    rw [List.drop_length] at h'
    exact .inl ⟨it.stop (Z.cons D acc) H' rfl la.le la.good _ (List.getElem?_eq_none (Nat.le_refl _)), la.done (σ := σ) h' fun ds' hq p vs' H2 s2 hp r => q ds' hq p vs' H2 (s.trans s2) hp r⟩
def dLcI (gt : DTg) (ft : DB) (fe : DE) (env : Env') : List D → List D → (List D → Prop) → Prop := dLcL gt ft fe env
def dLcO (gt : DTg) (ft : DB) (fi1 : DA) (vs1 : List Nat) (gt1 : DTg) (ft1 : DB) (fe : DE) (env : Env') : List D → List D → (List D → Prop) → Prop
  | [], acc, Q => Q acc
  | d :: ds, acc, Q => gt d env fun e1 => ft e1 (fun b => if b = true then fi1 e1 (fun es => dLcL gt1 ft1 fe (wipeE e1 vs1) es acc (fun acc' => dLcO gt ft fi1 vs1 gt1 ft1 fe env ds acc' Q)) FX else dLcO gt ft fi1 vs1 gt1 ft1 fe env ds acc Q) FX
def dLc2 (fi : DA) (vs : List Nat) (gt : DTg) (ft : DB) (fi1 : DA) (vs1 : List Nat) (gt1 : DTg) (ft1 : DB) (fe : DE) : DA := fun env Q R => fi env (fun ds => dLcO gt ft fi1 vs1 gt1 ft1 fe (wipeE env vs) ds [] Q) R
theorem lc2_ev {fi fi1 : DA} {t t1 : TG} {gt gt1 : DTg} {ws vs ws1 vs1 : List Nat} {ft ft1 : DB} {fe : DE} (ht : TgOk K t gt ws) (hw : ∀ i ∈ ws, i ∈ vs) (ht1 : TgOk K t1 gt1 ws1) (hw1 : ∀ i ∈ ws1, i ∈ vs1) :
    ∀ σ H Q, DTL K (dLc2 fi vs gt ft fi1 vs1 gt1 ft1 fe) W σ H Q → tLc2 (DTI K fi W) t (DTB K ft WF) (DTI K fi1 WF) t1 (DTB K ft1 WF) (DT K fe WF) vs vs1 σ H Q := fun σ H Q ⟨Z, O, env, Q0, R0, at_, hf, x, q⟩ => by
  refine ⟨Z, O, env, _, R0, at_, hf, x, fun ds hds J H1 s it D hD => ?_⟩
  have a1 := at_.step s
  refine ⟨fun i m H' => m = ds.length - i ∧ i ≤ ds.length ∧ ∃ acc accd, LcAt K Z O (mask Z H1) D acc accd H' ∧ dLcO gt ft fi1 vs1 gt1 ft1 fe (wipeE env vs) (ds.drop i) accd Q0, ⟨_, rfl, Nat.zero_le _, [], [], ?_, hds⟩, ?_⟩
  · obtain ⟨g1, g2⟩ := cons_new a1.good [] hD
    exact ⟨g1, g2, .nil⟩
  rintro i m H' ⟨rfl, hi, acc, accd, la, h'⟩
  have evn : ∀ {acc : List V} {H' : Hp}, Good (Z.cons D acc) H' → Le (mask Z H1) (mask (Z.cons D acc) H') → At K (Z.cons D acc) O H' (wipe σ vs) (wipeE env vs) := fun {acc H'} g l =>
    ⟨g, (a1.env.le l rfl fun i a vs h => List.mem_cons_of_mem _ (a1.env.sub i a vs h)).wipe vs⟩
  by_cases hlt : i < ds.length
  · have hd : ds[i]? = some ds[i] := List.getElem?_eq_getElem hlt
    obtain ⟨g1, g2⟩ := it.go (Z.cons D acc) H' rfl la.le la.good i _ hd
    rw [List.drop_eq_getElem_cons hlt] at h'
    refine .inr ⟨g1, fun H3 => ∃ acc accd, LcAt K Z O (mask Z H1) D acc accd H3 ∧ dLcO gt ft fi1 vs1 gt1 ft1 fe (wipeE env vs) (ds.drop (i + 1)) accd Q0, fun H3 ⟨acc3, accd3, l3, h3⟩ => ⟨ds.length - (i + 1), by omega, rfl, hlt, acc3, accd3, l3, h3⟩, fun y H2 hy => ?_⟩
    obtain ⟨s2, r2⟩ := g2 y H2 hy
    have la2 := la.step s2
    refine ht _ O H2 (wipe σ vs) (wipeE env vs) y _ _ _ (evn la2.good la2.le) r2 h' fun e1 h1 σ2 a2 hwp => ?_
    refine ⟨(hwp vs hw).trans (wipe_wipe σ vs), ?_⟩
    refine DTB.mk a2 h1 fx_xk fun b hb H3 s3 => ?_
    have la3 := la2.step s3
    cases b with
    | false =>
      rw [if_neg Bool.false_ne_true] at hb ⊢
      exact ⟨acc, accd, la3, hb⟩
    | true =>
      rw [if_pos rfl] at hb ⊢
      have a3 := a2.step s3
      refine ⟨Z.cons D acc, O, e1, _, FX, a3, hb, fx_xk, fun es hes J1 H4 s4 it1 => ?_⟩
      have la4 := la3.step s4
      have a4 := a3.step s4
      refine ⟨fun j k H' => k = es.length - j ∧ j ≤ es.length ∧ ∃ acc' accd', LcAt K Z O (mask (Z.cons D acc) H4) D acc' accd' H' ∧ Le (mask Z H1) (mask (Z.cons D acc') H') ∧ dLcL gt1 ft1 fe (wipeE e1 vs1) (es.drop j) accd' (fun acc' => dLcO gt ft fi1 vs1 gt1 ft1 fe (wipeE env vs) (ds.drop (i + 1)) acc' Q0),
        ⟨_, rfl, Nat.zero_le _, acc, accd, ⟨la4.good, Le.refl _, la4.rep⟩, la4.le, hes⟩, ?_⟩
      rintro j k H5 ⟨rfl, hj, acc', accd', lb, lle, h5⟩
      by_cases hjl : j < es.length
      · have hde : es[j]? = some es[j] := List.getElem?_eq_getElem hjl
        obtain ⟨p1, p2⟩ := it1.go (Z.cons D acc') H5 rfl lb.le lb.good j _ hde
        rw [List.drop_eq_getElem_cons hjl] at h5
        refine .inr ⟨p1, fun H6 => ∃ acc' accd', LcAt K Z O (mask (Z.cons D acc) H4) D acc' accd' H6 ∧ Le (mask Z H1) (mask (Z.cons D acc') H6) ∧ dLcL gt1 ft1 fe (wipeE e1 vs1) (es.drop (j + 1)) accd' (fun acc' => dLcO gt ft fi1 vs1 gt1 ft1 fe (wipeE env vs) (ds.drop (i + 1)) acc' Q0), fun H6 ⟨a6, d6, l6, q6, h6⟩ => ⟨es.length - (j + 1), by omega, rfl, hjl, a6, d6, l6, q6, h6⟩, fun y H6 hy => ?_⟩
        obtain ⟨s6, r6⟩ := p2 y H6 hy
        have lb6 := lb.step s6
        have lle6 := lle.trans s6.le
        have a6 : At K (Z.cons D acc') O H6 (wipe σ2 vs1) (wipeE e1 vs1) := ⟨lb6.good, (a4.env.le lb6.le rfl fun i a vs h => List.mem_cons_of_mem _ (a1.env.sub i a vs h)).wipe vs1⟩
        refine ht1 _ O H6 (wipe σ2 vs1) (wipeE e1 vs1) y _ _ _ a6 r6 h5 fun e7 h7 σ7 a7 hwp7 => ?_
        refine ⟨(hwp7 vs1 hw1).trans (wipe_wipe σ2 vs1), ?_⟩
        refine DTB.mk a7 h7 fx_xk fun b hb H8 s8 => ?_
        have lb8 := lb6.step s8
        have lle8 := lle6.trans s8.le
        cases b with
        | false =>
          rw [if_neg Bool.false_ne_true] at hb ⊢
          exact ⟨acc', accd', lb8, lle8, hb⟩
        | true =>
          rw [if_pos rfl] at hb ⊢
          refine DT.mk (a7.step s8) hb fx_xk fun z hz v H9 s9 r9 => ?_
          have lb9 := lb8.step s9
          refine ⟨acc', lb9.good.own D acc' List.mem_cons_self, by rw [lb9.rep.length]; exact hz.1, acc' ++ [v], accd' ++ [z], lb9.push r9, ?_, hz.2⟩
          rw [(cons_upd lb9.good (acc' ++ [v])).2]
          exact lle8.trans s9.le
      · have e : j = es.length := by omega
        subst e
        rw [List.drop_length] at h5
        exact .inl ⟨it1.stop (Z.cons D acc') H5 rfl lb.le lb.good _ (List.getElem?_eq_none (Nat.le_refl _)), acc', accd', ⟨lb.good, lle, lb.rep⟩, h5⟩
  · have e : i = ds.length := by omega
    subst e
    rw [List.drop_length] at h'
    exact .inl ⟨it.stop (Z.cons D acc) H' rfl la.le la.good _ (List.getElem?_eq_none (Nat.le_refl _)), la.done (σ := σ) h' fun ds' hq p vs' H2 s2 hp r => q ds' hq p vs' H2 (s.trans s2) hp r⟩
end
theorem PTs.imp {X : Cx} {e : List Expr} {t t' : TT} (h : L2.PTs X e t) (i : ∀ σ H Q, t' σ H Q → t σ H Q) : L2.PTs X e t' := ⟨fun pins s σ H Q I q => h.run pins s σ H Q I (i σ H Q q)⟩
abbrev PDTs (X : Cx) (W : WX) (ifs : List Expr) (f : DB) : Prop := L2.PTs X ifs (DTB X.K f W)
section
variable {X : Cx} {W : WX} {pos spos : Pos} {elt tg iter : Expr} {ifs : List Expr} {scope : Scope} {own : List (Str × Nat)} {fi : DA} {t : TG} {gt : DTg} {ws : List Nat} {ft : DB} {fe : DE}
theorem pdts_nil : PDTs X W [] dYes := PTs.imp pts_nil fun σ H Q ⟨Z, O, env, Q0, R0, at_, hf, x, q⟩ => q _ hf H (Step.refl at_.good)
theorem pdts_one {c : Expr} {f : DB} (h : PDB X W c f) : PDTs X W [c] f := pts_one h
theorem pdl_lc (hc : X.calm = true) (hN : X.N.Nodup) (hi : PDI X W tg iter fi) (ok : BlkOk X.N X.env.scope scope own) (htg : TgOk X.K t gt ws) (hw : ∀ i ∈ ws, i ∈ own.map (·.2))
    (hg : ∀ (s : Shared) (H : Hp) (C : Addr) (cl : List (Str × Addr)) (fp : List Addr), L2.PG (X.blk s H scope (compEnvC scope cl C X.env) fp) tg t)
    (ht : ∀ (s : Shared) (H : Hp) (C : Addr) (cl : List (Str × Addr)) (fp : List Addr), PDTs (X.blk s H scope (compEnvC scope cl C X.env) fp) WF ifs ft)
    (he : ∀ (s : Shared) (H : Hp) (C : Addr) (cl : List (Str × Addr)) (fp : List Addr), PD (X.blk s H scope (compEnvC scope cl C X.env) fp) WF elt fe) (hs : ∀ x, foldedSetIterable iter X.env x = pure x := by intro _; rfl) :
    PDL X W (.ListComp elt [⟨tg, iter, ifs, 0⟩] scope pos) (dLc fi (own.map (·.2)) gt ft fe) := PE.imp (pe_lc hc hN hi ok hg ht he hs) (lc_ev htg hw)
theorem ds_setLc {i : Nat} {y : Str} {py : Pos} (hc : X.calm = true) (hN : X.N.Nodup) (hy : X.N[i]? = some y) (hyl : X.env.scope.names.lookup y = some .local)
    (hsw : swapsWith (.ListComp elt [⟨tg, iter, ifs, 0⟩] scope pos) (some (.Name y py)) spos.line X.env = pure true) (hi : PDI X W tg iter fi) (ok : BlkOk X.N X.env.scope scope own) (htg : TgOk X.K t gt ws) (hw : ∀ i ∈ ws, i ∈ own.map (·.2))
    (hg : ∀ (s : Shared) (H : Hp) (C : Addr) (cl : List (Str × Addr)) (fp : List Addr), L2.PG (X.blk s H scope (compEnvC scope cl C X.env) fp) tg t)
    (ht : ∀ (s : Shared) (H : Hp) (C : Addr) (cl : List (Str × Addr)) (fp : List Addr), PDTs (X.blk s H scope (compEnvC scope cl C X.env) fp) WF ifs ft)
    (he : ∀ (s : Shared) (H : Hp) (C : Addr) (cl : List (Str × Addr)) (fp : List Addr), PD (X.blk s H scope (compEnvC scope cl C X.env) fp) WF elt fe) (hs : ∀ x, foldedSetIterable iter X.env x = pure x := by intro _; rfl) :
    PDS X W (.Assign [.Name y py] (.ListComp elt [⟨tg, iter, ifs, 0⟩] scope pos) spos) (dSet i (dL (dLc fi (own.map (·.2)) gt ft fe))) := PS.imp (ps_setLc hc hN hy hyl hsw hi ok hg ht he hs) fun D σ H ⟨Z, O, env, k, a, h, ko⟩ =>
  lc_ev htg hw σ H _ ⟨Z.add O, O, env, _, _, a, h, ko.xk a, fun ds hds p vs H1 s hp r => ko.nx _ hds O _ _ (s.trans (Step.new s.good _ hp)).le ((a.step (s.trans (Step.new s.good _ hp))).set (new_lst s.good hp r) i)⟩
theorem pdl_lc2 {tg1 iter1 : Expr} {ifs1 : List Expr} {vs1 : List Nat} {fi1 : DA} {t1 : TG} {gt1 : DTg} {ws1 : List Nat} {ft1 : DB} (hc : X.calm = true) (hN : X.N.Nodup) (hi : PDI X W tg iter fi) (ok : BlkOk X.N X.env.scope scope own) (hv : ∀ i ∈ vs1, i ∈ own.map (·.2)) (htg : TgOk X.K t gt ws) (hw : ∀ i ∈ ws, i ∈ own.map (·.2)) (htg1 : TgOk X.K t1 gt1 ws1) (hw1 : ∀ i ∈ ws1, i ∈ vs1)
    (hg : ∀ (s : Shared) (H : Hp) (C : Addr) (cl : List (Str × Addr)) (fp : List Addr), L2.PG (X.blk s H scope (compEnvC scope cl C X.env) fp) tg t)
    (ht : ∀ (s : Shared) (H : Hp) (C : Addr) (cl : List (Str × Addr)) (fp : List Addr), PDTs (X.blk s H scope (compEnvC scope cl C X.env) fp) WF ifs ft)
    (hi1 : ∀ (s : Shared) (H : Hp) (C : Addr) (cl : List (Str × Addr)) (fp : List Addr), PDI (X.blk s H scope (compEnvC scope cl C X.env) fp) WF tg1 iter1 fi1)
    (hg1 : ∀ (s : Shared) (H : Hp) (C : Addr) (cl : List (Str × Addr)) (fp : List Addr), L2.PG (X.blk s H scope (compEnvC scope cl C X.env) fp) tg1 t1)
    (ht1 : ∀ (s : Shared) (H : Hp) (C : Addr) (cl : List (Str × Addr)) (fp : List Addr), PDTs (X.blk s H scope (compEnvC scope cl C X.env) fp) WF ifs1 ft1)
    (he : ∀ (s : Shared) (H : Hp) (C : Addr) (cl : List (Str × Addr)) (fp : List Addr), PD (X.blk s H scope (compEnvC scope cl C X.env) fp) WF elt fe) (hs : ∀ x, foldedSetIterable iter X.env x = pure x := by intro _; rfl) (hs1 : ∀ env x, foldedSetIterable iter1 env x = pure x := by intro _ _; rfl) :
    PDL X W (.ListComp elt [⟨tg, iter, ifs, 0⟩, ⟨tg1, iter1, ifs1, 0⟩] scope pos) (dLc2 fi (own.map (·.2)) gt ft fi1 vs1 gt1 ft1 fe) := PE.imp (pe_lc2 hc hN hi ok hv hg ht hi1 hg1 ht1 he hs hs1) (lc2_ev htg hw htg1 hw1)
theorem ds_setLc2 {i : Nat} {y : Str} {py : Pos} {tg1 iter1 : Expr} {ifs1 : List Expr} {vs1 : List Nat} {fi1 : DA} {t1 : TG} {gt1 : DTg} {ws1 : List Nat} {ft1 : DB} (hc : X.calm = true) (hN : X.N.Nodup) (hy : X.N[i]? = some y) (hyl : X.env.scope.names.lookup y = some .local)
    (hsw : swapsWith (.ListComp elt [⟨tg, iter, ifs, 0⟩, ⟨tg1, iter1, ifs1, 0⟩] scope pos) (some (.Name y py)) spos.line X.env = pure true) (hi : PDI X W tg iter fi) (ok : BlkOk X.N X.env.scope scope own) (hv : ∀ i ∈ vs1, i ∈ own.map (·.2)) (htg : TgOk X.K t gt ws) (hw : ∀ i ∈ ws, i ∈ own.map (·.2)) (htg1 : TgOk X.K t1 gt1 ws1) (hw1 : ∀ i ∈ ws1, i ∈ vs1)
    (hg : ∀ (s : Shared) (H : Hp) (C : Addr) (cl : List (Str × Addr)) (fp : List Addr), L2.PG (X.blk s H scope (compEnvC scope cl C X.env) fp) tg t)
    (ht : ∀ (s : Shared) (H : Hp) (C : Addr) (cl : List (Str × Addr)) (fp : List Addr), PDTs (X.blk s H scope (compEnvC scope cl C X.env) fp) WF ifs ft)
    (hi1 : ∀ (s : Shared) (H : Hp) (C : Addr) (cl : List (Str × Addr)) (fp : List Addr), PDI (X.blk s H scope (compEnvC scope cl C X.env) fp) WF tg1 iter1 fi1)
    (hg1 : ∀ (s : Shared) (H : Hp) (C : Addr) (cl : List (Str × Addr)) (fp : List Addr), L2.PG (X.blk s H scope (compEnvC scope cl C X.env) fp) tg1 t1)
    (ht1 : ∀ (s : Shared) (H : Hp) (C : Addr) (cl : List (Str × Addr)) (fp : List Addr), PDTs (X.blk s H scope (compEnvC scope cl C X.env) fp) WF ifs1 ft1)
    (he : ∀ (s : Shared) (H : Hp) (C : Addr) (cl : List (Str × Addr)) (fp : List Addr), PD (X.blk s H scope (compEnvC scope cl C X.env) fp) WF elt fe) (hs : ∀ x, foldedSetIterable iter X.env x = pure x := by intro _; rfl) (hs1 : ∀ env x, foldedSetIterable iter1 env x = pure x := by intro _ _; rfl) :
    PDS X W (.Assign [.Name y py] (.ListComp elt [⟨tg, iter, ifs, 0⟩, ⟨tg1, iter1, ifs1, 0⟩] scope pos) spos) (dSet i (dL (dLc2 fi (own.map (·.2)) gt ft fi1 vs1 gt1 ft1 fe))) := PS.imp (ps_setLc2 hc hN hy hyl hsw hi ok hv hg ht hi1 hg1 ht1 he hs hs1) fun D σ H ⟨Z, O, env, k, a, h, ko⟩ =>
  lc2_ev htg hw htg1 hw1 σ H _ ⟨Z.add O, O, env, _, _, a, h, ko.xk a, fun ds hds p vs H1 s hp r => ko.nx _ hds O _ _ (s.trans (Step.new s.good _ hp)).le ((a.step (s.trans (Step.new s.good _ hp))).set (new_lst s.good hp r) i)⟩
/-- the context of a comprehension's block -/
theorem Cn.blk {k : Nat} (c : Cn X W k) {s : Shared} {H : Hp} {scope : Scope} {cenv : Env} {fp : List Addr} : Cn (X.blk s H scope cenv fp) WF k := ⟨takes0, PassesOwn.never, c.hr, c.hc⟩
end
/-! what a comprehension makes, by a function of its items -/
theorem lcl_map {gt : DTg} {ft : DB} {fe : DE} {env : Env'} (h : D → D) {Q : List D → Prop} : ∀ (ds acc : List D), (∀ d ∈ ds, ∀ (Q1 : D → Prop) (Q2 : Prop), Q1 (h d) → gt d env fun e1 => ft e1 (fun b => if b = true then fe e1 Q1 FX else Q2) FX) → acc.length + ds.length ≤ sizeLine → Q (acc ++ ds.map h) → dLcL gt ft fe env ds acc Q
  | [], acc, _, _, q => by simpa [dLcL] using q
  | d :: ds, acc, hs, hl, q => by
    unfold dLcL
    simp only [List.length_cons] at hl
    refine hs d List.mem_cons_self _ _ ⟨by omega, lcl_map h ds _ (fun x hx => hs x (List.mem_cons_of_mem _ hx)) (by simp; omega) ?_⟩
    simpa using q
theorem lcl_filter {gt : DTg} {ft : DB} {fe : DE} {env : Env'} (p : D → Bool) (h : D → D) {Q : List D → Prop} : ∀ (ds acc : List D), (∀ d ∈ ds, ∀ (Q1 : D → Prop) (Q2 : Prop), (p d = true → Q1 (h d)) → (p d = false → Q2) → gt d env fun e1 => ft e1 (fun b => if b = true then fe e1 Q1 FX else Q2) FX) → acc.length + ds.length ≤ sizeLine → Q (acc ++ (ds.filter p).map h) → dLcL gt ft fe env ds acc Q
  | [], acc, _, _, q => by simpa [dLcL] using q
  | d :: ds, acc, hs, hl, q => by
    unfold dLcL
    simp only [List.length_cons] at hl
    refine hs d List.mem_cons_self _ _ (fun e => ⟨by omega, lcl_filter p h ds _ (fun x hx => hs x (List.mem_cons_of_mem _ hx)) (by simp; omega) ?_⟩) (fun e => lcl_filter p h ds _ (fun x hx => hs x (List.mem_cons_of_mem _ hx)) (by omega) ?_)
    · simpa [List.filter_cons, e] using q
    · simpa [List.filter_cons, e] using q
end Dl

set_option maxHeartbeats 4000000
/-! The tree layer: exceptions. -/
namespace PySem.W
open PySem PySem.Spec PySem.Calls PyProof.Rows
section
variable {prog : Program} {w : World} {A : Around} {E : Value → Shared → Prop} {s : Shared} {K : Frag} {x D : Addr} {ox : Obj} {od : Option Obj}
/-- the class of an own error with whatever dict -/
theorem dl_classE {Q : Option Value → Shared → Prop} (hga : findIn K (.ref D) "__getattribute__" = some (some (.builtin "BaseException.__getattribute__"))) (hgt : findIn K (.ref D) "__getattr__" = some none) (hsub : subIn K (.ref D) (.type "BaseException") = some true)
    (hdct : hasDictIn K D = true) (ha : findIn K (.ref D) "__class__" = some (some (.builtin "object.__class__")))
    (hn : specialIn K (.builtin "object.__class__") "__get__" = some (some (.builtin "getset_descriptor.__get__"))) (htk : takesIn K (.builtin "object.__class__") = some true) (hm : mroIn K D (.type "object") = some true)
    (X : K.In s.heap) (I : InstAt s.heap x ox D od) (h : Q (some (.ref D)) { s with toks := s.toks + 1 }) : wpAny (model prog w) A (getAttr? (.ref x) "__class__") Q E s := by
  have hcl : (clsIn K D).isSome = true := by obtain ⟨cd, hc, _⟩ := any_some hdct; rw [hc]; rfl
  have hf : findObj K D od "__class__" = some (.bind (.builtin "getset_descriptor.__get__") (.builtin "object.__class__")) := by
    cases od with
    | none => exact findObj_dataN hcl ha hn htk
    | some o => exact findObj_data hcl ha hn htk
  obtain ⟨hp, g, d, t, os⟩ := s
  have K0 := I.type (M := model prog w)
  have K1 := looks_findIn (M := model prog w) X hga
  have K2 := looks_findIn (M := model prog w) X hgt
  have K3 := looks_find (M := model prog w) X I hf
  have sub : Looks (model prog w) hp (isInstance (.ref x) (.type "BaseException")) true := K0.andThen (looks_subIn X hsub)
  have b0 : (false && onTheHeap (Value.builtin "BaseException.__getattribute__")) = false := rfl
  have b2 : (Value.builtin "BaseException.__getattribute__" == Value.builtin "object.__getattribute__") = false := by decide +kernel
  have b1 : (onTheHeap (Value.ref D) && Value.builtin "BaseException.__getattribute__" == Value.builtin "object.__getattribute__") = false := by rw [b2]; rfl
  unfold getAttr? getAttrBy? getAttrBy
  refine wpAny_bind (wpAny_mkText (wpAny_bind (wpAny_attempt (wpAny_holding (wpAny_bind (K0.at (wpAny_bind (K1.at ?_))))))))
  show wpAny _ _ (if (onTheHeap (Value.ref D) && Value.builtin "BaseException.__getattribute__" == Value.builtin "object.__getattribute__") = true then _ else _) _ _ _
  rw [b1, if_neg Bool.false_ne_true]
  unfold getAttrByItsOwn hookBefore
  refine wpAny_bind ?_
  rw [if_pos (show onTheHeap (Value.ref D) = true from rfl)]
  refine K2.at (wpAny_bind (wpAny_attempt (wpAny_holding ?_)))
  unfold callGetattribute
  rw [b0, if_neg Bool.false_ne_true]
  unfold boundAndCalled
  rw [PySem.F.excAttr_ValueError.ga.bind (.ref x)]
  refine wpAny_bind (wpAny_pure ?_)
  show wpAny _ _ (call (.builtin "BaseException.__getattribute__") [.ref x, .str "__class__" t]) _ _ _
  refine wpAny_call (codeAny_call_builtin PySem.F.excAttr_ValueError.ga.plain PySem.F.entry_bexc_ga ?_)
  refine @check_slot (model prog w) _ _ ⟨hp, g, d, t + 1, os⟩ "BaseException.__getattribute__" "BaseException" "__getattribute__" (.ref x) [.str "__class__" t] [] _ (by decide +kernel) (by decide +kernel) sub (PySem.F.args_bexc_ga (.ref x) (.str "__class__" t)) ?_
  unfold Builtin.«object.__getattribute__»
  refine wpAny_bind (wpAny_of_eq (a := ((Value.ref x : Value), [Value.str "__class__" t])) (by first | rfl | (simp only [slotArgs]; rfl)) ?_)
  refine wpAny_bind (wpAny_pure (wpAny_bind (K0.at (wpAny_bind (K3.at ?_)))))
  show wpAny _ _ (holding [Value.builtin "object.__class__"] (call (.builtin "getset_descriptor.__get__") [.builtin "object.__class__", .ref x, .ref D]) >>= ret) _ _ _
  refine wpAny_bind (wpAny_holding (wpAny_call (class_get (s := ⟨hp, g, d, t + 1, os⟩) (ox := ox) (od := od) X I hm ?_)))
  refine wpAny_pure ?_
  show wpAny _ _ (handedOut (.ref D)) _ _ _
  rw [handedOut_of (v := .ref D) rfl]
  first
    | exact wpAny_pure (wpAny_pure h)
    | exact wpAny_pure h
    | exact wpAny_pure (wpAny_bind (wpAny_pure (wpAny_pure h)))
theorem dl_kitx_exc (hga : findIn K (.ref D) "__getattribute__" = some (some (.builtin "BaseException.__getattribute__"))) (hgt : findIn K (.ref D) "__getattr__" = some none) (hsub : subIn K (.ref D) (.type "BaseException") = some true) (hdct : hasDictIn K D = true) (ha : findIn K (.ref D) "__class__" = some (some (.builtin "object.__class__")))
    (hn : specialIn K (.builtin "object.__class__") "__get__" = some (some (.builtin "getset_descriptor.__get__"))) (htk : takesIn K (.builtin "object.__class__") = some true) (hm : mroIn K D (.type "object") = some true) :
    KitX K (.ref x) (.ref D) (fun h => InstAt h x ox D od) where
  ty := fun _ _ _ I => I.type
  it := fun _ _ X _ => by
    obtain ⟨cdD, hcD, _⟩ := any_some hdct
    unfold clsIn at hcD
    split at hcD
    · rename_i c' d' cd' sl' ho
      intro A' Q' E' s' k q
      unfold isType loadHead
      exact wpAny_bind (wpAny_loadPart (k _ _ (X _ _ ho)) (wpAny_pure q))
    · cases hcD
  ne := (handS_kitx_exc (x := x) (ox := ox) hga hgt hsub hdct ha hn htk hm).ne
  ca := fun X I k => dl_classE hga hgt hsub hdct ha hn htk hm X I k
end
end PySem.W
namespace Dl
open PySem PySem.Spec PyProof.Rows L2

/-! ### exceptions made -/
abbrev DM := Env' → (Exc → Prop) → DX → Prop
def DTM (K : PySem.W.Frag) (f : DM) (W : WX) : L2.St → Hp → XK → Prop := fun σ H Q => ∃ Z O env, ∃ (Q0 : Exc → Prop) (R0 : DX), At K Z O H σ env ∧ f env Q0 R0 ∧ Xk K Z H σ R0 W ∧ ∀ x, Q0 x → ∀ cls d H', Step Z H H' → RepX K Z H' cls d x → Q cls d H'
abbrev PDM (X : Cx) (W : WX) (e : Expr) (f : DM) : Prop := PMk X e (DTM X.K f W)
def dRaise (f : DM) : DG := fun env k => f env (fun x => k.xc x env) (fun x => k.xc x env)
section
variable {X : Cx} {W : WX} {pos p : Pos} {e : Expr} {es : List Expr} {x : Str} {C : Addr} {fm : DM} {fs : DA} {k : Nat}
theorem ds_raise (hc : X.calm = true) (tk : Takes X W) (he : PDM X W e fm) : PDS X W (.Raise (some e) none pos) (dRaise fm) := PS.imp (ps_raise hc tk he) fun D σ H ⟨Z, O, env, k, a, h, ko⟩ =>
  ⟨_, O, env, _, _, a, h, ko.xk a, fun x hx cls d H' s r => ko.xc x env hx O cls d σ H' s.le (a.step s) r⟩
/-- C(), a class of errors without an __init__ of its own -/
def dMk0 (C : Addr) : DM := fun _ Q _ => Q ⟨C, none⟩
theorem pmd_own0 {bmB : List Value} {B newId initId : String} (F : ExcBaseFacts B newId initId bmB) (q : PySem.W.excIn X.K C bmB newId = true) (gC : X.mg x = some (.ref C)) (kC : PySem.W.keepIn X.K (.ref C) = true) (r : Raises X (.ref C)) (hg : Gl X x)
    (hdb : (x == ("__debug__" : Str)) = false := by decide) : PDM X W (.Call (.Name x p) [] [] pos) (dMk0 C) := by
  intro pins s σ H Q I ⟨Z, O, env, Q0, R0, a, hf, xk, hq⟩
  refine wpAny_Call_Name_kw (ld_glob I hg gC ?_ hdb)
  refine PySem.W.callWith_K0 I.kIn kC ?_
  show wpAny _ _ (call (.ref C) []) _ _ _
  obtain ⟨bm, N, nm, qn, bs, hdct, sn, sub, ab, col, dd, k0, k1, k2, k3, k5, mN, hC, hN, hni, T⟩ := exc_obj I.kIn q
  refine wpAny_call_exc_subT F T hC hN hni (fun h' e hm => ?_) (Nat.zero_le _)
  exact mk_of I hm r (hq _ hf (.ref C) none H (Step.refl a.good) ⟨rfl, rfl⟩) (I.hok.gone hm.new)
/-- what an own __init__(self, f, ..) does: it stores its arguments under these names -/
def spX (C : Addr) (ns : List Str) : Sp := fun vs H Q E => ∃ (a : Addr) (ys : List V) (H1 : Hp), vs = .ref a :: ys ∧ ys.length = ns.length ∧ H1 a = none ∧ H = upd H1 a (exo a C none) ∧
  ∀ d H2, H1 d = none → d ≠ a → H2 a = some (exo a C (some d)) → H2 d = some (exd d (ns.zip ys).reverse) → (∀ b, b ≠ a → b ≠ d → H2 b = H1 b) → Q .non H2
def dMk (C : Addr) (ns : List Str) (fs : DA) : DM := fun env Q R => fs env (fun ds => ds.length = ns.length ∧ Q ⟨C, some (ns.zip ds).reverse⟩) R
theorem zip_fst {α β : Type} : ∀ (ns : List α) (ys : List β), ys.length = ns.length → (ns.zip ys).map (·.1) = ns
  | [], [], _ => rfl
  | n :: ns, y :: ys, h => by
    rw [List.zip_cons_cons, List.map_cons, zip_fst ns ys (by simpa using h)]
  | [], _ :: _, h => by simp at h
  | _ :: _, [], h => by simp at h
theorem zip_snd {α β : Type} : ∀ (ns : List α) (ys : List β), ys.length = ns.length → (ns.zip ys).map (·.2) = ys
  | [], [], _ => rfl
  | n :: ns, y :: ys, h => by
    rw [List.zip_cons_cons, List.map_cons, zip_snd ns ys (by simpa using h)]
  | [], _ :: _, h => by simp at h
  | _ :: _, [], h => by simp at h
theorem pmd_oex {CX : CXT} {fI : Addr} {fd : FuncData} {ps : List Str} {ns : List Str} (T : OexC X.K C) (iC : PySem.W.findIn X.K (.ref C) "__init__" = some (some (.ref fI))) (tI : PySem.W.typeIn X.K (.ref fI) = some (.type "function"))
    (F1 : FnOk X.prog X.w X.K X.mg X.base CX k fI fd ps (spX C ns)) (hr : Room (k + 1) X.A) (hb : Binds X.K fd ps []) (hx : Passes CX X (fun _ _ _ => False)) (hg : Gl X x) (hm : X.mg x = some (.ref C)) (ha : PDA X W (e :: es) fs) (hn : ns.length ≤ 1000)
    (hdb : (x == ("__debug__" : Str)) = false := by decide) (he : starEach (e :: es) X.env = (false, eval e X.env) :: starEach es X.env := by rfl) (hpl : (backTo pos (starEach es X.env)).any (·.1) = false := by rfl) :
    PDM X W (.Call (.Name x p) (e :: es) [] pos) (dMk C ns fs) := by
  intro pins s σ H Q I ⟨Z, O, env, Q0, R0, a, hf, xk, hq⟩
  refine pmk_oex T iC tI F1 hr hb .nil hx hg hm ha hdb he hpl pins s σ H Q I ?_
  refine DTA.mk a hf xk fun ds hd vs H1 s1 r1 => ?_
  obtain ⟨hl, hd⟩ := hd
  have hvl := r1.length
  refine ⟨by rw [hvl, hl]; exact hn, fun q hq1 => ?_⟩
  refine ⟨q, vs ++ [], H1, rfl, by rw [List.append_nil, hvl, hl], hq1, rfl, fun d H2 hd1 hne h2 h3 h4 => ⟨rfl, d, _, h2, h3, hd1, ?_⟩⟩
  rw [List.append_nil]
  have hfn : ∀ b, b ≠ q → b ≠ d → (upd (L2.del H2 q) d (.xd (ns.zip vs).reverse)) b = H1 b := fun b hb1 hb2 => by rw [upd_ne hb2, L2.del_ne hb1]; exact h4 b hb1 hb2
  have stp : Step Z H1 (upd (L2.del H2 q) d (.xd (ns.zip vs).reverse)) := by
    have g := s1.good
    have keep : ∀ b o, H1 b = some o → (upd (L2.del H2 q) d (.xd (ns.zip vs).reverse)) b = some o := fun b o h => (hfn b (ne_of_none h hq1) (ne_of_none h hd1)).trans h
    refine ⟨fun b o h => ?_, fun b us hb => keep _ _ (g.own b us hb), fun h c hc => ?_, g.nd⟩
    · have hm : b ∉ Z.msk := fun hm => by rw [mask_in hm] at h; cases h
      rw [mask_of hm] at h ⊢
      exact keep _ _ h
    · obtain ⟨i, j, cs, h1, h2, h3⟩ := g.vol h c hc
      exact ⟨i, j, cs, keep _ _ h1, keep _ _ h2, h3⟩
  have hdm : d ∉ Z.msk := s1.good.fresh hd1
  refine hq _ hd (.ref C) (some d) _ (s1.trans stp) ⟨rfl, d, (ns.zip vs).reverse, rfl, by rw [mask_of hdm, upd_same], ?_, ?_⟩
  · rw [List.map_reverse, List.map_reverse, zip_fst ns vs (by rw [hvl, hl]), zip_fst ns ds hl]
  · rw [List.map_reverse, List.map_reverse, zip_snd ns vs (by rw [hvl, hl]), zip_snd ns ds hl]
    exact (r1.step stp).reverse
end

/-! ### try: clauses with and without a name -/
abbrev Cl := Value × Option Nat × (Addr → Value → Option Addr → TS)
def wMix (K : PySem.W.Frag) (Wout : WX) (D : Ends) : List Cl → WX
  | [] => Wout
  | (c, none, ts) :: r => fun cls d σ H => ∃ b, PySem.W.exmOne K cls c = some b ∧ (b = true → ∀ a, H a = none → ts a cls d D σ H) ∧ (b = false → wMix K Wout D r cls d σ H)
  | (c, some i, ts) :: r => fun cls d σ H => ∃ b, PySem.W.exmOne K cls c = some b ∧
    (b = true → ∀ a, H a = none → ts a cls d { nx := fun σ' H' => D.nx (σ'.set i none) H', rt := D.rt, bk := fun σ' H' => D.bk (σ'.set i none) H', ct := fun σ' H' => D.ct (σ'.set i none) H' } (σ.set i (some (.ref a))) H) ∧ (b = false → wMix K Wout D r cls d σ H)
inductive HdsM (X : Cx) : List ExceptHandler → List Cl → Prop
  | nil : HdsM X [] []
  | cons {x : Str} {c : Value} {ts : Addr → Value → Option Addr → TS} {b₀ : Stmt} {suite : List Stmt} {np pos' : Pos} {hds : List ExceptHandler} {l : List Cl} (hc : Names X x c)
      (hsu : ∀ (a : Addr) (oe : Obj) (cls : Value) (d : Option Addr) (pn : List (Addr × Obj)), Zc cls d oe → (∃ vs, oe.data = .fields vs) → L2.PSs (X.suite a ((a, oe) :: pn)) (b₀ :: suite) (ts a cls d)) (r : HdsM X hds l) :
      HdsM X (.ExceptHandler (some (.Name x np)) none (b₀ :: suite) pos' :: hds) ((c, none, ts) :: l)
  | conA {x n : Str} {i : Nat} {c : Value} {ts : Addr → Value → Option Addr → TS} {b₀ : Stmt} {suite : List Stmt} {np pos' : Pos} {hds : List ExceptHandler} {l : List Cl} (hc : Names X x c) (hi : X.N[i]? = some n) (hln : X.env.kindOf n = some .local)
      (hsu : ∀ (a : Addr) (oe : Obj) (cls : Value) (d : Option Addr) (pn : List (Addr × Obj)), Zc cls d oe → (∃ vs, oe.data = .fields vs) → L2.PSs (X.suite a ((a, oe) :: pn)) (b₀ :: suite) (ts a cls d)) (r : HdsM X hds l) :
      HdsM X (.ExceptHandler (some (.Name x np)) (some n) (b₀ :: suite) pos' :: hds) ((c, some i, ts) :: l)
section
variable {X : Cx} {body : List Stmt} {h₀ : ExceptHandler} {hds : List ExceptHandler} {l : List Cl} {pos : Pos} {tb : WX → TS} {Wout : WX}
theorem ps_try_mix (hs : X.stack = X.env :: X.outer) (hf : X.env.frame = some X.env.locals) (hN : X.N.Nodup) (tk : Takes X Wout)
    (hb : ∀ (W : WX) (pn : List (Addr × Obj)) (xe : Value → Shared → Prop), Takes (X.tr pn xe) W → PassesOwn (model X.prog X.w) X.A X.env xe → L2.PSs (X.tr pn xe) body (tb W))
    (hh : HdsM X (h₀ :: hds) l) : L2.PS X (.Try body (h₀ :: hds) [] [] pos) (fun D σ H => tb (wMix X.K Wout D l) D σ H) := by
  refine ⟨fun pins s σ H D I h => ?_⟩
  have ok := I.ok
  have hfr : X.A.frames = some (X.env :: X.outer) := by rw [ok.frames, hs]
  refine wpAny_Try_except ?_
  refine wpAny_mono ((hb (wMix X.K Wout D l) (X.pn ++ pins) (fun e s₁ => wpAny (model X.prog X.w) X.A (noteFrame e X.env) (fun _ s₂ => wpAny (model X.prog X.w) X.A (setFlight e none) (fun _ s₃ =>
    wpAny (model X.prog X.w) X.A (handleBy e X.env (h₀ :: hds)) (SP X pins D) X.xe s₃) X.xe s₂) X.xe s₁) (fun u s' xx => ?_) PassesOwn.looking).run [] s σ H D (I.toTry _) h) (fun f s1 hsp => ?_) (fun e s1 he => he)
  · obtain ⟨a, B, sI, pins', σ', H', cls, d, rfl, J', nb, up, sky, na, os, ag, w⟩ := xx
    have J : Inv X pins σ' H' sI := J'.ofTry ok
    have sky' : Sky B (X.env :: X.outer) a (Zc cls d) X.env.locals s'.heap := by rw [← hs]; exact sky
    show wpAny (model X.prog X.w) X.A (noteFrame (.ref a) X.env) _ _ _
    refine Sky.land Zc.steady hfr hf sky' fun h3 fl3 up3 => ?_
    have J3 : Inv X pins σ' H' { s' with heap := h3 } := J.landed nb fl3.1 (up.trans up3) os ag
    obtain ⟨oe3, vs3, he3, hz3, hd3⟩ := fl3.there
    have notFr : ∀ {h : Heap} {o : Obj} {vs : Array Value}, h.FunFrames B (X.env :: X.outer) → h.get? a = some o → o.data = .fields vs → a ∉ frs (X.env :: X.outer) := fun {h o vs} ff e dd hm => by
      obtain ⟨_, o', e', hnf⟩ := ff.mem hm
      rw [e] at e'
      cases e'
      exact hnf _ dd
    have nfr := notFr fl3.2.2.1 he3 hd3
    have nL : a ≠ X.env.locals := fun z => nfr (List.mem_filterMap.mpr ⟨X.env, List.mem_cons_self, by rw [hf, z]⟩)
    have nF : a ∉ X.fs := fun hm => by
      obtain ⟨e, he, q⟩ := List.mem_filterMap.mp hm
      exact nfr (List.mem_filterMap.mpr ⟨e, List.mem_cons_of_mem _ he, q⟩)
    have S3 := J3.suite he3 hd3 na nL nF
    have LT : PySem.W.Looks (model X.prog X.w) h3 (typeOf (.ref a)) cls := fun A Q E s k q => wpAny_typeOf_ref (k _ _ he3) (by rw [hz3.1]; exact q)
    have test : ∀ {x : Str} {c : Value} {np : Pos} {Q : Value → Shared → Prop} {E : Value → Shared → Prop}, Names X x c → Q c { s' with heap := h3 } → wpAny (model X.prog X.w) (X.A.mark (some (.ref a))) (eval (.Name x np) X.env) Q E { s' with heap := h3 } := fun {x c np Q E} hc q => by
      obtain ⟨hg, hdbg, hm | ⟨hm, hv, hnn⟩⟩ := hc
      · exact ld_glob (X := X.suite a ((a, oe3) :: (X.pn ++ pins))) S3 hg hm q hdbg
      · exact ld_blt (X := X.suite a ((a, oe3) :: (X.pn ++ pins))) S3 hg hm hv q hnn hdbg
    have go : ∀ {hds' : List ExceptHandler} {l' : List Cl}, HdsM X hds' l' → wMix X.K Wout D l' cls d σ' H' →
        wpAny (model X.prog X.w) X.A (handleBy (.ref a) X.env hds') (SP X pins D) X.xe { s' with heap := h3 } := by
      intro hds' l' hk
      induction hk with
      | nil =>
        intro w
        refine wpAny_handleBy_nil ?_
        obtain ⟨k1, k2, k3, oe, vs, T, oT, ts', he, hz, hd, h1, hr⟩ := id fl3
        unfold PySem.passOn
        refine wpAny_bind (wpAny_field he hd h1 ?_)
        rw [if_neg (show ¬ ((Value.ref T == Value.none) = true) from by simp)]
        have fin : wpAny (model X.prog X.w) X.A (setFlight (.ref a) X.env.frame) (fun _ s4 => wpAny (model X.prog X.w) X.A (throw (.ref a) : Sem Flow) (SP X pins D) X.xe s4) X.xe { s' with heap := h3 } := by
          rw [hf]
          refine HandSPX.setFlight_upZ fl3 fun h4 hh4 up4 => wpAny_throw (tk _ _ ?_)
          exact ⟨a, B, sI, pins, σ', H', cls, d, rfl, J, nb, (up.trans up3).trans up4, .inr (.inr (by rw [hs]; exact hh4)), na, os, ag, w⟩
        first
          | exact wpAny_bind (wpAny_pure (wpAny_bind fin))
          | exact wpAny_bind fin
      | @cons x c ts b₀ suite np pos' hds2 l2 hc hsu r ih =>
        intro w
        obtain ⟨b, hb1, hyes, hno⟩ := w
        refine wpAny_handleBy_cons (codeAny_handlers_test (test hc ((PySem.W.exm_one (M := model X.prog X.w) (J3.kIn) LT hb1).here ?_))) (by intro q; cases q)
        cases b with
        | true =>
          refine codeAny_handlers_suite (HandSPX.lands_againZ fl3 fun h4 fl4 up4 => ?_)
          have J4 : Inv X pins σ' H' { s' with heap := h4 } := J.landed nb fl4.1 ((up.trans up3).trans up4) os ag
          obtain ⟨oe4, vs4, he4, hz4, hd4⟩ := fl4.there
          have S4 := J4.suite he4 hd4 na nL nF
          refine wpAny_mono ((hsu a oe4 cls d (X.pn ++ pins) hz4 ⟨_, hd4⟩).run [] _ _ H' _ S4 (hyes rfl a na)) (fun f s6 hsp => ?_) (fun _ _ z => False.elim z)
          cases f with
          | next => obtain ⟨σ6, H6, S6, q6⟩ := hsp; exact ⟨_, _, S6.unsuite ok, q6⟩
          | brk => obtain ⟨σ6, H6, S6, q6⟩ := hsp; exact ⟨_, _, S6.unsuite ok, q6⟩
          | cont => obtain ⟨σ6, H6, S6, q6⟩ := hsp; exact ⟨_, _, S6.unsuite ok, q6⟩
          | ret u => obtain ⟨v6, σ6, H6, S6, r6, q6⟩ := hsp; exact ⟨_, _, _, S6.unsuite ok, r6, q6⟩
        | false =>
          show wpAny _ X.A (handleBy (.ref a) X.env hds2) _ _ _
          exact ih (hno rfl)
      | @conA x n i c ts b₀ suite np pos' hds2 l2 hc hi hln hsu r ih =>
        intro w
        obtain ⟨b, hb1, hyes, hno⟩ := w
        refine wpAny_handleBy_cons (codeAny_handlers_test (test hc ((PySem.W.exm_one (M := model X.prog X.w) (J3.kIn) LT hb1).here ?_))) (by intro q; cases q)
        cases b with
        | true =>
          refine codeAny_handlers_suite_as (HandSPX.lands_againZ fl3 fun h4 fl4 up4 => ?_)
          have J4 : Inv X pins σ' H' { s' with heap := h4 } := J.landed nb fl4.1 ((up.trans up3).trans up4) os ag
          obtain ⟨oe4, vs4, he4, hz4, hd4⟩ := fl4.there
          have S4 := J4.suite he4 hd4 na nL nF
          refine store_ok (X := X.suite a ((a, oe4) :: (X.pn ++ pins))) (v := .ref a) S4 hN hi (.inl hln) rfl (fun s5 S5 => ?_) (.inr hln)
          refine wpAny_mono ((hsu a oe4 cls d (X.pn ++ pins) hz4 ⟨_, hd4⟩).run [] s5 _ H' _ S5 (hyes rfl a na)) (fun f s6 hsp => ?_) (fun _ _ z => False.elim z)
          have end_ : ∀ {σ6 : L2.St} {H6 : Hp} {Q : Shared → Prop}, Inv (X.suite a ((a, oe4) :: (X.pn ++ pins))) [] σ6 H6 s6 → (∀ s7, Inv X pins (σ6.set i none) H6 s7 → Q s7) →
              wpAny (model X.prog X.w) X.A (do bindName X.env n .none; unbindBehindTheSuite X.env n pos') (fun _ s7 => Q s7) X.xe s6 := fun {σ6 H6 Q} S6 hq => gone_ok (S6.unsuite ok) hN hi hln hq
          cases f with
          | next => obtain ⟨σ6, H6, S6, q6⟩ := hsp; exact end_ S6 fun s7 J7 => ⟨_, _, J7, q6⟩
          | brk => obtain ⟨σ6, H6, S6, q6⟩ := hsp; exact end_ S6 fun s7 J7 => ⟨_, _, J7, q6⟩
          | cont => obtain ⟨σ6, H6, S6, q6⟩ := hsp; exact end_ S6 fun s7 J7 => ⟨_, _, J7, q6⟩
          | ret u => obtain ⟨v6, σ6, H6, S6, r6, q6⟩ := hsp; exact end_ S6 fun s7 J7 => ⟨_, _, _, J7, r6, q6⟩
        | false =>
          show wpAny _ X.A (handleBy (.ref a) X.env hds2) _ _ _
          exact ih (hno rfl)
    exact go hh w
  · cases f with
    | next => obtain ⟨σ', H', J', q⟩ := hsp; exact wpAny_execs_nil ⟨σ', H', J'.ofTry ok, q⟩
    | brk => obtain ⟨σ', H', J', q⟩ := hsp; exact ⟨σ', H', J'.ofTry ok, q⟩
    | cont => obtain ⟨σ', H', J', q⟩ := hsp; exact ⟨σ', H', J'.ofTry ok, q⟩
    | ret u => obtain ⟨v, σ', H', J', r, q⟩ := hsp; exact ⟨v, σ', H', J'.ofTry ok, r, q⟩
end
end Dl

set_option maxHeartbeats 4000000
/-! The tree layer: try, suites, lists that a def owns. -/
namespace Dl
open PySem PySem.Spec PyProof.Rows L2

/-! ### try -/
abbrev GCl := Addr × Option Nat × (Addr → Value → Option Addr → DG)
def Kn.su (k : Kn) : Kn := ⟨k.nx, k.rt, k.rtL, k.bk, k.ct, fun _ _ => False⟩
def Kn.suA (k : Kn) (i : Nat) : Kn := ⟨fun e => k.nx (e.set i .un), k.rt, k.rtL, fun e => k.bk (e.set i .un), fun e => k.ct (e.set i .un), fun _ _ => False⟩
def dHs (K : PySem.W.Frag) : List GCl → Exc → Env' → Kn → Prop
  | [], x, env, k => k.xc x env
  | (c, none, g) :: r, x, env, k => ∃ b, PySem.W.exmOne K (.ref x.cls) (.ref c) = some b ∧ (b = true → ∀ a d, g a (.ref x.cls) d env k.su) ∧ (b = false → dHs K r x env k)
  | (c, some i, g) :: r, x, env, k => ∃ b, PySem.W.exmOne K (.ref x.cls) (.ref c) = some b ∧ (b = true → ∀ a d, g a (.ref x.cls) d (env.set i (.exc ⟨a, .ref x.cls, d, x⟩)) (k.suA i)) ∧ (b = false → dHs K r x env k)
def dTry (K : PySem.W.Frag) (gb : DG) (hs : List GCl) : DG := fun env k => gb env { k with xc := fun x e => dHs K hs x e k }
def clOf (K : PySem.W.Frag) : GCl → Cl := fun p => (.ref p.1, p.2.1, fun a cls d => DS K (p.2.2 a cls d) WF)
inductive HdsD (X : Cx) : List ExceptHandler → List GCl → Prop
  | nil : HdsD X [] []
  | cons {x : Str} {c : Addr} {g : Addr → Value → Option Addr → DG} {b₀ : Stmt} {suite : List Stmt} {np pos' : Pos} {hds : List ExceptHandler} {l : List GCl} (hc : Names X x (.ref c))
      (hsu : ∀ (a : Addr) (oe : Obj) (cls : Value) (d : Option Addr) (pn : List (Addr × Obj)), Zc cls d oe → (∃ vs, oe.data = .fields vs) → PDSs (X.suite a ((a, oe) :: pn)) WF (b₀ :: suite) (g a cls d)) (r : HdsD X hds l) :
      HdsD X (.ExceptHandler (some (.Name x np)) none (b₀ :: suite) pos' :: hds) ((c, none, g) :: l)
  | conA {x n : Str} {i : Nat} {c : Addr} {g : Addr → Value → Option Addr → DG} {b₀ : Stmt} {suite : List Stmt} {np pos' : Pos} {hds : List ExceptHandler} {l : List GCl} (hc : Names X x (.ref c)) (hi : X.N[i]? = some n) (hln : X.env.kindOf n = some .local)
      (hsu : ∀ (a : Addr) (oe : Obj) (cls : Value) (d : Option Addr) (pn : List (Addr × Obj)), Zc cls d oe → (∃ vs, oe.data = .fields vs) → PDSs (X.suite a ((a, oe) :: pn)) WF (b₀ :: suite) (g a cls d)) (r : HdsD X hds l) :
      HdsD X (.ExceptHandler (some (.Name x np)) (some n) (b₀ :: suite) pos' :: hds) ((c, some i, g) :: l)
theorem HdsD.m {X : Cx} {hds : List ExceptHandler} {l : List GCl} (h : HdsD X hds l) : HdsM X hds (l.map (clOf X.K)) := by
  induction h with
  | nil => exact .nil
  | cons hc hsu r ih => exact .cons hc hsu ih
  | conA hc hi hln hsu r ih => exact .conA hc hi hln hsu ih
theorem RepE.setX {K : PySem.W.Frag} {Z : Zn} {O : Own} {H : Hp} {σ : L2.St} {env : Env'} (h : RepE K Z O H σ env) {e : ExcV} (r : RepX K Z H e.cls e.d e.x) (i : Nat) : RepE K Z O H (σ.set i (some (.ref e.a))) (env.set i (.exc e)) := by
  refine ⟨by rw [List.length_set, List.length_set]; exact h.len, fun j s q => ?_, h.sub⟩
  by_cases hj : i = j
  · subst hj
    by_cases hi : i < env.length
    · rw [List.getElem?_set_self hi] at q
      cases q
      exact ⟨_, List.getElem?_set_self (by rw [h.len]; exact hi), rfl, r⟩
    · rw [List.getElem?_eq_none (by rw [List.length_set]; omega)] at q
      cases q
  · rw [List.getElem?_set_ne hj] at q ⊢
    exact h.at_ j s q
theorem At.unset {K : PySem.W.Frag} {Z : Zn} {O : Own} {H : Hp} {σ : L2.St} {env : Env'} (h : At K Z O H σ env) (i : Nat) (x : Option V) : At K Z O H (σ.set i x) (env.set i .un) := ⟨h.good, h.env.unset i x⟩
theorem mix_ev {K : PySem.W.Frag} {W : WX} {D : Ends} {Z : Zn} {O : Own} {H : Hp} {k : Kn} (ko : KOk K Z O H k D W) {x : Exc} {env : Env'} {O' : Own} {cls : Value} {d : Option Addr} {σ' : L2.St} {H' : Hp} (l : Lt Z O H O' H') (a : StAt K Z O' H' σ' env) (r : RepX K (Z.add O') H' cls d x) :
    ∀ hs : List GCl, dHs K hs x env k → wMix K W D (hs.map (clOf K)) cls d σ' H'
  | [], h => ko.xc x env h O' cls d σ' H' l a r
  | (c, none, g) :: rest, h => by
    obtain ⟨b, hb, h1, h2⟩ := h
    have ec := r.1
    subst ec
    refine ⟨b, hb, fun e q na => ?_, fun e => mix_ev ko l a r rest (h2 e)⟩
    have k2 := ko.step l
    exact ⟨Z, O', env, k.su, a, h1 e q d, ⟨k2.nx, k2.rt, k2.rtL, k2.bk, k2.ct, fun _ _ z => z.elim⟩⟩
  | (c, some i, g) :: rest, h => by
    obtain ⟨b, hb, h1, h2⟩ := h
    have ec := r.1
    subst ec
    refine ⟨b, hb, fun e q na => ?_, fun e => mix_ev ko l a r rest (h2 e)⟩
    have k2 := ko.step l
    exact ⟨Z, O', _, k.suA i, ⟨a.good, a.env.setX (e := ⟨q, .ref x.cls, d, x⟩) r i⟩, h1 e q d, ⟨fun e2 z O2 σ2 H2 l2 a2 => k2.nx _ z O2 _ H2 l2 (a2.unset i none), k2.rt, k2.rtL, fun e2 z O2 σ2 H2 l2 a2 => k2.bk _ z O2 _ H2 l2 (a2.unset i none), fun e2 z O2 σ2 H2 l2 a2 => k2.ct _ z O2 _ H2 l2 (a2.unset i none), fun _ _ z => z.elim⟩⟩
section
variable {X : Cx} {W : WX} {body : List Stmt} {h₀ : ExceptHandler} {hds : List ExceptHandler} {l : List GCl} {pos : Pos} {gb : DG}
theorem ds_try (hs : X.stack = X.env :: X.outer) (hf : X.env.frame = some X.env.locals) (hN : X.N.Nodup) (tk : Takes X W)
    (hb : ∀ (W' : WX) (pn : List (Addr × Obj)) (xe : Value → Shared → Prop), Takes (X.tr pn xe) W' → PassesOwn (model X.prog X.w) X.A X.env xe → PDSs (X.tr pn xe) W' body gb)
    (hh : HdsD X (h₀ :: hds) l) : PDS X W (.Try body (h₀ :: hds) [] [] pos) (dTry X.K gb l) := PS.imp (ps_try_mix hs hf hN tk (tb := fun W' => DS X.K gb W') hb hh.m) fun D σ H ⟨Z, O, env, k, a, h, ko⟩ =>
  ⟨Z, O, env, _, a, h, ⟨ko.nx, ko.rt, ko.rtL, ko.bk, ko.ct, fun x env' hx O' cls d σ' H' l a' r => mix_ev ko l a' r _ hx⟩⟩
/-- the context of a try's body -/
theorem Cn.tr {k : Nat} (c : Cn X W k) {W' : WX} {pn : List (Addr × Obj)} {xe : Value → Shared → Prop} (tk : Takes (X.tr pn xe) W') (hp : PassesOwn (model X.prog X.w) X.A X.env xe) : Cn (X.tr pn xe) W' k := ⟨tk, hp, c.hr, c.hc⟩
end

/-! ### in a suite: the caught exception's fields, isinstance -/
theorem look_rep {K : PySem.W.Frag} {vl : Option (Addr × Addr)} {G : Hp} {n : Str} {y : D} : ∀ {vs : List (Str × V)} {l : List (Str × D)}, vs.map (·.1) = l.map (·.1) → Reps K vl G (vs.map (·.2)) (l.map (·.2)) → l.lookup n = some y → ∃ v, vs.lookup n = some v ∧ Rep K vl G v y
  | [], [], _, _, h => by cases h
  | [], _ :: _, h, _, _ => by simp at h
  | _ :: _, [], h, _, _ => by simp at h
  | (a, v) :: vs, (b, d) :: l, hk, r, h => by
    simp only [List.map_cons, List.cons.injEq] at hk
    obtain ⟨e, hk⟩ := hk
    subst e
    simp only [List.map_cons] at r
    cases r with
    | cons _ _ _ _ r1 r2 =>
      simp only [List.lookup_cons] at h ⊢
      cases q : n == a with
      | true => rw [q] at h; cases h; exact ⟨v, rfl, r1⟩
      | false => rw [q] at h; exact look_rep hk r2 h
def dXf (a : Addr) (cls : Value) (d : Option Addr) (C : Addr) (n : Str) (i : Nat) : DE := fun env Q _ => match env[i]? with
  | some (.exc e) => e.a = a ∧ e.cls = cls ∧ e.d = d ∧ e.x.cls = C ∧ ∃ l y, e.x.fs = some l ∧ l.lookup n = some y ∧ Q y
  | _ => False
def rIsX (K : PySem.W.Frag) (D a : Addr) (d : Option Addr) : List V → Hp → VK → Prop := fun xs H Q => ∃ (c : V) (cv : Value) (b : Bool), xs = [.ref a, c] ∧ (∀ u, RelV c u → u = cv) ∧ (d = none ∨ ∃ dd fs, d = some dd ∧ H dd = some (.xd fs)) ∧ PySem.W.kitOne K (.ref D) cv = some b ∧ Q (.bl b) H
theorem call_isX {X : Cx} {a D : Addr} {oe : Obj} {pn : List (Addr × Obj)} {d : Option Addr} (C : ExcC X.K D) (hz : Zc (.ref D) d oe) (hf : ∃ vs, oe.data = .fields vs) : CallR (X.suite a ((a, oe) :: pn)) (.builtin "isinstance") (rIsX X.K D a d) := by
  intro pins s σ H xs us Q I r h
  obtain ⟨c, cv, b, rfl, hcv, hd, e, q⟩ := h
  obtain ⟨u1, u2, rfl, rx, rt⟩ := r.two
  cases (show u1 = Value.ref a from rx)
  cases hcv _ rt
  obtain ⟨hget, _⟩ := I.pin (a, oe) (List.mem_append.mpr (.inl List.mem_cons_self))
  obtain ⟨vs, hv⟩ := hf
  have J : ∃ od, PySem.W.InstAt s.heap a oe D od := by
    rcases hd with hd | ⟨dd, fs, hd, hx⟩
    · exact ⟨none, hget, hz.1, by unfold PySem.W.notCls; rw [hv] <;> rfl, by rw [hz.2, hd]; trivial⟩
    · have hx' : ObjOk X.prog X.w H s.heap dd (.xd fs) := I.hok dd _ hx
      obtain ⟨mA, hns, hr⟩ := hx'
      obtain ⟨od, ho, hl⟩ := lookIn_ns hns
      exact ⟨some od, hget, hz.1, by unfold PySem.W.notCls; rw [hv] <;> rfl, by rw [hz.2, hd]; exact ho⟩
  obtain ⟨od, J⟩ := J
  exact PySem.W.kia_one (PySem.W.dl_kitx_exc C.hg C.hk C.hs C.hd C.ha C.hn C.ht C.hm) I.kIn J e (fun z => nomatch z) fun tk => ⟨.bl b, H, I.kept (t' := tk) fun _ _ z => z, rfl, q⟩
def dIsX (K : PySem.W.Frag) (a : Addr) (cls : Value) (d : Option Addr) (c : Addr) (i : Nat) : DE := fun env Q _ => match env[i]? with
  | some (.exc e) => e.a = a ∧ e.cls = cls ∧ e.d = d ∧ ∃ b, PySem.W.kitOne K cls (.ref c) = some b ∧ Q (.bl b)
  | _ => False
section
variable {X : Cx} {W : WX} {a C c : Addr} {oe : Obj} {cls : Value} {d : Option Addr} {pn : List (Addr × Obj)} {x y n : Str} {i : Nat} {p p1 p2 pos : Pos}
theorem pd_xf (T : XfC X.K C) (hno : PySem.W.findIn X.K (.ref C) n = some none) (hz : Zc cls d oe) (hf : ∃ vs, oe.data = .fields vs) (he : L2.PE (X.suite a ((a, oe) :: pn)) (.Name x p) (tVar i))
    (hb : attributeBase (.Name x p) n X.env (eval (.Name x p) X.env) = eval (.Name x p) X.env := by rfl) : PD (X.suite a ((a, oe) :: pn)) W (.Attribute (.Name x p) n pos) (dXf a cls d C n i) :=
  PE.imp (pe_xf T hno hz hf he hb) fun σ H Q ⟨Z, O, env, Q0, R0, at_, h, xk, q⟩ => by
    unfold dXf at h
    split at h
    · rename_i e he
      obtain ⟨h1, h2, h3, h4, l, y, h5, h6, h7⟩ := h
      obtain ⟨v, hs, hv2, hr⟩ := at_.env.at_ i _ he
      obtain ⟨e1, hr⟩ := hr
      rw [h5] at hr
      obtain ⟨dd, vs, e2, hm, hk, rs⟩ := hr
      obtain ⟨v', hl, rv⟩ := look_rep hk rs h6
      exact ⟨.ref e.a, by rw [hs, hv2], by rw [h1], by rw [← h2, e1, h4], dd, vs, v', by rw [← h3, e2], mask_le _ _ _ _ hm, hl, q _ h7 _ H (Step.refl at_.good) rv⟩
    · exact h.elim
theorem pd_isX {D : Addr} (T : ExcC X.K D) (hz : Zc (.ref D) d oe) (hf : ∃ vs, oe.data = .fields vs) (he : L2.PE (X.suite a ((a, oe) :: pn)) (.Name x p1) (tVar i)) (hgi : Gl X "isinstance") (hmi : X.mg "isinstance" = none) (hg : Gl X y) (hm : X.mg y = some (.ref c)) (hdb : (y == ("__debug__" : Str)) = false := by decide)
    (hs : starEach [.Name x p1, .Name y p2] X.env = (false, eval (.Name x p1) X.env) :: starEach [.Name y p2] X.env := by rfl) (hs2 : starEach [.Name y p2] X.env = (false, eval (.Name y p2) X.env) :: starEach [] X.env := by rfl)
    (hpl : (backTo pos (starEach [.Name y p2] X.env)).any (·.1) = false := by rfl) :
    PD (X.suite a ((a, oe) :: pn)) W (.Call (.Name "isinstance" p) [.Name x p1, .Name y p2] [] pos) (dIsX X.K a (.ref D) d c i) :=
  PE.imp (pe_callB (X := X.suite a ((a, oe) :: pn)) (call_isX T hz hf) hgi hmi (by kernel_rfl) (pa_cons he (pa_cons (pe_glob (X := X.suite a ((a, oe) :: pn)) (v := .ref c) hg hm rfl hdb) pa_nil hs2) hs) (by decide) (by decide) hs hpl) fun σ H Q ⟨Z, O, env, Q0, R0, at_, h, xk, q⟩ => by
    unfold dIsX at h
    split at h
    · rename_i e he
      obtain ⟨h1, h2, h3, b, h4, h5⟩ := h
      obtain ⟨v, hs, hv2, hr⟩ := at_.env.at_ i _ he
      refine ⟨.ref e.a, by rw [hs, hv2], .ref c, .ref c, b, by rw [h1], fun u r => r, ?_, h4, q _ h5 _ H (Step.refl at_.good) (.bl _)⟩
      obtain ⟨_, hr⟩ := hr
      cases hq : e.x.fs with
      | none => rw [hq] at hr; exact .inl (by rw [← h3, hr])
      | some l =>
        rw [hq] at hr
        obtain ⟨dd, vs, e2, hm, _⟩ := hr
        exact .inr ⟨dd, vs, by rw [← h3, e2], mask_le _ _ _ _ hm⟩
    · exact h.elim
end

/-! ### lists that the def owns -/
def dOwn (i : Nat) (f : DA) : DG := fun env k => f env (fun ds => k.nx (env.set i (.own ds))) (fun x => k.xc x env)
theorem RepE.setO {K : PySem.W.Frag} {Z : Zn} {O : Own} {H : Hp} {σ : L2.St} {env : Env'} {p : Addr} {vs : List V} {ds : List D} (h : RepE K Z O H σ env) (i : Nat) (hm : (i, p, vs) ∈ O) (r : RepsZ K Z H vs ds) : RepE K Z O H (σ.set i (some (.ref p))) (env.set i (.own ds)) := by
  refine ⟨by rw [List.length_set, List.length_set]; exact h.len, fun j s e => ?_, h.sub⟩
  by_cases hj : i = j
  · subst hj
    by_cases hi : i < env.length
    · rw [List.getElem?_set_self hi] at e
      cases e
      exact ⟨_, List.getElem?_set_self (by rw [h.len]; exact hi), p, vs, rfl, hm, r⟩
    · rw [List.getElem?_eq_none (by rw [List.length_set]; omega)] at e
      cases e
  · rw [List.getElem?_set_ne hj] at e ⊢
    exact h.at_ j s e
/-- a new list comes to be owned -/
theorem own_new {K : PySem.W.Frag} {Z : Zn} {O : Own} {H : Hp} {σ : L2.St} {env : Env'} {p : Addr} {vs : List V} {ds : List D} (a : StAt K Z O H σ env) (i : Nat) (hp : H p = none) (r : RepsZ K (Z.add O) H vs ds) :
    Lt Z O H ((i, p, vs) :: O) (upd H p (.lst vs)) ∧ StAt K Z ((i, p, vs) :: O) (upd H p (.lst vs)) (σ.set i (some (.ref p))) (env.set i (.own ds)) := by
  obtain ⟨g1, g2⟩ := cons_new a.good vs hp
  refine ⟨g2, g1, ?_⟩
  have e1 : RepE K (Z.add ((i, p, vs) :: O)) ((i, p, vs) :: O) (upd H p (.lst vs)) σ env := by
    have e0 := a.env.le (Z' := Z.add ((i, p, vs) :: O)) (H' := upd H p (.lst vs)) g2 rfl fun j b us h => List.mem_append_left _ (List.mem_map.mpr ⟨_, List.mem_cons_of_mem _ h, rfl⟩)
    refine ⟨e0.len, fun j s e => ?_, fun j b us h => List.mem_append_left _ (List.mem_map.mpr ⟨_, h, rfl⟩)⟩
    obtain ⟨v, h1, h2⟩ := e0.at_ j s e
    refine ⟨v, h1, ?_⟩
    cases s with
    | own ds => obtain ⟨b, us, q1, q2, q3⟩ := h2; exact ⟨b, us, q1, List.mem_cons_of_mem _ q2, q3⟩
    | un => trivial
    | val d => exact h2
    | exc x => exact h2
    | dlg g => exact ⟨h2.1, List.mem_cons_of_mem _ h2.2.1, h2.2.2⟩
  exact e1.setO i List.mem_cons_self (Reps.mono g2 r)
/-- the owned list at a is written anew -/
def putO (O : Own) (a : Addr) (ws : List V) : Own := O.map fun q => if q.2.1 = a then (q.1, a, ws) else q
theorem put_msk (Z : Zn) (O : Own) (a : Addr) (ws : List V) : (Z.add (putO O a ws)).msk = (Z.add O).msk := by
  have e : (putO O a ws).map (fun q => q.2.1) = O.map (fun q => q.2.1) := by
    unfold putO
    rw [List.map_map]
    refine List.map_congr_left fun q _ => ?_
    show (if q.2.1 = a then (q.1, a, ws) else q).2.1 = q.2.1
    by_cases h : q.2.1 = a
    · rw [if_pos h]; exact h.symm
    · rw [if_neg h]
  unfold Zn.msk Zn.add Zn.vs
  dsimp only
  rw [List.map_append, List.map_append, List.map_map, List.map_map]
  have e2 : ((fun x : Addr × List V => x.1) ∘ fun q : Nat × Addr × List V => (q.2.1, q.2.2)) = fun q => q.2.1 := rfl
  rw [e2, e]
theorem own_put {K : PySem.W.Frag} {Z : Zn} {O : Own} {H : Hp} {σ : L2.St} {env : Env'} {p : Addr} {vs ws : List V} {es : List D} (a : StAt K Z O H σ env) {i : Nat} (hs : σ[i]? = some (some (.ref p))) (hm : (i, p, vs) ∈ O) (r : RepsZ K (Z.add O) H ws es) :
    Lt Z O H (putO O p ws) (upd H p (.lst ws)) ∧ StAt K Z (putO O p ws) (upd H p (.lst ws)) σ (env.set i (.own es)) := by
  have hmem : ∀ {j : Nat} {b : Addr} {us : List V}, (j, b, us) ∈ O → b ∈ (Z.add O).msk := fun {j b us} h => List.mem_append_left _ (List.mem_map.mpr ⟨(b, us), List.mem_append_left _ (List.mem_map.mpr ⟨_, h, rfl⟩), rfl⟩)
  have hpm : p ∈ (Z.add O).msk := hmem hm
  have emask : mask (Z.add (putO O p ws)) (upd H p (.lst ws)) = mask (Z.add O) H := by
    funext b
    unfold mask
    rw [put_msk]
    by_cases hb : b ∈ (Z.add O).msk
    · rw [if_pos hb, if_pos hb]
    · rw [if_neg hb, if_neg hb, upd_ne fun z => hb (by rw [z]; exact hpm)]
  have nd := a.good.nd
  -- the names of what is owned differ
  have nd1 : ((Z.add O).own.map (·.1)).Nodup := (List.nodup_append.mp nd).1
  have one : ∀ {j : Nat} {us : List V}, (j, p, us) ∈ O → j = i ∧ us = vs := by
    intro j us h
    have nd2 : (O.map fun q => q.2.1).Nodup := by
      have e : (Z.add O).own.map (·.1) = (O.map fun q => q.2.1) ++ Z.own.map (·.1) := by
        show (O.map (fun q => (q.2.1, q.2.2)) ++ Z.own).map (·.1) = _
        rw [List.map_append, List.map_map]
        rfl
      rw [e] at nd1
      exact (List.nodup_append.mp nd1).1
    have gen : ∀ l : Own, (l.map fun q => q.2.1).Nodup → (i, p, vs) ∈ l → (j, p, us) ∈ l → j = i ∧ us = vs := by
      intro l
      induction l with
      | nil => intro _ h; cases h
      | cons q l ih =>
        intro hn h1 h2
        rw [List.map_cons, List.nodup_cons] at hn
        rcases List.mem_cons.mp h1 with h1 | h1
        · rcases List.mem_cons.mp h2 with h2 | h2
          · rw [← h1] at h2
            cases h2
            exact ⟨rfl, rfl⟩
          · exact (hn.1 (by rw [← h1]; exact List.mem_map.mpr ⟨_, h2, rfl⟩)).elim
        · rcases List.mem_cons.mp h2 with h2 | h2
          · exact (hn.1 (by rw [← h2]; exact List.mem_map.mpr ⟨_, h1, rfl⟩)).elim
          · exact ih hn.2 h1 h2
    exact gen O nd2 hm h
  have zown : ∀ b us, (b, us) ∈ Z.own → b ≠ p := fun b us h z => by
    have e : (Z.add O).own.map (·.1) = (O.map fun q => q.2.1) ++ Z.own.map (·.1) := by
      show (O.map (fun q => (q.2.1, q.2.2)) ++ Z.own).map (·.1) = _
      rw [List.map_append, List.map_map]
      rfl
    rw [e] at nd1
    exact (List.nodup_append.mp nd1).2.2 p (List.mem_map.mpr ⟨_, hm, rfl⟩) b (List.mem_map.mpr ⟨_, h, rfl⟩) z.symm
  have volp : ∀ h c, Z.vol = some (h, c) → h ≠ p ∧ c ≠ p := fun h c e => by
    have hp1 : p ∈ (Z.add O).own.map (·.1) := List.mem_map.mpr ⟨(p, vs), List.mem_append_left _ (List.mem_map.mpr ⟨_, hm, rfl⟩), rfl⟩
    have hv : h ∈ (Z.add O).vs ∧ c ∈ (Z.add O).vs := by
      unfold Zn.vs
      rw [show (Z.add O).vol = some (h, c) from e]
      simp
    exact ⟨fun z => (List.nodup_append.mp nd).2.2 p hp1 h hv.1 z.symm, fun z => (List.nodup_append.mp nd).2.2 p hp1 c hv.2 z.symm⟩
  have good : Good (Z.add (putO O p ws)) (upd H p (.lst ws)) := by
    refine ⟨fun b us h => ?_, fun h c e => ?_, by rw [put_msk]; exact nd⟩
    · rcases List.mem_append.mp h with h | h
      · obtain ⟨q, hq, e⟩ := List.mem_map.mp h
        obtain ⟨q0, hq0, e0⟩ := List.mem_map.mp hq
        by_cases hb : q0.2.1 = p
        · rw [if_pos hb] at e0
          rw [← e0] at e
          cases e
          exact upd_same
        · rw [if_neg hb] at e0
          rw [← e0] at e
          cases e
          rw [upd_ne hb]
          exact a.good.own _ _ (List.mem_append_left _ (List.mem_map.mpr ⟨_, hq0, rfl⟩))
      · rw [upd_ne (zown b us h)]
        exact a.good.own b us (List.mem_append_right _ h)
    · obtain ⟨s, j, cs, h1, h2, h3⟩ := a.good.vol h c e
      obtain ⟨n1, n2⟩ := volp h c e
      exact ⟨s, j, cs, by rw [upd_ne n1]; exact h1, by rw [upd_ne n2]; exact h2, h3⟩
  refine ⟨fun b o h => by rw [emask]; exact h, good, ?_⟩
  have sub : ∀ j b us, (j, b, us) ∈ putO O p ws → (b, us) ∈ (Z.add (putO O p ws)).own := fun j b us h => List.mem_append_left _ (List.mem_map.mpr ⟨_, h, rfl⟩)
  refine ⟨by rw [List.length_set]; exact a.env.len, fun j s e => ?_, sub⟩
  by_cases hj : i = j
  · subst hj
    by_cases hi : i < env.length
    · rw [List.getElem?_set_self hi] at e
      cases e
      refine ⟨_, hs, p, ws, rfl, List.mem_map.mpr ⟨_, hm, by rw [if_pos rfl]⟩, ?_⟩
      show Reps K Z.vol _ _ _
      rw [emask]
      exact r
    · rw [List.getElem?_eq_none (by rw [List.length_set]; omega)] at e
      cases e
  · rw [List.getElem?_set_ne hj] at e
    obtain ⟨v, h1, h2⟩ := a.env.at_ j s e
    refine ⟨v, h1, ?_⟩
    cases s with
    | un => trivial
    | val d => obtain ⟨x, q1, q2⟩ := h2; exact ⟨x, q1, by show Rep K Z.vol _ _ _; rw [emask]; exact q2⟩
    | exc x => exact ⟨h2.1, h2.2.le (fun b o h => by rw [emask]; exact h) rfl⟩
    | own ds =>
      obtain ⟨b, us, q1, q2, q3⟩ := h2
      refine ⟨b, us, q1, List.mem_map.mpr ⟨_, q2, ?_⟩, by show Reps K Z.vol _ _ _; rw [emask]; exact q3⟩
      have hb : b ≠ p := fun z => by subst z; exact hj (one q2).1.symm
      rw [if_neg hb]
    | dlg g =>
      obtain ⟨q1, q2, q3⟩ := h2
      refine ⟨q1, List.mem_map.mpr ⟨_, q2, ?_⟩, q3.le (fun b o h => by rw [emask]; exact h) rfl⟩
      have hb : g.b ≠ p := fun z => hj (one (by rw [← z]; exact q2)).1.symm
      rw [if_neg hb]
section
variable {X : Cx} {W : WX} {e e2 : Expr} {fl : DA} {fe fi : DE} {pos pos' p p2 : Pos} {x : Str} {i : Nat}
theorem ds_own (hN : X.N.Nodup) (hi : X.N[i]? = some x) (hx : Loc X.env.scope x) (he : PDL X W e fl) (hs : swapsWith e (some (.Name x pos')) pos.line X.env = pure false := by rfl) (hf : X.fn x = true ∨ X.env.scope.names.lookup x = some .local := by first | exact .inl rfl | exact .inr rfl | assumption) :
    PDS X W (.Assign [.Name x pos'] e pos) (dOwn i fl) := PS.imp (ps_set hN hi hx he hs hf) fun D σ H ⟨Z, O, env, k, a, h, ko⟩ =>
  ⟨_, O, env, _, _, a, h, ko.xk a, fun ds hd q vs H1 s hq r => by
    obtain ⟨l, a'⟩ := own_new (a.step s) i hq r
    exact ko.nx _ hd _ _ _ (s.le.trans l) a'⟩
/-- x.append(e), x owned -/
def dApp (i : Nat) (fe : DE) : DG := fun env k => match env[i]? with
  | some (.own ds) => fe env (fun d => ds.length < sizeLine ∧ k.nx (env.set i (.own (ds ++ [d])))) (fun x => k.xc x env)
  | _ => False
theorem own_at {K : PySem.W.Frag} {Z : Zn} {O : Own} {H : Hp} {σ : L2.St} {env : Env'} {ds : List D} (a : StAt K Z O H σ env) (e : env[i]? = some (.own ds)) : ∃ p vs, σ[i]? = some (some (.ref p)) ∧ (i, p, vs) ∈ O ∧ RepsZ K (Z.add O) H vs ds ∧ H p = some (.lst vs) := by
  obtain ⟨v, h1, p, vs, h2, h3, h4⟩ := a.env.at_ i _ e
  exact ⟨p, vs, by rw [h1, h2], h3, h4, a.good.own p vs (List.mem_append_left _ (List.mem_map.mpr ⟨_, h3, rfl⟩))⟩
theorem ds_app (hv : L2.PE X (.Name x p) (tVar i)) (he : PD X W e fe) (hs : starEach [e] X.env = (false, eval e X.env) :: starEach [] X.env := by rfl)
    (hbase : attributeBase (.Name x p) "append" X.env (eval (.Name x p) X.env) = eval (.Name x p) X.env := by rfl)
    (hfew : ((backTo pos (starEach [e] X.env)).all (fun x => !x.1) && (backToKw pos (keywordEach [] X.env)).all (fun x => x.1.isSome) && decide ([e].length + ([] : List Keyword).length + (if ([] : List Keyword).isEmpty then 0 else 1) < 30)) = true := by rfl)
    (hline : (p2.endLine == pos.line) = true := by rfl) (hsw : swapsWith (.Call (.Attribute (.Name x p) "append" p2) [e] [] pos) none pos'.line X.env = pure false := by rfl) :
    PDS X W (.Expr (.Call (.Attribute (.Name x p) "append" p2) [e] [] pos) pos') (dApp i fe) :=
  PS.imp (ps_expr (pe_bm PySem.F.plainAttrs_list PySem.F.slot_list_append PySem.F.type_list_append mt_append hv (pa_cons he pa_nil hs) hbase hfew hline hs rfl) hsw) fun D σ H ⟨Z, O, env, k, a, h, ko⟩ => by
    unfold dApp at h
    split at h
    · rename_i ds ho
      obtain ⟨q, vs, h1, h2, h3, h4⟩ := own_at a ho
      refine ⟨.ref q, h1, .inl ⟨rfl, vs, SqL.of h4⟩, DT.mk a h (ko.xk a) fun d hd v H1 s r => ?_⟩
      have a1 := a.step s
      obtain ⟨q', vs', g1, g2, g3, g4⟩ := own_at a1 ho
      rw [h1] at g1
      cases g1
      refine ⟨q, vs', v, rfl, rfl, g4, by rw [g3.length]; exact hd.1, ?_⟩
      obtain ⟨l, a2⟩ := own_put a1 h1 g2 (g3.append (.one r))
      exact ko.nx _ hd.2 _ _ _ (s.le.trans l) a2
    · exact h.elim
/-- x[i] = e, x owned -/
def dSetI (i : Nat) (fe fi : DE) : DG := fun env k => fe env (fun d => match env[i]? with
  | some (.own ds) => fi env (fun j => ∃ n m, j = .int n ∧ ixN ds.length n = some m ∧ k.nx (env.set i (.own (ds.set m d)))) (fun x => k.xc x env)
  | _ => False) (fun x => k.xc x env)
theorem ds_setI {ei : Expr} (hv : L2.PE X (.Name x p) (tVar i)) (he : PD X W e fe) (hi : PD X W ei fi)
    (ha : ∀ v, assign (.Subscript (.Name x p) ei p2) X.env v = (do
      let ov ← holding [v] (eval (.Name x p) X.env)
      let iv ← holding [v, ov] (eval ei X.env)
      standAt p2
      holding [v, ov, iv] (setItem ov iv v)
      release [v, ov, iv] []) := by intro _; rfl)
    (hs : swapsWithSole [.Subscript (.Name x p) ei p2] e pos.line X.env = pure false := by rfl) (hw : swappedStores [.Subscript (.Name x p) ei p2] e X.env = pure none := by rfl)
    (h1 : (assignEach [.Subscript (.Name x p) ei p2] X.env).map (·.2) = [assign (.Subscript (.Name x p) ei p2) X.env] := by rfl) :
    PDS X W (.Assign [.Subscript (.Name x p) ei p2] e pos) (dSetI i fe fi) :=
  PS.imp (ps_asg he (pg_sub hv hi set_list ha) hs hw h1) fun D σ H ⟨Z, O, env, k, a, h, ko⟩ =>
    DT.mk a h (ko.xk a) fun d hd v H1 s r => by
      split at hd
      · rename_i ds ho
        have a1 := a.step s
        obtain ⟨q, vs, h1, h2, h3, h4⟩ := own_at a1 ho
        refine ⟨.ref q, h1, DT.mk a1 hd ((ko.step s.le).xk a1) fun j hj u H2 s2 r2 => ?_⟩
        obtain ⟨n, m, ej, hm, hn⟩ := hj
        subst ej
        cases r2
        have a2 := a1.step s2
        obtain ⟨q', vs', g1, g2, g3, g4⟩ := own_at a2 ho
        rw [h1] at g1
        cases g1
        refine ⟨q, vs', n, m, rfl, rfl, g4, by rw [g3.length]; exact hm, ?_⟩
        obtain ⟨l, a3⟩ := own_put a2 h1 g2 (g3.set m (r.step s2))
        exact ko.nx _ hn _ _ _ ((s.le.trans s2.le).trans l) a3
      · exact hd.elim
/-- x[e], x owned -/
def dOwnIx (i : Nat) (fi : DE) : DE := fun env Q R => match env[i]? with
  | some (.own ds) => fi env (fun j => ∃ n d, j = .int n ∧ atI ds n = some d ∧ Q d) R
  | _ => False
theorem own_atE {K : PySem.W.Frag} {Z : Zn} {O : Own} {H : Hp} {σ : L2.St} {env : Env'} {ds : List D} (a : At K Z O H σ env) (e : env[i]? = some (.own ds)) : ∃ p vs, σ[i]? = some (some (.ref p)) ∧ (i, p, vs) ∈ O ∧ RepsZ K Z H vs ds ∧ H p = some (.lst vs) := by
  obtain ⟨v, h1, p, vs, h2, h3, h4⟩ := a.env.at_ i _ e
  exact ⟨p, vs, by rw [h1, h2], h3, h4, a.good.own p vs (a.env.sub _ _ _ h3)⟩
theorem pd_ownIx {ei : Expr} (hv : L2.PE X (.Name x p) (tVar i)) (hi : PD X W ei fi) (hs : PlainIx ei := by exact fun _ _ => rfl) : PD X W (.Subscript (.Name x p) ei pos) (dOwnIx i fi) := PE.imp (pe_ix ix_seq hv hi hs) fun σ H Q ⟨Z, O, env, Q0, R0, a, h, xk, q⟩ => by
  unfold dOwnIx at h
  split at h
  · rename_i ds ho
    obtain ⟨b, vs, h1, h2, h3, h4⟩ := own_atE a ho
    refine ⟨.ref b, h1, DT.mk a h xk fun j hj u H2 s2 r2 => ?_⟩
    obtain ⟨n, d, ej, hd, hq⟩ := hj
    subst ej
    cases r2
    have a2 := a.step s2
    obtain ⟨b', vs', g1, g2, g3, g4⟩ := own_atE a2 ho
    rw [h1] at g1
    cases g1
    obtain ⟨v, e1, e2⟩ := atI_rep g3 hd
    exact .inl ⟨b, vs', n, v, rfl, rfl, SqL.of g4, e1, q d hq v H2 s2 e2⟩
  · exact h.elim
/-- len(x), tuple(x), .. : the owned list as an argument of a call that keeps it -/
def dOwnLen (i : Nat) : DE := fun env Q _ => match env[i]? with
  | some (.own ds) => Q (.int ds.length)
  | _ => False
theorem pd_ownLen (hv : L2.PE X (.Name x p) (tVar i)) (hg : Gl X "len") (hm : X.mg "len" = none) (hs : starEach [.Name x p] X.env = (false, eval (.Name x p) X.env) :: starEach [] X.env := by rfl) (hpl : (backTo pos (starEach [] X.env)).any (·.1) = false := by rfl) :
    PD X W (.Call (.Name "len" p2) [.Name x p] [] pos) (dOwnLen i) := PE.imp (pe_callB call_len hg hm boot_len (pa_cons hv pa_nil hs) (by decide) (by decide) hs hpl) fun σ H Q ⟨Z, O, env, Q0, R0, a, h, xk, q⟩ => by
  unfold dOwnLen at h
  split at h
  · rename_i ds ho
    obtain ⟨b, vs, h1, h2, h3, h4⟩ := own_atE a ho
    refine ⟨.ref b, h1, .ref b, vs.length, rfl, .inl ⟨vs, SqL.of h4, rfl⟩, ?_⟩
    have e : (vs.length : Int) = (ds.length : Int) := by rw [h3.length]
    rw [e]
    exact q _ h _ H (Step.refl a.good) (.int _)
  · exact h.elim
def dOwnTup (i : Nat) : DE := fun env Q _ => match env[i]? with
  | some (.own ds) => Q (.tup ds)
  | _ => False
theorem pd_ownTup (hv : L2.PE X (.Name x p) (tVar i)) (hg : Gl X "tuple") (hm : X.mg "tuple" = none) (hs : starEach [.Name x p] X.env = (false, eval (.Name x p) X.env) :: starEach [] X.env := by rfl) (hpl : (backTo pos (starEach [] X.env)).any (·.1) = false := by rfl) :
    PD X W (.Call (.Name "tuple" p2) [.Name x p] [] pos) (dOwnTup i) := PE.imp (pe_callTy call_tuple_of hg hm (by kernel_rfl) (pa_cons hv pa_nil hs) (by decide) (by decide) hs hpl) fun σ H Q ⟨Z, O, env, Q0, R0, a, h, xk, q⟩ => by
  unfold dOwnTup at h
  split at h
  · rename_i ds ho
    obtain ⟨b, vs, h1, h2, h3, h4⟩ := own_atE a ho
    exact ⟨.ref b, h1, b, vs, rfl, .inl ⟨SqL.of h4, fun l hl => q _ h _ _ (Step.new a.good _ hl) (new_tup a.good hl h3)⟩⟩
  · exact h.elim
/-! the owned list is given away: from then on it does not change -/
def relE (i : Nat) (env : Env') : Env' := match env[i]? with
  | some (.own ds) => env.set i (.val (.lst ds))
  | _ => env
theorem own_rel {K : PySem.W.Frag} {Z : Zn} {O : Own} {H : Hp} {σ : L2.St} {env : Env'} (a : StAt K Z O H σ env) (i : Nat) (one : (∀ j ds, j ≠ i → env[j]? ≠ some (.own ds)) ∧ ∀ (j : Nat) (g : Dlg), env[j]? ≠ some (Slot.dlg g)) : ∃ O', Lt Z O H O' H ∧ StAt K Z O' H σ (relE i env) := by
  unfold relE
  split
  · rename_i ds ho
    obtain ⟨b, vs, h1, h2, h3, h4⟩ := own_at a ho
    have hmsk : ∀ c, c ∈ (Z.add []).msk → c ∈ (Z.add O).msk := fun c hc => by
      rcases List.mem_append.mp hc with hc | hc
      · refine List.mem_append_left _ ?_
        show c ∈ (O.map (fun q => (q.2.1, q.2.2)) ++ Z.own).map (·.1)
        rw [List.map_append]
        exact List.mem_append_right _ hc
      · exact List.mem_append_right _ hc
    have le : Lt Z O H [] H := fun c o h => by
      have hc : c ∉ (Z.add O).msk := fun hm => by rw [mask_in hm] at h; cases h
      rw [mask_of hc] at h
      rw [mask_of fun z => hc (hmsk c z)]
      exact h
    have hb : b ∉ (Z.add []).msk := fun z => by
      have nd := a.good.nd
      have e : (Z.add O).msk = (O.map fun q => q.2.1) ++ ((Z.add []).msk) := by
        show (O.map (fun q => (q.2.1, q.2.2)) ++ Z.own).map (·.1) ++ (Z.add O).vs = _
        rw [List.map_append, List.map_map, List.append_assoc]
        rfl
      rw [e] at nd
      exact (List.nodup_append.mp nd).2.2 b (List.mem_map.mpr ⟨_, h2, rfl⟩) b z rfl
    have rb : RepZ K (Z.add []) H (.ref b) (.lst ds) := .lst b vs ds (by rw [mask_of hb]; exact h4) (Reps.mono le h3)
    refine ⟨[], le, by rw [add_nil]; exact a.good.sub, by rw [List.length_set]; exact a.env.len, fun j s e => ?_, fun _ _ _ h => by cases h⟩
    by_cases hj : i = j
    · subst hj
      by_cases hi : i < env.length
      · rw [List.getElem?_set_self hi] at e
        cases e
        exact ⟨_, h1, _, rfl, rb⟩
      · rw [List.getElem?_eq_none (by rw [List.length_set]; omega)] at e
        cases e
    · rw [List.getElem?_set_ne hj] at e
      obtain ⟨v, q1, q2⟩ := a.env.at_ j s e
      refine ⟨v, q1, ?_⟩
      cases s with
      | un => trivial
      | val d => obtain ⟨x, p1, p2⟩ := q2; exact ⟨x, p1, Rep.mono le p2⟩
      | exc x => exact ⟨q2.1, q2.2.le le rfl⟩
      | own es => exact (one.1 j es (fun z => hj z.symm) e).elim
      | dlg g => exact (one.2 j g e).elim
  · exact ⟨O, Le.refl _, a⟩
/-- no other slot owns -/
def noOwn (i : Nat) (env : Env') : Prop := (∀ j ds, j ≠ i → env[j]? ≠ some (.own ds)) ∧ ∀ (j : Nat) (g : Dlg), env[j]? ≠ some (Slot.dlg g)
def noOwnB : Nat → Nat → Env' → Bool
  | _, _, [] => true
  | i, j, .own _ :: r => decide (j = i) && noOwnB i (j + 1) r
  | i, j, .dlg _ :: r => false
  | i, j, _ :: r => noOwnB i (j + 1) r
theorem noOwnB_ok {i : Nat} : ∀ {env : Env'} {j : Nat}, noOwnB i j env = true → ∀ m ds, env[m]? = some (.own ds) → j + m = i
  | [], j, _, m, ds, e => by simp at e
  | s :: r, j, h, 0, ds, e => by
    simp at e
    subst e
    simp only [noOwnB, Bool.and_eq_true, decide_eq_true_eq] at h
    omega
  | s :: r, j, h, m + 1, ds, e => by
    have h2 : noOwnB i (j + 1) r = true := by
      cases s <;> simp only [noOwnB, Bool.and_eq_true] at h <;> first | exact h | exact h.2 | cases h
    have := noOwnB_ok h2 m ds (by simpa using e)
    omega
theorem noOwnB_dlg {i : Nat} : ∀ {env : Env'} {j : Nat}, noOwnB i j env = true → ∀ (m : Nat) (g : Dlg), env[m]? ≠ some (Slot.dlg g)
  | [], j, _, m, g, e => by simp at e
  | s :: r, j, h, 0, g, e => by
    simp at e
    subst e
    simp [noOwnB] at h
  | s :: r, j, h, m + 1, g, e => by
    have h2 : noOwnB i (j + 1) r = true := by
      cases s <;> simp only [noOwnB, Bool.and_eq_true] at h <;> first | exact h | exact h.2 | cases h
    exact noOwnB_dlg h2 m g (by simpa using e)
theorem noOwn_of {i : Nat} {env : Env'} (h : noOwnB i 0 env = true) : noOwn i env := ⟨fun j ds hj e => hj (by have := noOwnB_ok h j ds e; omega), noOwnB_dlg h⟩
def dRel (i : Nat) (g : DG) : DG := fun env k => noOwnB i 0 env = true ∧ g (relE i env) k
theorem dss_rel {ss : List Stmt} {g : DG} (h : PDSs X W ss g) : PDSs X W ss (dRel i g) := PSs.imp h fun D σ H ⟨Z, O, env, k, a, ⟨h1, h2⟩, ko⟩ => by
  obtain ⟨O', l, a'⟩ := own_rel a i (noOwn_of h1)
  exact ⟨Z, O', _, k, a', h2, ko.step l⟩
theorem ds_rel {st : Stmt} {g : DG} (h : PDS X W st g) : PDS X W st (dRel i g) := PS.imp h fun D σ H ⟨Z, O, env, k, a, ⟨h1, h2⟩, ko⟩ => by
  obtain ⟨O', l, a'⟩ := own_rel a i (noOwn_of h1)
  exact ⟨Z, O', _, k, a', h2, ko.step l⟩
end
end Dl

set_option maxHeartbeats 1000000
/-! A written dict of the module with text keys: walked, zipped with a tuple. -/
namespace Dk
open PySem PySem.Spec PyProof.Rows L2

/-- the written dict at d has these keys, in this order -/
structure KTab (K : PySem.W.Frag) (w : World) (d : Addr) (ks : List Str) (n : Nat) : Prop where
  ex : ∃ es, KDict K w d es n ∧ es.toList.map He.keyOf = He.keysIn w.params ks
  nd : ks.Nodup
theorem ktab_of {K : PySem.W.Frag} {w : World} {a : Addr} {ks : List Str} (h : He.dicW K a = some (He.keysIn w.params ks)) (nd : ks.Nodup) : ∃ n, KTab K w a ks n := by
  obtain ⟨es, n, D⟩ := He.dicW_ok h
  refine ⟨n, ⟨es, D, ?_⟩, nd⟩
  have h2 := h
  unfold He.dicW at h2
  rw [D.at_] at h2
  have h3 : (match decide ("dict" = "dict") && ((#[] : Array (Option Value)).isEmpty && !(a == sysModules)) with
        | true => some (es.toList.map He.keyOf)
        | false => none) = some (He.keysIn w.params ks) := h2
  rw [D.low] at h3
  exact Option.some.inj h3
theorem pairs_of {prog : Program} {w : World} : ∀ {l : List DictEntry} {ks : List Str}, l.map He.keyOf = He.keysIn w.params ks → ∃ kvs : List (Str × Value), Pairs (strKind prog w) l kvs ∧ kvs.map (·.1) = ks
  | [], [], _ => ⟨[], .nil, rfl⟩
  | [], _ :: _, h => by cases h
  | _ :: _, [], h => by cases h
  | e :: r, k :: ks, h => by
    have h1 : He.keyOf e :: r.map He.keyOf = some (k, PyData.keyHash w.params k) :: He.keysIn w.params ks := h
    injection h1 with h2 h3
    obtain ⟨kvs, p, q⟩ := pairs_of (prog := prog) h3
    refine ⟨(k, e.val) :: kvs, .cons ?_ rfl p, by simp [q]⟩
    unfold He.keyOf at h2
    split at h2
    · rename_i x t ek
      have h4 := Option.some.inj h2
      obtain ⟨h5, h6⟩ := Prod.mk.inj h4
      rw [ek, ← h5]
      exact strKind_is prog w x t
    · cases h2
/-- .. as a heap's dict -/
theorem KTab.dictAt {K : PySem.W.Frag} {prog : Program} {w : World} {d : Addr} {ks : List Str} {n : Nat} (T : KTab K w d ks n) {h : Heap} (k : K.In h) : ∃ kvs : List (Str × Value), h.DictAt (strKind prog w) d kvs n ∧ kvs.map (·.1) = ks := by
  obtain ⟨es, D, hk⟩ := T.ex
  obtain ⟨kvs, p, q⟩ := pairs_of (prog := prog) hk
  obtain ⟨o, es', ep, ho, hx, hd, hko, _⟩ := PySem.W.mapOf_K (prog := prog) (w := w) k D.at_ D.lit
  have e := k _ _ D.at_
  rw [e] at ho
  cases ho
  obtain ⟨rfl, rfl⟩ := dict_ep (es := es) (ep := n) rfl hd
  exact ⟨kvs, ⟨_, _, e, hx, rfl, hko, p, by rw [q]; exact T.nd⟩, q⟩
theorem KTab.low {K : PySem.W.Frag} {w : World} {d : Addr} {ks : List Str} {n : Nat} (T : KTab K w d ks n) : (d == sysModules) = false := let ⟨_, D, _⟩ := T.ex; D.low
theorem key_at {ks : List Str} {kvs : List (Str × Value)} (q : kvs.map (·.1) = ks) {i : Nat} {k : Str} (h : ks[i]? = some k) : ∃ v, kvs[i]? = some (k, v) := by
  rw [← q, List.getElem?_map] at h
  cases e : kvs[i]? with
  | none => rw [e] at h; cases h
  | some p => rw [e] at h; cases h; exact ⟨p.2, rfl⟩

/-- the keys, in their order -/
def Itq (ks : List Str) : It := ⟨fun i _ => i < ks.length, fun i H x H' => H' = H ∧ ∃ k, ks[i]? = some k ∧ x = .str k, fun i _ => ks.length ≤ i⟩
section
variable {P : Program} {w : World} {K : PySem.W.Frag} {d : Addr} {ks : List Str} {n : Nat}
theorem KTab.len {h : Heap} {prog : Program} {kvs : List (Str × Value)} (q : kvs.map (·.1) = ks) : kvs.length = ks.length := by rw [← q, List.length_map]
theorem turn_tab {tg : Expr} (T : KTab K w d ks n) (it : Addr) : Turn P w K tg (Itq ks) [it] it (fun i h => h.IsKeyIter it d i ks.length n) where
  mem := List.mem_singleton.mpr rfl
  obj := fun i h st b hb => by
    cases List.mem_singleton.mp hb
    obtain ⟨oi, e, _, dd⟩ := st
    exact ⟨oi, e, fun v z => by rw [dd] at z; cases z⟩
  keep := fun i h h' st k => let ⟨oi, e, r⟩ := st; ⟨oi, k it (List.mem_singleton.mpr rfl) oi e, r⟩
  item := by
    intro X hP hw hK hc i pins s σ H E I hf st hg
    subst hP hw hK
    obtain ⟨f0, f1, f2, f3, f4, f5⟩ := hf it (List.mem_singleton.mpr rfl)
    obtain ⟨kvs, hm, hq⟩ := T.dictAt (prog := X.prog) I.kIn
    have hl : ks.length = kvs.length := by rw [← hq, List.length_map]
    obtain ⟨k, hk⟩ : ∃ k, ks[i]? = some k := ⟨_, List.getElem?_eq_getElem hg⟩
    obtain ⟨v, hv⟩ := key_at hq hk
    rw [hl] at st
    refine wpAny_pyNext_dict_item st hm hv fun key h' hkey st' sb => ?_
    have I1 : Inv X pins σ H { s with heap := h' } := I.turned (t' := s.toks) (fun b ob hb e => (sb.2 b hb).trans e) f0 f1 f3 f4 f5
    obtain ⟨oi, e, c, dd⟩ := id st'
    obtain ⟨t, rfl⟩ := PySem.Value.isStrOf_shape hkey
    refine ⟨_, rfl, go_of (s := { s with heap := h' }) e c dd (by decide) ⟨.str k, H, I1, ⟨t, rfl⟩, ⟨rfl, k, hk, rfl⟩, ?_, fun b hb => (hf b hb).1⟩⟩
    rw [← hl] at st'
    exact st'
  done := by
    intro X hP hw hK hc i pins s σ H E I hf st hg
    subst hP hw hK
    obtain ⟨f0, f1, f2, f3, f4, f5⟩ := hf it (List.mem_singleton.mpr rfl)
    obtain ⟨kvs, hm, hq⟩ := T.dictAt (prog := X.prog) I.kIn
    have hl : ks.length = kvs.length := by rw [← hq, List.length_map]
    have hx : kvs[i]? = none := List.getElem?_eq_none (by rw [← hl]; exact hg)
    rw [hl] at st
    exact wpAny_pyNext_dict_end (I.ok.hd hc) st hm hx fun h' eb => ⟨rfl, I.turned (t' := s.toks) (fun b ob hb e => eb b ob hb e) f0 f1 f3 f4 f5⟩
  self := fun A i s Q E st h => wpAny_pyIter_keyiter st h
/-- for k in the table -/
def iTab (d : Addr) (ks : List Str) (te : TE) : TI := fun σ H R => te σ H fun x H1 => x = .ref d ∧ R (Itq ks) H1
theorem pi_tab {X : Cx} {tg e : Expr} {te : TE} (T : KTab X.K X.w d ks n) (he : PE X e te) : PI X tg e (iTab d ks te) := by
  refine ⟨fun pins s σ H R I h => ?_⟩
  refine thn (he.run pins s σ H _ I h) fun u s1 ⟨x, H1, I1, rx, ex, q⟩ => ?_
  subst ex
  obtain rfl : u = Value.ref d := rx
  obtain ⟨kvs, hm, hq⟩ := T.dictAt (prog := X.prog) I1.kIn
  have hl : ks.length = kvs.length := by rw [← hq, List.length_map]
  refine wpAny_pyIter_dict T.low hm (pi_one (tk := s1.toks) I1 _ (turn_tab T _) ⟨_, Heap.get?_push_size _ rfl, rfl, ?_⟩ q)
  rw [hl]
  rfl
end

/-! ### zip of two that are walked by their own iterators -/
section
variable {prog : Program} {w : World}
/-- nextOf gives x, and the state goes on; l is what is walked -/
structure Nxt (prog : Program) (w : World) (it l : Addr) (P P' : Heap → Prop) (G : Value → Prop) : Prop where
  keep : ∀ h h', P h → (∀ o, h.get? it = some o → h'.get? it = some o) → (∀ o, h.get? l = some o → h'.get? l = some o) → P h'
  keep' : ∀ h h', P' h → (∀ o, h.get? it = some o → h'.get? it = some o) → (∀ o, h.get? l = some o → h'.get? l = some o) → P' h'
  run : ∀ (A : Around) (E : Value → Shared → Prop) (s : Shared) (Q : Value → Shared → Prop), P s.heap → (∀ x h', G x → P' h' → Heap.SameBut it s.heap h' → Q x { s with heap := h' }) → wpAny (model prog w) A (Builtin.SmallTypes.nextOf (.ref it)) Q E s
structure Fin_ (prog : Program) (w : World) (it l : Addr) (P : Heap → Prop) : Prop where
  keep : ∀ h h', P h → (∀ o, h.get? it = some o → h'.get? it = some o) → (∀ o, h.get? l = some o → h'.get? l = some o) → P h'
  run : ∀ (A : Around) (E : Value → Shared → Prop) (s : Shared) (Q : Value → Shared → Prop), A.handled = none → P s.heap → (∀ h' e, Heap.ExtBut it s.heap h' → (∃ o, h'.get? e = some o ∧ o.cls = .type "StopIteration") → E (.ref e) { s with heap := h' }) → wpAny (model prog w) A (Builtin.SmallTypes.nextOf (.ref it)) Q E s
theorem Nxt.ext {it l b : Addr} {P P' : Heap → Prop} {G : Value → Prop} (N : Nxt prog w it l P P' G) {h h' : Heap} (p : P h) (e : Heap.ExtBut b h h') (h1 : it ≠ b) (h2 : l ≠ b) : P h' := N.keep h h' p (fun o q => e it o h1 q) fun o q => e l o h2 q
theorem Nxt.ext' {it l b : Addr} {P P' : Heap → Prop} {G : Value → Prop} (N : Nxt prog w it l P P' G) {h h' : Heap} (p : P' h) (e : Heap.ExtBut b h h') (h1 : it ≠ b) (h2 : l ≠ b) : P' h' := N.keep' h h' p (fun o q => e it o h1 q) fun o q => e l o h2 q
theorem zip_step {z TI TO i1 i2 l1 l2 : Addr} {a b : Value} {G1 G2 : Value → Prop} {P1 P1' P2 P2' : Heap → Prop} {A : Around} {E : Value → Shared → Prop} {s : Shared} {Q : Value → Shared → Prop} (D : ZipApart z TI TO i1 i2 l1 l2)
    (N1 : Nxt prog w i1 l1 P1 P1' G1) (N2 : Nxt prog w i2 l2 P2 P2' G2) (hz : IsZip s.heap z TI TO .none) (hTI : IsPair s.heap TI (.ref i1) (.ref i2)) (hTO : IsPair s.heap TO a b) (p1 : P1 s.heap) (p2 : P2 s.heap)
    (hQ : ∀ x y h', G1 x → G2 y → IsZip h' z TI TO (rawInt s.heap.objs.size) → IsPair h' TO x y → P1' h' → P2' h' → IsPair h' s.heap.objs.size x y → h'.objs.size = s.heap.objs.size + 1 →
      (∀ c o, c ≠ z → c ≠ TO → c ≠ i1 → c ≠ i2 → s.heap.get? c = some o → h'.get? c = some o) → Q (.ref s.heap.objs.size) { s with heap := h' }) :
    wpAny (model prog w) A (Builtin.«zip.__next__» ⟨[.ref z], []⟩) (fun fin s' => ∃ v, fin = .done (.ret v) ∧ Q v s') E s := by
  show wpAny _ _ (field (.ref z) 2 >>= _) _ _ _
  refine wpAny_bind (wpAny_field hz rfl (x := .bool false) rfl ?_)
  show wpAny _ _ (field (.ref z) 3 >>= _) _ _ _
  refine wpAny_bind (wpAny_field hz rfl (x := .ref TI) rfl (wpAny_bind (wpAny_seqItems hTI rfl ?_)))
  show wpAny _ _ (Builtin.SmallTypes.ownedTupleIsFree (.ref z) >>= _) _ _ _
  refine wpAny_bind ?_
  unfold Builtin.SmallTypes.ownedTupleIsFree
  refine wpAny_bind (wpAny_field hz rfl (x := .none) rfl (wpAny_pure ?_))
  simp only [if_true]
  refine wpAny_bind (wpAny_rule (wpAny_bind (wpAny_field hz rfl (x := .ref TO) rfl (wpAny_bind (wpAny_setField_rec hz (by simp) fun ha hza sa => ?_)))))
  replace hza : IsZip ha z TI TO .ellipsis := hza
  refine wpAny_bind ?_
  simp only [List.zipIdx_cons, List.zipIdx_nil, List.forIn_cons, List.forIn_nil]
  -- the first
  refine wpAny_bind (wpAny_bind (wpAny_onRaise ?_))
  show wpAny _ _ (Builtin.SmallTypes.nextOf (.ref i1) >>= _) _ _ _
  refine wpAny_bind (N1.run _ _ { s with heap := ha } _ (N1.ext p1 sa.extBut D.i1z D.l1z) fun x hb gx p1b sb => wpAny_pure ?_)
  have hTOb : IsPair hb TO a b := sb.extBut _ _ D.TOi1 (sa.extBut _ _ D.TOz hTO)
  refine wpAny_bind (wpAny_seqItems hTOb rfl (wpAny_bind (wpAny_updateSeq_pair hTOb fun hc hTOc sc => ?_)))
  replace hTOc : IsPair hc TO x b := hTOc
  refine wpAny_bind (wpAny_letGo (wpAny_pure ?_))
  -- the second
  refine wpAny_bind (wpAny_bind (wpAny_onRaise ?_))
  show wpAny _ _ (Builtin.SmallTypes.nextOf (.ref i2) >>= _) _ _ _
  have p2c : P2 hc := N2.ext (N2.ext (N2.ext p2 sa.extBut D.i2z D.l2z) sb.extBut D.i12.symm D.l2i1) sc.extBut D.TOi2.symm D.l2TO
  refine wpAny_bind (N2.run _ _ { s with heap := hc } _ p2c fun y hd gy p2d sd => wpAny_pure ?_)
  have hTOd : IsPair hd TO x b := sd.extBut _ _ D.TOi2 hTOc
  refine wpAny_bind (wpAny_seqItems hTOd rfl (wpAny_bind (wpAny_updateSeq_pair hTOd fun he hTOe se => ?_)))
  replace hTOe : IsPair he TO x y := hTOe
  refine wpAny_bind (wpAny_letGo (wpAny_pure (wpAny_pure (wpAny_bind (wpAny_seqItems hTOe rfl (wpAny_bind (wpAny_newTuple ?_)))))))
  have hsz : he.objs.size = s.heap.objs.size := by rw [se.1, sd.1, sc.1, sb.1, sa.1]
  have hze : IsZip he z TI TO .ellipsis := se.extBut _ _ D.TOz.symm (sd.extBut _ _ D.i2z.symm (sc.extBut _ _ D.TOz.symm (sb.extBut _ _ D.i1z.symm hza)))
  have hke : ∀ c o, c ≠ z → c ≠ TO → c ≠ i1 → c ≠ i2 → s.heap.get? c = some o → he.get? c = some o := fun c o c1 c2 c3 c4 e =>
    se.extBut _ _ c2 (sd.extBut _ _ c4 (sc.extBut _ _ c2 (sb.extBut _ _ c3 (sa.extBut _ _ c1 e))))
  have p1e : P1' he := N1.ext' (N1.ext' (N1.ext' p1b sc.extBut D.TOi1.symm D.l1TO) sd.extBut D.i12 D.l1i2) se.extBut D.TOi1.symm D.l1TO
  have p2e : P2' he := N2.ext' p2d se.extBut D.TOi2.symm D.l2TO
  show wpAny _ _ (Builtin.SmallTypes.ownedTupleHandOut (.ref z) (.ref he.objs.size) >>= _) _ _ _
  refine wpAny_bind ?_
  unfold Builtin.SmallTypes.ownedTupleHandOut
  have hzf : IsZip (he.push { cls := .type "tuple", data := .seq #[x, y] }) z TI TO .ellipsis := Heap.get?_push_of_some _ hze
  refine wpAny_bind (wpAny_setField_rec hzf (by simp) fun hg hzg sg => ?_)
  replace hzg : IsZip hg z TI TO (rawInt he.objs.size) := hzg
  refine wpAny_setField_rec hzg (by simp) fun hk hzk sk => ?_
  replace hzk : IsZip hk z TI TO (rawInt he.objs.size) := hzk
  have up : ∀ c o, c ≠ z → he.get? c = some o → hk.get? c = some o := fun c o c1 e => sk.extBut _ _ c1 (sg.extBut _ _ c1 (Heap.get?_push_of_some _ e))
  have hT : IsPair hk he.objs.size x y := sk.extBut _ _ (Nat.ne_of_gt (Heap.lt_size hze)) (sg.extBut _ _ (Nat.ne_of_gt (Heap.lt_size hze)) (Heap.get?_push_size _ rfl))
  have hks : hk.objs.size = he.objs.size + 1 := by rw [sk.1, sg.1, Heap.size_push]
  rw [hsz] at hzk hT hks
  refine wpAny_pure ⟨_, rfl, ?_⟩
  show Q (.ref he.objs.size) _
  rw [hsz]
  exact hQ x y hk gx gy hzk (up _ _ D.TOz hTOe) (N1.keep' _ _ p1e (fun o e => up _ o D.i1z e) fun o e => up _ o D.l1z e) (N2.keep' _ _ p2e (fun o e => up _ o D.i2z e) fun o e => up _ o D.l2z e) hT hks fun c o c1 c2 c3 c4 e => up c o c1 (hke c o c1 c2 c3 c4 e)
theorem zip_stop {z TI TO i1 i2 l1 : Addr} {a b : Value} {P1 : Heap → Prop} {A : Around} {E : Value → Shared → Prop} {s : Shared} {Q : Fin → Shared → Prop} (hh : A.handled = none) (d1 : i1 ≠ z) (d2 : l1 ≠ z)
    (N1 : Fin_ prog w i1 l1 P1) (hz : IsZip s.heap z TI TO .none) (hTI : IsPair s.heap TI (.ref i1) (.ref i2)) (hTO : IsPair s.heap TO a b) (p1 : P1 s.heap)
    (hE : ∀ h' e, (∀ c o, c ≠ z → c ≠ i1 → s.heap.get? c = some o → h'.get? c = some o) → (∃ o, h'.get? e = some o ∧ o.cls = .type "StopIteration") → E (.ref e) { s with heap := h' }) :
    wpAny (model prog w) A (Builtin.«zip.__next__» ⟨[.ref z], []⟩) Q E s := by
  show wpAny _ _ (field (.ref z) 2 >>= _) _ _ _
  refine wpAny_bind (wpAny_field hz rfl (x := .bool false) rfl ?_)
  show wpAny _ _ (field (.ref z) 3 >>= _) _ _ _
  refine wpAny_bind (wpAny_field hz rfl (x := .ref TI) rfl (wpAny_bind (wpAny_seqItems hTI rfl ?_)))
  show wpAny _ _ (Builtin.SmallTypes.ownedTupleIsFree (.ref z) >>= _) _ _ _
  refine wpAny_bind ?_
  unfold Builtin.SmallTypes.ownedTupleIsFree
  refine wpAny_bind (wpAny_field hz rfl (x := .none) rfl (wpAny_pure ?_))
  simp only [if_true]
  refine wpAny_bind (wpAny_rule (wpAny_bind (wpAny_field hz rfl (x := .ref TO) rfl (wpAny_bind (wpAny_setField_rec hz (by simp) fun ha hza sa => ?_)))))
  replace hza : IsZip ha z TI TO .ellipsis := hza
  refine wpAny_bind ?_
  simp only [List.zipIdx_cons, List.zipIdx_nil, List.forIn_cons, List.forIn_nil]
  refine wpAny_bind (wpAny_bind (wpAny_onRaise ?_))
  show wpAny _ _ (Builtin.SmallTypes.nextOf (.ref i1) >>= _) _ _ _
  refine wpAny_bind (N1.run _ _ { s with heap := ha } _ hh (N1.keep _ _ p1 (fun o e => sa.extBut _ _ d1 e) fun o e => sa.extBut _ _ d2 e) fun hb e sb he => ?_)
  obtain ⟨oe, hoe, hce⟩ := he
  have hzb : IsZip hb z TI TO .ellipsis := sb _ _ d1.symm hza
  have hez : e ≠ z := fun q => by
    rw [q, hzb] at hoe
    cases hoe
    simp at hce
  exact wpAny_setField_rec hzb (by simp) fun hc _ sc => hE hc e (fun c o c1 c3 q => sc.extBut _ _ c1 (sb _ _ c3 (sa.extBut _ _ c1 q))) ⟨oe, sc.extBut _ _ hez hoe, hce⟩
theorem tup_nxt {it l : Addr} {i : Nat} {its : Array Value} {x : Value} (hx : its[i]? = some x) : Nxt prog w it l (fun h => h.IsTupleIter it l i ∧ h.IsTuple l its) (fun h => h.IsTupleIter it l (i + 1)) (fun y => y = x) where
  keep := fun h h' ⟨p, q⟩ k1 k2 => ⟨p.at k1, let ⟨o, e, r⟩ := q; ⟨o, k2 o e, r⟩⟩
  keep' := fun h h' p k1 k2 => p.at k1
  run := fun A E s Q ⟨p, q⟩ hQ => RZ.nextOf_tuple_item p q hx fun h' p' sb => hQ x h' rfl p' sb
theorem keyiter_at {h h' : Heap} {it d : Addr} {i n ep : Nat} (p : h.IsKeyIter it d i n ep) (k : ∀ o, h.get? it = some o → h'.get? it = some o) : h'.IsKeyIter it d i n ep := let ⟨o, e, r⟩ := p; ⟨o, k o e, r⟩
theorem dictAt_at {knd : KeyKind prog w Str} {h h' : Heap} {d : Addr} {kvs : List (Str × Value)} {ep : Nat} (p : h.DictAt knd d kvs ep) (k : ∀ o, h.get? d = some o → h'.get? d = some o) : h'.DictAt knd d kvs ep := let ⟨o, es, e, r⟩ := p; ⟨o, es, k o e, r⟩
theorem key_nxt {it d : Addr} {i ep : Nat} {kvs : List (Str × Value)} {k : Str} {v : Value} (hx : kvs[i]? = some (k, v)) :
    Nxt prog w it d (fun h => h.IsKeyIter it d i kvs.length ep ∧ h.DictAt (strKind prog w) d kvs ep) (fun h => h.IsKeyIter it d (i + 1) kvs.length ep) (fun x => ∃ t, x = .str k t) where
  keep := fun h h' ⟨p, q⟩ k1 k2 => ⟨keyiter_at p k1, dictAt_at q k2⟩
  keep' := fun h h' p k1 k2 => keyiter_at p k1
  run := fun A E s Q ⟨p, q⟩ hQ => by
    unfold Builtin.SmallTypes.nextOf
    exact wpAny_bind (PySem.W.kdk_special p q hx fun key h' hk p' sb => wpAny_pure (hQ key h' (PySem.Value.isStrOf_shape hk) p' sb))
/-- behind the last key -/
theorem key_fin {it d : Addr} {i ep : Nat} {kvs : List (Str × Value)} (hx : kvs.length ≤ i) : Fin_ prog w it d (fun h => h.IsKeyIter it d i kvs.length ep ∧ h.DictAt (strKind prog w) d kvs ep) where
  keep := fun h h' ⟨p, q⟩ k1 k2 => ⟨keyiter_at p k1, dictAt_at q k2⟩
  run := fun A E s Q hh ⟨hit, hm⟩ hE => by
    obtain ⟨o, ho, hc, hd⟩ := id hit
    obtain ⟨od, es, hod, hcd, hdd, hk, hp, hn⟩ := id hm
    unfold Builtin.SmallTypes.nextOf
    refine wpAny_bind (wpAny_callSpecial?_slot (name := Str.ofString "__next__") hit.typeIs F.slot_dict_keyiterator_next (wpAny_call_entry F.slot_dict_keyiterator_next hit.typeIs F.entry_dict_keyiterator_next ?_ (F.args_dict_keyiterator_next_1 _)))
    refine wpAny_bind (wpAny_pure (wpAny_bind (wpAny_bind ?_)))
    first | refine wpAny_bind (wpAny_typeNameOfWhole_keyiter hit.typeIs (wpAny_pure ?_)) | refine wpAny_bind (wpAny_typeNameOf_keyiter hit.typeIs (wpAny_pure ?_))
    refine wpAny_bind (wpAny_fieldsOf ho hd ?_)
    simp only [show Builtin.Dict_items.ownsTuple "dict_keyiterator" = false by decide, Bool.false_eq_true, if_false]
    show wpAny _ _ (if (Value.ref d == Value.none) = true then _ else _) _ _ s
    rw [if_neg (show ¬ ((Value.ref d == Value.none) = true) from Bool.false_ne_true)]
    refine wpAny_bind (wpAny_pure (wpAny_bind (wpAny_dictEntries hod hdd ?_)))
    have hsz : es.size = kvs.length := by rw [← hp.length]; simp
    rw [if_neg (by rw [hsz]; simp)]
    refine wpAny_bind (wpAny_pure (wpAny_bind (wpAny_dictEpoch hod hdd ?_)))
    rw [if_neg (by simp)]
    refine wpAny_pure ?_
    simp only [show ¬ ((i : Int) < 0) from by omega, if_false, Int.toNat_natCast, Array.getElem?_eq_none (show es.size ≤ i by omega)]
    refine wpAny_bind ?_
    first | refine wpAny_bind (wpAny_typeNameOfWhole_keyiter hit.typeIs (wpAny_pure ?_)) | refine wpAny_bind (wpAny_typeNameOf_keyiter hit.typeIs (wpAny_pure ?_))
    show wpAny _ _ (setField (.ref it) 0 .none >>= _) _ _ s
    refine wpAny_bind (wpAny_setField ho hd (by simp) ?_)
    show wpAny _ _ (newExc (.type "StopIteration") [] >>= _) _ _ _
    refine wpAny_bind ?_
    simp only [newExc, newTuple]
    refine wpAny_bind (wpAny_newObj_type ?_ (by size_fits))
    refine wpAny_bind (m := firstArgMember _ _) (wpAny_of_eq (a := Value.none) (by first | rfl | (simp only [firstArgMember]; rfl)) ?_)
    refine wpAny_newObj_type ?_ (by size_fits)
    simp only [raiseNew]
    refine wpAny_bind (wpAny_handled ?_)
    first | rw [show A.in1.handled = none from hh] | rw [hh]
    exact wpAny_bind (wpAny_pure (wpAny_throw (hE _ _ (((Heap.SameBut.update ..).extBut.push _).push _) ⟨_, Heap.get?_push_size _ rfl, rfl⟩)))
end
section
variable {prog : Program} {w : World} {A : Around} {E : Value → Shared → Prop} {s : Shared}
theorem pyNext_zipq {z TI TO i1 i2 l1 l2 : Addr} {a b : Value} {G1 G2 : Value → Prop} {P1 P1' P2 P2' : Heap → Prop} {Q : Option Value → Shared → Prop} (D : ZipApart z TI TO i1 i2 l1 l2)
    (N1 : Nxt prog w i1 l1 P1 P1' G1) (N2 : Nxt prog w i2 l2 P2 P2' G2) (hz : IsZip s.heap z TI TO .none) (hTI : IsPair s.heap TI (.ref i1) (.ref i2)) (hTO : IsPair s.heap TO a b) (p1 : P1 s.heap) (p2 : P2 s.heap)
    (hQ : ∀ x y h', G1 x → G2 y → IsZip h' z TI TO (rawInt s.heap.objs.size) → IsPair h' TO x y → P1' h' → P2' h' → IsPair h' s.heap.objs.size x y → h'.objs.size = s.heap.objs.size + 1 →
      (∀ c o, c ≠ z → c ≠ TO → c ≠ i1 → c ≠ i2 → s.heap.get? c = some o → h'.get? c = some o) → Q (some (.ref s.heap.objs.size)) { s with heap := h' }) :
    wpAny (model prog w) A (pyNext (.ref z)) Q E s := by
  unfold pyNext
  exact wpAny_bind (wpAny_attempt (wpAny_callSpecial?_slot (name := Str.ofString "__next__") ⟨_, hz, rfl⟩ F.slot_zip_next (wpAny_call_entry F.slot_zip_next ⟨_, hz, rfl⟩ F.entry_zip_next
    (zip_step D N1 N2 hz hTI hTO p1 p2 fun x y h' a1 a2 a3 a4 a5 a6 a7 a8 a9 => wpAny_pure (hQ x y h' a1 a2 a3 a4 a5 a6 a7 a8 a9)) (F.args_zip_next_1 _))))
theorem pyNext_zipq_end {z TI TO i1 i2 l1 : Addr} {a b : Value} {P1 : Heap → Prop} {Q : Option Value → Shared → Prop} (hh : A.handled = none) (d1 : i1 ≠ z) (d2 : l1 ≠ z)
    (N1 : Fin_ prog w i1 l1 P1) (hz : IsZip s.heap z TI TO .none) (hTI : IsPair s.heap TI (.ref i1) (.ref i2)) (hTO : IsPair s.heap TO a b) (p1 : P1 s.heap)
    (hQ : ∀ h', (∀ c o, c ≠ z → c ≠ i1 → s.heap.get? c = some o → h'.get? c = some o) → Q none { s with heap := h' }) : wpAny (model prog w) A (pyNext (.ref z)) Q E s := by
  unfold pyNext
  refine wpAny_bind (wpAny_attempt (wpAny_callSpecial?_slot (name := Str.ofString "__next__") ⟨_, hz, rfl⟩ F.slot_zip_next (wpAny_call_entry F.slot_zip_next ⟨_, hz, rfl⟩ F.entry_zip_next
    (zip_stop hh d1 d2 N1 hz hTI hTO p1 fun h' e hk he => ?_) (F.args_zip_next_1 _))))
  obtain ⟨o, ho, hc⟩ := he
  exact wpAny_bind (wpAny_isInstance (T := "StopIteration") (b := true) ⟨o, ho, hc⟩ isSubtype_stop (wpAny_pure (hQ _ hk)))
end
/-- the table's keys and a tuple's items, in new pairs -/
def Itqz (K : PySem.W.Frag) (ks : List Str) (b : Addr) : It :=
  ⟨fun i H => i < ks.length ∧ ∃ ys y, SqT K H b ys ∧ ys[i]? = some y, fun i H v H' => ∃ T k y, v = .ref T ∧ H T = none ∧ H' = upd H T (.tup [.str k, y]) ∧ ks[i]? = some k ∧ ∀ ys, SqT K H b ys → ys[i]? = some y, fun i H => ks.length ≤ i⟩
section
variable {P : Program} {w : World} {K : PySem.W.Frag} {d : Addr} {ks : List Str} {n : Nat}
theorem turn_zipq {elts : List Expr} {kk : Nat} {tpos : Pos} {b z TI TO i1 i2 : Addr} (T : KTab K w d ks n) (D : ZipApart z TI TO i1 i2 d b) :
    Turn P w K (.Tuple elts kk tpos) (Itqz K ks b) [z, TI, TO, i1, i2] z (fun i h => IsZip h z TI TO .none ∧ IsPair h TI (.ref i1) (.ref i2) ∧ (∃ x y, IsPair h TO x y) ∧ h.IsKeyIter i1 d i ks.length n ∧ h.IsTupleIter i2 b i) where
  mem := List.mem_cons_self
  obj := fun i h st c hc => by
    obtain ⟨hz, hTI, ⟨x, y, hTO⟩, ⟨o1, e1, _, d1⟩, ⟨o2, e2, _, d2⟩⟩ := st
    simp only [List.mem_cons, List.not_mem_nil, or_false] at hc
    rcases hc with q | q | q | q | q <;> subst q
    · exact ⟨_, hz, fun v q => nomatch q⟩
    · exact ⟨_, hTI, fun v q => nomatch q⟩
    · exact ⟨_, hTO, fun v q => nomatch q⟩
    · exact ⟨_, e1, fun v q => by rw [d1] at q; cases q⟩
    · exact ⟨_, e2, fun v q => by rw [d2] at q; cases q⟩
  keep := fun i h h' st k => by
    obtain ⟨hz, hTI, ⟨x, y, hTO⟩, h1, h2⟩ := st
    exact ⟨k z (by simp) _ hz, k TI (by simp) _ hTI, ⟨x, y, k TO (by simp) _ hTO⟩, keyiter_at h1 fun o q => k i1 (by simp) o q, h2.at fun o q => k i2 (by simp) o q⟩
  item := by
    intro X hP hw hK hc i pins s σ H E I hf st hg
    subst hP hw hK
    obtain ⟨hz, hTI, ⟨x0, y0, hTO⟩, h1, h2⟩ := st
    obtain ⟨hi, ys, y, hqy, hy⟩ := hg
    obtain ⟨kvs, hm, hq⟩ := T.dictAt (prog := X.prog) I.kIn
    have hl : ks.length = kvs.length := by rw [← hq, List.length_map]
    obtain ⟨k, hk⟩ : ∃ k, ks[i]? = some k := ⟨_, List.getElem?_eq_getElem hi⟩
    obtain ⟨v, hv⟩ := key_at hq hk
    obtain ⟨its, rv, p, _⟩ := I.tuple hqy
    obtain ⟨u, hu, ru⟩ := rv.get hy
    have hzl : z < s.heap.objs.size := Heap.lt_size hz
    rw [hl] at h1
    refine pyNext_zipq D (key_nxt hv) (tup_nxt (its := its.toArray) (x := u) (by simpa using hu)) hz hTI hTO ⟨h1, hm⟩ ⟨h2, p⟩ fun x y' h' gx gy z' TO' h1' h2' hT hsz hkp => ?_
    obtain ⟨t, rfl⟩ := gx
    subst gy
    refine ⟨_, rfl, wpAny_letOwnedTupleGo_zip (s := { s with heap := h' }) z' fun h'' z'' sb => ?_⟩
    have hT2 : h''.get? s.heap.objs.size = some { cls := .type "tuple", data := .seq #[.str k t, y'] } := (sb.2 _ (Nat.ne_of_gt hzl)).trans hT
    have new : ObjOk X.prog X.w (upd H s.heap.objs.size (.tup [.str k, y])) h'' s.heap.objs.size (.tup [.str k, y]) :=
      ⟨by show 2 ≤ sizeLine; decide, [.str k t, y'], .cons ⟨t, rfl⟩ (.cons ru .nil), ⟨_, hT2, rfl, _, rfl⟩⟩
    have I1 : Inv X pins σ (upd H s.heap.objs.size (.tup [.str k, y])) { s with heap := h'' } :=
      I.turnedNew (t' := s.toks) (ch := [z, TI, TO, i1, i2]) (fun c o hb q => (sb.2 c (fun q' => hb (by simp [q']))).trans (hkp c o (fun q' => hb (by simp [q'])) (fun q' => hb (by simp [q'])) (fun q' => hb (by simp [q'])) (fun q' => hb (by simp [q'])) q)) hf (Nat.le_refl _) new
    refine ⟨.ref s.heap.objs.size, _, I1, rfl, ⟨_, k, y, rfl, I.hok.fresh (Nat.le_refl _), rfl, hk, fun l hl => by rw [I.tuple_inj hl hqy]; exact hy⟩, ⟨z'', ?_, ⟨.str k t, y', ?_⟩, ?_, ?_⟩, fun c hcm => ?_⟩
    · exact (sb.2 _ D.TIz).trans (hkp _ _ D.TIz D.TITO D.TIi1 D.TIi2 hTI)
    · exact (sb.2 _ D.TOz).trans TO'
    · rw [hl]
      exact keyiter_at h1' fun o q => (sb.2 _ D.i1z).trans q
    · exact h2'.at fun o q => (sb.2 _ D.i2z).trans q
    · have hlt : c < s.heap.objs.size := by
        simp only [List.mem_cons, List.not_mem_nil, or_false] at hcm
        obtain ⟨_, e1, _⟩ := id h1
        obtain ⟨_, e2, _⟩ := id h2
        rcases hcm with q | q | q | q | q <;> rw [q]
        · exact hzl
        · exact Heap.lt_size hTI
        · exact Heap.lt_size hTO
        · exact Heap.lt_size e1
        · exact Heap.lt_size e2
      rw [upd_ne (Nat.ne_of_lt hlt)]
      exact (hf c hcm).1
  done := by
    intro X hP hw hK hc i pins s σ H E I hf st hg
    subst hP hw hK
    obtain ⟨hz, hTI, ⟨x0, y0, hTO⟩, h1, h2⟩ := st
    obtain ⟨kvs, hm, hq⟩ := T.dictAt (prog := X.prog) I.kIn
    have hl : ks.length = kvs.length := by rw [← hq, List.length_map]
    rw [hl] at h1
    exact pyNext_zipq_end (I.ok.hd hc) D.i1z D.l1z (key_fin (kvs := kvs) (by rw [← hl]; exact hg)) hz hTI hTO ⟨h1, hm⟩ fun h' hk => ⟨rfl, I.turnedL (t' := s.toks) (ch := [z, TI, TO, i1, i2]) (fun c o hb q =>
      hk c o (fun q' => hb (by simp [q'])) (fun q' => hb (by simp [q'])) q) hf⟩
  self := fun A i s Q E st h => wpAny_pyIter_zip st.1 h
end
abbrev zq1 (h : Heap) (d n ep : Nat) : Heap := h.push { cls := .type "dict_keyiterator", data := .fields #[.ref d, .int 0 0, .int n 0, .int ep 0] }
abbrev zq2 (h : Heap) (d n ep b : Nat) : Heap := (zq1 h d n ep).push { cls := .type "tuple_iterator", data := .fields #[.ref b, .int 0 0] }
abbrev zq3 (h : Heap) (d n ep b : Nat) : Heap := (zq2 h d n ep b).push { cls := .type "tuple", data := .seq #[.ref h.objs.size, .ref (zq1 h d n ep).objs.size] }
abbrev zq4 (h : Heap) (d n ep b : Nat) : Heap := (zq3 h d n ep b).push { cls := .type "tuple", data := .seq #[.none, .none] }
abbrev zq5 (h : Heap) (d n ep b : Nat) : Heap := (zq4 h d n ep b).push { cls := .type "zip", data := .fields #[.none, .bool false, .bool false, .ref (zq2 h d n ep b).objs.size, .ref (zq3 h d n ep b).objs.size] }
theorem meets_zipq_new (d b : Addr) (o : Obj) (es : Array DictEntry) (ep : Nat) (ys : Array Value) (hsys : (d == sysModules) = false) (hc : o.ExactDict) (hdat : o.data = .dict es ep) :
    Meets (Builtin.«zip.__new__» ⟨[.type "zip", .ref d, .ref b], []⟩) (fun _ R s => s.heap.get? d = some o ∧ s.heap.IsTuple b ys ∧
      R (.ok (.ret (.ref (zq4 s.heap d es.size ep b).objs.size))) { s with heap := zq5 s.heap d es.size ep b }) :=
  .of_wp fun prog w A R s h => by
    obtain ⟨hp, g, dr, tk, os⟩ := s
    obtain ⟨ho, hl, h⟩ := h
    have hsub := sub_zip
    have hL1 : Heap.get? (Shared.heap ⟨hp, g, dr, tk, os⟩) d = some o := ho
    have hL2 : Heap.IsTuple (Shared.heap ⟨zq1 hp d es.size ep, g, dr, tk, os⟩) b ys := Heap.IsTuple.push hl _
    wp_walk using iter_keys hsys hL1 hc hdat, wpAny_pyIter_tuple hL2
    exact ⟨_, rfl, h⟩
section
variable {prog : Program} {w : World} {A : Around} {E : Value → Shared → Prop} {s : Shared}
theorem call_zipq {d b : Addr} {o : Obj} {es : Array DictEntry} {ep : Nat} {ys : Array Value} {Q : Value → Shared → Prop} (hsys : (d == sysModules) = false) (hc : o.ExactDict) (hdat : o.data = .dict es ep) (ho : s.heap.get? d = some o) (hl : s.heap.IsTuple b ys)
    (h : ∀ h', IsZip h' (s.heap.objs.size + 4) (s.heap.objs.size + 2) (s.heap.objs.size + 3) .none → IsPair h' (s.heap.objs.size + 2) (.ref s.heap.objs.size) (.ref (s.heap.objs.size + 1)) →
      IsPair h' (s.heap.objs.size + 3) .none .none → h'.IsKeyIter s.heap.objs.size d 0 es.size ep → h'.IsTupleIter (s.heap.objs.size + 1) b 0 → h'.objs.size = s.heap.objs.size + 5 →
      (∀ c o, s.heap.get? c = some o → h'.get? c = some o) → Q (.ref (s.heap.objs.size + 4)) { s with heap := h' }) :
    wpAny (model prog w) A (call (.type "zip") [.ref d, .ref b]) Q E s := by
  refine callType_new F.called_zip (by decide) (F.typeCall_zip_2 _ _) (F.newCall_zip_2 _ _) (fun obj => F.args_object_init_3 obj _ _) F.entry_zip_new (meets_zipq_new d b o es ep ys hsys hc hdat) ⟨ho, hl, ?_⟩
  have z1 : (zq1 s.heap d es.size ep).objs.size = s.heap.objs.size + 1 := Heap.size_push ..
  have z2 : (zq2 s.heap d es.size ep b).objs.size = s.heap.objs.size + 2 := by rw [Heap.size_push, z1]
  have z3 : (zq3 s.heap d es.size ep b).objs.size = s.heap.objs.size + 3 := by rw [Heap.size_push, z2]
  have z4 : (zq4 s.heap d es.size ep b).objs.size = s.heap.objs.size + 4 := by rw [Heap.size_push, z3]
  have z5 : (zq5 s.heap d es.size ep b).objs.size = s.heap.objs.size + 5 := by rw [Heap.size_push, z4]
  have up : ∀ {h : Heap} {c : Addr} {o q : Obj}, h.get? c = some o → (h.push q).get? c = some o := fun e => Heap.get?_push_of_some _ e
  have g5 : (zq5 s.heap d es.size ep b).get? (zq4 s.heap d es.size ep b).objs.size = some _ := Heap.get?_push_size _ rfl
  have g4 : (zq5 s.heap d es.size ep b).get? (zq3 s.heap d es.size ep b).objs.size = some _ := up (Heap.get?_push_size _ rfl)
  have g3 : (zq5 s.heap d es.size ep b).get? (zq2 s.heap d es.size ep b).objs.size = some _ := up (up (Heap.get?_push_size _ rfl))
  have g2 : (zq5 s.heap d es.size ep b).get? (zq1 s.heap d es.size ep).objs.size = some _ := up (up (up (Heap.get?_push_size _ rfl)))
  have g1 : (zq5 s.heap d es.size ep b).get? s.heap.objs.size = some _ := up (up (up (up (Heap.get?_push_size _ rfl))))
  show _ ∧ _
  rw [z2, z3, z4] at g5
  rw [z1, z2] at g3
  rw [z3] at g4
  rw [z1] at g2
  rw [z4]
  exact ⟨⟨_, g5, rfl⟩, h _ g5 g3 g4 ⟨_, g1, rfl, rfl⟩ ⟨_, g2, rfl, rfl⟩ z5 fun c o x => up (up (up (up (up x))))⟩
end
def iTabZ (K : PySem.W.Frag) (d : Addr) (ks : List Str) (ta : TA) : TI := fun σ H R => ta σ H fun vs H1 => ∃ b ys, vs = [.ref d, .ref b] ∧ SqT K H1 b ys ∧ R (Itqz K ks b) H1
theorem pi_tabZ {X : Cx} {d : Addr} {ks : List Str} {n : Nat} {e e2 : Expr} {ta : TA} {p pos tpos : Pos} {elts : List Expr} {kk : Nat} (T : KTab X.K X.w d ks n) (hg : Gl X "zip") (hm : X.mg "zip" = none) (ha : PA X [e, e2] ta)
    (hs : starEach [e, e2] X.env = (false, eval e X.env) :: starEach [e2] X.env := by rfl) (hpl : (backTo pos (starEach [e2] X.env)).any (·.1) = false := by rfl) :
    PI X (.Tuple elts kk tpos) (.Call (.Name "zip" p) [e, e2] [] pos) (iTabZ X.K d ks ta) := by
  refine ⟨fun pins s σ H R I h => ?_⟩
  refine Call_ (ld_blt I hg hm PyProof.Rows.boot_zip (PyProof.Rows.callWith_type1 (thn (ha.run pos pins s σ H _ I h) fun us s1 ⟨vs, H1, I1, r1, q1⟩ => ?_) hs hpl))
  obtain ⟨b, ys, ex, hqy, q⟩ := q1
  subst ex
  obtain ⟨u1, u2, rfl, r, r'⟩ := r1.two
  cases (show u1 = Value.ref d from r)
  cases (show u2 = Value.ref b from r')
  obtain ⟨kvs, hm', hq⟩ := T.dictAt (prog := X.prog) I1.kIn
  have hl : ks.length = kvs.length := by rw [← hq, List.length_map]
  obtain ⟨o, es, ho, hx, hd, _, hp, _⟩ := hm'
  have hsz : es.size = ks.length := by rw [hl, ← hp.length]; simp
  obtain ⟨its2, rv2, p2, _⟩ := I1.tuple hqy
  obtain ⟨o2, ho2, _⟩ := id p2
  have fresh5 : ∀ c, c ∈ [s1.heap.objs.size + 4, s1.heap.objs.size + 2, s1.heap.objs.size + 3, s1.heap.objs.size, s1.heap.objs.size + 1] → FpOk X pins H1 c := fun c hcm => by
    have hle : s1.heap.objs.size ≤ c := by
      simp only [List.mem_cons, List.not_mem_nil, or_false] at hcm
      rcases hcm with z | z | z | z | z <;> rw [z] <;> first | exact Nat.le_add_right _ _ | exact Nat.le_refl _
    exact I1.fpOk hle (I1.hok.fresh hle)
  refine call_zipq T.low hx hd ho (show s1.heap.IsTuple b its2.toArray from p2) fun h' hz hTI hTO h1 h2 hsz' hk => wpAny_pyIter_zip hz ?_
  rw [hsz] at h1
  have I2 : Inv X pins σ H1 { s1 with heap := h' } := I1.kept (t' := s1.toks) hk
  exact ⟨s1.heap.objs.size + 4, [s1.heap.objs.size + 4, s1.heap.objs.size + 2, s1.heap.objs.size + 3, s1.heap.objs.size, s1.heap.objs.size + 1], _, _, H1, rfl, I2, turn_zipq T (PySem.W.ktu_apart s1.heap.objs.size d b (Heap.lt_size ho) (Heap.lt_size ho2)), ⟨hz, hTI, ⟨_, _, hTO⟩, h1, h2⟩, fresh5, q⟩
end Dk

set_option maxHeartbeats 1000000
/-! The written dict: list, len, sorted, enumerate (of it, of a tuple). -/
namespace Dk
open PySem PySem.Spec PyProof.Rows L2
section
variable {X : Cx} {d : Addr} {ks : List Str} {n : Nat}
theorem strs_vals {kvs : List (Str × Value)} {acc : Array Value} (h : acc.size = kvs.length) (e : ∀ (j : Nat) (v : Value), acc[j]? = some v → ∃ k x, kvs[j]? = some (k, x) ∧ (strKind X.prog X.w).is k v = true) : Vals ((kvs.map (·.1)).map V.str) acc.toList := by
  have gen : ∀ (l : List Value) (kv : List (Str × Value)), l.length = kv.length → (∀ (j : Nat) (v : Value), l[j]? = some v → ∃ k x, kv[j]? = some (k, x) ∧ (strKind X.prog X.w).is k v = true) → Vals ((kv.map (·.1)).map V.str) l := by
    intro l
    induction l with
    | nil => intro kv hl _; cases kv with
      | nil => exact .nil
      | cons _ _ => simp at hl
    | cons v r ih => intro kv hl he; cases kv with
      | nil => simp at hl
      | cons p q =>
        obtain ⟨k, x, e1, e2⟩ := he 0 v rfl
        simp at e1
        subst e1
        obtain ⟨t, rfl⟩ := PySem.Value.isStrOf_shape e2
        exact .cons ⟨t, rfl⟩ (ih q (by simpa using hl) fun j v hj => by simpa using he (j + 1) v (by simpa using hj))
  exact gen acc.toList kvs (by simpa using h) fun j v hj => e j v (by rw [← Array.getElem?_toList]; exact hj)
/-- list(table) -/
def rTabL (d : Addr) (ks : List Str) : List V → Hp → VK → Prop := fun xs H Q => xs = [.ref d] ∧ ∀ p, H p = none → Q (.ref p) (upd H p (.lst (ks.map V.str)))
theorem call_tabL (T : KTab X.K X.w d ks n) (hs : ks.length ≤ sizeLine) (hcalm : X.calm = true) : CallR X (.type "list") (rTabL d ks) := by
  intro pins s σ H xs us Q I r q
  obtain ⟨ex, q⟩ := q
  subst ex
  obtain ⟨u, eu, rx⟩ := vals1 r
  subst eu
  cases (show u = Value.ref d from rx)
  obtain ⟨kvs, hm, hq⟩ := T.dictAt (prog := X.prog) I.kIn
  have hl : kvs.length = ks.length := by rw [← hq, List.length_map]
  refine PySem.W.kdl_call (PySem.W.kdl_dict (knd := strKind X.prog X.w) (kvs := kvs) (ep := n) T.low) (I.ok.hd hcalm) hm (by rw [hl]; exact hs) fun h' tk acc c' hk hD hacc => ?_
  have hv : Vals (ks.map V.str) acc.toList := by rw [← hq]; exact strs_vals hacc.1 fun j v e => hacc.2 j v e
  exact ⟨.ref s.heap.objs.size, upd H s.heap.objs.size (.lst (ks.map V.str)), I.laid (t' := tk) hk (Nat.le_refl _)
    (show ObjOk X.prog X.w _ _ _ (.lst (ks.map V.str)) from ⟨by rw [List.length_map]; exact hs, acc.toList, c', hv, by rw [Array.toArray_toList]; exact hD⟩), rfl, q _ (I.hok.fresh (Nat.le_refl _))⟩
/-- sorted(table) -/
def rTabS (d : Addr) (ks : List Str) : List V → Hp → VK → Prop := fun xs H Q => xs = [.ref d] ∧ ∀ (ys : List Str) (p : Addr), ys.Perm ks → sortedS ys = true → H p = none → Q (.ref p) (upd H p (.lst (ys.map V.str)))
theorem call_tabS (T : KTab X.K X.w d ks n) (hs : ks.length < 64) (hcalm : X.calm = true) : CallR X (.builtin "sorted") (rTabS d ks) := by
  intro pins s σ H xs us Q I r q
  obtain ⟨ex, q⟩ := q
  subst ex
  obtain ⟨u, eu, rx⟩ := vals1 r
  subst eu
  cases (show u = Value.ref d from rx)
  obtain ⟨kvs, hm, hq⟩ := T.dictAt (prog := X.prog) I.kIn
  have hl : kvs.length = ks.length := by rw [← hq, List.length_map]
  have h16 : kvs.length ≤ sizeLine := by rw [hl, sizeLine_eq]; omega
  refine Calls.call_function_entry PyProof.Rows.kind_sorted PyProof.Rows.plain_sorted PyProof.Rows.entry_sorted (PyProof.Rows.args_sorted1 _) ?_
  unfold Builtin.«sorted»
  refine wpAny_bind (m := checkCount "sorted" 1 1 _) (wpAny_pure (wpAny_bind (PySem.W.kdu_collect (A := X.A.in1) (PySem.W.kdl_dict (knd := strKind X.prog X.w) (kvs := kvs) (ep := n) T.low) (I.ok.hd hcalm) hm h16 fun h' tk acc hk hacc => ?_)))
  have hal : acc.toList.length = ks.length := by rw [Array.length_toList, hacc.1, hl]
  have hS : StrsAre acc.toList ks := strs_at hal fun j v e => by
    obtain ⟨k, x, e1, e2⟩ := hacc.2 j v (by rw [← Array.getElem?_toList]; exact e)
    obtain ⟨t, ev⟩ := Value.isStrOf_shape (x := k) (v := v) e2
    exact ⟨k, t, by rw [← hq, List.getElem?_map, e1]; rfl, ev⟩
  have I1 : Inv X pins σ H { s with heap := h', toks := tk } := I.kept hk
  refine wpAny_bind (wpAny_newList ?_ (by rw [hal, sizeLine_eq]; omega))
  have hoL : (h'.push (seqObj "list" acc.toList.toArray 0)).get? h'.objs.size = some (seqObj "list" acc.toList.toArray 0) := Heap.get?_push_size _ rfl
  show wpAny _ _ _ _ _ { s with heap := h'.push (seqObj "list" acc.toList.toArray 0), toks := tk }
  refine wpAny_bind (wpAny_holding (wpAny_call_entry PyProof.Rows.slot_list_sort ⟨_, hoL, rfl⟩ PyProof.Rows.entry_list_sort
    (list_sort_treeK strKind_oneLt (s := { s with heap := h'.push (seqObj "list" acc.toList.toArray 0), toks := tk }) hoL hS.keysOf (fun v₁ v₂ rest e => keyKind_strs (by rw [← e]; exact hS)) (by rw [hal]; exact hs) fun st' hp hst => ⟨_, rfl, ?_⟩)
    (PyProof.Rows.args_list_sort _)))
  obtain ⟨ys, g1, g2, g3⟩ := sorted_out_str hS hp hst
  obtain ⟨e', he'⟩ := PyProof.Rows.sortedHeap_at (vs := acc.toList) (out := (arrOf st').map (·.2)) hoL
  have hlen : (ys.map V.str).length ≤ sizeLine := by
    rw [List.length_map, g2.length_eq]
    exact Nat.le_trans (Nat.le_of_lt hs) (by decide)
  refine wpAny_pure ⟨_, rfl, .ref h'.objs.size, upd H h'.objs.size (.lst (ys.map V.str)), I1.laid (t' := tk) (fun b u e => ?_) (Nat.le_refl _)
    (show ObjOk X.prog X.w _ _ _ (.lst (ys.map V.str)) from ⟨hlen, ((arrOf st').map (·.2)).toList, e', vals_of_strs g1, by rw [Array.toArray_toList]; exact he'⟩), rfl, q ys _ g2 g3 (I1.hok.fresh (Nat.le_refl _))⟩
  have hb : b < h'.objs.size := Heap.lt_size e
  rw [PyProof.Rows.sortedHeap_old (Nat.ne_of_lt hb) (by rw [size_push']; exact Nat.lt_succ_of_lt hb)]
  exact Heap.get?_push_of_some _ e
/-- len(table) -/
def rTabN (d : Addr) (ks : List Str) : List V → Hp → VK → Prop := fun xs H Q => xs = [.ref d] ∧ Q (.int ks.length) H
theorem call_tabN (T : KTab X.K X.w d ks n) (hs : ks.length < 1000) : CallR X (.builtin "len") (rTabN d ks) := by
  intro pins s σ H xs us Q I r q
  obtain ⟨ex, q⟩ := q
  subst ex
  obtain ⟨u, eu, rx⟩ := vals1 r
  subst eu
  cases (show u = Value.ref d from rx)
  obtain ⟨kvs, hm, hq⟩ := T.dictAt (prog := X.prog) I.kIn
  have hl : kvs.length = ks.length := by rw [← hq, List.length_map]
  refine call_len_dict T.low hm.dictOf (by rw [hl]; omega) ?_
  exact ⟨.int ks.length, H, I.tok _, ⟨_, by rw [hl]⟩, q⟩
end

/-! ### enumerate of what is walked by its own iterator -/
section
variable {prog : Program} {w : World} {A : Around} {E : Value → Shared → Prop} {s : Shared}
theorem enum_step {e it l : Addr} {i : Nat} {old : Value} {G : Value → Prop} {P P' : Heap → Prop} {Q : Value → Shared → Prop} (N : Nxt prog w it l P P' G)
    (he : IsEnum s.heap e it i old) (p : P s.heap) (hne : e ≠ it) (hle : l ≠ e)
    (hQ : ∀ x h', G x → IsEnumOut h' e it ((i : Int) + 1) x s.heap.objs.size → P' h' →
      h'.get? s.heap.objs.size = some { cls := .type "tuple", data := .seq #[.int i s.toks, x] } → h'.objs.size = s.heap.objs.size + 1 →
      (∀ b o, b ≠ e → b ≠ it → s.heap.get? b = some o → h'.get? b = some o) → Q (.ref s.heap.objs.size) { s with heap := h', toks := s.toks + 1 }) :
    wpAny (model prog w) A (Builtin.«enumerate.__next__» ⟨[.ref e], []⟩) (fun fin s' => ∃ v, fin = .done (.ret v) ∧ Q v s') E s := by
  obtain ⟨hp, g, dr, tk, os⟩ := s
  show wpAny _ _ (field (.ref e) 2 >>= _) _ _ _
  refine wpAny_bind (wpAny_field he rfl (x := .ref it) rfl (wpAny_bind (N.run _ _ _ _ p fun x ha gx pa sa => ?_)))
  replace sa : Heap.SameBut it hp ha := sa
  have hea : IsEnum ha e it i old := (sa.2 e hne).trans he
  show wpAny _ _ (field (.ref e) 3 >>= _) _ _ ⟨ha, g, dr, tk, os⟩
  refine wpAny_bind (wpAny_field hea rfl (x := rawInt i) rfl ?_)
  show wpAny _ _ (field (.ref e) 4 >>= _) _ _ ⟨ha, g, dr, tk, os⟩
  refine wpAny_bind (wpAny_field hea rfl (x := .none) rfl ?_)
  show wpAny _ _ (mkInt i >>= _) _ _ ⟨ha, g, dr, tk, os⟩
  refine wpAny_bind (wpAny_mkInt ?_)
  show wpAny _ _ (setField (.ref e) 3 (rawInt ((i : Int) + 1)) >>= _) _ _ ⟨ha, g, dr, tk + 1, os⟩
  refine wpAny_bind (wpAny_setField_rec hea (by simp) fun hb heb sb => ?_)
  replace sb : Heap.SameBut e ha hb := sb
  replace heb : IsEnum hb e it ((i : Int) + 1) old := heb
  show wpAny _ _ (setField (.ref e) 4 .none >>= _) _ _ ⟨hb, g, dr, tk + 1, os⟩
  refine wpAny_bind (wpAny_setField_rec heb (by simp) fun hc hec sc => ?_)
  replace sc : Heap.SameBut e hb hc := sc
  replace hec : IsEnum hc e it ((i : Int) + 1) old := hec
  show wpAny _ _ (newTuple [.int i tk, x] >>= _) _ _ ⟨hc, g, dr, tk + 1, os⟩
  refine wpAny_bind (wpAny_newTuple ?_)
  have hed : IsEnum (hc.push { cls := .type "tuple", data := .seq #[.int i tk, x] }) e it ((i : Int) + 1) old := Heap.get?_push_of_some _ hec
  generalize hhd : hc.push { cls := .type "tuple", data := .seq #[.int i tk, x] } = hd at hed
  have hsz : hc.objs.size = hp.objs.size := by rw [sc.1, sb.1, sa.1]
  have hel : e < hp.objs.size := Heap.lt_size he
  have htd : hd.get? hp.objs.size = some { cls := .type "tuple", data := .seq #[.int i tk, x] } := by rw [← hhd, ← hsz]; exact Heap.get?_push_size _ rfl
  have hzd : hd.objs.size = hp.objs.size + 1 := by rw [← hhd, Heap.size_push, hsz]
  have hkd : ∀ b o, b ≠ e → b ≠ it → hp.get? b = some o → hd.get? b = some o := fun b o hbe hbi q => by
    rw [← hhd]
    exact Heap.get?_push_of_some _ (sc.extBut b o hbe (sb.extBut b o hbe (sa.extBut b o hbi q)))
  have pd : P' hd := by
    rw [← hhd]
    exact N.keep' _ _ (N.ext' (N.ext' pa sb.extBut (Ne.symm hne) hle) sc.extBut (Ne.symm hne) hle) (fun o q => Heap.get?_push_of_some _ q) fun o q => Heap.get?_push_of_some _ q
  show wpAny _ _ (Builtin.SmallTypes.ownedTupleIsFree (.ref e) >>= _) _ _ ⟨hd, g, dr, tk + 1, os⟩
  rw [hsz]
  clear hhd hec sc heb sb hea sa pa hsz hc hb ha
  refine wpAny_bind ?_
  unfold Builtin.SmallTypes.ownedTupleIsFree
  refine wpAny_bind (wpAny_field hed rfl (x := .none) rfl (wpAny_pure ?_))
  simp only [if_true]
  refine wpAny_bind (wpAny_rule (wpAny_bind (wpAny_field hed rfl (x := old) rfl (wpAny_bind (wpAny_setField_rec hed (by simp) fun hf hef sf => ?_)))))
  replace sf : Heap.SameBut e hd hf := sf
  replace hef : IsEnum hf e it ((i : Int) + 1) x := hef
  show wpAny _ _ (Builtin.SmallTypes.ownedTupleHandOut (.ref e) (.ref hp.objs.size) >>= _) _ _ ⟨hf, g, dr, tk + 1, os⟩
  refine wpAny_bind ?_
  unfold Builtin.SmallTypes.ownedTupleHandOut
  refine wpAny_bind (wpAny_setField_rec hef (by simp) fun hg heg sg => ?_)
  replace sg : Heap.SameBut e hf hg := sg
  replace heg : IsEnumOut hg e it ((i : Int) + 1) x hp.objs.size := heg
  refine wpAny_setField_rec heg (by simp) fun hk hek sk => ?_
  replace sk : Heap.SameBut e hg hk := sk
  replace hek : IsEnumOut hk e it ((i : Int) + 1) x hp.objs.size := hek
  refine wpAny_bind (wpAny_letGo (wpAny_pure ⟨_, rfl, hQ x hk gx hek ?_ ?_ ?_ ?_⟩))
  · exact N.ext' (N.ext' (N.ext' pd sf.extBut (Ne.symm hne) hle) sg.extBut (Ne.symm hne) hle) sk.extBut (Ne.symm hne) hle
  · exact sk.extBut _ _ (Nat.ne_of_gt hel) (sg.extBut _ _ (Nat.ne_of_gt hel) (sf.extBut _ _ (Nat.ne_of_gt hel) htd))
  · rw [sk.1, sg.1, sf.1, hzd]
  · exact fun b o hbe hbi q => sk.extBut b o hbe (sg.extBut b o hbe (sf.extBut b o hbe (hkd b o hbe hbi q)))
theorem pyNext_enumq {e it l : Addr} {i : Nat} {old : Value} {G : Value → Prop} {P P' : Heap → Prop} {Q : Option Value → Shared → Prop} (N : Nxt prog w it l P P' G)
    (he : IsEnum s.heap e it i old) (p : P s.heap) (hne : e ≠ it) (hle : l ≠ e)
    (hQ : ∀ x h', G x → IsEnumOut h' e it ((i : Int) + 1) x s.heap.objs.size → P' h' →
      h'.get? s.heap.objs.size = some { cls := .type "tuple", data := .seq #[.int i s.toks, x] } → h'.objs.size = s.heap.objs.size + 1 →
      (∀ b o, b ≠ e → b ≠ it → s.heap.get? b = some o → h'.get? b = some o) → Q (some (.ref s.heap.objs.size)) { s with heap := h', toks := s.toks + 1 }) :
    wpAny (model prog w) A (pyNext (.ref e)) Q E s := by
  unfold pyNext
  exact wpAny_bind (wpAny_attempt (wpAny_callSpecial?_slot (name := Str.ofString "__next__") ⟨_, he, rfl⟩ F.slot_enumerate_next (wpAny_call_entry F.slot_enumerate_next ⟨_, he, rfl⟩ F.entry_enumerate_next
    (enum_step N he p hne hle fun x h' a b c d k m => wpAny_pure (hQ x h' a b c d k m)) (F.args_enumerate_next_1 _))))
theorem pyNext_enumq_end {e it l : Addr} {i : Nat} {old : Value} {P : Heap → Prop} {Q : Option Value → Shared → Prop} (hh : A.handled = none) (N : Fin_ prog w it l P)
    (he : IsEnum s.heap e it i old) (p : P s.heap) (hQ : ∀ h', Heap.ExtBut it s.heap h' → Q none { s with heap := h' }) : wpAny (model prog w) A (pyNext (.ref e)) Q E s := by
  unfold pyNext
  refine wpAny_bind (wpAny_attempt (wpAny_callSpecial?_slot (name := Str.ofString "__next__") ⟨_, he, rfl⟩ F.slot_enumerate_next (wpAny_call_entry F.slot_enumerate_next ⟨_, he, rfl⟩ F.entry_enumerate_next ?_ (F.args_enumerate_next_1 _))))
  show wpAny _ _ (field (.ref e) 2 >>= _) _ _ _
  refine wpAny_bind (wpAny_field he rfl (x := .ref it) rfl (wpAny_bind (N.run _ _ _ _ hh p fun h' x hs hx => ?_)))
  obtain ⟨o, ho, hc⟩ := hx
  exact wpAny_bind (wpAny_isInstance (T := "StopIteration") (b := true) ⟨o, ho, hc⟩ isSubtype_stop (wpAny_pure (hQ _ hs)))
theorem tup_fin {it l : Addr} {i : Nat} {its : Array Value} (hx : its[i]? = none) : Fin_ prog w it l (fun h => h.IsTupleIter it l i ∧ h.IsTuple l its) where
  keep := fun h h' ⟨p, q⟩ k1 k2 => ⟨p.at k1, let ⟨o, e, r⟩ := q; ⟨o, k2 o e, r⟩⟩
  run := fun A E s Q hh ⟨p, q⟩ hE => RZ.nextOf_tuple_end hh p q hx fun h' e k1 k2 => hE h' e k1 k2
end
end Dk

set_option maxHeartbeats 2000000
/-! enumerate of the written dict, of a tuple. -/
namespace Dk
open PySem PySem.Spec PyProof.Rows L2
open AutoSeq1 (wpAny_loadPart')
/-- enumerate of what has m items, the i-th so -/
def Iteq (m : Nat) (f : Nat → V → Prop) : It :=
  ⟨fun i _ => i < m, fun i H v H' => ∃ T x, v = .ref T ∧ H T = none ∧ H' = upd H T (.tup [.int (i : Nat), x]) ∧ f i x, fun i H => m ≤ i⟩
/-- the items of the tuple at b -/
def Itet (K : PySem.W.Frag) (b : Addr) : It :=
  ⟨fun i H => ∃ (xs : List V) (x : V), SqT K H b xs ∧ xs[i]? = some x, fun i H v H' => ∃ T x, v = .ref T ∧ H T = none ∧ H' = upd H T (.tup [.int (i : Nat), x]) ∧ ∀ xs, SqT K H b xs → xs[i]? = some x, fun i H => ∃ xs : List V, SqT K H b xs ∧ xs.length ≤ i⟩
section
variable {P : Program} {w : World} {K : PySem.W.Frag} {d b : Addr} {ks : List Str} {n : Nat} {elts : List Expr} {kk : Nat} {tpos : Pos}
theorem turn_enumK (T : KTab K w d ks n) (e it : Addr) (hde : d ≠ e) :
    Turn P w K (.Tuple elts kk tpos) (Iteq ks.length fun i x => ∃ k, ks[i]? = some k ∧ x = .str k) [e, it] e (fun i h => (∃ old, IsEnum h e it ((i : Nat) : Int) old) ∧ h.IsKeyIter it d i ks.length n ∧ e ≠ it) where
  mem := List.mem_cons_self
  obj := fun i h st b hb => by
    obtain ⟨⟨old, he⟩, ⟨o, ho, hc, hd⟩, _⟩ := st
    simp only [List.mem_cons, List.not_mem_nil, or_false] at hb
    rcases hb with z | z <;> subst z
    · exact ⟨_, he, fun v q => nomatch q⟩
    · exact ⟨o, ho, fun v q => by rw [hd] at q; cases q⟩
  keep := fun i h h' st k => let ⟨⟨old, he⟩, hi, hne⟩ := st; ⟨⟨old, k e (by simp) _ he⟩, keyiter_at hi fun o q => k it (by simp) o q, hne⟩
  item := by
    intro X hP hw hK hc i pins s σ H E I hf st hg
    subst hP hw hK
    obtain ⟨⟨old, he⟩, hit, hne⟩ := st
    obtain ⟨kvs, hm, hq⟩ := T.dictAt (prog := X.prog) I.kIn
    have hl : ks.length = kvs.length := by rw [← hq, List.length_map]
    obtain ⟨k, hk⟩ : ∃ k, ks[i]? = some k := ⟨_, List.getElem?_eq_getElem hg⟩
    obtain ⟨v, hv⟩ := key_at hq hk
    have hel : e < s.heap.objs.size := Heap.lt_size he
    have hil : it < s.heap.objs.size := by obtain ⟨_, q, _⟩ := hit; exact Heap.lt_size q
    rw [hl] at hit
    refine pyNext_enumq (key_nxt hv) he ⟨hit, hm⟩ hne hde fun x h' gx ho hit' hT hsz hkp => ?_
    obtain ⟨t, rfl⟩ := gx
    refine ⟨_, rfl, wpAny_letOwnedTupleGo_enum (s := { s with heap := h', toks := s.toks + 1 }) ho fun h'' he' sb => ?_⟩
    have hT2 : h''.get? s.heap.objs.size = some { cls := .type "tuple", data := .seq #[.int i s.toks, .str k t] } := (sb.2 _ (Nat.ne_of_gt hel)).trans hT
    have new : ObjOk X.prog X.w (upd H s.heap.objs.size (.tup [.int (i : Nat), .str k])) h'' s.heap.objs.size (.tup [.int (i : Nat), .str k]) :=
      ⟨by show 2 ≤ sizeLine; decide, [.int i s.toks, .str k t], .cons ⟨_, rfl⟩ (.cons ⟨t, rfl⟩ .nil), ⟨_, hT2, rfl, _, rfl⟩⟩
    have I1 : Inv X pins σ (upd H s.heap.objs.size (.tup [.int (i : Nat), .str k])) { s with heap := h'', toks := s.toks + 1 } :=
      I.turnedNew (ch := [e, it]) (fun b ob hb q => (sb.2 b (fun z => hb (by simp [z]))).trans (hkp b ob (fun z => hb (by simp [z])) (fun z => hb (by simp [z])) q)) hf (Nat.le_refl _) new
    refine ⟨.ref s.heap.objs.size, _, I1, rfl, ⟨_, .str k, rfl, I.hok.fresh (Nat.le_refl _), rfl, k, hk, rfl⟩, ⟨⟨.str k t, ?_⟩, ?_, hne⟩, fun b hb => ?_⟩
    · have e1 : ((i + 1 : Nat) : Int) = (i : Int) + 1 := by omega
      rw [e1]
      exact he'
    · rw [hl]
      exact keyiter_at hit' fun o q => (sb.2 it (Ne.symm hne)).trans q
    · have hb' : b < s.heap.objs.size := by
        simp only [List.mem_cons, List.not_mem_nil, or_false] at hb
        rcases hb with z | z <;> rw [z]
        · exact hel
        · exact hil
      rw [upd_ne (Nat.ne_of_lt hb')]
      exact (hf b hb).1
  done := by
    intro X hP hw hK hc i pins s σ H E I hf st hg
    subst hP hw hK
    obtain ⟨⟨old, he⟩, hit, hne⟩ := st
    obtain ⟨kvs, hm, hq⟩ := T.dictAt (prog := X.prog) I.kIn
    have hl : ks.length = kvs.length := by rw [← hq, List.length_map]
    rw [hl] at hit
    obtain ⟨f0, f1, f2, f3, f4, f5⟩ := hf it (by simp)
    exact pyNext_enumq_end (I.ok.hd hc) (key_fin (kvs := kvs) (by rw [← hl]; exact hg)) he ⟨hit, hm⟩ fun h' eb => ⟨rfl, I.turned (t' := s.toks) (fun b o hb q => eb b o hb q) f0 f1 f3 f4 f5⟩
  self := fun A i s Q E st h => let ⟨⟨_, he⟩, _⟩ := st; wpAny_pyIter_enum he h
theorem turn_enumT (b e it : Addr) (hbe : b ≠ e) :
    Turn P w K (.Tuple elts kk tpos) (Itet K b) [e, it] e (fun i h => (∃ old, IsEnum h e it ((i : Nat) : Int) old) ∧ h.IsTupleIter it b i ∧ e ≠ it) where
  mem := List.mem_cons_self
  obj := fun i h st b hb => by
    obtain ⟨⟨old, he⟩, ⟨o, ho, hc, hd⟩, _⟩ := st
    simp only [List.mem_cons, List.not_mem_nil, or_false] at hb
    rcases hb with z | z <;> subst z
    · exact ⟨_, he, fun v q => nomatch q⟩
    · exact ⟨o, ho, fun v q => by rw [hd] at q; cases q⟩
  keep := fun i h h' st k => let ⟨⟨old, he⟩, hi, hne⟩ := st; ⟨⟨old, k e (by simp) _ he⟩, hi.at fun o q => k it (by simp) o q, hne⟩
  item := by
    intro X hP hw hK hc i pins s σ H E I hf st hg
    subst hP hw hK
    obtain ⟨⟨old, he⟩, hit, hne⟩ := st
    obtain ⟨xs, x, hq, hx⟩ := hg
    obtain ⟨its, rv, p, hz⟩ := I.tuple hq
    obtain ⟨u, hu, ru⟩ := rv.get hx
    have hel : e < s.heap.objs.size := Heap.lt_size he
    have hil : it < s.heap.objs.size := by obtain ⟨_, q, _⟩ := hit; exact Heap.lt_size q
    refine pyNext_enumq (tup_nxt (its := its.toArray) (x := u) (by simpa using hu)) he ⟨hit, p⟩ hne hbe fun y h' gx ho hit' hT hsz hkp => ?_
    subst gx
    refine ⟨_, rfl, wpAny_letOwnedTupleGo_enum (s := { s with heap := h', toks := s.toks + 1 }) ho fun h'' he' sb => ?_⟩
    have hT2 : h''.get? s.heap.objs.size = some { cls := .type "tuple", data := .seq #[.int i s.toks, y] } := (sb.2 _ (Nat.ne_of_gt hel)).trans hT
    have new : ObjOk X.prog X.w (upd H s.heap.objs.size (.tup [.int (i : Nat), x])) h'' s.heap.objs.size (.tup [.int (i : Nat), x]) :=
      ⟨by show 2 ≤ sizeLine; decide, [.int i s.toks, y], .cons ⟨_, rfl⟩ (.cons ru .nil), ⟨_, hT2, rfl, _, rfl⟩⟩
    have I1 : Inv X pins σ (upd H s.heap.objs.size (.tup [.int (i : Nat), x])) { s with heap := h'', toks := s.toks + 1 } :=
      I.turnedNew (ch := [e, it]) (fun b ob hb q => (sb.2 b (fun z => hb (by simp [z]))).trans (hkp b ob (fun z => hb (by simp [z])) (fun z => hb (by simp [z])) q)) hf (Nat.le_refl _) new
    refine ⟨.ref s.heap.objs.size, _, I1, rfl, ⟨_, x, rfl, I.hok.fresh (Nat.le_refl _), rfl, fun ys hy => by rw [I.tuple_inj hy hq]; exact hx⟩, ⟨⟨y, ?_⟩, hit'.at fun o q => (sb.2 it (Ne.symm hne)).trans q, hne⟩, fun b hb => ?_⟩
    · have e1 : ((i + 1 : Nat) : Int) = (i : Int) + 1 := by omega
      rw [e1]
      exact he'
    · have hb' : b < s.heap.objs.size := by
        simp only [List.mem_cons, List.not_mem_nil, or_false] at hb
        rcases hb with z | z <;> rw [z]
        · exact hel
        · exact hil
      rw [upd_ne (Nat.ne_of_lt hb')]
      exact (hf b hb).1
  done := by
    intro X hP hw hK hc i pins s σ H E I hf st hg
    subst hP hw hK
    obtain ⟨⟨old, he⟩, hit, hne⟩ := st
    obtain ⟨xs, hq, hx⟩ := hg
    obtain ⟨its, rv, p, hz⟩ := I.tuple hq
    have hl := rv.length
    obtain ⟨f0, f1, f2, f3, f4, f5⟩ := hf it (by simp)
    exact pyNext_enumq_end (I.ok.hd hc) (tup_fin (its := its.toArray) (by simp; omega)) he ⟨hit, p⟩ fun h' eb => ⟨rfl, I.turned (t' := s.toks) (fun b o hb q => eb b o hb q) f0 f1 f3 f4 f5⟩
  self := fun A i s Q E st h => let ⟨⟨_, he⟩, _⟩ := st; wpAny_pyIter_enum he h
end
theorem meets_enumK_new (d : Addr) (o : Obj) (es : Array DictEntry) (ep : Nat) (hsys : (d == sysModules) = false) (hc : o.ExactDict) (hdat : o.data = .dict es ep) :
    Meets (Builtin.«enumerate.__new__» ⟨[.type "enumerate", .ref d], []⟩) (fun _ R s => s.heap.get? d = some o ∧
      R (.ok (.ret (.ref (zq1 s.heap d es.size ep).objs.size))) { s with heap := (zq1 s.heap d es.size ep).push { cls := .type "enumerate", data := .fields #[.none, .bool false, .ref s.heap.objs.size, rawInt 0, .none, .none] } }) :=
  .of_wp fun prog w A R s h => by
    obtain ⟨hp, g, dr, tk, os⟩ := s
    obtain ⟨hl, h⟩ := h
    have hsub := sub_enumerate
    have hL : Heap.get? (Shared.heap ⟨hp, g, dr, tk, os⟩) d = some o := hl
    wp_walk using wpAny_loadPart' hl
    refine wpAny_stack_any fun st => wpAny_pure ?_
    split
    · rename_i c _ _ _ _ _
      cases (c == Value.type "enumerate")
      · wp_walk using wpAny_loadPart' hl, iter_keys hsys hL hc hdat
        exact ⟨_, rfl, h⟩
      · wp_walk using wpAny_loadPart' hl, iter_keys hsys hL hc hdat
        exact ⟨_, rfl, h⟩
    · wp_walk using wpAny_loadPart' hl, iter_keys hsys hL hc hdat
      exact ⟨_, rfl, h⟩
theorem meets_enumT_new (l : Addr) (items : Array Value) (n : Nat) (dct : Option Addr) (sl : Array (Option Value)) :
    Meets (Builtin.«enumerate.__new__» ⟨[.type "enumerate", .ref l], []⟩) (fun _ R s => s.heap.get? l = some { cls := .type "tuple", dict := dct, data := .seq items n, slots := sl } ∧
      R (.ok (.ret (.ref (RZ.zipTH1 s.heap l).objs.size))) { s with heap := (RZ.zipTH1 s.heap l).push { cls := .type "enumerate", data := .fields #[.none, .bool false, .ref s.heap.objs.size, rawInt 0, .none, .none] } }) :=
  .of_wp fun prog w A R s h => by
    obtain ⟨hp, g, dr, tk, os⟩ := s
    obtain ⟨hl, h⟩ := h
    have hsub := sub_enumerate
    have hL : Heap.IsTuple (Shared.heap ⟨hp, g, dr, tk, os⟩) l items := ⟨_, hl, rfl, n, rfl⟩
    wp_walk using wpAny_loadPart' hl
    refine wpAny_stack_any fun st => wpAny_pure ?_
    split
    · rename_i c _ _ _ _ _
      cases (c == Value.type "enumerate")
      · wp_walk using wpAny_loadPart' hl, wpAny_pyIter_tuple hL
        exact ⟨_, rfl, h⟩
      · wp_walk using wpAny_loadPart' hl, wpAny_pyIter_tuple hL
        exact ⟨_, rfl, h⟩
    · wp_walk using wpAny_loadPart' hl, wpAny_pyIter_tuple hL
      exact ⟨_, rfl, h⟩
section
variable {prog : Program} {w : World} {A : Around} {E : Value → Shared → Prop} {s : Shared}
theorem call_enumK {d : Addr} {o : Obj} {es : Array DictEntry} {ep : Nat} {Q : Value → Shared → Prop} (hsys : (d == sysModules) = false) (hc : o.ExactDict) (hdat : o.data = .dict es ep) (ho : s.heap.get? d = some o)
    (h : ∀ h', IsEnum h' (s.heap.objs.size + 1) s.heap.objs.size 0 .none → h'.IsKeyIter s.heap.objs.size d 0 es.size ep → (∀ b o, s.heap.get? b = some o → h'.get? b = some o) → Q (.ref (s.heap.objs.size + 1)) { s with heap := h' }) :
    wpAny (model prog w) A (call (.type "enumerate") [.ref d]) Q E s := by
  refine callType_new F.called_enumerate (by decide) (F.typeCall_enumerate_1 _) (F.newCall_enumerate_1 _) (fun obj => F.args_object_init_2 obj _) F.entry_enumerate_new (meets_enumK_new d o es ep hsys hc hdat) ⟨ho, ?_⟩
  have hz : (zq1 s.heap d es.size ep).objs.size = s.heap.objs.size + 1 := Heap.size_push ..
  show _ ∧ _
  rw [hz]
  have he : IsEnum ((zq1 s.heap d es.size ep).push { cls := .type "enumerate", data := .fields #[.none, .bool false, .ref s.heap.objs.size, rawInt 0, .none, .none] }) (s.heap.objs.size + 1) s.heap.objs.size 0 .none := by
    have q := Heap.get?_push_size (zq1 s.heap d es.size ep) (o := { cls := .type "enumerate", data := .fields #[.none, .bool false, .ref s.heap.objs.size, rawInt 0, .none, .none] }) rfl
    rw [hz] at q
    exact q
  exact ⟨⟨_, he, rfl⟩, h _ he ⟨_, Heap.get?_push_of_some _ (Heap.get?_push_size _ rfl), rfl, rfl⟩ fun b o x => Heap.get?_push_of_some _ (Heap.get?_push_of_some _ x)⟩
theorem call_enumT {l : Addr} {items : Array Value} {Q : Value → Shared → Prop} (hL : s.heap.IsTuple l items)
    (h : ∀ h', IsEnum h' (s.heap.objs.size + 1) s.heap.objs.size 0 .none → h'.IsTupleIter s.heap.objs.size l 0 → (∀ b o, s.heap.get? b = some o → h'.get? b = some o) → Q (.ref (s.heap.objs.size + 1)) { s with heap := h' }) :
    wpAny (model prog w) A (call (.type "enumerate") [.ref l]) Q E s := by
  obtain ⟨⟨c, dct, dt, sl⟩, hl, hc, n, hd⟩ := hL
  replace hc : c = .type "tuple" := hc
  replace hd : dt = .seq items n := hd
  subst hc hd
  refine callType_new F.called_enumerate (by decide) (F.typeCall_enumerate_1 _) (F.newCall_enumerate_1 _) (fun obj => F.args_object_init_2 obj _) F.entry_enumerate_new (meets_enumT_new l items n dct sl) ⟨hl, ?_⟩
  have hz : (RZ.zipTH1 s.heap l).objs.size = s.heap.objs.size + 1 := Heap.size_push ..
  show _ ∧ _
  rw [hz]
  have he : IsEnum ((RZ.zipTH1 s.heap l).push { cls := .type "enumerate", data := .fields #[.none, .bool false, .ref s.heap.objs.size, rawInt 0, .none, .none] }) (s.heap.objs.size + 1) s.heap.objs.size 0 .none := by
    have q := Heap.get?_push_size (RZ.zipTH1 s.heap l) (o := { cls := .type "enumerate", data := .fields #[.none, .bool false, .ref s.heap.objs.size, rawInt 0, .none, .none] }) rfl
    rw [hz] at q
    exact q
  exact ⟨⟨_, he, rfl⟩, h _ he ⟨_, Heap.get?_push_of_some _ (Heap.get?_push_size _ rfl), rfl, rfl⟩ fun b o x => Heap.get?_push_of_some _ (Heap.get?_push_of_some _ x)⟩
end
section
variable {X : Cx} {d : Addr} {ks : List Str} {n : Nat} {e : Expr} {te : TE} {p pos tpos : Pos} {elts : List Expr} {kk : Nat}
theorem fp2 {pins : List (Addr × Obj)} {σ : L2.St} {H1 : Hp} {s1 : Shared} (I1 : Inv X pins σ H1 s1) : ∀ b ∈ [s1.heap.objs.size + 1, s1.heap.objs.size], FpOk X pins H1 b := fun b hb => by
  have hle : s1.heap.objs.size ≤ b := by
    simp only [List.mem_cons, List.not_mem_nil, or_false] at hb
    rcases hb with z | z <;> rw [z] <;> first | exact Nat.le_add_right _ _ | exact Nat.le_refl _
  exact I1.fpOk hle (I1.hok.fresh hle)
def iEnumK (d : Addr) (ks : List Str) (ta : TA) : TI := fun σ H R => ta σ H fun vs H1 => vs = [.ref d] ∧ R (Iteq ks.length fun i x => ∃ k, ks[i]? = some k ∧ x = .str k) H1
theorem pi_enumK {ta : TA} (T : KTab X.K X.w d ks n) (hg : Gl X "enumerate") (hm : X.mg "enumerate" = none) (ha : PA X [e] ta) (hs : starEach [e] X.env = [(false, eval e X.env)] := by rfl) :
    PI X (.Tuple elts kk tpos) (.Call (.Name "enumerate" p) [e] [] pos) (iEnumK d ks ta) := by
  refine ⟨fun pins s σ H R I h => ?_⟩
  refine Call_ (ld_blt I hg hm boot_enumerate (PyProof.Rows.callWith_type1 (thn (ha.run pos pins s σ H _ I h) fun us s1 ⟨vs, H1, I1, r1, ex, q⟩ => ?_) hs rfl))
  subst ex
  obtain ⟨u, rfl, r⟩ := vals1 r1
  cases (show u = Value.ref d from r)
  obtain ⟨kvs, hm', hq⟩ := T.dictAt (prog := X.prog) I1.kIn
  have hl : ks.length = kvs.length := by rw [← hq, List.length_map]
  obtain ⟨o, es, ho, hx, hd, _, hp, _⟩ := hm'
  have hsz : es.size = ks.length := by rw [hl, ← hp.length]; simp
  refine call_enumK T.low hx hd ho fun h' he hit hk => wpAny_pyIter_enum he ?_
  rw [hsz] at hit
  have I2 : Inv X pins σ H1 { s1 with heap := h' } := I1.kept (t' := s1.toks) hk
  exact ⟨s1.heap.objs.size + 1, [s1.heap.objs.size + 1, s1.heap.objs.size], _, _, H1, rfl, I2, turn_enumK T (s1.heap.objs.size + 1) s1.heap.objs.size (Nat.ne_of_lt (Nat.lt_succ_of_lt (Heap.lt_size ho))), ⟨⟨.none, he⟩, hit, Nat.succ_ne_self _⟩, fp2 I1, q⟩
/-- enumerate(x), x a list or a tuple -/
def iEnumA (K : PySem.W.Frag) (ta : TA) : TI := fun σ H R => ta σ H fun vs H1 => ∃ b, vs = [.ref b] ∧ ((∃ xs, SqL K H1 b xs ∧ R (Ite K b) H1) ∨ ∃ xs, SqT K H1 b xs ∧ R (Itet K b) H1)
theorem pi_enumA {ta : TA} (hg : Gl X "enumerate") (hm : X.mg "enumerate" = none) (ha : PA X [e] ta) (hs : starEach [e] X.env = [(false, eval e X.env)] := by rfl) :
    PI X (.Tuple elts kk tpos) (.Call (.Name "enumerate" p) [e] [] pos) (iEnumA X.K ta) := by
  refine ⟨fun pins s σ H R I h => ?_⟩
  refine Call_ (ld_blt I hg hm boot_enumerate (PyProof.Rows.callWith_type1 (thn (ha.run pos pins s σ H _ I h) fun us s1 ⟨vs, H1, I1, r1, b, ex, q⟩ => ?_) hs rfl))
  subst ex
  obtain ⟨u, rfl, r⟩ := vals1 r1
  cases (show u = Value.ref b from r)
  rcases q with ⟨xs, hq, q⟩ | ⟨xs, hq, q⟩
  · obtain ⟨its, rv, p', hz⟩ := I1.list hq
    refine call_enumerate_list p'.isList fun h' he hit hsz hk => wpAny_pyIter_enum he ?_
    have I2 : Inv X pins σ H1 { s1 with heap := h' } := I1.kept (t' := s1.toks) hk
    exact ⟨s1.heap.objs.size + 1, [s1.heap.objs.size + 1, s1.heap.objs.size], _, _, H1, rfl, I2, turn_enum b (s1.heap.objs.size + 1) s1.heap.objs.size, ⟨⟨.none, he⟩, hit, Nat.succ_ne_self _⟩, fp2 I1, q⟩
  · obtain ⟨its, rv, p', hz⟩ := I1.tuple hq
    obtain ⟨o, ho, _⟩ := id p'
    refine call_enumT (show s1.heap.IsTuple b its.toArray from p') fun h' he hit hk => wpAny_pyIter_enum he ?_
    have I2 : Inv X pins σ H1 { s1 with heap := h' } := I1.kept (t' := s1.toks) hk
    exact ⟨s1.heap.objs.size + 1, [s1.heap.objs.size + 1, s1.heap.objs.size], _, _, H1, rfl, I2, turn_enumT b (s1.heap.objs.size + 1) s1.heap.objs.size (Nat.ne_of_lt (Nat.lt_succ_of_lt (Heap.lt_size ho))), ⟨⟨.none, he⟩, hit, Nat.succ_ne_self _⟩, fp2 I1, q⟩
end
end Dk

set_option maxHeartbeats 4000000
/-! The tree layer: slotted classes: made, methods, properties, own ==, isinstance. -/
namespace Dl
open PySem PySem.Spec PyProof.Rows L2

section
variable {X : Cx} {pins : List (Addr × Obj)} {σ : L2.St} {H : Hp} {s : Shared} {CX : CXT} {k : Nat} {f C : Addr} {sp : Sp} {E : XK} {Q : VK} {us : List Value} {vs : List V}
theorem run_fnRS (F : FnR X.prog X.w X.K X.mg X.base CX k f sp) (hr : Room k X.A) (hx : PassesAt CX X σ E) (I : Inv X pins σ H s) (r : Vals vs us) (h : sp vs H Q E) :
    codeAny (model X.prog X.w) X.A (.call (.ref f) ⟨us, []⟩) (fun r s' => match r with | .ok (.ret v) => EP X pins σ Q v s' | .ok _ => False | .error e => X.xe e s') s := by
  refine codeAny_mono (F X.A X.stack s H us vs Q E hr I.env0 r h) fun r s' hq => ?_
  cases r with
  | error e => exact hx pins H s e s' I hq
  | ok fl =>
    cases fl with
    | ret u => exact I.after hq
    | next => exact False.elim hq
    | brk => exact False.elim hq
    | cont => exact False.elim hq
theorem run_makeRS (M : Mk X.K C f) (F : FnR X.prog X.w X.K X.mg X.base CX k f sp) (hr : Room (k + 1) X.A) (hx : PassesAt CX X σ E) (I : Inv X pins σ H s) (r : Vals vs us)
    (h : ∀ x dx, H x = Option.none → H dx = Option.none → dx ≠ x → sp (V.ref x :: vs) (upd (upd H dx (.own x)) x (.ins C dx [])) (fun v H2 => v = .non ∧ Q (.ref x) H2) E) :
    wpAny (model X.prog X.w) X.A (call (.ref C) us) (EP X pins σ Q) X.xe s := by
  have hq := h (s.heap.objs.size + 1) s.heap.objs.size (I.hok.fresh (Nat.le_succ _)) (I.hok.fresh (Nat.le_refl _)) (Nat.ne_of_lt (Nat.lt_succ_self _))
  have I2 := Inv.made (C := C) I
  have r2 : Vals (V.ref (s.heap.objs.size + 1) :: vs) (Value.ref (s.heap.objs.size + 1) :: us) := .cons rfl r
  refine wpAny_call (make_map (f := f) I.kIn M.makes M.init (beq_iff_eq.mp M.fn) (codeAny_mono (F _ X.stack _ _ (Value.ref (s.heap.objs.size + 1) :: us) _ _ E (hr.make C us []) (I2.env0.make C us []) r2 hq) fun r s' hq' => ?_))
  cases r with
  | error e => exact hx pins _ _ e s' I2 hq'
  | ok fl =>
    cases fl with
    | ret u =>
      obtain ⟨v, H', I3, rv, ev, q3⟩ := I2.after hq'
      subst ev
      exact ⟨rv, ⟨V.ref (s.heap.objs.size + 1), H', I3, rfl, q3⟩⟩
    | next => exact False.elim hq'
    | brk => exact False.elim hq'
    | cont => exact False.elim hq'
end
/-- what an __init__ does: the instance at the first argument comes to stand for a tree -/
def spI (K : PySem.W.Frag) (C : Addr) (n : Nat) (F : DF) : Sp := fun vs H Q E => vs.length = n + 1 ∧ ∃ (Z : Zn) (H0 : Hp) (x dx : Addr) (ws : List V) (ds : List D) (Q0 : D → Prop) (R0 : DX), vs = .ref x :: ws ∧ Good Z H0 ∧ H0 x = none ∧ H0 dx = none ∧ dx ≠ x ∧
  H = upd (upd H0 dx (.own x)) x (.ins C dx []) ∧ RepsZ K Z H0 ws ds ∧ F ds Q0 R0 ∧ (∀ y, R0 y → ∀ cls d H', Step Z H0 H' → RepX K Z H' cls d y → E cls d H') ∧ ∀ d, Q0 d → ∀ H', Step Z H0 H' → RepZ K Z H' (.ref x) d → Q .non H'
/-- a class that is made by its global name -/
structure MkC (P : Program) (w : World) (K : PySem.W.Frag) (mg : Str → Option Value) (base : Heap) (k : Nat) (x : Str) (C : Addr) (n : Nat) (F : DF) : Prop where
  ex : ∃ f, FnR P w K mg base (L2.CX P w) k f (spI K C n F) ∧ Mk K C f ∧ mg x = some (.ref C)
section
variable {X : Cx} {W : WX} {e : Expr} {es : List Expr} {pos p p2 : Pos} {fs : DA} {fe : DE} {x : Str} {k j n : Nat} {C : Addr} {F : DF}
theorem make_ev {Z : Zn} {O : Own} {H1 : Hp} {σ : L2.St} {env : Env'} {Q : VK} {Q0 : D → Prop} {R0 : DX} {vs : List V} {ds : List D} (a : At X.K Z O H1 σ env) (xk : Xk X.K Z H1 σ R0 W) (q : ∀ d, Q0 d → ∀ v H', Step Z H1 H' → RepZ X.K Z H' v d → Q v H') (r : RepsZ X.K Z H1 vs ds) (hl : ds.length = n) (hF : F ds Q0 R0) :
    ∀ y dx, H1 y = none → H1 dx = none → dx ≠ y → spI X.K C n F (V.ref y :: vs) (upd (upd H1 dx (.own y)) y (.ins C dx [])) (fun v H2 => v = .non ∧ Q (.ref y) H2) (WE W σ) := fun y dx h1 h2 h3 =>
  ⟨by simp [r.length, hl], Z, H1, y, dx, vs, ds, Q0, R0, rfl, a.good, h1, h2, h3, rfl, r, hF, fun z hz cls d H' s rx => xk z hz cls d H' s rx, fun d hd H' s rv => ⟨rfl, q d hd _ H' s rv⟩⟩
theorem pd_make (c : MkC X.prog X.w X.K X.mg X.base k x C n F) (hr : Room (k + 1) X.A) (hg : Gl X x) (tk : Takes X W) (ha : PDA X W (e :: es) fs)
    (hdb : (x == ("__debug__" : Str)) = false := by decide) (he : starEach (e :: es) X.env = (false, eval e X.env) :: starEach es X.env := by rfl) (hpl : (backTo pos (starEach es X.env)).any (·.1) = false := by rfl) :
    PD X W (.Call (.Name x p) (e :: es) [] pos) (dCall n F fs) := by
  obtain ⟨f, FR, M, hm⟩ := c.ex
  refine ⟨fun pins s σ H Q I ⟨Z, O, env, Q0, R0, at_, hf, xk, q⟩ => ?_⟩
  refine wpAny_Call_Name_kw (ld_glob I hg hm ?_ hdb)
  refine PySem.W.callWith_K (h₀ := X.base) I.ok.mod.kin M.kp (thn (ha.run pos pins s σ H _ I (DTA.mk (Q := fun vs H1 => ∀ y dx, H1 y = none → H1 dx = none → dx ≠ y → spI X.K C n F (V.ref y :: vs) (upd (upd H1 dx (.own y)) y (.ins C dx [])) (fun v H2 => v = .non ∧ Q (.ref y) H2) (WE W σ)) at_ hf xk fun ds hd vs H1 s1 r => ?_)) fun us s1 ⟨vs, H1, I1, r, hq⟩ => ⟨I1.kIn, ?_⟩) he hpl
  · exact make_ev (at_.step s1) (xk.step s1) (fun d hd v H' s' rv => q d hd v H' (s1.trans s') rv) r hd.1 hd.2
  · exact run_makeRS M FR hr (passAt tk σ) I1 r hq
/-- x( *e ) -/
def dCallS (n : Nat) (F : DF) (fe : DE) : DE := fun env Q R => fe env (fun d => ∃ ds, seqOf d = some ds ∧ ds.length = n ∧ F ds Q R) R
theorem pd_makeS (c : MkC X.prog X.w X.K X.mg X.base k x C n F) (hr : Room (k + 1) X.A) (hg : Gl X x) (tk : Takes X W) (ha : PD X W e fe)
    (hdb : (x == ("__debug__" : Str)) = false := by decide) (hst : starEach [.Starred e p2] X.env = [(true, eval e X.env)] := by rfl) :
    PD X W (.Call (.Name x p) [.Starred e p2] [] pos) (dCallS n F fe) := by
  obtain ⟨f, FR, M, hm⟩ := c.ex
  refine ⟨fun pins s σ H Q I ⟨Z, O, env, Q0, R0, at_, hf, xk, q⟩ => ?_⟩
  refine wpAny_Call_Name_kw (ld_glob I hg hm ?_ hdb)
  refine PySem.W.callWith_S (h₀ := X.base) I.ok.mod.kin M.kp (thn (ha.run pins s σ H _ I (DT.mk (Q := fun v H1 => ∃ b vs, v = V.ref b ∧ (SqT X.K H1 b vs ∨ SqL X.K H1 b vs) ∧ ∀ y dx, H1 y = none → H1 dx = none → dx ≠ y → spI X.K C n F (V.ref y :: vs) (upd (upd H1 dx (.own y)) y (.ins C dx [])) (fun v H2 => v = .non ∧ Q (.ref y) H2) (WE W σ)) at_ hf xk fun d hd v H1 s1 r => ?_)) fun u s1 ⟨y, H1, I1, ry, b, vs, ey, hsq, hq⟩ => ?_) hst
  · obtain ⟨ds, e1, e2, e3⟩ := hd
    obtain ⟨b, vs, rfl, hsq, rs⟩ := seq_rep r e1
    exact ⟨b, vs, rfl, hsq.symm, make_ev (at_.step s1) (xk.step s1) (fun d hd v H' s' rv => q d hd v H' (s1.trans s') rv) rs e2 e3⟩
  · subst ey
    obtain rfl : u = Value.ref b := ry
    exact StX.star_any I1 hsq fun us s2 I2 r => ⟨I2.kIn, run_makeRS M FR hr (passAt tk σ) I2 r hq⟩

/-! ### methods, properties -/
structure MeC (P : Program) (w : World) (K : PySem.W.Frag) (mg : Str → Option Value) (base : Heap) (k : Nat) (C : Addr) (m : Str) (n : Nat) (F : DF) : Prop where
  ex : ∃ g, FnR P w K mg base (L2.CX P w) k g (spD K n F) ∧ Meth K C m g ∧ SlX.SCls K C
def dMeth (C : Addr) (n : Nat) (F : DF) (fo : DE) (fs : DA) : DE := fun env Q R => fo env (fun o => match o with
  | .obj C' os => C' = C ∧ fs env (fun ds => ds.length + 1 = n ∧ F (.obj C os :: ds) Q R) R
  | _ => False) R
theorem pd_meth {o : Expr} {m : Str} {apos : Pos} {pl : Sem Bool} {fo : DE} (c : MeC X.prog X.w X.K X.mg X.base k C m n F) (hr : Room k X.A) (tk : Takes X W) (ho : PD X W o fo) (ha : PDA X W (e :: es) fs)
    (hst : starEach (e :: es) X.env = (false, eval e X.env) :: starEach es X.env := by rfl) (hpl : (backTo pos (starEach es X.env)).any (·.1) = false := by rfl)
    (ht : eval (.Call (.Attribute o m apos) (e :: es) [] pos) X.env = (do
      let ov ← eval o X.env
      standAt apos.atName
      let (f, first) ← holding [ov] (getMethod ov m pl)
      callWith pos f first (backTo pos (starEach (e :: es) X.env)) (backToKw pos (keywordEach [] X.env))) := by rfl) :
    PD X W (.Call (.Attribute o m apos) (e :: es) [] pos) (dMeth C n F fo fs) := by
  obtain ⟨g, FR, hm, sc⟩ := c.ex
  refine ⟨fun pins s σ H Q I ⟨Z, O, env, Q0, R0, at_, hf, xk, q⟩ => ?_⟩
  refine PySem.W.methodCall_KW (pl := pl) (thn (ho.run pins s σ H _ I (DT.mk (Q := fun x H1 => ∃ a dx ws os, x = .ref a ∧ SlX.Slt (mask Z H1) a C dx (ws.map some) ∧ RepsZ X.K Z H1 ws os ∧ Step Z H H1 ∧ fs env (fun ds => ds.length + 1 = n ∧ F (.obj C os :: ds) Q0 R0) R0) at_ hf xk fun d hd v H1 s1 r => ?_)) fun u s1 ⟨x, H1, I1, rx, a, dx, ws, os, ex, hsl, rw_, st1, hq⟩ => ?_) ht
  · cases d <;> first | exact False.elim hd | skip
    obtain ⟨ec, hd⟩ := hd
    subst ec
    cases r with
    | obj a _ dx ws ds h r => exact ⟨a, dx, ws, _, rfl, h, r, s1, hd⟩
  · subst ex
    obtain rfl : u = Value.ref a := rx
    refine SlX.getmethsl_ok I1 ((mask_le Z H1).slt hsl) sc hm ?_
    refine PySem.W.callWith_K (first := [.ref a]) (h₀ := X.base) I.ok.mod.kin hm.kp (thn (ha.run pos pins s1 σ H1 _ I1 (DTA.mk (Q := fun vs H2 => spD X.K n F (V.ref a :: vs) H2 Q (WE W σ)) (at_.step st1) hq (xk.step st1) fun ds hd vs H2 s2 r => ?_)) fun us s2 ⟨vs, H2, I2, r, q2⟩ => ⟨I2.kIn, ?_⟩) hst hpl
    · have st2 := st1.trans s2
      exact ⟨by simp [r.length, hd.1], Z, _, Q0, R0, s2.good, .cons _ _ _ _ (.obj a C dx ws os (s2.le.slt hsl) (rw_.step s2)) r, hd.2, fun z hz cls d H' s' rx => xk z hz cls d H' (st2.trans s') rx, fun d hd v H' s' rv => q d hd v H' (st2.trans s') rv⟩
    · exact wpAny_call (run_fnRS (us := .ref a :: us) (vs := .ref a :: vs) FR hr (passAt tk σ) I2 (.cons rfl r) q2)
/-- a property f of C, its getter -/
structure PrC (P : Program) (w : World) (K : PySem.W.Frag) (mg : Str → Option Value) (base : Heap) (k : Nat) (C : Addr) (f : Str) (F : DF) : Prop where
  ex : ∃ p g rest, FnR P w K mg base (L2.CX P w) k g (spD K 1 F) ∧ SlX.SCls K C ∧ PySem.W.findIn K (.ref C) f = some (some (.ref p)) ∧ PySem.W.specialIn K (.ref p) "__get__" = some (some (.builtin "property.__get__")) ∧
    PySem.W.takesIn K (.ref p) = some true ∧ PySem.W.recIn K p "property" = some (.ref g :: rest)
def dProp (C : Addr) (F : DF) (fo : DE) : DE := fun env Q R => fo env (fun o => match o with
  | .obj C' os => C' = C ∧ F [.obj C os] Q FX
  | _ => False) R
theorem pd_prop {o : Expr} {f : Str} {fo : DE} (c : PrC X.prog X.w X.K X.mg X.base k C f F) (hr : Room (k + 1) X.A) (ho : PD X W o fo) (hb : attributeBase o f X.env (eval o X.env) = eval o X.env := by rfl) : PD X W (.Attribute o f pos) (dProp C F fo) := by
  obtain ⟨p, g, rest, FR, sc, h1, h2, h3, h4⟩ := c.ex
  refine PE.imp (SlX.pe_propSl ho sc h1 h2 h3 ⟨rest, h4⟩ FR hr (E := fun _ _ _ => False) (fun _ _ _ _ ⟨_, _, _, _, _, _, _, _, _, _, _, _, z⟩ => z) hb) fun σ H Q ⟨Z, O, env, Q0, R0, at_, hf, xk, q⟩ => ?_
  refine DT.mk at_ hf xk fun d hd v H1 s1 r => ?_
  cases d <;> first | exact False.elim hd | skip
  rename_i C0 os0
  obtain ⟨ec, hd⟩ := hd
  subst ec
  cases r with
  | obj a _ dx ws _ h r => exact ⟨a, dx, ws.map some, rfl, (mask_le Z H1).slt h, rfl, Z, [.obj C0 os0], Q0, FX, s1.good, .one (.obj a _ dx ws os0 h r), hd, fun _ z => z.elim, fun d hd v H' s' rv => q d hd v H' (s1.trans s') rv⟩
/-! ### isinstance of an instance, of data -/
def gIsC (K : PySem.W.Frag) (c : Addr) : DC1 := fun ds Q => match ds with
  | [.obj C os, .raw (.ref c')] => c' = c ∧ SlX.SCls K C ∧ SlX.SIsi K C ∧ ∃ b, PySem.W.kitOne K (.ref C) (.ref c) = some b ∧ Q (.bl b)
  | _ => False
theorem cd_isC {K : PySem.W.Frag} {c : Addr} : CallD K (SlX.rIsiSl K (.ref c)) (gIsC K c) := fun Z H vs ds Q0 Q gd r hg q => by
  unfold gIsC at hg
  split at hg
  · obtain ⟨v, w, rfl, h, h2⟩ := r.inv2
    obtain ⟨e, h3, h4, b, h5, h6⟩ := hg
    subst e
    cases h2
    rename_i C0 os0 _
    cases h with
    | obj a _ dx ws _ hs rs => exact ⟨a, _, dx, ws.map some, .ref _, b, rfl, rfl, fun u z => z, (mask_le Z H).slt hs, h3, h4, h5, q _ h6 _ H (Step.refl gd) (.bl _)⟩
  · exact hg.elim
/-- isinstance(data, own class): the class is a plain one -/
def gIsD (K : PySem.W.Frag) (c : Addr) : DC1 := fun ds Q => match ds with
  | [d, .raw (.ref c')] => c' = c ∧ ∃ t b, dty d = some t ∧ PySem.W.kitOne K (.type t) (.ref c) = some b ∧ Q (.bl b)
  | _ => False
theorem cd_isD {K : PySem.W.Frag} {c : Addr} : CallD K (rIsi K) (gIsD K c) := fun Z H vs ds Q0 Q gd r hg q => by
  unfold gIsD at hg
  split at hg
  · obtain ⟨v, w, rfl, h, h2⟩ := r.inv2
    obtain ⟨e, t, b, h3, h4, h5⟩ := hg
    subst e
    cases h2
    exact ⟨v, _, _, _, b, rfl, .own _, dty_rep h h3, h4, q _ h5 _ H (Step.refl gd) (.bl _)⟩
  · exact hg.elim
end
end Dl

set_option maxHeartbeats 4000000
/-! The tree layer: the written dict, texts, isinstance of a written tuple of classes, list.index. -/
namespace Dl
open PySem PySem.Spec PyProof.Rows L2 Dk

/-! ### the written dict -/
structure TabV (K : PySem.W.Frag) (w : World) (d : Addr) (kvs : List (Str × List D)) : Prop where
  tab : ∃ n, KTab K w d (kvs.map (·.1)) n
  val : ∀ z ds, kvs.lookup z = some ds → ∃ a, KDct K w d z (.ref a) ∧ ∀ vl G, Rep K vl G (.ref a) (.tup ds)
def gTabIx (d : Addr) (kvs : List (Str × List D)) : D2 := fun x y Q => match x, y with
  | .raw (.ref d'), .str z => d' = d ∧ ∃ ds, kvs.lookup z = some ds ∧ Q (.tup ds)
  | _, _ => False
theorem opd_tabIx {K : PySem.W.Frag} {w : World} {d : Addr} {kvs : List (Str × List D)} (T : TabV K w d kvs) : OpD K (rIxD K w) (gTabIx d kvs) := fun Z H x y dx dy Q0 Q gd rx ry hg q => by
  unfold gTabIx at hg
  split at hg
  · obtain ⟨e, ds, h1, h2⟩ := hg
    subst e
    cases rx
    cases ry
    obtain ⟨a, ha, hr⟩ := T.val _ _ h1
    exact ⟨_, _, _, rfl, rfl, ha, q _ h2 _ H (Step.refl gd) (hr _ _)⟩
  · exact hg.elim
def zipD (ks : List Str) (ys : List D) : List D := (ks.zip ys).map fun p => .tup [.str p.1, p.2]
def enumD (xs : List D) : List D := xs.zipIdx.map fun p => .tup [.int (p.2 : Nat), p.1]
section
variable {K : PySem.W.Frag} {vl : Option (Addr × Addr)} {G : Hp} {ks : List Str}
theorem itr_tab : ItR K vl (Itq ks) G (ks.map D.str) where
  go := fun Z H e le gd i d hd => by
    rw [List.getElem?_map] at hd
    cases hk : ks[i]? with
    | none => rw [hk] at hd; cases hd
    | some k =>
      rw [hk] at hd
      cases hd
      refine ⟨(List.getElem?_eq_some_iff.mp hk).1, fun x H2 y => ?_⟩
      obtain ⟨rfl, k', hk', rfl⟩ := y
      rw [hk] at hk'
      cases hk'
      exact ⟨Step.refl gd, .str k⟩
  stop := fun Z H e le gd i hd => by
    rw [List.getElem?_map] at hd
    cases hk : ks[i]? with
    | none => exact List.getElem?_eq_none_iff.mp hk
    | some k => rw [hk] at hd; cases hd
theorem itr_tabZ {b : Addr} {ys : List V} {ds : List D} (h : SqT K G b ys) (r : Reps K vl G ys ds) (hl : ks.length = ds.length) : ItR K vl (Itqz K ks b) G (zipD ks ds) where
  go := fun Z H e le gd i d hd => by
    unfold zipD at hd
    rw [List.getElem?_map] at hd
    cases hz : (ks.zip ds)[i]? with
    | none => rw [hz] at hd; cases hd
    | some p =>
      rw [hz] at hd
      cases hd
      obtain ⟨hk, hy⟩ := List.getElem?_zip_eq_some.mp hz
      obtain ⟨v, hv, rv⟩ := r.get hy
      have hs : SqT K H b ys := (mask_le Z H).sqt (le.sqt h)
      refine ⟨⟨(List.getElem?_eq_some_iff.mp hk).1, ys, v, hs, hv⟩, fun x H2 y => ?_⟩
      obtain ⟨T, k, y', rfl, hT, rfl, hk', hy'⟩ := y
      rw [hk] at hk'
      cases hk'
      have e2 := hy' ys hs
      rw [hv] at e2
      cases e2
      subst e
      exact ⟨Step.new gd _ hT, new_tup gd hT (.cons _ _ _ _ (.str _) (.one (Rep.mono le rv)))⟩
  stop := fun Z H e le gd i hd => by
    unfold zipD at hd
    rw [List.getElem?_map] at hd
    cases hz : (ks.zip ds)[i]? with
    | none =>
      have := List.getElem?_eq_none_iff.mp hz
      rw [List.length_zip] at this
      show ks.length ≤ i
      omega
    | some p => rw [hz] at hd; cases hd
theorem itr_enumK : ItR K vl (Iteq ks.length fun i x => ∃ k, ks[i]? = some k ∧ x = .str k) G (enumD (ks.map D.str)) where
  go := fun Z H e le gd i d hd => by
    unfold enumD at hd
    rw [List.getElem?_map, List.getElem?_zipIdx, List.getElem?_map] at hd
    cases hk : ks[i]? with
    | none => rw [hk] at hd; cases hd
    | some k =>
      rw [hk] at hd
      simp at hd
      subst hd
      refine ⟨(List.getElem?_eq_some_iff.mp hk).1, fun x H2 y => ?_⟩
      obtain ⟨T, y', rfl, hT, rfl, k', hk', rfl⟩ := y
      rw [hk] at hk'
      cases hk'
      exact ⟨Step.new gd _ hT, new_tup gd hT (.cons _ _ _ _ (.int _) (.one (.str _)))⟩
  stop := fun Z H e le gd i hd => by
    unfold enumD at hd
    rw [List.getElem?_map, List.getElem?_zipIdx, List.getElem?_map] at hd
    cases hk : ks[i]? with
    | none => exact List.getElem?_eq_none_iff.mp hk
    | some k => rw [hk] at hd; simp at hd
theorem itr_enumL {a : Addr} {vs : List V} {ds : List D} (h : G a = some (.lst vs)) (r : Reps K vl G vs ds) : ItR K vl (Ite K a) G (enumD ds) where
  go := fun Z H e le gd i d hd => by
    unfold enumD at hd
    rw [List.getElem?_map, List.getElem?_zipIdx] at hd
    cases hk : ds[i]? with
    | none => rw [hk] at hd; cases hd
    | some k =>
      rw [hk] at hd
      simp at hd
      subst hd
      obtain ⟨v, hv, rv⟩ := r.get hk
      have hs : SqL K H a vs := SqL.of (mask_le Z H _ _ (le _ _ h))
      refine ⟨⟨vs, v, hs, hv⟩, fun x H2 y => ?_⟩
      obtain ⟨T, y', rfl, hT, rfl, hy'⟩ := y
      have e2 := hy' vs hs
      rw [hv] at e2
      cases e2
      subst e
      exact ⟨Step.new gd _ hT, new_tup gd hT (.cons _ _ _ _ (.int _) (.one (Rep.mono le rv)))⟩
  stop := fun Z H e le gd i hd => by
    unfold enumD at hd
    rw [List.getElem?_map, List.getElem?_zipIdx] at hd
    cases hk : ds[i]? with
    | none => exact ⟨vs, SqL.of (mask_le Z H _ _ (le _ _ h)), by rw [r.length]; exact List.getElem?_eq_none_iff.mp hk⟩
    | some k => rw [hk] at hd; simp at hd
theorem itr_enumT {a : Addr} {vs : List V} {ds : List D} (h : SqT K G a vs) (r : Reps K vl G vs ds) : ItR K vl (Itet K a) G (enumD ds) where
  go := fun Z H e le gd i d hd => by
    unfold enumD at hd
    rw [List.getElem?_map, List.getElem?_zipIdx] at hd
    cases hk : ds[i]? with
    | none => rw [hk] at hd; cases hd
    | some k =>
      rw [hk] at hd
      simp at hd
      subst hd
      obtain ⟨v, hv, rv⟩ := r.get hk
      have hs : SqT K H a vs := (mask_le Z H).sqt (le.sqt h)
      refine ⟨⟨vs, v, hs, hv⟩, fun x H2 y => ?_⟩
      obtain ⟨T, y', rfl, hT, rfl, hy'⟩ := y
      have e2 := hy' vs hs
      rw [hv] at e2
      cases e2
      subst e
      exact ⟨Step.new gd _ hT, new_tup gd hT (.cons _ _ _ _ (.int _) (.one (Rep.mono le rv)))⟩
  stop := fun Z H e le gd i hd => by
    unfold enumD at hd
    rw [List.getElem?_map, List.getElem?_zipIdx] at hd
    cases hk : ds[i]? with
    | none => exact ⟨vs, (mask_le Z H).sqt (le.sqt h), by rw [r.length]; exact List.getElem?_eq_none_iff.mp hk⟩
    | some k => rw [hk] at hd; simp at hd
/-- list(table), len(table), sorted(table) -/
def gTabL (d : Addr) (ks : List Str) : DCL1 := fun ds Q => match ds with
  | [.raw (.ref d')] => d' = d ∧ Q (ks.map D.str)
  | _ => False
theorem reps_strs {vl : Option (Addr × Addr)} {G : Hp} : ∀ ks : List Str, Reps K vl G (ks.map V.str) (ks.map D.str)
  | [] => .nil
  | k :: r => .cons _ _ _ _ (.str k) (reps_strs r)
theorem cdl_tabL {d : Addr} : CallDL K (rTabL d ks) (gTabL d ks) := fun Z H vs ds Q0 Q gd r hg q => by
  unfold gTabL at hg
  split at hg
  · obtain ⟨v, rfl, h⟩ := r.inv1
    obtain ⟨e, hg⟩ := hg
    subst e
    cases h
    exact ⟨rfl, fun p hp => q _ hg p _ H (Step.refl gd) hp (reps_strs ks)⟩
  · exact hg.elim
def gTabN (d : Addr) (ks : List Str) : DC1 := fun ds Q => match ds with
  | [.raw (.ref d')] => d' = d ∧ Q (.int ks.length)
  | _ => False
theorem cd_tabN {d : Addr} : CallD K (rTabN d ks) (gTabN d ks) := fun Z H vs ds Q0 Q gd r hg q => by
  unfold gTabN at hg
  split at hg
  · obtain ⟨v, rfl, h⟩ := r.inv1
    obtain ⟨e, hg⟩ := hg
    subst e
    cases h
    exact ⟨rfl, q _ hg _ H (Step.refl gd) (.int _)⟩
  · exact hg.elim
def gTabS (d : Addr) (ks : List Str) : DCL1 := fun ds Q => match ds with
  | [.raw (.ref d')] => d' = d ∧ ∀ ys : List Str, ys.Perm ks → sortedS ys = true → Q (ys.map D.str)
  | _ => False
theorem cdl_tabS {d : Addr} : CallDL K (rTabS d ks) (gTabS d ks) := fun Z H vs ds Q0 Q gd r hg q => by
  unfold gTabS at hg
  split at hg
  · obtain ⟨v, rfl, h⟩ := r.inv1
    obtain ⟨e, hg⟩ := hg
    subst e
    cases h
    exact ⟨rfl, fun ys p hp hs hq => q _ (hg ys hp hs) p _ H (Step.refl gd) hq (reps_strs ys)⟩
  · exact hg.elim
end
section
variable {X : Cx} {W : WX} {tg e e2 a b : Expr} {pos p tpos apos : Pos} {elts : List Expr} {kk : Nat} {fe fa fb : DE} {fs : DA} {d : Addr} {ks : List Str} {n : Nat} {kvs : List (Str × List D)}
theorem pd_tabIx (T : TabV X.K X.w d kvs) (ha : PD X W a fa) (hb : PD X W b fb) (hs : PlainIx b := by exact fun _ _ => rfl) : PD X W (.Subscript a b pos) (dOp (gTabIx d kvs) fa fb) := PE.imp (pe_ix ix_kdict ha hb hs) (two_ev (opd_tabIx T))
def dItTab (d : Addr) (ks : List Str) (fe : DE) : DA := fun env Q R => fe env (fun x => match x with
  | .raw (.ref d') => d' = d ∧ Q (ks.map D.str)
  | _ => False) R
theorem pdi_tab (T : KTab X.K X.w d ks n) (he : PD X W e fe) : PDI X W tg e (dItTab d ks fe) := PI.imp (pi_tab T he) fun σ H Q ⟨Z, O, env, Q0, R0, at_, hf, xk, q⟩ =>
  DT.mk at_ hf xk fun x hx v H1 s r => by
    split at hx
    · obtain ⟨e, hx⟩ := hx
      subst e
      cases r
      exact ⟨rfl, q _ hx _ H1 s itr_tab⟩
    · exact hx.elim
def dItZip (d : Addr) (ks : List Str) (fs : DA) : DA := fun env Q R => fs env (fun as => match as with
  | [.raw (.ref d'), .tup ys] => d' = d ∧ ks.length = ys.length ∧ Q (zipD ks ys)
  | _ => False) R
theorem pdi_tabZ (T : KTab X.K X.w d ks n) (hg : Gl X "zip") (hm : X.mg "zip" = none) (ha : PDA X W [e, e2] fs)
    (hs : starEach [e, e2] X.env = (false, eval e X.env) :: starEach [e2] X.env := by rfl) (hpl : (backTo pos (starEach [e2] X.env)).any (·.1) = false := by rfl) :
    PDI X W (.Tuple elts kk tpos) (.Call (.Name "zip" p) [e, e2] [] pos) (dItZip d ks fs) := PI.imp (pi_tabZ T hg hm ha hs hpl) fun σ H Q ⟨Z, O, env, Q0, R0, at_, hf, xk, q⟩ =>
  DTA.mk at_ hf xk fun x hx v H1 s r => by
    split at hx
    · obtain ⟨v, w, rfl, h, h2⟩ := r.inv2
      obtain ⟨e, hl, hx⟩ := hx
      subst e
      cases h
      cases h2 with
      | tup b ys ds hq rs => exact ⟨b, ys, rfl, unm_t hq, q _ hx _ H1 s (itr_tabZ hq rs hl)⟩
    · exact hx.elim
def dItEnK (d : Addr) (ks : List Str) (fs : DA) : DA := fun env Q R => fs env (fun as => match as with
  | [.raw (.ref d')] => d' = d ∧ Q (enumD (ks.map D.str))
  | _ => False) R
theorem pdi_enumK (T : KTab X.K X.w d ks n) (hg : Gl X "enumerate") (hm : X.mg "enumerate" = none) (ha : PDA X W [e] fs) (hs : starEach [e] X.env = [(false, eval e X.env)] := by rfl) :
    PDI X W (.Tuple elts kk tpos) (.Call (.Name "enumerate" p) [e] [] pos) (dItEnK d ks fs) := PI.imp (pi_enumK T hg hm ha hs) fun σ H Q ⟨Z, O, env, Q0, R0, at_, hf, xk, q⟩ =>
  DTA.mk at_ hf xk fun x hx v H1 s r => by
    split at hx
    · obtain ⟨v, rfl, h⟩ := r.inv1
      obtain ⟨e, hx⟩ := hx
      subst e
      cases h
      exact ⟨rfl, q _ hx _ H1 s itr_enumK⟩
    · exact hx.elim
def dItEn (fs : DA) : DA := fun env Q R => fs env (fun as => match as with
  | [d] => ∃ xs, seqOf d = some xs ∧ Q (enumD xs)
  | _ => False) R
theorem pdi_enum (hg : Gl X "enumerate") (hm : X.mg "enumerate" = none) (ha : PDA X W [e] fs) (hs : starEach [e] X.env = [(false, eval e X.env)] := by rfl) :
    PDI X W (.Tuple elts kk tpos) (.Call (.Name "enumerate" p) [e] [] pos) (dItEn fs) := PI.imp (pi_enumA hg hm ha hs) fun σ H Q ⟨Z, O, env, Q0, R0, at_, hf, xk, q⟩ =>
  DTA.mk at_ hf xk fun x hx v H1 s r => by
    split at hx
    · rename_i d
      obtain ⟨v, rfl, h⟩ := r.inv1
      obtain ⟨xs, e, hx⟩ := hx
      cases h <;> simp [seqOf] at e
      · subst e
        rename_i b vs ds hs rs
        exact ⟨b, rfl, .inr ⟨vs, unm_t hs, q _ hx _ H1 s (itr_enumT hs rs)⟩⟩
      · subst e
        rename_i b vs ds hs rs
        exact ⟨b, rfl, .inl ⟨vs, SqL.of (mask_le _ _ _ _ hs), q _ hx _ H1 s (itr_enumL hs rs)⟩⟩
    · exact hx.elim

/-! ### texts -/
def gCatS : D2 := fun x y Q => match x, y with
  | .str i, .str j => i.length + j.length ≤ sizeLine ∧ Q (.str (i ++ j))
  | _, _ => False
theorem opd_catS {K : PySem.W.Frag} : OpD K (fun x y H Q => ∃ i j, x = .str i ∧ y = .str j ∧ i.length + j.length ≤ sizeLine ∧ Q (.str (i ++ j)) H) gCatS := fun Z H x y dx dy Q0 Q gd rx ry hg q => by
  cases dx <;> cases dy <;> first | exact False.elim hg | skip
  cases rx; cases ry
  exact ⟨_, _, rfl, rfl, hg.1, q _ hg.2 _ H (Step.refl gd) (.str _)⟩
theorem strs_inv {K : PySem.W.Frag} {vl : Option (Addr × Addr)} {G : Hp} : ∀ {vs : List V} {ns : List Str}, Reps K vl G vs (ns.map D.str) → vs = ns.map V.str
  | _, [], .nil => rfl
  | _, n :: r, .cons _ _ _ _ (.str _) q => by rw [strs_inv q]; rfl
/-- x.join(list of texts) -/
def dJoin (fa fb : DE) : DE := fun env Q R => fa env (fun x => fb env (fun y => ∃ a ds, ∃ ys : List Str, x = .str a ∧ seqOf y = some ds ∧ ds = ys.map D.str ∧ (ys.map (·.length)).sum + ys.length * a.length ≤ 16777216 ∧ Q (.str (Txt.join a ys))) R) R
theorem str_of {K : PySem.W.Frag} {Z : Zn} {H : Hp} {v : V} {x : Str} (r : RepZ K Z H v (.str x)) : v = .str x := by cases r; rfl
/-- the receiver is a text: told ahead -/
def dIsS (fa : DE) (g : Str → DE) : DE := fun env Q R => fa env (fun x => match x with
  | .str a => g a env Q R
  | _ => False) R
def dJoinG (fb : DE) : Str → DE := fun a env Q R => fb env (fun y => ∃ ds, ∃ ys : List Str, seqOf y = some ds ∧ ds = ys.map D.str ∧ (ys.map (·.length)).sum + ys.length * a.length ≤ 16777216 ∧ Q (.str (Txt.join a ys))) R
theorem pd_join (ha : PD X W a fa) (hb : PD X W b fb) (hs : starEach [b] X.env = [(false, eval b X.env)] := by rfl) (hbase : attributeBase a "join" X.env (eval a X.env) = eval a X.env := by rfl) (hline : (apos.endLine == pos.line) = true := by rfl) :
    PD X W (.Call (.Attribute a "join" apos) [b] [] pos) (dIsS fa (dJoinG fb)) := PE.imp (pe_join ha hb hs hbase hline) fun σ H Q ⟨Z, O, env, Q0, R0, at_, hf, xk, q⟩ =>
  DT.mk at_ hf xk fun d hd v H1 s r => by
    cases d <;> first | exact False.elim hd | skip
    cases r
    refine ⟨⟨_, rfl⟩, DT.mk (at_.step s) hd (xk.step s) fun d2 h2 v2 H2 s2 r2 => ?_⟩
    obtain ⟨ds, ys, e1, e2, e3, e4⟩ := h2
    obtain ⟨c, vs, rfl, hsq, rs⟩ := seq_rep r2 e1
    subst e2
    rw [strs_inv rs] at hsq
    exact ⟨_, c, ys, rfl, rfl, hsq, e3, q _ e4 _ H2 (s.trans s2) (.str _)⟩
def dSplit (fa fb : DE) : DA := fun env Q R => fa env (fun x => match x with
  | .str a => fb env (fun y => ∃ b, y = .str b ∧ (b.length == 0) = false ∧ a.length + 2 ≤ sizeLine ∧ Q ((Txt.split a b).map D.str)) R
  | _ => False) R
theorem pdl_split (ha : PD X W a fa) (hb : PD X W b fb) (hs : starEach [b] X.env = [(false, eval b X.env)] := by rfl) (hbase : attributeBase a "split" X.env (eval a X.env) = eval a X.env := by rfl) (hline : (apos.endLine == pos.line) = true := by rfl) :
    PDL X W (.Call (.Attribute a "split" apos) [b] [] pos) (dSplit fa fb) := PE.imp (pe_split ha hb hs hbase hline) fun σ H Q ⟨Z, O, env, Q0, R0, at_, hf, xk, q⟩ =>
  DT.mk at_ hf xk fun d hd v H1 s r => by
    cases d <;> first | exact False.elim hd | skip
    cases r
    refine ⟨⟨_, rfl⟩, DT.mk (at_.step s) hd (xk.step s) fun d2 h2 v2 H2 s2 r2 => ?_⟩
    obtain ⟨b, e1, e2, e3, e4⟩ := h2
    subst e1
    cases r2
    exact ⟨_, b, rfl, rfl, e2, e3, fun p hp => q _ e4 p _ H2 (s.trans s2) hp (reps_strs _)⟩
/-- f-strings: a part that is a text or an int -/
def dFmt (fe : DE) : DE := fun env Q R => fe env (fun d => match d with
  | .str y => y.length ≤ sizeLine ∧ Q (.str y)
  | .int i => i.natAbs.log2 < 1920 ∧ Q (.str (toString i))
  | _ => False) R
theorem pd_fmt (he : PD X W e fe) : PD X W (.FormattedValue e (-1) none pos) (dFmt fe) := PE.imp (pe_fmt he) fun σ H Q ⟨Z, O, env, Q0, R0, at_, hf, xk, q⟩ =>
  DT.mk at_ hf xk fun d hd v H1 s r => by
    cases d <;> first | exact False.elim hd | skip
    · cases r
      exact .inr ⟨_, rfl, hd.1, q _ hd.2 _ H1 s (.str _)⟩
    · cases r
      exact .inl ⟨_, rfl, hd.1, q _ hd.2 _ H1 s (.str _)⟩
inductive PDJ (X : Cx) (W : WX) : List Expr → List DE → Prop
  | nil : PDJ X W [] []
  | cons {e : Expr} {t : DE} {es : List Expr} {ts : List DE} (h : PD X W e t) (r : PDJ X W es ts) : PDJ X W (e :: es) (t :: ts)
theorem PDJ.pj {es : List Expr} {ts : List DE} (h : PDJ X W es ts) : PJ X es (ts.map fun t => DT X.K t W) := by
  induction h with
  | nil => exact .nil
  | cons h r ih => exact .cons h ih
def dJs : List DE → Str → DE
  | [], acc => fun _ Q _ => Q (.str acc)
  | t :: ts, acc => fun env Q R => t env (fun d => match d with
    | .str y => (acc ++ y).length ≤ sizeLine ∧ dJs ts (acc ++ y) env Q R
    | _ => False) R
theorem js_ev {σ : L2.St} {Q : VK} {Z : Zn} {O : Own} {env : Env'} {Q0 : D → Prop} {R0 : DX} {H0 : Hp} (q : ∀ d, Q0 d → ∀ v H', Step Z H0 H' → RepZ X.K Z H' v d → Q v H') : ∀ (ts : List DE) (acc : Str) (H : Hp), Step Z H0 H → At X.K Z O H σ env → Xk X.K Z H σ R0 W → dJs ts acc env Q0 R0 →
    tJs (ts.map fun t => DT X.K t W) acc σ H fun out H1 => Q (.str out) H1
  | [], acc, H, s, _, _, h => q _ h _ H s (.str _)
  | t :: ts, acc, H, s, a, xk, h => DT.mk a h xk fun d hd v H1 s1 r => by
    cases d <;> first | exact False.elim hd | skip
    cases r
    exact ⟨_, rfl, hd.1, js_ev q ts _ H1 (s.trans s1) (a.step s1) (xk.step s1) hd.2⟩
theorem pd_joined {v1 v2 : Expr} {rest : List Expr} {ts : List DE} (h : PDJ X W (v1 :: v2 :: rest) ts) : PD X W (.JoinedStr (v1 :: v2 :: rest) pos) (dJs ts Str.empty) := PE.imp (pe_joined h.pj) fun σ H Q ⟨Z, O, env, Q0, R0, at_, hf, xk, q⟩ =>
  js_ev q ts Str.empty H (Step.refl at_.good) at_ xk hf

/-! ### isinstance(e, (T, U)); list.index -/
def dIsT (T U : String) (fe : DE) : DE := fun env Q R => fe env (fun d => ∃ t b, dty d = some t ∧ PySem.W.kitAny X.K (.type t) [.type T, .type U] = some b ∧ Q (.bl b)) R
end
section
variable {X : Cx} {W : WX} {e : Expr} {pos p p1 p2 p3 apos : Pos} {kk : Nat} {fe fa fb : DE} {x y : Str} {T U : String}
def dIsT2 (K : PySem.W.Frag) (T U : String) (fe : DE) : DE := fun env Q R => fe env (fun d => ∃ t b, dty d = some t ∧ PySem.W.kitAny K (.type t) [.type T, .type U] = some b ∧ Q (.bl b)) R
theorem pd_isT2 (hgi : Gl X "isinstance") (hmi : X.mg "isinstance" = none) (he : PD X W e fe) (hx : Gl X x) (mx : X.mg x = none) (vx : bootBuiltins x = some (.type T)) (hy : Gl X y) (my : X.mg y = none) (vy : bootBuiltins y = some (.type U))
    (nx : x ≠ "__name__" := by decide) (ny : y ≠ "__name__" := by decide) (dx : (x == ("__debug__" : Str)) = false := by decide) (dy : (y == ("__debug__" : Str)) = false := by decide)
    (h1 : starEach [.Name x p1, .Name y p2] X.env = (false, eval (.Name x p1) X.env) :: starEach [.Name y p2] X.env := by rfl) (h2 : starEach [.Name y p2] X.env = (false, eval (.Name y p2) X.env) :: starEach [] X.env := by rfl)
    (hs : starEach [e, .Tuple [.Name x p1, .Name y p2] kk p3] X.env = (false, eval e X.env) :: starEach [.Tuple [.Name x p1, .Name y p2] kk p3] X.env := by rfl)
    (hs2 : starEach [.Tuple [.Name x p1, .Name y p2] kk p3] X.env = (false, eval (.Tuple [.Name x p1, .Name y p2] kk p3) X.env) :: starEach [] X.env := by rfl)
    (hpl : (backTo pos (starEach [.Tuple [.Name x p1, .Name y p2] kk p3] X.env)).any (·.1) = false := by rfl) :
    PD X W (.Call (.Name "isinstance" p) [e, .Tuple [.Name x p1, .Name y p2] kk p3] [] pos) (dIsT2 X.K T U fe) :=
  PE.imp (pe_callB call_isiT hgi hmi (by kernel_rfl) (pa_cons he (pa_cons (pe_tup (pa_cons (pe_bltn (v := .ty T) hx mx vx rfl nx dx) (pa_cons (pe_bltn (v := .ty U) hy my vy rfl ny dy) pa_nil h2) h1)) pa_nil hs2) hs) (by decide) (by decide) hs hpl) fun σ H Q ⟨Z, O, env, Q0, R0, at_, hf, xk, q⟩ =>
    DT.mk at_ hf xk fun d hd v H1 s r => by
      obtain ⟨t, b, h3, h4, h5⟩ := hd
      refine ⟨(by show 2 ≤ sizeLine; decide), fun tp htp => ⟨v, tp, _, .type t, [.type T, .type U], b, rfl, upd_same, .cons (.ty T) (.cons (.ty U) .nil), ?_, h4, q _ h5 _ _ (s.trans (Step.new s.good _ htp)) (.bl _)⟩⟩
      exact dty_rep (r.step (Step.new s.good (.tup [.ty T, .ty U]) htp)) h3
/-- xs.index(y), flat items -/
def dIndex (fa fb : DE) : DE := fun env Q R => fa env (fun x => match x with
  | .lst ds => fb env (fun y => ∃ vs v j z, toVs ds = some vs ∧ toV y = some v ∧ vs[j]? = some z ∧ eqV z v = true ∧ (∀ (m : Nat) (z' : V), m < j → vs[m]? = some z' → eqV z' v = false) ∧ Q (.int (j : Nat))) R
  | _ => False) R
theorem pd_index {a b : Expr} (ha : PD X W a fa) (hb : PD X W b fb) (hs : starEach [b] X.env = (false, eval b X.env) :: starEach [] X.env := by rfl)
    (hbase : attributeBase a "index" X.env (eval a X.env) = eval a X.env := by rfl)
    (hfew : ((backTo pos (starEach [b] X.env)).all (fun x => !x.1) && (backToKw pos (keywordEach [] X.env)).all (fun x => x.1.isSome) && decide ([b].length + ([] : List Keyword).length + (if ([] : List Keyword).isEmpty then 0 else 1) < 30)) = true := by rfl)
    (hline : (apos.endLine == pos.line) = true := by rfl) : PD X W (.Call (.Attribute a "index" apos) [b] [] pos) (dIndex fa fb) :=
  PE.imp (pe_bm PySem.F.plainAttrs_list PySem.F.slot_list_index (by kernel_rfl) mt_index ha (pa_cons hb pa_nil hs) hbase hfew hline hs rfl) fun σ H Q ⟨Z, O, env, Q0, R0, at_, hf, xk, q⟩ =>
    DT.mk at_ hf xk fun d hd v H1 s r => by
      cases d <;> first | exact False.elim hd | skip
      obtain ⟨c, vs, rfl, h1, h2, rs⟩ := rep_lst r
      refine ⟨.inl ⟨rfl, vs, SqL.of h1⟩, DT.mk (at_.step s) hd (xk.step s) fun d2 hd2 v2 H2 s2 r2 => ?_⟩
      obtain ⟨ws, v', j, z, g1, g2, g3, g4, g5, g6⟩ := hd2
      obtain ⟨rfl, fx⟩ := toV_rep r2 g2
      obtain ⟨rfl, fs⟩ := toVs_rep rs g1
      exact ⟨c, vs, v2, j, z, rfl, rfl, SqL.of (mask_le _ _ _ _ (s2.le _ _ h2)), fx, fs, g3, g4, g5, q _ g6 _ H2 (s.trans s2) (.int _)⟩
end
end Dl

set_option maxHeartbeats 2000000
/-! The head of this family: facts by a Hook of our own (functions by any address), the end of the walk with the script's bits. -/
namespace Dh
open PySem PySem.Spec PyProof.Rows L2 He Dl

/-- a def, where it stands, as the text has it -/
structure DefY where
  at_ : PySem.W.Frag → Addr
  name : Str
  qual : Str
  params : Arguments
  body : List Stmt
  scope : Scope
def fnY (K : PySem.W.Frag) (a : Addr) : FnW := match K.lookup a with
  | some ⟨_, _, .func fd, _⟩ => some (fd.name, fd.qualname, fd.params, fd.body, fd.scope, fd.globals, fd.closure, fd.builtins)
  | _ => none
def DefY.val (d : DefY) : FnW := some (d.name, d.qual, d.params, .stmts d.body, d.scope, mainGlobals, [], builtinsNs)
def DefY.ok (K : PySem.W.Frag) (d : DefY) : Bool := PySem.W.keepIn K (.ref (d.at_ K)) && (match K.lookup (d.at_ K) with
  | some ⟨_, _, .func fd, _⟩ => PySem.W.codeIn K fd.code d.qual && (dflB K fd.defaults [] && kwdB K fd.kwdefaults [])
  | _ => false)
theorem DefY.funD {K : PySem.W.Frag} {d : DefY} (e : fnY K (d.at_ K) = d.val) (c : d.ok K = true) : ∃ fd, FunD K d.name d.qual d.params d.body d.scope [] [] (d.at_ K) fd := by
  obtain ⟨kp, c2⟩ := ba c
  unfold fnY at e
  cases q : K.lookup (d.at_ K) with
  | none => rw [q] at c2; cases c2
  | some o =>
    obtain ⟨oc, od, dt, osl⟩ := o
    rw [q] at c2 e
    cases dt with
    | func fd =>
      obtain ⟨n1, n2, n3, n4, n5, n6, n7, n8, n9, n10, n11, n12, n13, n14, n15⟩ := fd
      have e2 : (some (n1, n2, n3, n4, n5, n6, n7, n15) : FnW) = some (d.name, d.qual, d.params, .stmts d.body, d.scope, mainGlobals, [], builtinsNs) := e
      simp only [Option.some.injEq, Prod.mk.injEq] at e2
      obtain ⟨h1, h2, h3, h4, h5, h6, h7, h8⟩ := e2
      subst h1 h2 h3 h4 h5 h6 h7 h8
      obtain ⟨k1, k2⟩ := ba (show (PySem.W.codeIn K n13 d.qual && (dflB K n8 [] && kwdB K n9 [])) = true from c2)
      obtain ⟨k3, k4⟩ := ba k2
      exact ⟨_, ⟨oc, od, n8, n9, n10, n11, n12, n13, n14, osl, rfl, q, k1, dflB_ok k3, kwdB_ok k4⟩, kp⟩
    | _ => cases c2
abbrev AlY : Type := Bool × List FnW × List (Option (List (Option (Str × Int))))
def obsYK (fn : List DefY) (ts : List Tab) (ex : PySem.W.Frag → Bool) (K : PySem.W.Frag) : AlY := (ex K && fn.all fun d => d.ok K, fn.map fun d => fnY K (d.at_ K), ts.map fun t => dicW K (t.1 K))
def valY (fn : List DefY) (ts : List Tab) (w : World) : AlY := (true, fn.map DefY.val, ts.map fun t => some (keysIn w.params t.2))
def SaysY (fn : List DefY) (ts : List Tab) (ex : PySem.W.Frag → Bool) (w : World) (K : PySem.W.Frag) : Prop := obsYK fn ts ex K = valY fn ts w
def obsY (n : Nat) (fn : List DefY) (ts : List Tab) (ex : PySem.W.Frag → Bool) (g : Addr → Option Obj) : AlY := obsYK fn ts ex (frG g (asD g n))
def hookY (n : Nat) (fn : List DefY) (ts : List Tab) (ex : PySem.W.Frag → Bool) : PySem.W.Hook where
  α := AlY
  obs := fun s => obsY n fn ts ex s.heap.get?
  val := fun w => valY fn ts w
  says := fun w h => ∃ K : PySem.W.Frag, K.In h ∧ SaysY fn ts ex w K
  of := fun _ _ e => ⟨_, frG_in, e⟩
  keeps := fun _ _ _ ⟨K, hK, c⟩ k => ⟨K, PySem.W.Frag.In.keeps hK k, c⟩
theorem obsY_eq {n : Nat} {fn : List DefY} {ts : List Tab} {ex : PySem.W.Frag → Bool} {g : Addr → Option Obj} {s : Shared} (h : ∀ a, g a = s.heap.get? a) : obsY n fn ts ex g = (hookY n fn ts ex).obs s := by
  have e : g = s.heap.get? := funext h
  rw [e] <;> rfl
section
variable {fn : List DefY} {ts : List Tab} {ex : PySem.W.Frag → Bool} {w : World} {K : PySem.W.Frag}
theorem SaysY.more (c : SaysY fn ts ex w K) : ex K = true := (ba (show (ex K && fn.all fun d => d.ok K) = true from congrArg (fun z : AlY => z.1) c)).1
theorem SaysY.def_ (c : SaysY fn ts ex w K) (i : Nat) {d : DefY} (h : fn[i]? = some d := by rfl) : ∃ fd, FunD K d.name d.qual d.params d.body d.scope [] [] (d.at_ K) fd := by
  have c2 := (ba (show (ex K && fn.all fun d => d.ok K) = true from congrArg (fun z : AlY => z.1) c)).2
  have e : fn.map (fun d => fnY K (d.at_ K)) = fn.map DefY.val := congrArg (fun z : AlY => z.2.1) c
  have e2 : (fn.map fun d => fnY K (d.at_ K))[i]? = (fn.map DefY.val)[i]? := by rw [e]
  rw [List.getElem?_map, List.getElem?_map, h] at e2
  exact DefY.funD (Option.some.inj e2) (List.all_eq_true.mp c2 d (List.mem_of_getElem? h))
theorem SaysY.tab (c : SaysY fn ts ex w K) (i : Nat) {t : Tab} (h : ts[i]? = some t := by rfl) : dicW K (t.1 K) = some (keysIn w.params t.2) := by
  have e : ts.map (fun t => dicW K (t.1 K)) = ts.map fun t => some (keysIn w.params t.2) := congrArg (fun z : AlY => z.2.2) c
  have e2 : (ts.map fun t => dicW K (t.1 K))[i]? = (ts.map fun t => some (keysIn w.params t.2))[i]? := by rw [e]
  rw [List.getElem?_map, List.getElem?_map, h] at e2
  exact Option.some.inj e2
end
/-- the end of the walk, with what is known of the script's numbers -/
theorem walk_ofY {l : PySem.W.OpenLaw} {n k : Nat} {q : Program} {loose : List Str} {XP : (Str → Option Value) → Heap → Prop} {YP : World → Heap → Prop} {d : DefRec} {CX : World → CXT} {x : Str}
    (hn : l.most = some n) (hn2 : n ≤ sizeLine) (hdf : d.params.defaults = []) (hr : Room k callerA)
    (F : ∀ (w : World) (mg : Str → Option Value) (fa : Addr) (h : Heap), YP w h → h.Ns mainGlobals mg → mg d.name = some (.ref fa) →
      ∃ (K : PySem.W.Frag) (fd : FuncData) (sp : Sp), K.In h ∧ (∀ (s : Shared) (u : Value), BindsTo s fd ⟨[u], []⟩ [(x, u)]) ∧
        (∀ (H : Hp) (a : Addr) (ns : List Int), ns.length ≤ n → (∀ z ∈ ns, Builtin.Int.intBits z ≤ 1048576) → Only H → SqL K H a (ns.map V.int) → sp [.ref a] H (fun v _ => v = .bl true) fun _ _ _ => False) ∧
        ∀ base : Heap, K.In base → base.Ns mainGlobals mg → FnOk l.prog w K mg base (CX w) k fa fd [x] sp)
    (hCX : ∀ (w : World) (H : Hp) (s : Shared) (e : Value) (s' : Shared), CX w [] H s (fun _ _ _ => False) e s' → False) :
    PySem.W.WalkO q loose XP YP l.row.toRowW d [] (fun f vs => PySem.call f vs) := by
  refine Att.attach_callB hn hdf fun w s₀ s₁ mg mb fa o pm cd doc a vs ns G Y ho hd hcd hmg hobj hints hlen hbits hg => ?_
  obtain ⟨K, fd, sp, KX, hb, hsp, hF⟩ := F w mg fa _ Y G.T.g hmg
  exact law_call KX G.T.g G.T.b G.T.builtins G.T.nolimit hg hobj hints (Nat.le_trans hlen hn2) hr hF hb (fun H hO hS => hsp H a ns hlen hbits hO hS) fun H e s' => hCX w H s₁ e s'
/-- the rule for a def by its promise over trees -/
theorem okD {P : Program} {w : World} {K : PySem.W.Frag} {mg : Str → Option Value} {base : Heap} {x qual : Str} {params : Arguments} {body : List Stmt} {scope : Scope} {f : Addr} {fd : FuncData} {N ps : List Str} {k : Nat} {g : DG} (F : FunD K x qual params body scope [] [] f fd) (S : FnScope N ps scope)
    (hbody : ∀ (cdv : Value) (A : Around) (outer : List Env) (s : Shared) (H : Hp) (E : XK), Cn (cxOf (L2.CX P w) P w K mg base N qual scope f cdv A outer s H E) (fun cls d _ H' => E cls d H') k →
      PDSs (cxOf (L2.CX P w) P w K mg base N qual scope f cdv A outer s H E) (fun cls d _ H' => E cls d H') body g) :
    FnOk P w K mg base (L2.CX P w) (k + 1) f fd ps (spD K ps.length (dDef N.length g)) := by
  refine F.ok S (fun vs H Q E h => h.1) fun cdv A outer s H vs Q E hr h => ?_
  obtain ⟨hl, Z, ds, Q0, R0, gd, r, hf, hx, hq⟩ := h
  refine ⟨_, hbody cdv A outer s H E ⟨takes_of rfl rfl rfl rfl, passes_of rfl, hr, rfl⟩, Z, [], _, _, ⟨by rw [add_nil]; exact gd, start_rep r⟩, hf, ?_⟩
  have st : ∀ {O' : Own} {H' : Hp}, Lt Z [] H O' H' → Good (Z.add O') H' → Step Z H H' := fun l g' => ⟨fun a o e => add_le _ _ (l a o (by rw [add_nil]; exact e)), g'.sub⟩
  refine ⟨fun env' h' O' σ' H' l a => hq _ h' _ H' (st l a.good) .non, fun env' d h' O' σ' v H' l a r' => hq _ h' v H' (st l a.good) (Rep.mono add_le r'), fun ds h' O' p vs H' l g' hp r' => (have s2 := st l g'; hq _ h' _ _ (s2.trans (Step.new s2.good _ hp)) (new_lst s2.good hp (Reps.mono add_le r'))), fun _ h' => h'.elim, fun _ h' => h'.elim, fun y env' h' O' cls d σ' H' l a r' => hx y h' cls d H' (st l a.good) r'.sub⟩
/-- a promise whose answer is a new list -/
abbrev DFL := List D → (List D → Prop) → DX → Prop
def spL (K : PySem.W.Frag) (n : Nat) (F : DFL) : Sp := fun vs H Q E => vs.length = n ∧ ∃ Z ds, ∃ (Q0 : List D → Prop) (R0 : DX), Good Z H ∧ RepsZ K Z H vs ds ∧ F ds Q0 R0 ∧
  (∀ x, R0 x → ∀ cls d H', Step Z H H' → RepX K Z H' cls d x → E cls d H') ∧ ∀ ds, Q0 ds → ∀ p vs H', Step Z H H' → H' p = none → RepsZ K Z H' vs ds → Q (.ref p) (upd H' p (.lst vs))
theorem spL_imp {K : PySem.W.Frag} {n : Nat} {F G : DFL} (h : ∀ ds Q R, G ds Q R → F ds Q R) : ∀ vs H Q E, spL K n G vs H Q E → spL K n F vs H Q E := fun vs H Q E ⟨hl, Z, ds, Q0, R0, a, b, c, d⟩ => ⟨hl, Z, ds, Q0, R0, a, b, h _ _ _ c, d⟩
def dDefL (N : Nat) (g : DG) : DFL := fun ds Q R => g (ds.map .val ++ List.replicate (N - ds.length) .un) ⟨fun _ => False, fun _ _ => False, Q, fun _ => False, fun _ => False, fun x _ => R x⟩
theorem okL {P : Program} {w : World} {K : PySem.W.Frag} {mg : Str → Option Value} {base : Heap} {x qual : Str} {params : Arguments} {body : List Stmt} {scope : Scope} {f : Addr} {fd : FuncData} {N ps : List Str} {k : Nat} {g : DG} (F : FunD K x qual params body scope [] [] f fd) (S : FnScope N ps scope)
    (hbody : ∀ (cdv : Value) (A : Around) (outer : List Env) (s : Shared) (H : Hp) (E : XK), Cn (cxOf (L2.CX P w) P w K mg base N qual scope f cdv A outer s H E) (fun cls d _ H' => E cls d H') k →
      PDSs (cxOf (L2.CX P w) P w K mg base N qual scope f cdv A outer s H E) (fun cls d _ H' => E cls d H') body g) :
    FnOk P w K mg base (L2.CX P w) (k + 1) f fd ps (spL K ps.length (dDefL N.length g)) := by
  refine F.ok S (fun vs H Q E h => h.1) fun cdv A outer s H vs Q E hr h => ?_
  obtain ⟨hl, Z, ds, Q0, R0, gd, r, hf, hx, hq⟩ := h
  refine ⟨_, hbody cdv A outer s H E ⟨takes_of rfl rfl rfl rfl, passes_of rfl, hr, rfl⟩, Z, [], _, _, ⟨by rw [add_nil]; exact gd, start_rep r⟩, hf, ?_⟩
  have st : ∀ {O' : Own} {H' : Hp}, Lt Z [] H O' H' → Good (Z.add O') H' → Step Z H H' := fun l g' => ⟨fun a o e => add_le _ _ (l a o (by rw [add_nil]; exact e)), g'.sub⟩
  exact ⟨fun _ h' => h'.elim, fun _ _ h' => h'.elim, fun ds h' O' p vs H' l g' hp r' => hq _ h' p vs H' (st l g') hp (Reps.mono add_le r'), fun _ h' => h'.elim, fun _ h' => h'.elim, fun y env' h' O' cls d σ' H' l a r' => hx y h' cls d H' (st l a.good) r'.sub⟩
/-- a def, called by its global name, whose answer is a new list -/
structure CalL (P : Program) (w : World) (K : PySem.W.Frag) (mg : Str → Option Value) (base : Heap) (k : Nat) (x : Str) (n : Nat) (F : DFL) : Prop where
  ex : ∃ f fd ps, FnOk P w K mg base (L2.CX P w) k f fd ps (spL K n F) ∧ mg x = some (.ref f) ∧ PySem.W.keepIn K (.ref f) = true ∧ Binds K fd ps []
def dCallL (n : Nat) (F : DFL) (fs : DA) : DA := fun env Q R => fs env (fun ds => ds.length = n ∧ F ds Q R) R
section
variable {X : Cx} {W : WX} {e : Expr} {es : List Expr} {pos p : Pos} {fs : DA} {x : Str} {k j n : Nat} {F : DFL}
theorem pdl_call (c : Cn X W j) (C : CalL X.prog X.w X.K X.mg X.base k x n F) (ha : PDA X W (e :: es) fs) (hk : k ≤ j := by decide) (hg : Gl X x := by rfl)
    (hdb : (x == ("__debug__" : Str)) = false := by decide) (he : starEach (e :: es) X.env = (false, eval e X.env) :: starEach es X.env := by rfl) (hpl : (backTo pos (starEach es X.env)).any (·.1) = false := by rfl) :
    PDL X W (.Call (.Name x p) (e :: es) [] pos) (dCallL n F fs) := by
  obtain ⟨f, fd, ps, FO, hm, hkp, hb⟩ := C.ex
  exact PE.imp (pe_callS FO (c.hr.mono hk) hg hm hkp hb (fun σ => passAt c.tk σ) ha hdb he hpl) fun σ H Q ⟨Z, O, env, Q0, R0, at_, hf, xk, q⟩ =>
    DTA.mk at_ hf xk fun ds hds vs H1 s r => ⟨by rw [r.length]; exact hds.1, Z, ds, Q0, R0, s.good, r, hds.2, fun y hy cls d H2 s2 rx => xk y hy cls d H2 (s.trans s2) rx, fun ds hd p vs H2 s2 hp rv => q ds hd p vs H2 (s.trans s2) hp rv⟩
/-- the same as one whose answer is a value -/
theorem CalL.cal {P : Program} {w : World} {K : PySem.W.Frag} {mg : Str → Option Value} {base : Heap} (C : CalL P w K mg base k x n F) : Cal P w K mg base k x n (fun ds Q R => F ds (fun es => Q (.lst es)) R) := by
  obtain ⟨f, fd, ps, FO, hm, hkp, hb⟩ := C.ex
  refine ⟨f, fd, ps, FO.imp fun vs H Q E ⟨hl, Z, ds, Q0, R0, g, r, hF, hx, hq⟩ => ⟨hl, Z, ds, _, R0, g, r, hF, hx, fun ds hd p vs H' s hp rv => hq _ hd _ _ (s.trans (Step.new s.good _ hp)) (new_lst s.good hp rv)⟩, hm, hkp, hb⟩
end
end Dh

set_option maxHeartbeats 4000000
/-! The draws of a law: what _law_mix and _law_next do. -/
namespace Dv
open PySem PySem.Spec PyProof.Rows L2 Dl

theorem vol_put {Z : Zn} {H H' : Hp} {h c : Addr} (g : Good Z H) (e : Z.vol = some (h, c)) (same : ∀ a, a ≠ h → a ≠ c → H' a = H a) (v : Vol H' h c) : Step Z H H' := by
  have hm : h ∈ Z.vs ∧ c ∈ Z.vs := by unfold Zn.vs; rw [e]; simp
  have dis : ∀ a ∈ Z.own.map (·.1), a ≠ h ∧ a ≠ c := fun a ha => ⟨fun z => (List.nodup_append.mp g.nd).2.2 a ha h hm.1 z, fun z => (List.nodup_append.mp g.nd).2.2 a ha c hm.2 z⟩
  refine ⟨fun a o q => ?_, fun a vs q => ?_, fun h' c' q => ?_, g.nd⟩
  · have hn : a ∉ Z.msk := fun z => by rw [mask_in z] at q; cases q
    rw [mask_of hn] at q ⊢
    rw [same a (fun z => hn (List.mem_append_right _ (by rw [z]; exact hm.1))) (fun z => hn (List.mem_append_right _ (by rw [z]; exact hm.2)))]
    exact q
  · have d := dis a (List.mem_map.mpr ⟨_, q, rfl⟩)
    rw [same a d.1 d.2]
    exact g.own a vs q
  · rw [e] at q
    cases q
    exact v
theorem vol_ne {Z : Zn} {H : Hp} {h c : Addr} (g : Good Z H) (e : Z.vol = some (h, c)) : h ≠ c := fun z => by
  have nd := (List.nodup_append.mp g.nd).2.1
  unfold Zn.vs at nd
  rw [e, z] at nd
  simp at nd
/-- a draw below b -/
def Fnext : DF := fun ds Q _ => ∃ b, ds = [.vol, .int b] ∧ 0 < b ∧ b.natAbs.log2 < 9000 ∧ ∀ r, 0 ≤ r → r < b → Q (.int r)
abbrev rAddI : R2 := rI0 fun i j => .int (i + j)
abbrev rModI : R2 := rI (fun _ j => 0 < j) fun i j => .int (i % j)
abbrev rMulI : R2 := rI CMul fun i j => .int (i * j)
abbrev rDivW : R2 := rI CDivW fun i j => .int (i / j)
abbrev rDivI : R2 := rI CDiv fun i j => .int (i / j)
abbrev rPowI : R2 := rI CPow fun i j => .int (i ^ j.toNat)
abbrev rGeI : R2 := rI0 fun i j => .bl (decide (j ≤ i))
abbrev rI1 : List V → Hp → VK → Prop := fun xs H Q => (∃ i, xs = [.int i] ∧ Q (.int i) H) ∨ ∃ k, xs = [.bl k] ∧ Q (.int (if k then 1 else 0)) H
abbrev rMx2 : List V → Hp → VK → Prop := fun xs H Q => ∃ i j, xs = [.int i, .int j] ∧ Q (.int (if j > i then j else i)) H
abbrev rLn (K : PySem.W.Frag) : List V → Hp → VK → Prop := fun xs H Q => ∃ x n, xs = [x] ∧ LenV K x H n ∧ Q (.int n) H
def tH (K : PySem.W.Frag) (i : Int) : TE := tOp (rIx K) (tVar 0) (tC (.int i))
def tLenC (K : PySem.W.Frag) : TE := tCB (rLn K) (tCons (tH K 1) tNil)
def t_next (K : PySem.W.Frag) : TS :=
  tSeq (tAsg (tOp (rIx K) (tOp rCat (tH K 1) (tLst (tCons (tC (.int 0)) tNil))) (tOp rModI (tCB rI1 (tCons (tH K 2) tNil)) (tCB rMx2 (tCons (tC (.int 1)) (tCons (tLenC K) tNil))))) (gName 2))
  (tSeq (tIfS (tTest (tOp rGeI (tVar 2) (tOp rPowI (tC (.int 10)) (tC (.int 18)))))
    (tSeq (tAsg (tOp rDivW (tVar 2) (tVar 1)) (gSub (tH K 1) (tOp rModI (tCB rI1 (tCons (tH K 2) tNil)) (tLenC K)) rSetL))
      (tRet (tOp rModI (tCB rI1 (tCons (tVar 2) tNil)) (tVar 1)))) tNext)
  (tSeq (tAsg (tOp rModI (tCB rI1 (tCons (tOp rAddI (tOp rAddI (tOp rMulI (tH K 0) (tC (.int 48271))) (tOp rMulI (tVar 2) (tC (.int 69621)))) (tC (.int 11))) tNil)) (tC (.int 2147483647))) (gSub (tVar 0) (tC (.int 0)) rSetL))
  (tSeq (tAsg (tOp rAddI (tH K 2) (tC (.int 1))) (gSub (tVar 0) (tC (.int 2)) rSetL))
    (tRet (tOp rModI (tCB rI1 (tCons (tOp rDivI (tH K 0) (tC (.int 7))) tNil)) (tVar 1))))))
theorem ix_at {K : PySem.W.Frag} {a : Addr} {xs : List V} {i : Int} {v : V} {H : Hp} {Q : VK} (h : H a = some (.lst xs)) (e : atI xs i = some v) (q : Q v H) : rIx K (.ref a) (.int i) H Q := .inl ⟨a, xs, i, v, rfl, rfl, SqL.of h, e, q⟩
theorem atI_mod {α : Type} {xs : List α} {i : Int} (h : 0 < xs.length) : ∃ v, atI xs (i % (xs.length : Int)) = some v ∧ v ∈ xs := by
  have h0 : 0 ≤ i % (xs.length : Int) := Int.emod_nonneg _ (by omega)
  have h1 : i % (xs.length : Int) < (xs.length : Int) := Int.emod_lt_of_pos _ (by omega)
  have h2 : (i % (xs.length : Int)).toNat < xs.length := by omega
  refine ⟨xs[(i % (xs.length : Int)).toNat], ?_, List.getElem_mem h2⟩
  unfold atI ixN
  rw [if_pos h0, if_pos (by omega)]
  exact List.getElem?_eq_getElem h2
theorem ixN_mod {n : Nat} {i : Int} (h : 0 < n) : ∃ j, ixN n (i % (n : Int)) = some j ∧ j < n := by
  have h0 : 0 ≤ i % (n : Int) := Int.emod_nonneg _ (by omega)
  have h1 : i % (n : Int) < (n : Int) := Int.emod_lt_of_pos _ (by omega)
  exact ⟨(i % (n : Int)).toNat, by unfold ixN; rw [if_pos h0, if_pos (by omega)], by omega⟩
theorem div_le (x b : Int) (hb : 0 < b) (hx : 10 ^ 18 ≤ x) (hm : x.natAbs < 2 ^ 1048576) : (x / b).natAbs < 2 ^ 1048576 := by
  have h0 : 0 ≤ x := by omega
  have h1 : x / b ≤ x := Int.ediv_le_self _ h0
  have h2 : 0 ≤ x / b := Int.ediv_nonneg h0 (by omega)
  refine Nat.lt_of_le_of_lt ?_ hm
  omega
theorem pure_next {K : PySem.W.Frag} (vs : List V) (H : Hp) (Q : VK) (E : XK) (h : spD K 2 Fnext vs H Q E) : t_next K { nx := fun _ H' => Q .non H', rt := Q } (L2.start ["_law_h", "_law_bound", "_law_cell"] vs) H := by
  obtain ⟨hl, Z, ds, Q0, R0, gd, r, ⟨b, e, hb, hbl, hq⟩, hx, q⟩ := h
  subst e
  obtain ⟨v1, v2, rfl, r1, r2⟩ := r.inv2
  cases r2
  cases r1 with
  | vol hA c ev =>
  obtain ⟨s, i, cs, h1, h2, h3, h4⟩ := gd.vol hA c ev
  have hne := vol_ne gd ev
  have st0 : ∀ x : Option V, (L2.start ["_law_h", "_law_bound", "_law_cell"] [V.ref hA, V.int b]).set 2 x = [some (.ref hA), some (.int b), x] := fun x => rfl
  have c1 : (cs.map V.int ++ [V.int 0]).length = cs.length + 1 := by simp
  -- the length by which the index is taken
  have mx : (if (((cs.map V.int).length : Nat) : Int) > 1 then (((cs.map V.int).length : Nat) : Int) else 1) = (max 1 cs.length : Nat) := by
    rw [List.length_map]
    split <;> omega
  obtain ⟨j, hj, hjl⟩ := ixN_mod (n := max 1 cs.length) (i := i) (by omega)
  have cell : ∃ x : Int, atI (cs.map V.int ++ [V.int 0]) (i % ((max 1 cs.length : Nat) : Int)) = some (.int x) ∧ x.natAbs < 2 ^ 1048576 ∧ (10 ^ 18 ≤ x → 0 < cs.length ∧ ixN cs.length (i % ((cs.length : Nat) : Int)) = some j) := by
    have hj2 : ixN (cs.map V.int ++ [V.int 0]).length (i % ((max 1 cs.length : Nat) : Int)) = some j := by
      have h0 : 0 ≤ i % ((max 1 cs.length : Nat) : Int) := Int.emod_nonneg _ (by omega)
      unfold ixN at hj ⊢
      rw [if_pos h0] at hj ⊢
      split at hj
      · cases hj
        rw [if_pos (by rw [c1]; omega)]
      · cases hj
    unfold atI
    rw [hj2]
    by_cases hjc : j < cs.length
    · refine ⟨cs[j], ?_, h4 _ (List.getElem_mem hjc), fun _ => ⟨by omega, ?_⟩⟩
      · show (cs.map V.int ++ [V.int 0])[j]? = _
        rw [List.getElem?_append_left (by simpa using hjc), List.getElem?_map, List.getElem?_eq_getElem hjc]
        rfl
      · have : max 1 cs.length = cs.length := by omega
        rw [this] at hj
        exact hj
    · refine ⟨0, ?_, (show (0 : Nat) < 2 ^ 1048576 from Nat.two_pow_pos _), fun z => absurd z (by decide)⟩
      have : j = cs.length := by omega
      show (cs.map V.int ++ [V.int 0])[j]? = _
      rw [List.getElem?_append_right (by simp; omega), this]
      simp
  obtain ⟨x, hx1, hx2, hx3⟩ := cell
  have fresh : ∀ {p : Addr}, H p = none → p ≠ hA ∧ p ≠ c := fun {p} hp => ⟨fun z => (by rw [z, h1] at hp; cases hp), fun z => (by rw [z, h2] at hp; cases hp)⟩
  have th : ∀ {σ : L2.St} {G : Hp} {xs : List V} {n : Int} {v : V} {R : VK}, σ[0]? = some (some (V.ref hA)) → G hA = some (.lst xs) → atI xs n = some v → R v G → tH K n σ G R := fun h0 hg e q => ⟨_, h0, ix_at hg e q⟩
  refine th rfl h1 rfl ⟨by decide, fun p hp => ?_⟩
  obtain ⟨p1, p2⟩ := fresh hp
  refine ⟨c, p, cs.map V.int, [V.int 0], rfl, rfl, by rw [upd_ne (Ne.symm p2)]; exact h2, upd_same, ?_, fun p3 hp3 => ?_⟩
  · show (cs.map V.int).length + 1 ≤ sizeLine
    rw [List.length_map, sizeLine_eq]
    omega
  have hp3' : H p3 = none := by
    by_cases z : p3 = p
    · rw [z, upd_same] at hp3; cases hp3
    · rw [upd_ne z] at hp3; exact hp3
  obtain ⟨p4, p5⟩ := fresh hp3'
  have k1 : (upd (upd H p (.lst [V.int 0])) p3 (.lst (cs.map V.int ++ [V.int 0]))) hA = some (.lst [.int s, .ref c, .int i, .int 14]) := by rw [upd_ne (Ne.symm p4), upd_ne (Ne.symm p1)]; exact h1
  have k2 : (upd (upd H p (.lst [V.int 0])) p3 (.lst (cs.map V.int ++ [V.int 0]))) c = some (.lst (cs.map V.int)) := by rw [upd_ne (Ne.symm p5), upd_ne (Ne.symm p2)]; exact h2
  have k3 : (upd (upd H p (.lst [V.int 0])) p3 (.lst (cs.map V.int ++ [V.int 0]))) p3 = some (.lst (cs.map V.int ++ [V.int 0])) := upd_same
  have s1 : Step Z H (upd (upd H p (.lst [V.int 0])) p3 (.lst (cs.map V.int ++ [V.int 0]))) := by
    have a := Step.new gd (.lst [V.int 0]) hp
    exact a.trans (Step.new a.good _ hp3)
  show tOp rModI (tCB rI1 (tCons (tH K 2) tNil)) (tCB rMx2 (tCons (tC (.int 1)) (tCons (tLenC K) tNil))) [some (.ref hA), some (.int b), none] (upd (upd H p (.lst [V.int 0])) p3 (.lst (cs.map V.int ++ [V.int 0]))) _
  generalize (upd (upd H p (.lst [V.int 0])) p3 (.lst (cs.map V.int ++ [V.int 0]))) = H1 at k1 k2 k3 s1
  have lenC : ∀ {R : VK} {σ : L2.St}, σ[0]? = some (some (V.ref hA)) → R (.int ((cs.map V.int).length : Nat)) H1 → tLenC K σ H1 R := fun {R σ} h0 hr => th h0 k1 rfl ⟨.ref c, _, rfl, .inl ⟨_, SqL.of k2, rfl⟩, hr⟩
  refine th rfl k1 rfl (.inl ⟨i, rfl, ?_⟩)
  refine lenC rfl ⟨1, (((cs.map V.int).length : Nat) : Int), rfl, ?_⟩
  refine ⟨i, _, rfl, rfl, by rw [mx]; omega, ?_⟩
  rw [mx]
  refine ix_at k3 hx1 ?_
  show tSeq _ _ _ [some (.ref hA), some (.int b), some (.int x)] H1
  -- the cell's size
  refine ⟨_, rfl, ⟨10, 18, rfl, rfl, ⟨by decide, by decide, by decide⟩, ⟨x, _, rfl, rfl, ⟨_, rfl, ?_⟩⟩⟩⟩
  dsimp only
  split
  · rename_i hd
    have hxl : (10 : Int) ^ 18 ≤ x := of_decide_eq_true hd
    obtain ⟨hcl, hjx⟩ := hx3 hxl
    refine ⟨_, rfl, _, rfl, ⟨x, b, rfl, rfl, ⟨hb, hbl⟩, ?_⟩⟩
    refine th rfl k1 rfl ?_
    refine th rfl k1 rfl (.inl ⟨i, rfl, lenC rfl ⟨i, _, rfl, rfl, by rw [List.length_map]; omega, ?_⟩⟩)
    refine ⟨c, cs.map V.int, _, j, rfl, rfl, k2, by rw [List.length_map]; exact hjx, ?_⟩
    refine ⟨_, rfl, .inl ⟨x, rfl, ⟨_, rfl, ⟨x, b, rfl, rfl, hb, ?_⟩⟩⟩⟩
    refine q _ (hq _ (Int.emod_nonneg _ (by omega)) (Int.emod_lt_of_pos _ hb)) _ _ (s1.trans (vol_put s1.good ev (fun a _ a2 => upd_ne a2) ⟨s, i, cs.set j (x / b), ?_, ?_, ?_, ?_⟩)) (.int _)
    · rw [upd_ne hne]; exact k1
    · rw [upd_same, List.map_set]
    · rw [List.length_set]; exact h3
    · intro y hy
      rcases List.mem_or_eq_of_mem_set hy with hy | hy
      · exact h4 y hy
      · rw [hy]; exact div_le x b hb hxl hx2
  · have fin : ∀ s' : Int, tSeq (tAsg (tOp rAddI (tH K 2) (tC (.int 1))) (L2.gSub (tVar 0) (tC (.int 2)) rSetL)) (tRet (tOp rModI (tCB rI1 (tCons (tOp rDivI (tH K 0) (tC (.int 7))) tNil)) (tVar 1)))
        { nx := fun _ H' => Q .non H', rt := Q } [some (V.ref hA), some (V.int b), some (V.int x)] (upd H1 hA (.lst [V.int s', .ref c, .int i, .int 14])) := fun s' => by
      have g1 : (upd H1 hA (.lst [V.int s', .ref c, .int i, .int 14])) hA = some (.lst [.int s', .ref c, .int i, .int 14]) := upd_same
      refine th rfl g1 rfl ⟨i, 1, rfl, rfl, ?_⟩
      refine ⟨_, rfl, ⟨hA, _, 2, 2, rfl, rfl, g1, rfl, ?_⟩⟩
      have g2 : (upd (upd H1 hA (.lst [V.int s', .ref c, .int i, .int 14])) hA (.lst [V.int s', .ref c, .int (i + 1), .int 14])) hA = some (.lst [.int s', .ref c, .int (i + 1), .int 14]) := upd_same
      refine th rfl g2 rfl ⟨s', 7, rfl, rfl, ⟨by decide, by decide⟩, .inl ⟨_, rfl, ⟨_, rfl, ⟨_, b, rfl, rfl, hb, ?_⟩⟩⟩⟩
      exact q _ (hq _ (Int.emod_nonneg _ (by omega)) (Int.emod_lt_of_pos _ hb)) _ _ (s1.trans (vol_put s1.good ev (fun a a1 a2 => by rw [upd_ne a1, upd_ne a1]) ⟨s', i + 1, cs, g2, by rw [upd_ne (Ne.symm hne), upd_ne (Ne.symm hne)]; exact k2, h3, h4⟩)) (.int _)
    refine th rfl k1 rfl ⟨s, 48271, rfl, rfl, .inr ⟨by decide, by decide⟩, ⟨_, rfl, ⟨x, 69621, rfl, rfl, .inr ⟨by decide, by decide⟩, ⟨_, _, rfl, rfl, ⟨_, 11, rfl, rfl, .inl ⟨_, rfl, ⟨_, 2147483647, rfl, rfl, (show (0 : Int) < 2147483647 by decide), ?_⟩⟩⟩⟩⟩⟩⟩
    exact ⟨_, rfl, ⟨hA, _, 0, 0, rfl, rfl, k1, rfl, fin _⟩⟩
/-- a source of draws -/
def spMix (K : PySem.W.Frag) : Sp := fun vs H Q _ => ∃ (a : Addr) (seed : Int) (ns : List Int), vs = [.ref a, .int seed] ∧ SqL K H a (ns.map V.int) ∧ ∀ (s : Int) (h c : Addr), H h = none → H c = none → h ≠ c → Q (.ref h) (upd (upd H c (.lst (ns.map V.int))) h (.lst [.int s, .ref c, .int 0, .int 14]))
abbrev rLo (K : PySem.W.Frag) : List V → Hp → VK → Prop := fun xs H Q => ∃ p ys, xs = [.ref p] ∧ (SqL K H p ys ∨ SqT K H p ys) ∧ ∀ l, H l = none → Q (.ref l) (upd H l (.lst ys))
def t_mix (K : PySem.W.Frag) : TS :=
  tSeq (tAsg (tVar 1) (gName 2))
  (tSeq (tFor (iList K (tVar 0)) (gName 3) (tAsg (tOp rModI (tCB rI1 (tCons (tOp rAddI (tOp rAddI (tOp rMulI (tVar 2) (tC (.int 48271))) (tOp rModI (tCB rI1 (tCons (tVar 3) tNil)) (tC (.int 2147483629)))) (tC (.int 1))) tNil)) (tC (.int 2147483647))) (gName 2)))
    (tRet (tLst (tCons (tVar 2) (tCons (tCB (rLo K) (tCons (tVar 0) tNil)) (tCons (tC (.int 0)) (tCons (tC (.int 14)) tNil)))))))
theorem pure_mix {K : PySem.W.Frag} (vs : List V) (H : Hp) (Q : VK) (E : XK) (h : spMix K vs H Q E) : t_mix K { nx := fun _ H' => Q .non H', rt := Q } (L2.start ["_law_script", "_law_seed", "_law_state", "_law_cell"] vs) H := by
  obtain ⟨a, seed, ns, rfl, hs, q⟩ := h
  unfold t_mix
  refine ⟨_, rfl, ?_⟩
  refine ⟨_, rfl, a, rfl, ⟨_, hs⟩, ?_⟩
  refine ⟨fun i m σ H' => H' = H ∧ m = ns.length - i ∧ i ≤ ns.length ∧ ∃ (st : Int) (x : Option V), σ = [some (.ref a), some (.int seed), some (.int st), x], ⟨_, rfl, rfl, Nat.zero_le _, seed, none, rfl⟩, ?_⟩
  rintro i m σ H' ⟨rfl, rfl, hi, st, x, rfl⟩
  by_cases hlt : i < ns.length
  · have hv : (ns.map V.int)[i]? = some (.int ns[i]) := by rw [List.getElem?_map, List.getElem?_eq_getElem hlt]; rfl
    refine .inr ⟨⟨_, _, hs, hv⟩, fun σ3 H3 => H3 = H' ∧ ∃ (st : Int) (x : Option V), σ3 = [some (.ref a), some (.int seed), some (.int st), x], fun σ3 H3 ⟨e, st, x, eσ⟩ => ⟨ns.length - (i + 1), by omega, e, rfl, hlt, st, x, eσ⟩, fun y H2 hy => ?_⟩
    obtain ⟨rfl, hy⟩ := hy
    have e2 := hy _ hs
    rw [hv] at e2
    cases e2
    refine ⟨_, rfl, ⟨st, 48271, rfl, rfl, .inr ⟨by decide, by decide⟩, ?_⟩⟩
    refine ⟨_, rfl, .inl ⟨ns[i], rfl, ⟨_, 2147483629, rfl, rfl, (show (0 : Int) < 2147483629 by decide), ?_⟩⟩⟩
    exact ⟨_, _, rfl, rfl, ⟨_, 1, rfl, rfl, .inl ⟨_, rfl, ⟨_, 2147483647, rfl, rfl, (show (0 : Int) < 2147483647 by decide), ⟨rfl, _, _, rfl⟩⟩⟩⟩⟩
  · have e : i = ns.length := by omega
    subst e
    refine .inl ⟨⟨_, hs, by rw [List.length_map]; exact Nat.le_refl _⟩, ?_⟩
    refine ⟨_, rfl, _, rfl, ⟨a, _, rfl, .inl hs, fun c hc => ?_⟩⟩
    refine ⟨(show 4 ≤ sizeLine by decide), fun hA hh => ?_⟩
    have hhn : hA ≠ c := fun z => by rw [z, upd_same] at hh; cases hh
    exact q st hA c (by rw [upd_ne hhn] at hh; exact hh) hc hhn
end Dv

set_option maxHeartbeats 4000000
/-! The law's own def: the source of draws made, the rest over trees. Operators that take what comes. -/
namespace Dv
open PySem PySem.Spec PyProof.Rows L2 Dl

def spLaw (K : PySem.W.Frag) : Sp := fun vs H Q _ => ∃ (a : Addr) (ns : List Int), vs = [.ref a] ∧ SqL K H a (ns.map V.int) ∧ ns.length ≤ 63 ∧ (∀ x ∈ ns, x.natAbs < 2 ^ 1048576) ∧ ∀ H', Q (.bl true) H'
def lawEnv (n : Nat) : Env' := .un :: .val .vol :: List.replicate n .un
def lawK : Kn := ⟨fun _ => False, fun _ d => d = .bl true, fun _ => False, fun _ => False, fun _ => False, fun _ _ => False⟩
theorem lawOk {P : Program} {w : World} {K : PySem.W.Frag} {mg : Str → Option Value} {base : Heap} {x qual : Str} {params : Arguments} {s1 : Stmt} {rest : List Stmt} {scope : Scope} {f : Addr} {fd : FuncData} {n1 n2 : Str} {N : List Str} {k : Nat} {g : DG} {seed : Int} (F : FunD K x qual params (s1 :: rest) scope [] [] f fd) (S : FnScope (n1 :: n2 :: N) [n1] scope)
    (hbody : ∀ (cdv : Value) (A : Around) (outer : List Env) (s : Shared) (H : Hp) (E : XK), Cn (cxOf (L2.CX P w) P w K mg base (n1 :: n2 :: N) qual scope f cdv A outer s H E) (fun cls d _ H' => E cls d H') k →
      L2.PS (cxOf (L2.CX P w) P w K mg base (n1 :: n2 :: N) qual scope f cdv A outer s H E) s1 (tAsg (tCallS (spMix K) (WE fun cls d _ H' => E cls d H') (tCons (tVar 0) (tCons (tC (.int seed)) tNil))) (gName 1)) ∧
      PDSs (cxOf (L2.CX P w) P w K mg base (n1 :: n2 :: N) qual scope f cdv A outer s H E) (fun cls d _ H' => E cls d H') rest g)
    (hg : g (lawEnv N.length) lawK) : FnOk P w K mg base (L2.CX P w) (k + 1) f fd [n1] (spLaw K) := by
  refine F.ok S (fun vs H Q E h => ?_) fun cdv A outer s H vs Q E hr h => ?_
  · obtain ⟨a, ns, rfl, _⟩ := h
    rfl
  obtain ⟨a, ns, rfl, hs, hl, hb, hq⟩ := h
  obtain ⟨p1, p2⟩ := hbody cdv A outer s H E ⟨takes_of rfl rfl rfl rfl, passes_of rfl, hr, rfl⟩
  refine ⟨_, pss_cons p1 p2, ?_⟩
  refine ⟨_, rfl, ⟨a, seed, ns, rfl, hs, fun st h c hh hc hne => ?_⟩⟩
  refine ⟨⟨[], some (h, c)⟩, [], lawEnv N.length, lawK, ⟨⟨fun b vs z => ?_, fun h' c' e => ?_, ?_⟩, ⟨?_, fun i sl e => ?_, fun _ _ _ z => ?_⟩⟩, hg, ?_⟩
  · cases z
  · cases e
    exact ⟨st, 0, ns, upd_same, by rw [upd_ne (Ne.symm hne), upd_same], hl, hb⟩
  · show ([h, c] : List Addr).Nodup
    simp [hne]
  · unfold L2.start lawEnv
    simp
  · unfold lawEnv at e
    match i, e with
    | 0, e => cases e; exact ⟨_, rfl, trivial⟩
    | 1, e => cases e; exact ⟨_, rfl, .ref h, rfl, .vol h c rfl⟩
    | i + 2, e =>
      have e' : (List.replicate N.length Slot.un)[i]? = some sl := e
      rw [List.getElem?_replicate] at e'
      split at e'
      · rename_i hi
        cases e'
        refine ⟨none, ?_, trivial⟩
        unfold L2.start
        simp [List.getElem?_replicate, hi]
      · cases e'
  · cases z
  · refine ⟨fun _ z => z.elim, fun env' d z O' σ' v H' _ _ r => ?_, fun _ z => z.elim, fun _ z => z.elim, fun _ z => z.elim, fun _ _ z => z.elim⟩
    cases z
    cases r
    exact hq H'

/-! ### operators that take what comes -/
theorem OpR.or {X : Cx} {op : Value → Value → Sem Value} {r1 r2 : R2} (h1 : OpR X op r1) (h2 : OpR X op r2) : OpR X op (fun x y H Q => r1 x y H Q ∨ r2 x y H Q) := fun pins s σ H x y v u Q I rx ry h => h.elim (h1 pins s σ H x y v u Q I rx ry) (h2 pins s σ H x y v u Q I rx ry)
def gAddU : D2 := fun x y Q => gAdd x y Q ∨ gCatS x y Q ∨ gCatT x y Q ∨ gCatL x y (fun ds => Q (.lst ds))
theorem opd_addU {K : PySem.W.Frag} : OpD K (fun x y H Q => rAddI x y H Q ∨ (∃ i j, x = .str i ∧ y = .str j ∧ i.length + j.length ≤ sizeLine ∧ Q (.str (i ++ j)) H) ∨ rCatA K x y H Q ∨ rCat x y H Q) gAddU := fun Z H x y dx dy Q0 Q gd rx ry hg q => by
  rcases hg with h | h | h | h
  · exact .inl (opd_I0 Z H x y dx dy Q0 Q gd rx ry h q)
  · exact .inr (.inl (opd_catS Z H x y dx dy Q0 Q gd rx ry h q))
  · exact .inr (.inr (.inl (opd_catT Z H x y dx dy Q0 Q gd rx ry h q)))
  · exact .inr (.inr (.inr (opd_catL Z H x y dx dy _ Q gd rx ry h fun ds hd p vs H1 s hp r => q _ hd _ _ (s.trans (Step.new s.good _ hp)) (new_lst s.good hp r))))
theorem op_addU {X : Cx} : OpR X (binaryOp .Add) (fun x y H Q => rAddI x y H Q ∨ (∃ i j, x = .str i ∧ y = .str j ∧ i.length + j.length ≤ sizeLine ∧ Q (.str (i ++ j)) H) ∨ rCatA X.K x y H Q ∨ rCat x y H Q) :=
  op_add.or (op_add_str.or (op_catA.or op_cat))
section
variable {X : Cx} {W : WX} {a b tg e : Expr} {pos : Pos} {fa fb fe : DE}
theorem pd_add (ha : PD X W a fa) (hb : PD X W b fb) : PD X W (.BinOp a .Add b pos) (dOp gAddU fa fb) := pd_op op_addU opd_addU ha hb
theorem PI.or {tg e : Expr} {t1 t2 : TI} (h1 : L2.PI X tg e t1) (h2 : L2.PI X tg e t2) : L2.PI X tg e (fun σ H R => t1 σ H R ∨ t2 σ H R) := ⟨fun pins s σ H R I h => h.elim (h1.run pins s σ H R I) (h2.run pins s σ H R I)⟩
/-- a list or a tuple -/
def dItU (f : DE) : DA := fun env Q R => f env (fun d => match d with
  | .lst xs => Q xs
  | .tup xs => Q xs
  | _ => False) R
def iAny (K : PySem.W.Frag) (te : TE) : TI := fun σ H R => te σ H fun x H1 => ∃ a, x = .ref a ∧ ((∃ xs, SqL K H1 a xs) ∧ R (Itl K a) H1 ∨ (∃ xs, SqT K H1 a xs) ∧ R (Itt K a) H1)
end
end Dv

set_option maxHeartbeats 4000000
/-! Short names for the rules, as a program prints them. -/
namespace Gx
open PySem PySem.Spec PyProof.Rows L2 Dl Dv Dk

section
variable {X : Cx} {W : WX} {pos pos' p p2 p3 apos tpos : Pos} {a b e e2 tg iter : Expr} {es : List Expr} {fa fb fe fi : DE} {fs : DA} {x y : Str} {j k n : Nat} {F : DF}
theorem pv (i : Nat) (hN : X.N[i]? = some x := by rfl) (hv : Vis X.env.scope x := by first | exact .inl rfl | exact .inr (.inl rfl) | exact .inr (.inr rfl)) (hd : (x == ("__debug__" : Str)) = false := by decide) (hcd : (x == ("__classdict__" : Str)) = false := by decide) : PD X W (.Name x pos) (dVar i) := pd_var (pe_var hN hv hd hcd)
theorem pe (i : Nat) (hN : X.N[i]? = some x := by rfl) (hv : Vis X.env.scope x := by first | exact .inl rfl | exact .inr (.inl rfl) | exact .inr (.inr rfl)) (hd : (x == ("__debug__" : Str)) = false := by decide) (hcd : (x == ("__classdict__" : Str)) = false := by decide) : L2.PE X (.Name x pos) (tVar i) := pe_var hN hv hd hcd
theorem pG {i : Int} (h : ∃ t, X.mg x = some (.int i t)) (hg : Gl X x := by rfl) (hdb : (x == ("__debug__" : Str)) = false := by decide) : PD X W (.Name x p) (dC (.int i)) := by
  obtain ⟨t, e⟩ := h
  exact pd_glob (v := .int i) hg e ⟨t, rfl⟩ (fun _ _ => .int i) hdb
theorem pR {d : Addr} (h : X.mg x = some (.ref d)) (hg : Gl X x := by rfl) (hdb : (x == ("__debug__" : Str)) = false := by decide) : PD X W (.Name x p) (dC (.raw (.ref d))) := pd_glob (v := .ref d) hg h rfl (fun _ _ => .raw _) hdb
theorem pT (T : String) (hm : X.mg x = none) (hg : Gl X x := by rfl) (hv : bootBuiltins x = some (.type T) := by kernel_rfl) (hn : x ≠ "__name__" := by decide) (hdb : (x == ("__debug__" : Str)) = false := by decide) : PD X W (.Name x p) (dC (.raw (.ty T))) := pd_ty hg hm hv hn hdb
-- operators
theorem oSub (ha : PD X W a fa) (hb : PD X W b fb) : PD X W (.BinOp a .Sub b pos) (dOp gSub fa fb) := pd_op op_sub opd_I0 ha hb
theorem oMul (ha : PD X W a fa) (hb : PD X W b fb) : PD X W (.BinOp a .Mult b pos) (dOp gMul fa fb) := pd_op op_mul opd_I ha hb
theorem oMulW (ha : PD X W a fa) (hb : PD X W b fb) : PD X W (.BinOp a .Mult b pos) (dOp gMulW fa fb) := pd_op op_mulW opd_I ha hb
theorem oMulL (ha : PD X W a fa) (hb : PD X W b fb) : PDL X W (.BinOp a .Mult b pos) (dOpL gRepL fa fb) := pdl_op op_rep opd_repL ha hb
theorem oDiv (ha : PD X W a fa) (hb : PD X W b fb) : PD X W (.BinOp a .FloorDiv b pos) (dOp gDiv fa fb) := pd_op op_fdiv opd_I ha hb
theorem oDivW (ha : PD X W a fa) (hb : PD X W b fb) : PD X W (.BinOp a .FloorDiv b pos) (dOp gDivW fa fb) := pd_op op_fdivW opd_I ha hb
theorem oMod (ha : PD X W a fa) (hb : PD X W b fb) : PD X W (.BinOp a .Mod b pos) (dOp gMod fa fb) := pd_op op_mod opd_I ha hb
theorem oPow (ha : PD X W a fa) (hb : PD X W b fb) : PD X W (.BinOp a .Pow b pos) (dOp gPow fa fb) := pd_op op_pow opd_I ha hb
-- comparisons as values
theorem cEq (c : Cn X W j) (ha : PD X W a fa) (hb : PD X W b fb) : PD X W (.Compare a [.Eq] [b] pos) (dOp gEq fa fb) := pd_cmp (op_eqD c.hr.units) opd_eq ha hb (nomark _)
theorem cNe (c : Cn X W j) (ha : PD X W a fa) (hb : PD X W b fb) : PD X W (.Compare a [.NotEq] [b] pos) (dOp gNe fa fb) := pd_cmp (op_neD c.hr.units) opd_ne ha hb (nomark _)
theorem cLt (ha : PD X W a fa) (hb : PD X W b fb) : PD X W (.Compare a [.Lt] [b] pos) (dOp gLt fa fb) := pd_cmp op_lt opd_B0 ha hb (nomark _)
theorem cLe (ha : PD X W a fa) (hb : PD X W b fb) : PD X W (.Compare a [.LtE] [b] pos) (dOp gLe fa fb) := pd_cmp op_le opd_B0 ha hb (nomark _)
theorem cGt (ha : PD X W a fa) (hb : PD X W b fb) : PD X W (.Compare a [.Gt] [b] pos) (dOp gGt fa fb) := pd_cmp op_gt opd_B0 ha hb (nomark _)
theorem cGe (ha : PD X W a fa) (hb : PD X W b fb) : PD X W (.Compare a [.GtE] [b] pos) (dOp gGe fa fb) := pd_cmp op_ge opd_B0 ha hb (nomark _)
theorem cIn (ha : PD X W a fa) (hb : PD X W b fb) (hm : behindInMarks .In b = false := by rfl) : PD X W (.Compare a [.In] [b] pos) (dOp (gIn false) fa fb) := pd_cmp op_in_seq opd_in ha hb hm
theorem cNIn (ha : PD X W a fa) (hb : PD X W b fb) (hm : behindInMarks .NotIn b = false := by rfl) : PD X W (.Compare a [.NotIn] [b] pos) (dOp (gIn true) fa fb) := pd_cmp op_notIn_seq opd_in ha hb hm
theorem cIs (ha : PD X W a fa) (hb : PD X W b fb) : PD X W (.Compare a [.Is] [b] pos) (dOp gIsN fa fb) := pd_cmp op_isN opd_isN ha hb (nomark _)
theorem cIsN (ha : PD X W a fa) (hb : PD X W b fb) : PD X W (.Compare a [.IsNot] [b] pos) (dOp gNotN fa fb) := pd_cmp op_notN opd_notN ha hb (nomark _)
-- .. as tests
theorem tEq (c : Cn X W j) (ha : PD X W a fa) (hb : PD X W b fb) : PDB X W (.Compare a [.Eq] [b] pos) (dTst (dOp gEq fa fb)) := pdb_cmp (op_eqD c.hr.units) opd_eq ha hb (nomark _)
theorem tNe (c : Cn X W j) (ha : PD X W a fa) (hb : PD X W b fb) : PDB X W (.Compare a [.NotEq] [b] pos) (dTst (dOp gNe fa fb)) := pdb_cmp (op_neD c.hr.units) opd_ne ha hb (nomark _)
theorem tLt (ha : PD X W a fa) (hb : PD X W b fb) : PDB X W (.Compare a [.Lt] [b] pos) (dTst (dOp gLt fa fb)) := pdb_cmp op_lt opd_B0 ha hb (nomark _)
theorem tLe (ha : PD X W a fa) (hb : PD X W b fb) : PDB X W (.Compare a [.LtE] [b] pos) (dTst (dOp gLe fa fb)) := pdb_cmp op_le opd_B0 ha hb (nomark _)
theorem tGt (ha : PD X W a fa) (hb : PD X W b fb) : PDB X W (.Compare a [.Gt] [b] pos) (dTst (dOp gGt fa fb)) := pdb_cmp op_gt opd_B0 ha hb (nomark _)
theorem tGe (ha : PD X W a fa) (hb : PD X W b fb) : PDB X W (.Compare a [.GtE] [b] pos) (dTst (dOp gGe fa fb)) := pdb_cmp op_ge opd_B0 ha hb (nomark _)
theorem tIn (ha : PD X W a fa) (hb : PD X W b fb) (hm : behindInMarks .In b = false := by rfl) : PDB X W (.Compare a [.In] [b] pos) (dTst (dOp (gIn false) fa fb)) := pdb_cmp op_in_seq opd_in ha hb hm
theorem tNIn (ha : PD X W a fa) (hb : PD X W b fb) (hm : behindInMarks .NotIn b = false := by rfl) : PDB X W (.Compare a [.NotIn] [b] pos) (dTst (dOp (gIn true) fa fb)) := pdb_cmp op_notIn_seq opd_in ha hb hm
theorem tIs (ha : PD X W a fa) (hb : PD X W b fb) : PDB X W (.Compare a [.Is] [b] pos) (dTst (dOp gIsN fa fb)) := pdb_cmp op_isN opd_isN ha hb (nomark _)
theorem tIsN (ha : PD X W a fa) (hb : PD X W b fb) : PDB X W (.Compare a [.IsNot] [b] pos) (dTst (dOp gNotN fa fb)) := pdb_cmp op_notN opd_notN ha hb (nomark _)
-- calls of defs
theorem call (c : Cn X W j) (C : Cal X.prog X.w X.K X.mg X.base k x n F) (ha : PDA X W (e :: es) fs) (hk : k ≤ j := by decide) (hg : Gl X x := by rfl)
    (hdb : (x == ("__debug__" : Str)) = false := by decide) (he : starEach (e :: es) X.env = (false, eval e X.env) :: starEach es X.env := by rfl) (hpl : (backTo pos (starEach es X.env)).any (·.1) = false := by rfl) :
    PD X W (.Call (.Name x p) (e :: es) [] pos) (dCall n F fs) := pd_call C c.hr hk hg c.tk ha hdb he hpl
theorem call0 (c : Cn X W j) (C : Cal X.prog X.w X.K X.mg X.base k x n F) (hk : k ≤ j := by decide) (hg : Gl X x := by rfl) (hdb : (x == ("__debug__" : Str)) = false := by decide) :
    PD X W (.Call (.Name x p) [] [] pos) (dCall n F dNil) := by
  obtain ⟨f, fd, ps, FO, hm, hkp, hb⟩ := C.ex
  refine ⟨fun pins s σ H Q I ⟨Z, O, env, Q0, R0, at_, hf, xk, q⟩ => ?_⟩
  refine wpAny_Call_Name_kw (ld_glob I hg hm ?_ hdb)
  refine PySem.W.callWith_K0 I.kIn hkp (run_fnS (us := []) (vs := []) (E := WE W) FO (c.hr.mono hk) hb (passAt c.tk σ) I .nil ?_)
  exact ⟨hf.1, Z, [], Q0, R0, at_.good, .nil, hf.2, fun y hy cls d H2 s2 rx => xk y hy cls d H2 s2 rx, fun d hd v H2 s2 rv => q d hd v H2 s2 rv⟩
-- built-ins
theorem bLen (hm : X.mg "len" = none) (ha : PD X W e fe) (hg : Gl X "len" := by rfl) (h1 : starEach [e] X.env = (false, eval e X.env) :: starEach [] X.env := by rfl) (h2 : (backTo pos (starEach [] X.env)).any (·.1) = false := by rfl) : PD X W (.Call (.Name "len" p) [e] [] pos) (dCB gLen (dCons fe dNil)) := pd_callB call_len cd_len hg hm boot_len (pda_cons ha pda_nil h1) (by decide) (by decide) h1 h2
theorem bInt (hm : X.mg "int" = none) (ha : PD X W e fe) (hg : Gl X "int" := by rfl) (h1 : starEach [e] X.env = (false, eval e X.env) :: starEach [] X.env := by rfl) (h2 : (backTo pos (starEach [] X.env)).any (·.1) = false := by rfl) : PD X W (.Call (.Name "int" p) [e] [] pos) (dCB gInt (dCons fe dNil)) := pd_callTy call_int1 cd_int hg hm (by kernel_rfl) (pda_cons ha pda_nil h1) (by decide) (by decide) h1 h2
theorem bMax2 (c : Cn X W j) (hm : X.mg "max" = none) (ha : PDA X W (e :: es) fs) (hg : Gl X "max" := by rfl) (h1 : starEach (e :: es) X.env = (false, eval e X.env) :: starEach es X.env := by rfl) (h2 : (backTo pos (starEach es X.env)).any (·.1) = false := by rfl) : PD X W (.Call (.Name "max" p) (e :: es) [] pos) (dCB gMax2 fs) := pd_callB (call_max2 c.hc) cd_max2 hg hm (by kernel_rfl) ha (by decide) (by decide) h1 h2
theorem bMin2 (c : Cn X W j) (hm : X.mg "min" = none) (ha : PDA X W (e :: es) fs) (hg : Gl X "min" := by rfl) (h1 : starEach (e :: es) X.env = (false, eval e X.env) :: starEach es X.env := by rfl) (h2 : (backTo pos (starEach es X.env)).any (·.1) = false := by rfl) : PD X W (.Call (.Name "min" p) (e :: es) [] pos) (dCB gMin2 fs) := pd_callB (call_min2 c.hc) cd_min2 hg hm (by kernel_rfl) ha (by decide) (by decide) h1 h2
theorem bIsi (T : String) (hm : X.mg "isinstance" = none) (ha : PDA X W (e :: es) fs) (hg : Gl X "isinstance" := by rfl) (h1 : starEach (e :: es) X.env = (false, eval e X.env) :: starEach es X.env := by rfl) (h2 : (backTo pos (starEach es X.env)).any (·.1) = false := by rfl) : PD X W (.Call (.Name "isinstance" p) (e :: es) [] pos) (dCB gIsi fs) := pd_callB call_isi cd_isi hg hm (by kernel_rfl) ha (by decide) (by decide) h1 h2
theorem bStr (hm : X.mg "str" = none) (ha : PD X W e fe) (hc : CallR X (.type "str") (fun xs H Q => (∃ i, xs = [V.int i] ∧ i.natAbs.log2 < 1920 ∧ Q (.str (toString i)) H) ∨ ∃ a, xs = [V.str a] ∧ Q (.str a) H)) (hg : Gl X "str" := by rfl) (h1 : starEach [e] X.env = (false, eval e X.env) :: starEach [] X.env := by rfl) (h2 : (backTo pos (starEach [] X.env)).any (·.1) = false := by rfl) : PD X W (.Call (.Name "str" p) [e] [] pos) (dCB gStr (dCons fe dNil)) := pd_callTy hc cd_str hg hm (by kernel_rfl) (pda_cons ha pda_nil h1) (by decide) (by decide) h1 h2
theorem bTup (hm : X.mg "tuple" = none) (ha : PD X W e fe) (hg : Gl X "tuple" := by rfl) (h1 : starEach [e] X.env = (false, eval e X.env) :: starEach [] X.env := by rfl) (h2 : (backTo pos (starEach [] X.env)).any (·.1) = false := by rfl) : PD X W (.Call (.Name "tuple" p) [e] [] pos) (dCB gTupleOf (dCons fe dNil)) := pd_callTy call_tuple_of cd_tuple hg hm (by kernel_rfl) (pda_cons ha pda_nil h1) (by decide) (by decide) h1 h2
theorem bListOf (hm : X.mg "list" = none) (ha : PD X W e fe) (hg : Gl X "list" := by rfl) (h1 : starEach [e] X.env = (false, eval e X.env) :: starEach [] X.env := by rfl) (h2 : (backTo pos (starEach [] X.env)).any (·.1) = false := by rfl) : PDL X W (.Call (.Name "list" p) [e] [] pos) (dCBL gListOf (dCons fe dNil)) := pdl_callTy call_list_of cdl_list hg hm (by kernel_rfl) (pda_cons ha pda_nil h1) (by decide) (by decide) h1 h2
theorem bTabL {d : Addr} {ks : List Str} (c : Cn X W j) (T : KTab X.K X.w d ks n) (hs : ks.length ≤ sizeLine) (hm : X.mg "list" = none) (ha : PD X W e fe) (hg : Gl X "list" := by rfl) (h1 : starEach [e] X.env = (false, eval e X.env) :: starEach [] X.env := by rfl) (h2 : (backTo pos (starEach [] X.env)).any (·.1) = false := by rfl) : PDL X W (.Call (.Name "list" p) [e] [] pos) (dCBL (gTabL d ks) (dCons fe dNil)) := pdl_callTy (call_tabL T hs c.hc) cdl_tabL hg hm (by kernel_rfl) (pda_cons ha pda_nil h1) (by decide) (by decide) h1 h2
theorem bTabN {d : Addr} {ks : List Str} (T : KTab X.K X.w d ks n) (hs : ks.length < 1000) (hm : X.mg "len" = none) (ha : PD X W e fe) (hg : Gl X "len" := by rfl) (h1 : starEach [e] X.env = (false, eval e X.env) :: starEach [] X.env := by rfl) (h2 : (backTo pos (starEach [] X.env)).any (·.1) = false := by rfl) : PD X W (.Call (.Name "len" p) [e] [] pos) (dCB (gTabN d ks) (dCons fe dNil)) := pd_callB (call_tabN T hs) cd_tabN hg hm boot_len (pda_cons ha pda_nil h1) (by decide) (by decide) h1 h2
-- what is walked
theorem iList (h : PD X W e fe) : PDI X W tg e (dItL fe) := pdi_list h
theorem iTup (h : PD X W e fe) : PDI X W tg e (dItT fe) := pdi_tup h
theorem iR1 (hm : X.mg "range" = none) (ha : PD X W a fa) (hg : Gl X "range" := by rfl) (h1 : starEach [a] X.env = (false, eval a X.env) :: starEach [] X.env := by rfl) (hs : starEach [a] X.env = [(false, eval a X.env)] := by rfl) : PDI X W tg (.Call (.Name "range" p) [a] [] pos) (dRng1 (dCons fa dNil)) := pdi_range1 hg hm (pda_cons ha pda_nil h1) hs
theorem iR2 (hm : X.mg "range" = none) (ha : PD X W a fa) (hb : PD X W b fb) (hg : Gl X "range" := by rfl) (h1 : starEach [a, b] X.env = (false, eval a X.env) :: starEach [b] X.env := by rfl) (h2 : starEach [b] X.env = (false, eval b X.env) :: starEach [] X.env := by rfl) (hs : starEach [a, b] X.env = [(false, eval a X.env), (false, eval b X.env)] := by rfl) (hs2 : starEach [b] X.env = [(false, eval b X.env)] := by rfl) : PDI X W tg (.Call (.Name "range" p) [a, b] [] pos) (dRng2 (dCons fa (dCons fb dNil))) := pdi_range2 hg hm (pda_cons ha (pda_cons hb pda_nil h2) h1) hs hs2
-- targets
theorem gN (i : Nat) (hN : X.N.Nodup := by first | assumption | decide +kernel) (hi : X.N[i]? = some x := by rfl) (hx : Loc X.env.scope x := by first | exact .inl rfl | exact .inr rfl) (hf : X.fn x = true ∨ X.env.scope.names.lookup x = some .local := by first | exact .inl rfl | exact .inr rfl) : L2.PG X (.Name x pos) (gName i) := pg_name hN hi hx hf
-- statements
theorem sSet (i : Nat) (he : PD X W e fe) (hN : X.N.Nodup := by first | assumption | decide +kernel) (hi : X.N[i]? = some x := by rfl) (hx : Loc X.env.scope x := by first | exact .inl rfl | exact .inr rfl) (hs : swapsWith e (some (.Name x pos')) pos.line X.env = pure false := by rfl) (hf : X.fn x = true ∨ X.env.scope.names.lookup x = some .local := by first | exact .inl rfl | exact .inr rfl) : PDS X W (.Assign [.Name x pos'] e pos) (dSet i fe) := ds_set hN hi hx he hs hf
theorem sOwn (i : Nat) {fl : DA} (he : PDL X W e fl) (hN : X.N.Nodup := by first | assumption | decide +kernel) (hi : X.N[i]? = some x := by rfl) (hx : Loc X.env.scope x := by first | exact .inl rfl | exact .inr rfl) (hs : swapsWith e (some (.Name x pos')) pos.line X.env = pure false := by rfl) (hf : X.fn x = true ∨ X.env.scope.names.lookup x = some .local := by first | exact .inl rfl | exact .inr rfl) : PDS X W (.Assign [.Name x pos'] e pos) (dOwn i fl) := ds_own hN hi hx he hs hf
theorem sFor {body : List Stmt} {fi : DA} {t : TG} {gt : DTg} {ws : List Nat} {gb : DG} (c : Cn X W j) (hi : PDI X W tg iter fi) (hg : L2.PG X tg t) (ht : TgOk X.K t gt ws) (hb : PDSs X W body gb)
    (hs : ∀ x, foldedSetIterable iter X.env x = pure x := by intro _; rfl) : PDS X W (.For tg iter body [] pos) (dFor fi gt gb) := ds_for c.hp c.hc hi hg ht hb hs
theorem sRaise {fm : DM} (c : Cn X W j) (he : PDM X W e fm) : PDS X W (.Raise (some e) none pos) (dRaise fm) := ds_raise c.hc c.tk he
end
end Gx

set_option maxHeartbeats 4000000
/-! An owned list lent to an expression whose answer keeps no list. -/
namespace Dl
open PySem PySem.Spec PyProof.Rows L2

mutual
/-- no list in it -/
def nolst : D → Bool
  | .lst _ => false
  | .tup ds => nolsts ds
  | .obj _ ds => nolsts ds
  | _ => true
def nolsts : List D → Bool
  | [] => true
  | d :: ds => nolst d && nolsts ds
end
def nolstX (x : Exc) : Bool := match x.fs with
  | none => true
  | some l => nolsts (l.map (·.2))
/-- all of G that is no list, G' tracks the same -/
def LeN (G G' : Hp) : Prop := ∀ a o, G a = some o → (∀ vs, o ≠ .lst vs) → G' a = some o
section
variable {K : PySem.W.Frag} {vl : Option (Addr × Addr)} {G G' : Hp}
theorem LeN.sqt {a : Addr} {xs : List V} (e : LeN G G') (h : SqT K G a xs) : SqT K G' a xs := by
  rcases h with (h | ⟨o, h⟩) | h
  · exact .inl (.inl (e a _ h fun _ z => nomatch z))
  · exact .inl (.inr ⟨o, e a _ h fun _ z => nomatch z⟩)
  · exact .inr h
theorem LeN.slt {a C dx : Addr} {vs : List (Option V)} (e : LeN G G') (h : SlX.Slt G a C dx vs) : SlX.Slt G' a C dx vs := by
  rcases h with ⟨h1, h2⟩ | ⟨h1, h2⟩
  · exact Or.inl ⟨e _ _ h1 (fun _ z => nomatch z), h2⟩
  · exact Or.inr ⟨e _ _ h1 (fun _ z => nomatch z), e _ _ h2 (fun _ z => nomatch z)⟩
mutual
theorem Rep.monoN (e : LeN G G') : ∀ {v : V} {d : D}, Rep K vl G v d → nolst d = true → Rep K vl G' v d
  | _, _, .non, _ => .non
  | _, _, .bl b, _ => .bl b
  | _, _, .int i, _ => .int i
  | _, _, .str x, _ => .str x
  | _, _, .tup a vs ds h r, hn => .tup a vs ds (e.sqt h) (Reps.monoN e r (by simpa [nolst] using hn))
  | _, _, .lst a vs ds h r, hn => by simp [nolst] at hn
  | _, _, .obj a C dx vs ds h r, hn => .obj a C dx vs ds (e.slt h) (Reps.monoN e r (by simpa [nolst] using hn))
  | _, _, .raw v, _ => .raw v
  | _, _, .vol h c q, _ => .vol h c q
theorem Reps.monoN (e : LeN G G') : ∀ {vs : List V} {ds : List D}, Reps K vl G vs ds → nolsts ds = true → Reps K vl G' vs ds
  | _, _, .nil, _ => .nil
  | _, _, .cons v d vs ds h r, hn => by
    simp only [nolsts, Bool.and_eq_true] at hn
    exact .cons v d vs ds (Rep.monoN e h hn.1) (Reps.monoN e r hn.2)
end
end
theorem RepX.leN {K : PySem.W.Frag} {Z Z' : Zn} {H H' : Hp} {cls : Value} {d : Option Addr} {x : Exc} (hn : nolstX x = true) (h : RepX K Z H cls d x) (le : LeN (mask Z H) (mask Z' H')) (ev : Z'.vol = Z.vol) : RepX K Z' H' cls d x := by
  obtain ⟨e, h⟩ := h
  refine ⟨e, ?_⟩
  unfold nolstX at hn
  cases q : x.fs with
  | none => rw [q] at h; exact h
  | some l =>
    rw [q] at h hn
    obtain ⟨dd, vs, h1, h2, h3, h4⟩ := h
    exact ⟨dd, vs, h1, le _ _ h2 (fun _ z => nomatch z), h3, by show Reps K Z'.vol _ _ _; rw [ev]; exact Reps.monoN le h4 hn⟩
theorem lend {K : PySem.W.Frag} {Z : Zn} {O : Own} {H : Hp} {σ : L2.St} {env : Env'} {i : Nat} {ds : List D} (a : At K Z O H σ env) (e : env[i]? = some (.own ds)) (one : noOwn i env) :
    ∃ Z1 : Zn, Z1.vol = Z.vol ∧ At K Z1 [] H σ (env.set i (.val (.lst ds))) ∧ ∀ H', Step Z1 H H' → Step Z H H' ∧ LeN (mask Z1 H') (mask Z H') := by
  obtain ⟨p, vs, h1, h2, h3, h4⟩ := own_atE a e
  have hz : (p, vs) ∈ Z.own := a.env.sub _ _ _ h2
  have nd := a.good.nd
  obtain ⟨nd1, nd2, nd3⟩ := List.nodup_append.mp (show (Z.own.map (·.1) ++ Z.vs).Nodup from nd)
  let Z1 : Zn := ⟨Z.own.filter (fun q => q.1 != p), Z.vol⟩
  have sub : ∀ c, c ∈ Z1.msk → c ∈ Z.msk := fun c hc => by
    rcases List.mem_append.mp hc with hc | hc
    · obtain ⟨q, hq, rfl⟩ := List.mem_map.mp hc
      exact List.mem_append_left _ (List.mem_map.mpr ⟨q, (List.mem_filter.mp hq).1, rfl⟩)
    · exact List.mem_append_right _ hc
  have sup : ∀ c, c ≠ p → c ∈ Z.msk → c ∈ Z1.msk := fun c hp hc => by
    rcases List.mem_append.mp hc with hc | hc
    · obtain ⟨q, hq, rfl⟩ := List.mem_map.mp hc
      exact List.mem_append_left _ (List.mem_map.mpr ⟨q, List.mem_filter.mpr ⟨hq, by simpa using hp⟩, rfl⟩)
    · exact List.mem_append_right _ hc
  have hpm : p ∉ Z1.msk := fun hc => by
    rcases List.mem_append.mp hc with hc | hc
    · obtain ⟨q, hq, he⟩ := List.mem_map.mp hc
      have := (List.mem_filter.mp hq).2
      simp [he] at this
    · exact nd3 p (List.mem_map.mpr ⟨_, hz, rfl⟩) p hc rfl
  have le : ∀ G, Le (mask Z G) (mask Z1 G) := fun G c o h => by
    have hc : c ∉ Z.msk := fun hm => by rw [mask_in hm] at h; cases h
    rw [mask_of hc] at h
    rw [mask_of fun z => hc (sub c z)]
    exact h
  have g1 : Good Z1 H := ⟨fun b us hb => a.good.own b us (List.mem_filter.mp hb).1, fun h c q => a.good.vol h c q, by
    show ((Z.own.filter (fun q => q.1 != p)).map (·.1) ++ Z.vs).Nodup
    exact List.nodup_append.mpr ⟨((List.filter_sublist).map _).nodup nd1, nd2, fun x hx y hy => nd3 x (by
      obtain ⟨q, hq, rfl⟩ := List.mem_map.mp hx
      exact List.mem_map.mpr ⟨q, (List.mem_filter.mp hq).1, rfl⟩) y hy⟩⟩
  refine ⟨Z1, rfl, ⟨g1, ⟨by rw [List.length_set]; exact a.env.len, fun j s q => ?_, fun _ _ _ h => by cases h⟩⟩, fun H' st => ?_⟩
  · by_cases hj : i = j
    · subst hj
      by_cases hi : i < env.length
      · rw [List.getElem?_set_self hi] at q
        cases q
        exact ⟨_, h1, _, rfl, .lst p vs ds (by rw [mask_of hpm]; exact h4) (Reps.mono (le H) h3)⟩
      · rw [List.getElem?_eq_none (by rw [List.length_set]; omega)] at q
        cases q
    · rw [List.getElem?_set_ne hj] at q
      obtain ⟨v, q1, q2⟩ := a.env.at_ j s q
      refine ⟨v, q1, ?_⟩
      cases s with
      | un => trivial
      | val d => obtain ⟨x, p1, p2⟩ := q2; exact ⟨x, p1, Rep.mono (le H) p2⟩
      | exc x => exact ⟨q2.1, q2.2.le (le H) rfl⟩
      | own es => exact (one.1 j es (fun z => hj z.symm) q).elim
      | dlg g => exact (one.2 j g q).elim
  · have hp' : H' p = some (.lst vs) := mask_le _ _ _ _ (st.le p _ (by rw [mask_of hpm]; exact h4))
    refine ⟨⟨fun c o h => ?_, ⟨fun b us hb => ?_, fun h c q => st.good.vol h c q, nd⟩⟩, fun c o h hn => ?_⟩
    · have hc : c ∉ Z.msk := fun hm => by rw [mask_in hm] at h; cases h
      rw [mask_of hc]
      exact mask_le _ _ _ _ (st.le c o (le H c o h))
    · by_cases hb' : b = p
      · subst hb'
        have := a.good.own b us hb
        rw [h4] at this
        rw [hp']
        exact this
      · exact st.good.own b us (List.mem_filter.mpr ⟨hb, by simpa using hb'⟩)
    · have hc1 : c ∉ Z1.msk := fun hm => by rw [mask_in hm] at h; cases h
      have hcp : c ≠ p := fun z => by
        subst z
        rw [mask_of hc1, hp'] at h
        exact hn vs (Option.some.inj h).symm
      have hc : c ∉ Z.msk := fun hm => hc1 (sup c hcp hm)
      rw [mask_of hc1] at h
      rw [mask_of hc]
      exact h
/-- slot i, owned, read as a value; what is answered keeps no list -/
def dLend (i : Nat) (f : DE) : DE := fun env Q R => match env[i]? with
  | some (.own ds) => noOwnB i 0 env = true ∧ f (env.set i (.val (.lst ds))) (fun d => nolst d = true ∧ Q d) (fun x => nolstX x = true ∧ R x)
  | _ => False
section
variable {X : Cx} {W : WX} {e : Expr} {f : DE} {i : Nat}
theorem pd_lend (h : PD X W e f) : PD X W e (dLend i f) := PE.imp h fun σ H Q ⟨Z, O, env, Q0, R0, a, hf, xk, q⟩ => by
  unfold dLend at hf
  split at hf
  · rename_i ds ho
    obtain ⟨Z1, ev, a1, hs⟩ := lend a ho (noOwn_of hf.1)
    refine DT.mk a1 hf.2 (fun x hx cls d H' s r => ?_) fun d hd v H' s r => ?_
    · obtain ⟨s1, l⟩ := hs H' s
      exact xk x hx.2 cls d H' s1 (r.leN hx.1 l ev.symm)
    · obtain ⟨s1, l⟩ := hs H' s
      exact q d hd.2 v H' s1 (by show Rep _ Z.vol _ _ _; rw [← ev]; exact Rep.monoN l r hd.1)
  · exact hf.elim
/-- the same for a test -/
def dLendB (i : Nat) (f : DB) : DB := fun env Q R => match env[i]? with
  | some (.own ds) => noOwnB i 0 env = true ∧ f (env.set i (.val (.lst ds))) Q (fun x => nolstX x = true ∧ R x)
  | _ => False
theorem lendB_ev {K : PySem.W.Frag} {W : WX} {f : DB} {i : Nat} : ∀ σ H Q, DTB K (dLendB i f) W σ H Q → DTB K f W σ H Q := fun σ H Q ⟨Z, O, env, Q0, R0, a, hf, xk, q⟩ => by
  unfold dLendB at hf
  split at hf
  · rename_i ds ho
    obtain ⟨Z1, ev, a1, hs⟩ := lend a ho (noOwn_of hf.1)
    refine DTB.mk a1 hf.2 (fun x hx cls d H' s r => ?_) fun d hd H' s => ?_
    · obtain ⟨s1, l⟩ := hs H' s
      exact xk x hx.2 cls d H' s1 (r.leN hx.1 l ev.symm)
    · exact q d hd H' (hs H' s).1
  · exact hf.elim
theorem pdb_lend {t : DB} (h : PDB X W e t) : PDB X W e (dLendB i t) := PT.imp h lendB_ev
end
end Dl

set_option maxHeartbeats 4000000
/-! x, y = (a new list, owned from then on), e -/
namespace Dl
open PySem PySem.Spec PyProof.Rows L2
def dParO (i j : Nat) (fl : DA) (f : DE) : DG := fun env k => fl env (fun ds => f env (fun d => k.nx ((env.set i (.own ds)).set j (.val d))) (fun x => k.xc x env)) (fun x => k.xc x env)
theorem own_hold {K : PySem.W.Frag} {Z : Zn} {O : Own} {H : Hp} {σ : L2.St} {env : Env'} {p : Addr} {vs : List V} {ds : List D} (a : StAt K Z O H σ env) (i : Nat) (hp : H p = none) (r : RepsZ K (Z.add O) H vs ds) :
    Lt Z O H ((i, p, vs) :: O) (upd H p (.lst vs)) ∧ StAt K Z ((i, p, vs) :: O) (upd H p (.lst vs)) σ env ∧ RepsZ K (Z.add ((i, p, vs) :: O)) (upd H p (.lst vs)) vs ds := by
  obtain ⟨g1, g2⟩ := cons_new a.good vs hp
  refine ⟨g2, ⟨g1, ?_⟩, Reps.mono g2 r⟩
  have e0 := a.env.le (Z' := Z.add ((i, p, vs) :: O)) (H' := upd H p (.lst vs)) g2 rfl fun j b us h => List.mem_append_left _ (List.mem_map.mpr ⟨_, List.mem_cons_of_mem _ h, rfl⟩)
  refine ⟨e0.len, fun j s e => ?_, fun j b us h => List.mem_append_left _ (List.mem_map.mpr ⟨_, h, rfl⟩)⟩
  obtain ⟨v, h1, h2⟩ := e0.at_ j s e
  refine ⟨v, h1, ?_⟩
  cases s with
  | own ds => obtain ⟨b, us, q1, q2, q3⟩ := h2; exact ⟨b, us, q1, List.mem_cons_of_mem _ q2, q3⟩
  | un => trivial
  | val d => exact h2
  | exc x => exact h2
  | dlg g => exact ⟨h2.1, List.mem_cons_of_mem _ h2.2.1, h2.2.2⟩
section
variable {X : Cx} {W : WX} {a b : Expr} {fl : DA} {fe : DE} {pos : Pos}
theorem ds_parO {i j : Nat} {x y : Str} {px py pt pt2 : Pos} {kt k2 : Nat} (hc : X.calm = true) (hN : X.N.Nodup) (hi : X.N[i]? = some x) (hj : X.N[j]? = some y) (hij : i ≠ j)
    (hx : X.env.scope.names.lookup x = some .local) (hy : X.env.scope.names.lookup y = some .local) (ha : PDL X W a fl) (hb : PD X W b fe)
    (hw : swappedStores [.Tuple [.Name x px, .Name y py] kt pt] (.Tuple [a, b] k2 pt2) X.env = pure (some [x, y]) := by rfl)
    (hs : swapsWithSole [.Tuple [.Name x px, .Name y py] kt pt] (.Tuple [a, b] k2 pt2) pos.line X.env = pure false := by rfl)
    (h1 : starEach [a, b] X.env = (false, eval a X.env) :: starEach [b] X.env := by rfl) (h2 : starEach [b] X.env = (false, eval b X.env) :: starEach [] X.env := by rfl) :
    PDS X W (.Assign [.Tuple [.Name x px, .Name y py] kt pt] (.Tuple [a, b] k2 pt2) pos) (dParO i j fl fe) := PS.imp (ps_par hc hN hi hj hij hx hy (pa_cons ha (pa_cons hb pa_nil h2) h1) hw hs) fun D σ H ⟨Z, O, env, k, at_, h, ko⟩ => by
  refine ⟨_, O, env, _, _, at_, h, ko.xk at_, fun ds hd p vs H1 s hp r => ?_⟩
  obtain ⟨l, a1, r1⟩ := own_hold (at_.step s) i hp r
  have l1 : Lt Z O H ((i, p, vs) :: O) (upd H1 p (.lst vs)) := s.le.trans l
  have ko1 := ko.step l1
  refine DT.mk a1 hd (ko1.xk a1) fun d hd v H2 s2 r2 => ?_
  have a2 := a1.step s2
  exact ⟨_, _, rfl, ko.nx _ hd _ _ H2 (l1.trans s2.le) ⟨a2.good, ((a2.env.setO i List.mem_cons_self (r1.step s2)).set r2 j)⟩⟩
/-- the same where a name is a cell -/
theorem ds_parC {i j : Nat} {x y : Str} {px py pt pt2 : Pos} {kt k2 : Nat} (hg : L2.PG X (.Tuple [.Name x px, .Name y py] kt pt) (gTup X.K 2 (gNames [i, j]))) (ha : PDL X W a fl) (hb : PD X W b fe)
    (hs : swapsWithSole [.Tuple [.Name x px, .Name y py] kt pt] (.Tuple [a, b] k2 pt2) pos.line X.env = pure false := by rfl) (hw : swappedStores [.Tuple [.Name x px, .Name y py] kt pt] (.Tuple [a, b] k2 pt2) X.env = pure none := by rfl)
    (h0 : (assignEach [.Tuple [.Name x px, .Name y py] kt pt] X.env).map (·.2) = [assign (.Tuple [.Name x px, .Name y py] kt pt) X.env] := by rfl)
    (h1 : starEach [a, b] X.env = (false, eval a X.env) :: starEach [b] X.env := by rfl) (h2 : starEach [b] X.env = (false, eval b X.env) :: starEach [] X.env := by rfl) :
    PDS X W (.Assign [.Tuple [.Name x px, .Name y py] kt pt] (.Tuple [a, b] k2 pt2) pos) (dParO i j fl fe) := PS.imp (ps_asg (pe_tup (pa_cons ha (pa_cons hb pa_nil h2) h1)) hg hs hw h0) fun D σ H ⟨Z, O, env, k, at_, h, ko⟩ => by
  refine ⟨_, O, env, _, _, at_, h, ko.xk at_, fun ds hd p vs H1 s hp r => ?_⟩
  obtain ⟨l, a1, r1⟩ := own_hold (at_.step s) i hp r
  have l1 : Lt Z O H ((i, p, vs) :: O) (upd H1 p (.lst vs)) := s.le.trans l
  have ko1 := ko.step l1
  refine DT.mk a1 hd (ko1.xk a1) fun d hd v H2 s2 r2 => ?_
  refine ⟨(by show 2 ≤ sizeLine; decide), fun q hq => ?_⟩
  have s3 := s2.trans (Step.new s2.good (.tup [.ref p, v]) hq)
  have a2 := a1.step s3
  exact ⟨q, [.ref p, v], rfl, .inl (.inl upd_same), rfl, _, _, rfl, _, _, rfl, rfl, ko.nx _ hd _ _ _ (l1.trans s3.le) ⟨a2.good, ((a2.env.setO i List.mem_cons_self (r1.step s3)).set (r2.step (Step.new s2.good _ hq)) j)⟩⟩
end
/-- a block's names, looked at by a function -/
def blkB (N : List Str) (sc scope : Scope) (own : List (Str × Nat)) : Bool :=
  decide (scope.kind = .function) && (scope.names.all (fun y => decide (scope.names.lookup y.1 = some y.2)) && (own.all (fun p => decide (N[p.2]? = some p.1)) &&
    (scope.names.all (fun y => !decide (y.2 = .free) || (decide (sc.names.lookup y.1 = some .cell) || decide (sc.names.lookup y.1 = some .free))) &&
      scope.names.all (fun y => !(decide (y.2 = .local) || decide (y.2 = .cell)) || (decide (y.1 ∈ own.map (·.1)) || decide (y.1 ∉ N))))))
theorem blkOk {N : List Str} {sc scope : Scope} {own : List (Str × Nat)} (h : blkB N sc scope own = true) : BlkOk N sc scope own := by
  simp only [blkB, Bool.and_eq_true, decide_eq_true_eq, List.all_eq_true, Bool.or_eq_true, Bool.not_eq_true', decide_eq_false_iff_not, Bool.or_eq_false_iff] at h
  obtain ⟨h1, h2, h3, h4, h5⟩ := h
  refine ⟨h1, h2, h3, fun y hy hf => ?_, fun y hy hf => ?_⟩
  · rcases h4 y hy with q | q
    · exact (q hf).elim
    · exact q
  · rcases h5 y hy with q | q
    · exact (hf.elim q.1 q.2).elim
    · exact q
end Dl

set_option maxHeartbeats 4000000
/-! This program: what its small defs do, over trees. -/
namespace Pr
open PySem PySem.Spec PyProof.Rows L2 Dl Dv Dk Gx

/-- isinstance of data -/
def isTy (T : String) : D → Bool
  | .non => T == "NoneType"
  | .bl _ => T == "bool" || T == "int"
  | .int _ => T == "int"
  | .str _ => T == "str"
  | .tup _ => T == "tuple"
  | .lst _ => T == "list"
  | _ => false
theorem gIsi_ok {d : D} {T : String} {Q : D → Prop} (hd : (dty d).isSome = true) (hT : T = "int" ∨ T = "bool" ∨ T = "str" ∨ T = "tuple" ∨ T = "list") (h : Q (.bl (isTy T d))) : gIsi [d, .raw (.ty T)] Q := by
  cases d <;> simp [dty] at hd <;> rcases hT with rfl | rfl | rfl | rfl | rfl <;> simp [isTy] at h <;>
    first | exact ⟨_, true, rfl, by decide +kernel, h⟩ | exact ⟨_, false, rfl, by decide +kernel, h⟩
/-- an int, not a bool, from least on -/
def isInt (v : D) (least : Int) : Bool := match v with
  | .int i => decide (least ≤ i)
  | _ => false
def g_is_integer : DG :=
  (dRet (dAndV (dCB gIsi (dCons (dVar 0) (dCons (dC (.raw (.ty "int"))) dNil))) (dAndV (dNotV (dCB gIsi (dCons (dVar 0) (dCons (dC (.raw (.ty "bool"))) dNil)))) (dOp gGe (dVar 0) (dVar 1)))))
def F_is_integer : DF := fun ds Q _ => ∃ v l, ds = [v, .int l] ∧ (dty v).isSome = true ∧ Q (.bl (isInt v l))
theorem law_is_integer (ds : List D) (Q : D → Prop) (R : DX) (h : F_is_integer ds Q R) : dDef 2 g_is_integer ds Q R := by
  obtain ⟨v, l, rfl, hv, q⟩ := h
  simp only [dDef, dRet, dRetL, dSeq, dIfS, dTst, dNotB, dAndB, dOrB, dAndV, dOrV, dNotV, dNeg, dIf, dCB, dCBL, dCons, dNil, dStar, dVar, dC, dCall, dOp, dOpL, dTup, dLst, dL, dSet, dAsg, dPar, dOwn, dExpr, dNx, dFor, dWhile, dRng1, dRng2, dItL, dItT, dSlot, dProp, dMeth, dMk, dMk0, dRaise, dPart, dNoPart, dSlL, dSlT, dRevL, dgName, dgTup, dgSets, dOwnIx, dOwnLen, dOwnTup, dApp, dSetI, dRel, relE, dItZip, dItTab, dItEnK, dItEn, dIsS, dJoinG, dSplit, dFmt, dJs, dIsT2, dIndex, dCallS, dYes, wipeE, dXf, dIsX, List.map_cons, List.map_nil, List.cons_append, List.nil_append, List.append_nil, List.length_cons, List.length_nil, List.replicate_succ, List.replicate_zero, Nat.reduceAdd, Nat.reduceSub, List.getElem?_cons_zero, List.getElem?_cons_succ, List.set_cons_zero, List.set_cons_succ, Nat.zero_add, Nat.add_zero, Nat.sub_self, g_is_integer]
  refine gIsi_ok hv (.inl rfl) ?_
  cases v <;> simp [dty] at hv <;> simp [isTy] <;> first | exact q | skip
  · exact gIsi_ok rfl (.inr (.inl rfl)) q
  · exact gIsi_ok rfl (.inr (.inl rfl)) q
def isIn (v : D) (lo hi : Int) : Bool := match v with
  | .int i => decide (lo ≤ i) && decide (i ≤ hi)
  | _ => false
def g_is_within : DG :=
  (dRet (dAndV (dCall 2 F_is_integer (dCons (dVar 0) (dCons (dVar 1) dNil))) (dOp gLe (dVar 0) (dVar 2))))
def F_is_within : DF := fun ds Q _ => ∃ v l m, ds = [v, .int l, .int m] ∧ (dty v).isSome = true ∧ Q (.bl (isIn v l m))
theorem law_is_within (ds : List D) (Q : D → Prop) (R : DX) (h : F_is_within ds Q R) : dDef 3 g_is_within ds Q R := by
  obtain ⟨v, l, m, rfl, hv, q⟩ := h
  simp only [dDef, dRet, dRetL, dSeq, dIfS, dTst, dNotB, dAndB, dOrB, dAndV, dOrV, dNotV, dNeg, dIf, dCB, dCBL, dCons, dNil, dStar, dVar, dC, dCall, dOp, dOpL, dTup, dLst, dL, dSet, dAsg, dPar, dOwn, dExpr, dNx, dFor, dWhile, dRng1, dRng2, dItL, dItT, dSlot, dProp, dMeth, dMk, dMk0, dRaise, dPart, dNoPart, dSlL, dSlT, dRevL, dgName, dgTup, dgSets, dOwnIx, dOwnLen, dOwnTup, dApp, dSetI, dRel, relE, dItZip, dItTab, dItEnK, dItEn, dIsS, dJoinG, dSplit, dFmt, dJs, dIsT2, dIndex, dCallS, dYes, wipeE, dXf, dIsX, List.map_cons, List.map_nil, List.cons_append, List.nil_append, List.append_nil, List.length_cons, List.length_nil, List.replicate_succ, List.replicate_zero, Nat.reduceAdd, Nat.reduceSub, List.getElem?_cons_zero, List.getElem?_cons_succ, List.set_cons_zero, List.set_cons_succ, Nat.zero_add, Nat.add_zero, Nat.sub_self, g_is_within]
  refine ⟨trivial, v, l, rfl, hv, ?_⟩
  cases v <;> simp [dty] at hv <;> first | exact q | skip
  rename_i i
  by_cases hd : l ≤ i
  · simp [isIn, isInt, hd, gLe, gI0] at q ⊢; exact q
  · simp [isIn, isInt, hd] at q ⊢; exact q
/-- among flat things -/
def has (v : D) (ds : List D) : Bool := match toV v, toVs ds with
  | some x, some vs => inV x vs
  | _, _ => false
theorem gIn_ok {v w : D} {ds : List D} {Q : D → Prop} (hv : (toV v).isSome = true) (hw : seqOf w = some ds) (hd : (toVs ds).isSome = true) (q : Q (.bl (has v ds))) : gIn false v w Q := by
  obtain ⟨x, hx⟩ := Option.isSome_iff_exists.mp hv
  obtain ⟨vs, hvs⟩ := Option.isSome_iff_exists.mp hd
  unfold has at q
  rw [hx, hvs] at q
  exact ⟨x, ds, vs, hx, hw, hvs, q⟩
theorem gNIn_ok {v w : D} {ds : List D} {Q : D → Prop} (hv : (toV v).isSome = true) (hw : seqOf w = some ds) (hd : (toVs ds).isSome = true) (q : Q (.bl (!has v ds))) : gIn true v w Q := by
  obtain ⟨x, hx⟩ := Option.isSome_iff_exists.mp hv
  obtain ⟨vs, hvs⟩ := Option.isSome_iff_exists.mp hd
  unfold has at q
  rw [hx, hvs] at q
  exact ⟨x, ds, vs, hx, hw, hvs, q⟩
def isOne (v : D) (ds : List D) : Bool := match v with
  | .str _ => has v ds
  | .int i => decide (0 ≤ i) && has v ds
  | _ => false
def g_is_one_of : DG :=
  (dSeq (dIfS (dTst (dCB gIsi (dCons (dVar 0) (dCons (dC (.raw (.ty "str"))) dNil)))) (dRet (dOp (gIn false) (dVar 0) (dVar 1))) dNx)
  (dRet (dAndV (dCall 2 F_is_integer (dCons (dVar 0) (dCons (dC (.int 0)) dNil))) (dOp (gIn false) (dVar 0) (dVar 1)))))
def F_is_one_of : DF := fun ds Q _ => ∃ v xs, ds = [v, .tup xs] ∧ (dty v).isSome = true ∧ (toVs xs).isSome = true ∧ Q (.bl (isOne v xs))
theorem law_is_one_of (ds : List D) (Q : D → Prop) (R : DX) (h : F_is_one_of ds Q R) : dDef 2 g_is_one_of ds Q R := by
  obtain ⟨v, xs, rfl, hv, hx, q⟩ := h
  simp only [dDef, dRet, dRetL, dSeq, dIfS, dTst, dNotB, dAndB, dOrB, dAndV, dOrV, dNotV, dNeg, dIf, dCB, dCBL, dCons, dNil, dStar, dVar, dC, dCall, dOp, dOpL, dTup, dLst, dL, dSet, dAsg, dPar, dOwn, dExpr, dNx, dFor, dWhile, dRng1, dRng2, dItL, dItT, dSlot, dProp, dMeth, dMk, dMk0, dRaise, dPart, dNoPart, dSlL, dSlT, dRevL, dgName, dgTup, dgSets, dOwnIx, dOwnLen, dOwnTup, dApp, dSetI, dRel, relE, dItZip, dItTab, dItEnK, dItEn, dIsS, dJoinG, dSplit, dFmt, dJs, dIsT2, dIndex, dCallS, dYes, wipeE, dXf, dIsX, List.map_cons, List.map_nil, List.cons_append, List.nil_append, List.append_nil, List.length_cons, List.length_nil, List.replicate_succ, List.replicate_zero, Nat.reduceAdd, Nat.reduceSub, List.getElem?_cons_zero, List.getElem?_cons_succ, List.set_cons_zero, List.set_cons_succ, Nat.zero_add, Nat.add_zero, Nat.sub_self, g_is_one_of]
  refine gIsi_ok hv (.inr (.inr (.inl rfl))) ?_
  cases v <;> simp [dty] at hv <;> simp [isTy]
  case str s => exact gIn_ok rfl rfl hx q
  case int i =>
    refine ⟨_, 0, rfl, rfl, ?_⟩
    by_cases hd : 0 ≤ i
    · simp [isInt, isOne, hd] at q ⊢; exact gIn_ok rfl rfl hx q
    · simp [isInt, isOne, hd] at q ⊢; exact q
  all_goals exact ⟨_, 0, rfl, rfl, q⟩

/-! ### the rule's points -/
def ks_POINTS : List Str := ["size", "way", "first", "aside", "later"]
def kvs_POINTS : List (Str × List D) := [("size", [.int 1, .int 2, .int 3]), ("way", [.str "fro", .str "round", .str "step"]), ("first", [.str "first", .str "last"]), ("aside", [.int 0, .int 2, .int 3, .int 4]), ("later", [.str "anew", .str "on"])]
abbrev aR (K : PySem.W.Frag) : Addr := He.ga K "Rule"
abbrev aP (K : PySem.W.Frag) : Addr := He.ga K "POINTS"
abbrev aIP (K : PySem.W.Frag) : Addr := He.ga K "InvalidPoint"
/-- the first point whose value is none -/
def badAt : List (Str × List D) → List D → Option Str
  | (k, xs) :: r, v :: vs => if isOne v xs = true then badAt r vs else some k
  | _, _ => none
def rows (ds : List D) : Bool := decide (ds.length = 5) && ds.all fun d => (dty d).isSome
def F_Rule (K : PySem.W.Frag) : DF := fun ds Q R => rows ds = true ∧ match badAt kvs_POINTS ds with
  | none => Q (.obj (aR K) [.tup ds])
  | some p => R ⟨aIP K, some [("point", .str p)]⟩
def g1_init : DG := dSet 6 (dTup (dCons (dVar 1) (dCons (dVar 2) (dCons (dVar 3) (dCons (dVar 4) (dCons (dVar 5) dNil))))))
def gb_init (K : PySem.W.Frag) : DG := dIfS (dNotB (dTst (dCall 2 F_is_one_of (dCons (dVar 8) (dCons (dOp (gTabIx (aP K) kvs_POINTS) (dC (.raw (.ref (aP K)))) (dVar 7)) dNil))))) (dRaise (dMk (aIP K) ["point"] (dCons (dVar 7) dNil))) dNx
def g2_init (K : PySem.W.Frag) : DG := dFor (dItZip (aP K) ks_POINTS (dCons (dC (.raw (.ref (aP K)))) (dCons (dVar 6) dNil))) (dgTup [7, 8]) (gb_init K)
theorem init_loop (K : PySem.W.Frag) (x0 e1 e2 e3 e4 e5 e6 : Slot) (k : Kn) : ∀ (kv : List (Str × List D)) (ds : List D) (env : Env'),
    (∃ s7 s8, env = [x0, e1, e2, e3, e4, e5, e6, s7, s8]) → kv.length = ds.length → (∀ p ∈ kv, kvs_POINTS.lookup p.1 = some p.2 ∧ (toVs p.2).isSome = true) → (∀ d ∈ ds, (dty d).isSome = true) →
    (badAt kv ds = none → ∀ s7 s8, k.nx [x0, e1, e2, e3, e4, e5, e6, s7, s8]) → (∀ p, badAt kv ds = some p → ∀ env, k.xc ⟨aIP K, some [("point", .str p)]⟩ env) →
    dForL (dgTup [7, 8]) (gb_init K) (zipD (kv.map (·.1)) ds) env k
  | [], [], env, ⟨s7, s8, e⟩, _, _, _, hn, _ => by subst e; exact hn rfl s7 s8
  | [], _ :: _, _, _, hl, _, _, _, _ => by simp at hl
  | _ :: _, [], _, _, hl, _, _, _, _ => by simp at hl
  | (p, xs) :: kv, d :: ds, env, ⟨s7, s8, e⟩, hl, hk, hd, hn, hx => by
    subst e
    obtain ⟨h1, h2⟩ := hk (p, xs) List.mem_cons_self
    have ez : zipD (((p, xs) :: kv).map (·.1)) (d :: ds) = .tup [.str p, d] :: zipD (kv.map (·.1)) ds := rfl
    rw [ez]
    unfold dForL gb_init
    simp only [dDef, dRet, dRetL, dSeq, dIfS, dTst, dNotB, dAndB, dOrB, dAndV, dOrV, dNotV, dNeg, dIf, dCB, dCBL, dCons, dNil, dStar, dVar, dC, dCall, dOp, dOpL, dTup, dLst, dL, dSet, dAsg, dPar, dOwn, dExpr, dNx, dFor, dWhile, dRng1, dRng2, dItL, dItT, dSlot, dProp, dMeth, dMk, dMk0, dRaise, dPart, dNoPart, dSlL, dSlT, dRevL, dgName, dgTup, dgSets, dOwnIx, dOwnLen, dOwnTup, dApp, dSetI, dRel, relE, dItZip, dItTab, dItEnK, dItEn, dIsS, dJoinG, dSplit, dFmt, dJs, dIsT2, dIndex, dCallS, dYes, wipeE, dXf, dIsX, List.map_cons, List.map_nil, List.cons_append, List.nil_append, List.append_nil, List.length_cons, List.length_nil, List.replicate_succ, List.replicate_zero, Nat.reduceAdd, Nat.reduceSub, List.getElem?_cons_zero, List.getElem?_cons_succ, List.set_cons_zero, List.set_cons_succ, Nat.zero_add, Nat.add_zero, Nat.sub_self, gTabIx]
    refine ⟨trivial, xs, h1, trivial, d, xs, rfl, hd d List.mem_cons_self, h2, ?_⟩
    cases ho : isOne d xs with
    | true =>
      simp
      refine init_loop K x0 e1 e2 e3 e4 e5 e6 k kv ds _ ⟨_, _, rfl⟩ (by simpa using hl) (fun p hp => hk p (List.mem_cons_of_mem _ hp)) (fun d hd' => hd d (List.mem_cons_of_mem _ hd')) (fun hb => hn ?_) (fun q hq => hx q ?_)
      · unfold badAt; rw [ho]; exact hb
      · unfold badAt; rw [ho]; exact hq
    | false =>
      simp
      exact hx p (by unfold badAt; rw [ho]; rfl) _
end Pr

set_option maxHeartbeats 4000000
/-! The class Rule: how an instance is made. -/
namespace Pr
open PySem PySem.Spec PyProof.Rows L2 Dl Dv Dk Gx

theorem reps_flat {K : PySem.W.Frag} {vl : Option (Addr × Addr)} {G : Hp} : ∀ {ds : List D} {vs : List V}, toVs ds = some vs → Reps K vl G vs ds
  | [], vs, h => by simp [toVs] at h; subst h; exact .nil
  | d :: ds, vs, h => by
    unfold toVs at h
    split at h
    · rename_i a b e1 e2
      cases h
      refine .cons _ _ _ _ ?_ (reps_flat e2)
      cases d <;> simp [toV] at e1 <;> subst e1 <;> constructor
    · cases h
/-- behind the store of the one slot -/
theorem slot_stored {K : PySem.W.Frag} {Z : Zn} {O : Own} {H0 H2 : Hp} {C x dx : Addr} {y : V} {ds : List D} (g0 : Good Z H0) (hx : H0 x = none) (hd : H0 dx = none) (hne : dx ≠ x) (g2 : Good (Z.add O) H2) (le : Le (mask Z H0) (mask (Z.add O) H2))
    (ix : mask (Z.add O) H2 x = some (.ins C dx [])) (id_ : mask (Z.add O) H2 dx = some (.own x)) (ry : RepZ K (Z.add O) H2 y (.tup ds)) (fl : (toVs ds).isSome = true) :
    Step Z H0 (SlX.slH H2 x C dx (SlX.putS 0 y [])) ∧ RepZ K Z (SlX.slH H2 x C dx (SlX.putS 0 y [])) (.ref x) (.obj C [.tup ds]) := by
  have hxm := g0.fresh hx
  have hdm := g0.fresh hd
  have same : ∀ b, b ≠ x → b ≠ dx → (SlX.slH H2 x C dx (SlX.putS 0 y [])) b = H2 b := fun b h1 h2 => SlX.slH_ne h1 h2
  have gs := g2.sub
  have stp : Step Z H0 (SlX.slH H2 x C dx (SlX.putS 0 y [])) := by
    refine ⟨fun a o h => ?_, fun a vs h => ?_, fun h c e => ?_, g0.nd⟩
    · have ham : a ∉ Z.msk := fun z => by rw [mask_in z] at h; cases h
      have h0 := mask_le _ _ _ _ h
      rw [mask_of ham, same a (ne_of_none h0 hx) (ne_of_none h0 hd)]
      exact mask_le _ _ _ _ (le a o h)
    · have h0 := g0.own a vs h
      rw [same a (ne_of_none h0 hx) (ne_of_none h0 hd)]
      exact gs.own a vs h
    · obtain ⟨s0, i0, cs0, q1, q2, _⟩ := g0.vol h c e
      obtain ⟨s, i, cs, h1, h2, h3⟩ := gs.vol h c e
      exact ⟨s, i, cs, by rw [same h (ne_of_none q1 hx) (ne_of_none q1 hd)]; exact h1, by rw [same c (ne_of_none q2 hx) (ne_of_none q2 hd)]; exact h2, h3⟩
  refine ⟨stp, ?_⟩
  have hslt : SlX.Slt (mask Z (SlX.slH H2 x C dx (SlX.putS 0 y []))) x C dx ([y].map some) := by
    refine .inr ⟨?_, ?_⟩
    · rw [mask_of hxm]
      exact upd_same
    · rw [mask_of hdm]
      unfold SlX.slH
      rw [upd_ne hne, upd_same]
  refine .obj x C dx [y] [.tup ds] hslt (.one ?_)
  obtain ⟨vs, hvs⟩ := Option.isSome_iff_exists.mp fl
  clear hslt
  generalize SlX.slH H2 x C dx (SlX.putS 0 y []) = H' at same stp ⊢
  cases ry with
  | tup b ws _ hs r =>
    obtain ⟨rfl, _⟩ := toVs_rep r hvs
    refine .tup b ws ds ?_ (reps_flat hvs)
    rcases hs with hs | hs
    · have key : ∀ u, mask (Z.add O) H2 b = some u → u ≠ .ins C dx [] → u ≠ .own x → mask Z H' b = some u := fun u h n1 n2 => by
        have b1 : b ≠ x := fun z => by rw [z, ix] at h; exact n1 (Option.some.inj h).symm
        have b2 : b ≠ dx := fun z => by rw [z, id_] at h; exact n2 (Option.some.inj h).symm
        have h1 := add_le b u h
        have bm : b ∉ Z.msk := fun z => by rw [mask_in z] at h1; cases h1
        rw [mask_of bm, same b b1 b2]
        exact mask_le _ _ _ _ h
      rcases hs with hs | ⟨o, hs⟩
      · exact .inl (.inl (key _ hs (fun z => nomatch z) (fun z => nomatch z)))
      · exact .inl (.inr ⟨o, key _ hs (fun z => nomatch z) (fun z => nomatch z)⟩)
    · exact .inr hs
/-- an __init__ that ends with self.f = (a tuple of flat things), the one slot of its class -/
theorem initOk {P : Program} {w : World} {K : PySem.W.Frag} {mg : Str → Option Value} {base : Heap} {x qual fld : Str} {params : Arguments} {s1 s2 s3 : Stmt} {scope : Scope} {f : Addr} {fd : FuncData} {N ps : List Str} {k i n : Nat} {C p : Addr} {g1 g2 : DG} {F : DF} (FD : FunD K x qual params [s1, s2, s3] scope [] [] f fd) (S : FnScope N ps scope) (hn : ps.length = n + 1)
    (sc : SlX.SCls K C) (sl : SlX.Slot1 K C fld p 0)
    (hbody : ∀ (cdv : Value) (A : Around) (outer : List Env) (s : Shared) (H : Hp) (E : XK), Cn (cxOf (L2.CX P w) P w K mg base N qual scope f cdv A outer s H E) (fun cls d _ H' => E cls d H') k →
      PDS (cxOf (L2.CX P w) P w K mg base N qual scope f cdv A outer s H E) (fun cls d _ H' => E cls d H') s1 g1 ∧ PDS (cxOf (L2.CX P w) P w K mg base N qual scope f cdv A outer s H E) (fun cls d _ H' => E cls d H') s2 g2 ∧
      L2.PS (cxOf (L2.CX P w) P w K mg base N qual scope f cdv A outer s H E) s3 (SlX.sSl K (tVar 0) (tVar i) fld))
    (hF : ∀ (y : Addr) ds Q R, F ds Q R → dSeq g1 g2 (.val (.raw (.ref y)) :: (ds.map .val ++ List.replicate (N.length - (ds.length + 1)) .un)) ⟨fun e => ∃ es, e[0]? = some (.val (.raw (.ref y))) ∧ e[i]? = some (.val (.tup es)) ∧ (toVs es).isSome = true ∧ Q (.obj C [.tup es]), fun _ _ => False, fun _ => False, fun _ => False, fun _ => False, fun x _ => R x⟩) :
    FnOk P w K mg base (L2.CX P w) (k + 1) f fd ps (spI K C n F) := by
  refine FD.ok S (fun vs H Q E h => by rw [h.1, hn]) fun cdv A outer s H vs Q E hr h => ?_
  obtain ⟨hl, Z, H0, y, dx, ws, ds, Q0, R0, rfl, g0, hy, hd, hne, rfl, r, hFd, hx, hq⟩ := h
  obtain ⟨p1, p2, p3⟩ := hbody cdv A outer s (upd (upd H0 dx (.own y)) y (.ins C dx [])) E ⟨takes_of rfl rfl rfl rfl, passes_of rfl, hr, rfl⟩
  have sa := Step.new g0 (.own y) hd
  have hy' : upd H0 dx (.own y) y = none := by rw [upd_ne (Ne.symm hne)]; exact hy
  have sb := sa.trans (Step.new sa.good (.ins C dx []) hy')
  have hw := r.length
  refine ⟨_, pss_cons p1 (pss_cons p2 (pss_one p3)), ?_⟩
  have hlen : ds.length = n := by simp at hl; omega
  have st0 : StAt K Z [] (upd (upd H0 dx (.own y)) y (.ins C dx [])) (L2.start N (V.ref y :: ws)) (.val (.raw (.ref y)) :: (ds.map .val ++ List.replicate (N.length - (ds.length + 1)) .un)) := by
    refine ⟨by rw [add_nil]; exact sb.good, ?_⟩
    exact start_rep (N := N) (ds := .raw (.ref y) :: ds) (.cons _ _ _ _ (.raw _) (r.step sb))
  have ix0 : mask (Z.add []) (upd (upd H0 dx (.own y)) y (.ins C dx [])) y = some (.ins C dx []) := by
    rw [add_nil, mask_of (g0.fresh hy)]
    exact upd_same
  have id0 : mask (Z.add []) (upd (upd H0 dx (.own y)) y (.ins C dx [])) dx = some (.own y) := by
    rw [add_nil, mask_of (g0.fresh hd), upd_ne hne, upd_same]
  have le0 : Le (mask Z H0) (mask (Z.add []) (upd (upd H0 dx (.own y)) y (.ins C dx []))) := by rw [add_nil]; exact sb.le
  -- the exceptions
  have xc0 : ∀ (O' : Own) (z : Exc), R0 z → ∀ cls d H', Lt Z [] (upd (upd H0 dx (.own y)) y (.ins C dx [])) O' H' → Good (Z.add O') H' → RepX K (Z.add O') H' cls d z → E cls d H' := fun O' z hz cls d H' l g' rx => by
    refine hx z hz cls d H' ⟨fun a o h => add_le _ _ (l a o (le0 a o h)), g'.sub⟩ rx.sub
  have fin : ∀ (O2 : Own) (σ2 : L2.St) (H2 : Hp) (e2 : Env'), Lt Z [] (upd (upd H0 dx (.own y)) y (.ins C dx [])) O2 H2 → StAt K Z O2 H2 σ2 e2 → (∃ es, e2[0]? = some (.val (.raw (.ref y))) ∧ e2[i]? = some (.val (.tup es)) ∧ (toVs es).isSome = true ∧ Q0 (.obj C [.tup es])) →
      SlX.sSl K (tVar 0) (tVar i) fld { nx := fun _ H' => Q .non H', rt := Q } σ2 H2 := fun O2 σ2 H2 e2 l2 a2 ⟨es, h0, hi, fl, hQ⟩ => by
    obtain ⟨v, hv, rv⟩ := a2.env.val hi
    obtain ⟨u, hu, ru⟩ := a2.env.val h0
    cases ru
    refine ⟨v, hv, _, hu, y, C, dx, p, [], 0, rfl, .inl ⟨mask_le _ _ _ _ (l2 _ _ ix0), rfl⟩, sc, sl, ?_⟩
    obtain ⟨q1, q2⟩ := slot_stored g0 hy hd hne a2.good (le0.trans l2) (l2 _ _ ix0) (l2 _ _ id0) rv fl
    exact hq _ hQ _ q1 q2
  have h1 := hF y ds Q0 R0 hFd
  refine ⟨Z, [], _, _, st0, h1, ⟨fun e1 h2 O1 σ1 H1 l1 a1 => ?_, fun _ _ z => z.elim, fun _ z => z.elim, fun _ z => z.elim, fun _ z => z.elim, fun z _ hz O' cls d σ' H' l a' rx => xc0 O' z hz cls d H' l a'.good rx⟩⟩
  exact ⟨Z, O1, e1, _, a1, h2, ⟨fun e2 h3 O2 σ2 H2 l2 a2 => fin O2 σ2 H2 e2 (l1.trans l2) a2 h3, fun _ _ z => z.elim, fun _ z => z.elim, fun _ z => z.elim, fun _ z => z.elim, fun z _ hz O' cls d σ' H' l a' rx => xc0 O' z hz cls d H' (l1.trans l) a'.good rx⟩⟩
end Pr

set_option maxHeartbeats 4000000
/-! Own == of an instance and anything; the rule's properties and methods; a drawn rule. -/
namespace Pr
open PySem PySem.Spec PyProof.Rows L2 Dl Dv Dk Gx

structure EqC (P : Program) (w : World) (K : PySem.W.Frag) (mg : Str → Option Value) (base : Heap) (k : Nat) (C : Addr) (F : DF) : Prop where
  ex : ∃ g, FnR P w K mg base (L2.CX P w) k g (spD K 2 F) ∧ PySem.W.findIn K (.ref C) "__eq__" = some (some (.ref g)) ∧ PySem.W.isFn K (.ref g) = true
  nf : ∀ t, t ∈ ["NoneType", "bool", "int", "str", "tuple", "list"] → PySem.W.notFirst K C (.type t) = true
theorem dty_mem {d : D} {t : String} (h : dty d = some t) : t ∈ ["NoneType", "bool", "int", "str", "tuple", "list"] := by
  cases d <;> simp [dty] at h <;> subst h <;> simp
def gEqO (C : Addr) (F : DF) : D2 := fun x y Q => match x with
  | .obj C' os => C' = C ∧ ((dty y).isSome = true ∨ ∃ us, y = .obj C us) ∧ F [.obj C os, y] Q FX
  | _ => False
def rEqO (K : PySem.W.Frag) (C : Addr) (F : DF) : R2 := fun x y H Q => ∃ (a dx : Addr) (ws : List V), x = .ref a ∧ SlX.Slt H a C dx (ws.map some) ∧ ((∃ t, TyX K H y (.type t) ∧ t ∈ ["NoneType", "bool", "int", "str", "tuple", "list"]) ∨ ∃ b dy us, y = .ref b ∧ SlX.Slt H b C dy us) ∧ spD K 2 F [x, y] H Q fun _ _ _ => False
theorem op_eqO {X : Cx} {C : Addr} {k : Nat} {F : DF} (E : EqC X.prog X.w X.K X.mg X.base k C F) (hr : Room k X.A) : OpR X (compareOp .Eq) (rEqO X.K C F) := by
  intro pins s σ H x y v u Q I rx ry h
  obtain ⟨a, dx, ws, rfl, ha, hy, q⟩ := h
  obtain ⟨g, FR, hs, hf⟩ := E.ex
  cases (show v = Value.ref a from rx)
  obtain ⟨sl, od, _, J, _⟩ := SlX.slt_inst I ha
  obtain ⟨m, hF⟩ := I.fr
  have L : ∃ tb, PySem.W.Looks (model X.prog X.w) s.heap (typeOf u) tb ∧ PySem.W.notFirst X.K C tb = true := by
    rcases hy with ⟨t, ty, ht⟩ | ⟨b, dy, us, rfl, hb⟩
    · obtain ⟨Pr, KX, p, _⟩ := kit_of I ry ty
      exact ⟨_, KX.ty _ _ I.kIn p, E.nf t ht⟩
    · cases (show u = Value.ref b from ry)
      obtain ⟨sl', od', _, J', _⟩ := SlX.slt_inst I hb
      exact ⟨_, J'.type, by unfold PySem.W.notFirst; simp⟩
  obtain ⟨tb, hb, hn⟩ := L
  show wpAny _ _ (richCompare .Eq (.ref a) u) _ _ _
  refine PySem.W.cmp_K (op := .Eq) (tb := tb) hr.units0 hF I.ok.mod.kin J hb hn hs hf ?_
  refine wpAny_mono (wpAny_call (run_fnR (us := [.ref a, u]) (vs := [.ref a, y]) (E := fun _ _ _ => False) FR hr (fun _ _ _ _ _ _ _ ⟨_, _, _, _, _, _, _, _, _, _, _, _, z⟩ => z.elim) I (.cons rfl (.cons ry .nil)) q)) (fun w s' z => ?_) fun _ _ x => x
  obtain ⟨z', H', I', rz, qz⟩ := z
  exact SlX.cmpback rz ⟨z', H', I', rz, qz⟩
theorem opd_eqO {K : PySem.W.Frag} {C : Addr} {F : DF} : OpD K (rEqO K C F) (gEqO C F) := fun Z H x y dx dy Q0 Q gd rx ry hg q => by
  cases dx <;> first | exact False.elim hg | skip
  obtain ⟨e, hy, hF⟩ := hg
  subst e
  have rx0 := rx
  cases rx with
  | obj a _ ax ws ds h r =>
    refine ⟨a, ax, ws, rfl, (mask_le Z H).slt h, ?_, rfl, Z, _, Q0, FX, gd, .cons _ _ _ _ rx0 (.one ry), hF, fun _ z => z.elim, fun d hd v H' s rv => q d hd v H' s rv⟩
    rcases hy with hy | ⟨us, rfl⟩
    · obtain ⟨t, ht⟩ := Option.isSome_iff_exists.mp hy
      exact .inl ⟨t, dty_rep ry ht, dty_mem ht⟩
    · cases ry with
      | obj b _ bx ws' us' h' r' => exact .inr ⟨b, bx, _, rfl, (mask_le Z H).slt h'⟩
section
variable {X : Cx} {W : WX} {a b : Expr} {pos : Pos} {fa fb : DE} {C : Addr} {j k : Nat} {F : DF}
theorem cEqO (c : Cn X W j) (E : EqC X.prog X.w X.K X.mg X.base k C F) (ha : PD X W a fa) (hb : PD X W b fb) (hk : k ≤ j := by decide) : PD X W (.Compare a [.Eq] [b] pos) (dOp (gEqO C F) fa fb) := pd_cmp (op_eqO E (c.hr.mono hk)) opd_eqO ha hb (nomark _)
theorem tEqO (c : Cn X W j) (E : EqC X.prog X.w X.K X.mg X.base k C F) (ha : PD X W a fa) (hb : PD X W b fb) (hk : k ≤ j := by decide) : PDB X W (.Compare a [.Eq] [b] pos) (dTst (dOp (gEqO C F) fa fb)) := pdb_cmp (op_eqO E (c.hr.mono hk)) opd_eqO ha hb (nomark _)
/-- isinstance(x, C): an instance or data -/
def gIsU (K : PySem.W.Frag) (c : Addr) : DC1 := fun ds Q => gIsC K c ds Q ∨ gIsD K c ds Q
theorem CallR.or {f : Value} {r1 r2 : List V → Hp → VK → Prop} (h1 : CallR X f r1) (h2 : CallR X f r2) : CallR X f (fun xs H Q => r1 xs H Q ∨ r2 xs H Q) := fun pins s σ H xs us Q I r h => h.elim (h1 pins s σ H xs us Q I r) (h2 pins s σ H xs us Q I r)
theorem cd_isU {K : PySem.W.Frag} {c : Addr} : CallD K (fun xs H Q => SlX.rIsiSl K (.ref c) xs H Q ∨ rIsi K xs H Q) (gIsU K c) := fun Z H vs ds Q0 Q gd r hg q => hg.elim (fun h => .inl (cd_isC Z H vs ds Q0 Q gd r h q)) (fun h => .inr (cd_isD Z H vs ds Q0 Q gd r h q))
theorem bIsC {c : Addr} {e : Expr} {es : List Expr} {fs : DA} {p : Pos} (hm : X.mg "isinstance" = none) (ha : PDA X W (e :: es) fs) (hg : Gl X "isinstance" := by rfl) (h1 : starEach (e :: es) X.env = (false, eval e X.env) :: starEach es X.env := by rfl) (h2 : (backTo pos (starEach es X.env)).any (·.1) = false := by rfl) : PD X W (.Call (.Name "isinstance" p) (e :: es) [] pos) (dCB (gIsU X.K c) fs) := pd_callB ((SlX.call_isiSl (.ref c)).or call_isi) cd_isU hg hm (by kernel_rfl) ha (by decide) (by decide) h1 h2
end
/-- what the class Rule is, in the written part -/
structure RuC (K : PySem.W.Frag) : Prop where
  sc : SlX.SCls K (aR K)
  si : SlX.SIsi K (aR K)
  sl : ∃ p, SlX.Slot1 K (aR K) "row" p 0
  kit : ∀ t, t ∈ ["NoneType", "bool", "int", "str", "tuple", "list"] → PySem.W.kitOne K (.type t) (.ref (aR K)) = some false
/-! ### the getters -/
def g_prop (K : PySem.W.Frag) (n : Int) : DG := dRet (dOp gIx (dSlot (aR K) 0 (dVar 0)) (dC (.int n)))
def F_prop (K : PySem.W.Frag) (n : Nat) : DF := fun ds Q _ => ∃ xs d, ds = [.obj (aR K) [.tup xs]] ∧ xs[n]? = some d ∧ Q d
theorem atI_nat {α : Type} {xs : List α} {n : Nat} {d : α} (h : xs[n]? = some d) : atI xs (n : Int) = some d := by
  have hl := (List.getElem?_eq_some_iff.mp h).1
  unfold atI ixN
  rw [if_pos (by omega), if_pos (by omega)]
  exact h
theorem law_prop (K : PySem.W.Frag) (n : Nat) (ds : List D) (Q : D → Prop) (R : DX) (h : F_prop K n ds Q R) : dDef 1 (g_prop K n) ds Q R := by
  obtain ⟨xs, d, rfl, hd, q⟩ := h
  simp only [dDef, dRet, dRetL, dSeq, dIfS, dTst, dNotB, dAndB, dOrB, dAndV, dOrV, dNotV, dNeg, dIf, dCB, dCBL, dCons, dNil, dStar, dVar, dC, dCall, dOp, dOpL, dTup, dLst, dL, dSet, dAsg, dPar, dOwn, dExpr, dNx, dFor, dWhile, dRng1, dRng2, dItL, dItT, dSlot, dProp, dMeth, dMk, dMk0, dRaise, dPart, dNoPart, dSlL, dSlT, dRevL, dgName, dgTup, dgSets, dOwnIx, dOwnLen, dOwnTup, dApp, dSetI, dRel, relE, dItZip, dItTab, dItEnK, dItEn, dIsS, dJoinG, dSplit, dFmt, dJs, dIsT2, dIndex, dCallS, dYes, wipeE, dXf, dIsX, List.map_cons, List.map_nil, List.cons_append, List.nil_append, List.append_nil, List.length_cons, List.length_nil, List.replicate_succ, List.replicate_zero, Nat.reduceAdd, Nat.reduceSub, List.getElem?_cons_zero, List.getElem?_cons_succ, List.set_cons_zero, List.set_cons_succ, Nat.zero_add, Nat.add_zero, Nat.sub_self, g_prop]
  exact ⟨trivial, _, rfl, d, atI_nat hd, q⟩
def g_parts (K : PySem.W.Frag) : DG := dRet (dSlot (aR K) 0 (dVar 0))
def F_parts (K : PySem.W.Frag) : DF := fun ds Q _ => ∃ xs, ds = [.obj (aR K) [.tup xs]] ∧ Q (.tup xs)
theorem law_parts (K : PySem.W.Frag) (ds : List D) (Q : D → Prop) (R : DX) (h : F_parts K ds Q R) : dDef 1 (g_parts K) ds Q R := by
  obtain ⟨xs, rfl, q⟩ := h
  simp only [dDef, dRet, dRetL, dSeq, dIfS, dTst, dNotB, dAndB, dOrB, dAndV, dOrV, dNotV, dNeg, dIf, dCB, dCBL, dCons, dNil, dStar, dVar, dC, dCall, dOp, dOpL, dTup, dLst, dL, dSet, dAsg, dPar, dOwn, dExpr, dNx, dFor, dWhile, dRng1, dRng2, dItL, dItT, dSlot, dProp, dMeth, dMk, dMk0, dRaise, dPart, dNoPart, dSlL, dSlT, dRevL, dgName, dgTup, dgSets, dOwnIx, dOwnLen, dOwnTup, dApp, dSetI, dRel, relE, dItZip, dItTab, dItEnK, dItEn, dIsS, dJoinG, dSplit, dFmt, dJs, dIsT2, dIndex, dCallS, dYes, wipeE, dXf, dIsX, List.map_cons, List.map_nil, List.cons_append, List.nil_append, List.append_nil, List.length_cons, List.length_nil, List.replicate_succ, List.replicate_zero, Nat.reduceAdd, Nat.reduceSub, List.getElem?_cons_zero, List.getElem?_cons_succ, List.set_cons_zero, List.set_cons_succ, Nat.zero_add, Nat.add_zero, Nat.sub_self, g_parts]
  exact ⟨trivial, _, rfl, q⟩
/-! ### == -/
def g_eq (K : PySem.W.Frag) : DG :=
  dRet (dAndV (dCB (gIsU K (aR K)) (dCons (dVar 1) (dCons (dC (.raw (.ref (aR K)))) dNil))) (dOp gEq (dSlot (aR K) 0 (dVar 0)) (dSlot (aR K) 0 (dVar 1))))
def F_eq (K : PySem.W.Frag) : DF := fun ds Q _ => RuC K ∧ ∃ xs, dats 8 xs = true ∧ ((∃ d, ds = [.obj (aR K) [.tup xs], d] ∧ (dty d).isSome = true ∧ Q (.bl false)) ∨ ∃ ys, ds = [.obj (aR K) [.tup xs], .obj (aR K) [.tup ys]] ∧ dats 8 ys = true ∧ Q (.bl (deq (.tup xs) (.tup ys))))
theorem kit_self (K : PySem.W.Frag) (c : Addr) : PySem.W.kitOne K (.ref c) (.ref c) = some true := by unfold PySem.W.kitOne; simp
theorem law_eq (K : PySem.W.Frag) (ds : List D) (Q : D → Prop) (R : DX) (h : F_eq K ds Q R) : dDef 2 (g_eq K) ds Q R := by
  obtain ⟨C, xs, hx, h⟩ := h
  rcases h with ⟨d, rfl, hd, q⟩ | ⟨ys, rfl, hy, q⟩
  · simp only [dDef, dRet, dRetL, dSeq, dIfS, dTst, dNotB, dAndB, dOrB, dAndV, dOrV, dNotV, dNeg, dIf, dCB, dCBL, dCons, dNil, dStar, dVar, dC, dCall, dOp, dOpL, dTup, dLst, dL, dSet, dAsg, dPar, dOwn, dExpr, dNx, dFor, dWhile, dRng1, dRng2, dItL, dItT, dSlot, dProp, dMeth, dMk, dMk0, dRaise, dPart, dNoPart, dSlL, dSlT, dRevL, dgName, dgTup, dgSets, dOwnIx, dOwnLen, dOwnTup, dApp, dSetI, dRel, relE, dItZip, dItTab, dItEnK, dItEn, dIsS, dJoinG, dSplit, dFmt, dJs, dIsT2, dIndex, dCallS, dYes, wipeE, dXf, dIsX, List.map_cons, List.map_nil, List.cons_append, List.nil_append, List.append_nil, List.length_cons, List.length_nil, List.replicate_succ, List.replicate_zero, Nat.reduceAdd, Nat.reduceSub, List.getElem?_cons_zero, List.getElem?_cons_succ, List.set_cons_zero, List.set_cons_succ, Nat.zero_add, Nat.add_zero, Nat.sub_self, g_eq]
    obtain ⟨t, ht⟩ := Option.isSome_iff_exists.mp hd
    exact .inr ⟨rfl, t, false, ht, C.kit t (dty_mem ht), q⟩
  · simp only [dDef, dRet, dRetL, dSeq, dIfS, dTst, dNotB, dAndB, dOrB, dAndV, dOrV, dNotV, dNeg, dIf, dCB, dCBL, dCons, dNil, dStar, dVar, dC, dCall, dOp, dOpL, dTup, dLst, dL, dSet, dAsg, dPar, dOwn, dExpr, dNx, dFor, dWhile, dRng1, dRng2, dItL, dItT, dSlot, dProp, dMeth, dMk, dMk0, dRaise, dPart, dNoPart, dSlL, dSlT, dRevL, dgName, dgTup, dgSets, dOwnIx, dOwnLen, dOwnTup, dApp, dSetI, dRel, relE, dItZip, dItTab, dItEnK, dItEn, dIsS, dJoinG, dSplit, dFmt, dJs, dIsT2, dIndex, dCallS, dYes, wipeE, dXf, dIsX, List.map_cons, List.map_nil, List.cons_append, List.nil_append, List.append_nil, List.length_cons, List.length_nil, List.replicate_succ, List.replicate_zero, Nat.reduceAdd, Nat.reduceSub, List.getElem?_cons_zero, List.getElem?_cons_succ, List.set_cons_zero, List.set_cons_succ, Nat.zero_add, Nat.add_zero, Nat.sub_self, g_eq]
    refine .inl ⟨rfl, C.sc, C.si, true, kit_self _ _, ?_⟩
    simp only [if_true]
    exact ⟨trivial, _, rfl, trivial, _, rfl, by simpa [dat] using hx, by simpa [dat] using hy, q⟩
end Pr

set_option maxHeartbeats 4000000
/-! A drawn rule, a rule built of it. -/
namespace Pr
open PySem PySem.Spec PyProof.Rows L2 Dl Dv Dk Gx

/-- the values of all rules -/
def drawn : List (List D) := [D.int 1, .int 2, .int 3].flatMap fun s => [D.str "round", .str "fro", .str "step"].flatMap fun w => [D.str "first", .str "last"].flatMap fun f => [D.int 0, .int 2, .int 3, .int 4].flatMap fun a => [D.str "on", .str "anew"].map fun l => [s, w, f, a, l]
theorem drawn_mem {s w f a l : D} (h1 : s ∈ [D.int 1, .int 2, .int 3]) (h2 : w ∈ [D.str "round", .str "fro", .str "step"]) (h3 : f ∈ [D.str "first", .str "last"]) (h4 : a ∈ [D.int 0, .int 2, .int 3, .int 4]) (h5 : l ∈ [D.str "on", .str "anew"]) : [s, w, f, a, l] ∈ drawn :=
  List.mem_flatMap.mpr ⟨s, h1, List.mem_flatMap.mpr ⟨w, h2, List.mem_flatMap.mpr ⟨f, h3, List.mem_flatMap.mpr ⟨a, h4, List.mem_map.mpr ⟨l, h5, rfl⟩⟩⟩⟩⟩
theorem drawn_of {r : List D} (h : r ∈ drawn) : ∃ s w f a l, r = [s, w, f, a, l] ∧ s ∈ [D.int 1, .int 2, .int 3] ∧ w ∈ [D.str "round", .str "fro", .str "step"] ∧ f ∈ [D.str "first", .str "last"] ∧ a ∈ [D.int 0, .int 2, .int 3, .int 4] ∧ l ∈ [D.str "on", .str "anew"] := by
  obtain ⟨s, h1, h⟩ := List.mem_flatMap.mp h
  obtain ⟨w, h2, h⟩ := List.mem_flatMap.mp h
  obtain ⟨f, h3, h⟩ := List.mem_flatMap.mp h
  obtain ⟨a, h4, h⟩ := List.mem_flatMap.mp h
  obtain ⟨l, h5, h⟩ := List.mem_map.mp h
  exact ⟨s, w, f, a, l, h.symm, h1, h2, h3, h4, h5⟩
theorem atI_in {α : Type} {xs : List α} {i : Int} (h0 : 0 ≤ i) (h1 : i < xs.length) : ∃ d, atI xs i = some d ∧ d ∈ xs := by
  have h2 : i.toNat < xs.length := by omega
  refine ⟨xs[i.toNat], ?_, List.getElem_mem h2⟩
  unfold atI ixN
  rw [if_pos h0, if_pos h1]
  exact List.getElem?_eq_getElem h2
theorem ix_draw {xs : List D} {i : Int} {Q : D → Prop} (h0 : 0 ≤ i) (h1 : i < xs.length) (h : ∀ d ∈ xs, Q d) : gIx (.lst xs) (.int i) Q := by
  obtain ⟨d, e, m⟩ := atI_in h0 h1
  exact ⟨d, e, h d m⟩
/-- a draw below a told number -/
theorem next_ok {b : Int} {Q : D → Prop} {R : DX} (hb : 0 < b) (hl : b < 2 ^ 200) (h : ∀ r, 0 ≤ r → r < b → Q (.int r)) : Fnext [.vol, .int b] Q R := by
  refine ⟨b, rfl, hb, ?_, h⟩
  have h1 : b.natAbs < 2 ^ 200 := by omega
  rcases Nat.eq_zero_or_pos b.natAbs with z | z
  · rw [z]; decide
  · have := (Nat.log2_lt (by omega)).mpr h1
    omega
def l1_rule : DA := dLst (dCons (dOp gAddU (dC (.int 1)) (dCall 2 Fnext (dCons (dVar 0) (dCons (dC (.int 3)) dNil)))) (dCons (dOp gIx (dL (dLst (dCons (dC (.str "round")) (dCons (dC (.str "fro")) (dCons (dC (.str "step")) dNil))))) (dCall 2 Fnext (dCons (dVar 0) (dCons (dC (.int 3)) dNil)))) (dCons (dOp gIx (dL (dLst (dCons (dC (.str "first")) (dCons (dC (.str "last")) dNil)))) (dCall 2 Fnext (dCons (dVar 0) (dCons (dC (.int 2)) dNil)))) dNil)))
def l2_rule : DA := dLst (dCons (dOp gIx (dL (dLst (dCons (dC (.int 0)) (dCons (dC (.int 2)) (dCons (dC (.int 3)) (dCons (dC (.int 4)) dNil)))))) (dCall 2 Fnext (dCons (dVar 0) (dCons (dC (.int 4)) dNil)))) (dCons (dOp gIx (dL (dLst (dCons (dC (.str "on")) (dCons (dC (.str "anew")) dNil)))) (dCall 2 Fnext (dCons (dVar 0) (dCons (dC (.int 2)) dNil)))) dNil))
def g_l_rule : DG := dSeq (dSet 1 (dL l1_rule)) (dRetL (dOpL gCatL (dVar 1) (dL l2_rule)))
def F_l_rule : Dh.DFL := fun ds Q _ => ds = [.vol] ∧ ∀ r ∈ drawn, Q r
theorem law_l_rule (ds : List D) (Q : List D → Prop) (R : DX) (h : F_l_rule ds Q R) : Dh.dDefL 2 g_l_rule ds Q R := by
  obtain ⟨rfl, q⟩ := h
  simp only [Dh.dDefL, dDef, dRet, dRetL, dSeq, dIfS, dTst, dNotB, dAndB, dOrB, dAndV, dOrV, dNotV, dNeg, dIf, dCB, dCBL, dCons, dNil, dStar, dVar, dC, dCall, dOp, dOpL, dTup, dLst, dL, dSet, dAsg, dPar, dOwn, dExpr, dNx, dFor, dWhile, dRng1, dRng2, dItL, dItT, dSlot, dProp, dMeth, dMk, dMk0, dRaise, dPart, dNoPart, dSlL, dSlT, dRevL, dgName, dgTup, dgSets, dOwnIx, dOwnLen, dOwnTup, dApp, dSetI, dRel, relE, dItZip, dItTab, dItEnK, dItEn, dIsS, dJoinG, dSplit, dFmt, dJs, dIsT2, dIndex, dCallS, dYes, wipeE, dXf, dIsX, List.map_cons, List.map_nil, List.cons_append, List.nil_append, List.append_nil, List.length_cons, List.length_nil, List.replicate_succ, List.replicate_zero, Nat.reduceAdd, Nat.reduceSub, List.getElem?_cons_zero, List.getElem?_cons_succ, List.set_cons_zero, List.set_cons_succ, Nat.zero_add, Nat.add_zero, Nat.sub_self, g_l_rule, l1_rule]
  refine ⟨trivial, next_ok (by decide) (by decide) fun r1 a1 b1 => .inl ?_⟩
  refine ⟨by decide, trivial, next_ok (by decide) (by decide) fun r2 a2 b2 => ?_⟩
  refine ix_draw a2 (by simpa using b2) fun w hw => ?_
  refine ⟨by decide, trivial, next_ok (by decide) (by decide) fun r3 a3 b3 => ?_⟩
  refine ix_draw a3 (by simpa using b3) fun f hf => ?_
  refine ⟨by decide, ?_⟩
  simp only [dDef, dRet, dRetL, dSeq, dIfS, dTst, dNotB, dAndB, dOrB, dAndV, dOrV, dNotV, dNeg, dIf, dCB, dCBL, dCons, dNil, dStar, dVar, dC, dCall, dOp, dOpL, dTup, dLst, dL, dSet, dAsg, dPar, dOwn, dExpr, dNx, dFor, dWhile, dRng1, dRng2, dItL, dItT, dSlot, dProp, dMeth, dMk, dMk0, dRaise, dPart, dNoPart, dSlL, dSlT, dRevL, dgName, dgTup, dgSets, dOwnIx, dOwnLen, dOwnTup, dApp, dSetI, dRel, relE, dItZip, dItTab, dItEnK, dItEn, dIsS, dJoinG, dSplit, dFmt, dJs, dIsT2, dIndex, dCallS, dYes, wipeE, dXf, dIsX, List.map_cons, List.map_nil, List.cons_append, List.nil_append, List.append_nil, List.length_cons, List.length_nil, List.replicate_succ, List.replicate_zero, Nat.reduceAdd, Nat.reduceSub, List.getElem?_cons_zero, List.getElem?_cons_succ, List.set_cons_zero, List.set_cons_succ, Nat.zero_add, Nat.add_zero, Nat.sub_self, l2_rule]
  refine ⟨by decide, trivial, next_ok (by decide) (by decide) fun r4 a4 b4 => ?_⟩
  refine ix_draw a4 (by simpa using b4) fun a ha => ?_
  refine ⟨by decide, trivial, next_ok (by decide) (by decide) fun r5 a5 b5 => ?_⟩
  refine ix_draw a5 (by simpa using b5) fun l hl => ?_
  refine ⟨by decide, ?_⟩
  refine ⟨(show 5 ≤ sizeLine by decide), q _ (drawn_mem ?_ hw hf ha hl)⟩
  have : r1 = 0 ∨ r1 = 1 ∨ r1 = 2 := by omega
  rcases this with rfl | rfl | rfl <;> simp
/-- Rule(t[0], .., t[4]) -/
def g_l_built (K : PySem.W.Frag) : DG := dRet (dCall 5 (F_Rule K) (dCons (dOp gIx (dVar 0) (dC (.int 0))) (dCons (dOp gIx (dVar 0) (dC (.int 1))) (dCons (dOp gIx (dVar 0) (dC (.int 2))) (dCons (dOp gIx (dVar 0) (dC (.int 3))) (dCons (dOp gIx (dVar 0) (dC (.int 4))) dNil))))))
def ruleD (K : PySem.W.Frag) (r : List D) : D := .obj (aR K) [.tup r]
def F_l_built (K : PySem.W.Frag) : DF := fun ds Q R => ∃ r, ds = [.lst r] ∧ F_Rule K r Q R
theorem rows5 {r : List D} (h : rows r = true) : ∃ a b c d e, r = [a, b, c, d, e] := by
  simp only [rows, Bool.and_eq_true, decide_eq_true_eq] at h
  match r, h.1 with
  | [a, b, c, d, e], _ => exact ⟨a, b, c, d, e, rfl⟩
theorem law_l_built (K : PySem.W.Frag) (ds : List D) (Q : D → Prop) (R : DX) (h : F_l_built K ds Q R) : dDef 1 (g_l_built K) ds Q R := by
  obtain ⟨r, rfl, hF⟩ := h
  obtain ⟨a, b, c, d, e, rfl⟩ := rows5 hF.1
  simp only [dDef, dRet, dRetL, dSeq, dIfS, dTst, dNotB, dAndB, dOrB, dAndV, dOrV, dNotV, dNeg, dIf, dCB, dCBL, dCons, dNil, dStar, dVar, dC, dCall, dOp, dOpL, dTup, dLst, dL, dSet, dAsg, dPar, dOwn, dExpr, dNx, dFor, dWhile, dRng1, dRng2, dItL, dItT, dSlot, dProp, dMeth, dMk, dMk0, dRaise, dPart, dNoPart, dSlL, dSlT, dRevL, dgName, dgTup, dgSets, dOwnIx, dOwnLen, dOwnTup, dApp, dSetI, dRel, relE, dItZip, dItTab, dItEnK, dItEn, dIsS, dJoinG, dSplit, dFmt, dJs, dIsT2, dIndex, dCallS, dYes, wipeE, dXf, dIsX, List.map_cons, List.map_nil, List.cons_append, List.nil_append, List.append_nil, List.length_cons, List.length_nil, List.replicate_succ, List.replicate_zero, Nat.reduceAdd, Nat.reduceSub, List.getElem?_cons_zero, List.getElem?_cons_succ, List.set_cons_zero, List.set_cons_succ, Nat.zero_add, Nat.add_zero, Nat.sub_self, g_l_built]
  exact ⟨a, rfl, b, rfl, c, rfl, d, rfl, e, rfl, trivial, hF⟩
theorem drawn_rows : ∀ r ∈ drawn, rows r = true ∧ badAt kvs_POINTS r = none := by
  have h : (drawn.all fun r => rows r && (badAt kvs_POINTS r).isNone) = true := by decide +kernel
  intro r hr
  have := List.all_eq_true.mp h r hr
  simp only [Bool.and_eq_true, Option.isNone_iff_eq_none] at this
  exact this
theorem F_Rule_ok {K : PySem.W.Frag} {r : List D} {Q : D → Prop} {R : DX} (h : r ∈ drawn) (q : Q (ruleD K r)) : F_Rule K r Q R := by
  obtain ⟨h1, h2⟩ := drawn_rows r h
  exact ⟨h1, by rw [h2]; exact q⟩
end Pr

set_option maxHeartbeats 4000000
/-! The classes of errors: made with and without fields. -/
namespace Pr
open PySem PySem.Spec PyProof.Rows L2 Dl Dv Dk Gx

/-- a class of errors with an __init__ of its own that stores its arguments -/
structure XI (P : Program) (w : World) (K : PySem.W.Frag) (mg : Str → Option Value) (base : Heap) (k : Nat) (x : Str) (C : Addr) (ns : List Str) : Prop where
  ex : ∃ fI fd ps, OexC K C ∧ PySem.W.findIn K (.ref C) "__init__" = some (some (.ref fI)) ∧ PySem.W.typeIn K (.ref fI) = some (.type "function") ∧ FnOk P w K mg base (L2.CX P w) k fI fd ps (spX C ns) ∧ Binds K fd ps [] ∧ mg x = some (.ref C)
structure X0 (K : PySem.W.Frag) (mg : Str → Option Value) (x : Str) (C : Addr) : Prop where
  q : PySem.W.excIn K C He.veBase "ValueError.__new__" = true
  g : mg x = some (.ref C)
  kp : PySem.W.keepIn K (.ref C) = true
  r1 : PySem.W.subIn K (.ref C) (.type "BaseException") = some true
  r2 : PySem.W.typeIn K (.ref C) = some (.type "type")
section
variable {X : Cx} {W : WX} {e : Expr} {es : List Expr} {pos p : Pos} {fs : DA} {x : Str} {C : Addr} {j k : Nat} {ns : List Str}
theorem XI.mk' (I : XI X.prog X.w X.K X.mg X.base k x C ns) (hr : Room (k + 1) X.A) (ha : PDA X W (e :: es) fs) (hn : ns.length ≤ 1000 := by decide) (hg : Gl X x := by rfl)
    (hdb : (x == ("__debug__" : Str)) = false := by decide) (he : starEach (e :: es) X.env = (false, eval e X.env) :: starEach es X.env := by rfl) (hpl : (backTo pos (starEach es X.env)).any (·.1) = false := by rfl) : PDM X W (.Call (.Name x p) (e :: es) [] pos) (dMk C ns fs) := by
  obtain ⟨fI, fd, ps, T, iC, tI, F1, hb, hm⟩ := I.ex
  exact pmd_oex T iC tI F1 hr hb (fun _ _ _ _ _ _ _ ⟨_, _, _, _, _, _, _, _, _, _, _, _, z⟩ => z.elim) hg hm ha hn hdb he hpl
theorem X0.mk' (I : X0 X.K X.mg x C) (hg : Gl X x := by rfl) (hdb : (x == ("__debug__" : Str)) = false := by decide) : PDM X W (.Call (.Name x p) [] [] pos) (dMk0 C) :=
  pmd_own0 PySem.F.excBase_ValueError I.q I.g I.kp (raises_own I.r1 I.r2) hg hdb
theorem nmOf {c : Addr} (h : X.mg x = some (.ref c)) (hg : Gl X x := by rfl) (hdb : (x == ("__debug__" : Str)) = false := by decide) : Names X x (.ref c) := ⟨hg, hdb, .inl h⟩
end
section
variable {P : Program} {w : World} {K : PySem.W.Frag} {mg : Str → Option Value} {base : Heap} {x qual : Str} {params : Arguments} {scope : Scope} {f : Addr} {fd : FuncData} {k : Nat} {C : Addr}
/-- def __init__(self, a): self.a = a -/
theorem initX1 {s1 : Stmt} {a self : Str} (FD : FunD K x qual params [s1] scope [] [] f fd) (S : FnScope [self, a] [self, a] scope) (T : OexC K C) (hno : PySem.W.findIn K (.ref C) a = some none)
    (hb : ∀ (cdv : Value) (A : Around) (outer : List Env) (s : Shared) (H : Hp) (E : XK), L2.PS (cxOf (L2.CX P w) P w K mg base [self, a] qual scope f cdv A outer s H E) s1 (tOst K a (tVar 0) (tVar 1))) :
    FnOk P w K mg base (L2.CX P w) (k + 1) f fd [self, a] (spX C [a]) := by
  refine FD.ok S (fun vs H Q E h => ?_) fun cdv A outer s H vs Q E hr h => ⟨_, pss_one (hb cdv A outer s H E), ?_⟩
  · obtain ⟨b, ys, H1, rfl, hl, _⟩ := h
    simp at hl ⊢
    exact hl
  · obtain ⟨b, ys, H1, rfl, hl, hn, rfl, q⟩ := h
    match ys, hl with
    | [y], _ =>
      refine ⟨y, rfl, .ref b, rfl, b, C, rfl, T, hno, .inl ⟨upd_same, fun dx hdx hne => ?_⟩⟩
      have hdx' : H1 dx = none := by rw [upd_ne hne] at hdx; exact hdx
      refine q dx _ hdx' hne upd_same ?_ (fun c h1 h2 => ?_)
      · rw [upd_ne hne, upd_same]
        rfl
      · rw [upd_ne h1, upd_ne h2, upd_ne h1]
/-- def __init__(self, a, b): self.a = a; self.b = b -/
theorem initX2 {s1 s2 : Stmt} {a b self : Str} (FD : FunD K x qual params [s1, s2] scope [] [] f fd) (S : FnScope [self, a, b] [self, a, b] scope) (T : OexC K C) (hno : PySem.W.findIn K (.ref C) a = some none) (hno2 : PySem.W.findIn K (.ref C) b = some none)
    (hb : ∀ (cdv : Value) (A : Around) (outer : List Env) (s : Shared) (H : Hp) (E : XK), L2.PS (cxOf (L2.CX P w) P w K mg base [self, a, b] qual scope f cdv A outer s H E) s1 (tOst K a (tVar 0) (tVar 1)) ∧ L2.PS (cxOf (L2.CX P w) P w K mg base [self, a, b] qual scope f cdv A outer s H E) s2 (tOst K b (tVar 0) (tVar 2))) :
    FnOk P w K mg base (L2.CX P w) (k + 1) f fd [self, a, b] (spX C [a, b]) := by
  refine FD.ok S (fun vs H Q E h => ?_) fun cdv A outer s H vs Q E hr h => ⟨_, pss_cons (hb cdv A outer s H E).1 (pss_one (hb cdv A outer s H E).2), ?_⟩
  · obtain ⟨b, ys, H1, rfl, hl, _⟩ := h
    simp at hl ⊢
    exact hl
  · obtain ⟨b', ys, H1, rfl, hl, hn, rfl, q⟩ := h
    match ys, hl with
    | [y, z], _ =>
      refine ⟨y, rfl, .ref b', rfl, b', C, rfl, T, hno, .inl ⟨upd_same, fun dx hdx hne => ?_⟩⟩
      have hdx' : H1 dx = none := by rw [upd_ne hne] at hdx; exact hdx
      refine ⟨z, rfl, .ref b', rfl, b', C, rfl, T, hno2, .inr ⟨dx, [(a, y)], upd_same, by rw [upd_ne hne, upd_same], (show 1 ≤ 900 by omega), ?_⟩⟩
      refine q dx _ hdx' hne (by rw [upd_ne (Ne.symm hne), upd_same]) upd_same (fun c h1 h2 => ?_)
      rw [upd_ne h2, upd_ne h1, upd_ne h2, upd_ne h1]
end
/-- isinstance(e, c), e the exception of a suite, whatever its class -/
def dIsY (K : PySem.W.Frag) (a : Addr) (cls : Value) (d : Option Addr) (c : Addr) (i : Nat) : DE := fun env Q R => ∃ D, cls = .ref D ∧ ExcC K D ∧ dIsX K a cls d c i env Q R
theorem isXU {X : Cx} {W : WX} {a c : Addr} {oe : Obj} {cls : Value} {d : Option Addr} {pn : List (Addr × Obj)} {x y : Str} {i : Nat} {p p1 p2 pos : Pos} (hz : Zc cls d oe) (hf : ∃ vs, oe.data = .fields vs) (he : L2.PE (X.suite a ((a, oe) :: pn)) (.Name x p1) (tVar i)) (hmi : X.mg "isinstance" = none) (hm : X.mg y = some (.ref c)) (hgi : Gl X "isinstance" := by rfl) (hg : Gl X y := by rfl) (hdb : (y == ("__debug__" : Str)) = false := by decide)
    (hs : starEach [.Name x p1, .Name y p2] X.env = (false, eval (.Name x p1) X.env) :: starEach [.Name y p2] X.env := by rfl) (hs2 : starEach [.Name y p2] X.env = (false, eval (.Name y p2) X.env) :: starEach [] X.env := by rfl)
    (hpl : (backTo pos (starEach [.Name y p2] X.env)).any (·.1) = false := by rfl) :
    PD (X.suite a ((a, oe) :: pn)) W (.Call (.Name "isinstance" p) [.Name x p1, .Name y p2] [] pos) (dIsY X.K a cls d c i) := by
  refine ⟨fun pins s σ H Q I ⟨Z, O, env, Q0, R0, at_, ⟨D, e, T, hf'⟩, xk, q⟩ => ?_⟩
  subst e
  exact (pd_isX (W := W) T hz hf he hgi hmi hg hm hdb hs hs2 hpl).run pins s σ H Q I ⟨Z, O, env, Q0, R0, at_, hf', xk, q⟩
end Pr

set_option maxHeartbeats 4000000
/-! Rule.__init__, over trees. -/
namespace Pr
open PySem PySem.Spec PyProof.Rows L2 Dl Dv Dk Gx
theorem badAt_flat : ∀ (kv : List (Str × List D)) (ds : List D), kv.length = ds.length → badAt kv ds = none → (∀ p ∈ kv, (toVs p.2).isSome = true) → (toVs ds).isSome = true
  | [], [], _, _, _ => rfl
  | [], _ :: _, h, _, _ => by simp at h
  | _ :: _, [], h, _, _ => by simp at h
  | (k, xs) :: kv, d :: ds, hl, hb, hk => by
    unfold badAt at hb
    cases ho : isOne d xs with
    | false => rw [ho] at hb; cases hb
    | true =>
      rw [ho] at hb
      have ih := badAt_flat kv ds (by simpa using hl) hb fun p hp => hk p (List.mem_cons_of_mem _ hp)
      obtain ⟨vs, hvs⟩ := Option.isSome_iff_exists.mp ih
      have hd : ∃ v, toV d = some v := by
        cases d <;> simp [isOne] at ho <;> exact ⟨_, rfl⟩
      obtain ⟨v, hv⟩ := hd
      unfold toVs
      rw [hv, hvs]
      rfl
theorem kvs_ok : ∀ p ∈ kvs_POINTS, kvs_POINTS.lookup p.1 = some p.2 ∧ (toVs p.2).isSome = true := by
  intro p hp
  simp only [kvs_POINTS, List.mem_cons, List.not_mem_nil, or_false] at hp
  rcases hp with rfl | rfl | rfl | rfl | rfl <;> exact ⟨by kernel_rfl, by kernel_rfl⟩
theorem names_eq : kvs_POINTS.map (·.1) = ks_POINTS := by simp only [kvs_POINTS, ks_POINTS, List.map_cons, List.map_nil]
theorem init_F (K : PySem.W.Frag) (y : Addr) (ds : List D) (Q : D → Prop) (R : DX) (h : F_Rule K ds Q R) :
    dSeq g1_init (g2_init K) (.val (.raw (.ref y)) :: (ds.map .val ++ List.replicate (9 - (ds.length + 1)) .un)) ⟨fun e => ∃ es, e[0]? = some (.val (.raw (.ref y))) ∧ e[6]? = some (.val (.tup es)) ∧ (toVs es).isSome = true ∧ Q (.obj (aR K) [.tup es]), fun _ _ => False, fun _ => False, fun _ => False, fun _ => False, fun x _ => R x⟩ := by
  obtain ⟨h1, h2⟩ := h
  obtain ⟨a, b, c, d, e, rfl⟩ := rows5 h1
  have hd : ∀ z ∈ [a, b, c, d, e], (dty z).isSome = true := by
    simp only [rows, Bool.and_eq_true] at h1
    exact fun z hz => List.all_eq_true.mp h1.2 z hz
  have hlen : ks_POINTS.length = [a, b, c, d, e].length := by simp only [ks_POINTS, List.length_cons, List.length_nil]
  have hl2 : kvs_POINTS.length = [a, b, c, d, e].length := by simp only [kvs_POINTS, List.length_cons, List.length_nil]
  have loop := fun (k : Kn) (hn : badAt kvs_POINTS [a, b, c, d, e] = none → ∀ s7 s8, k.nx [.val (.raw (.ref y)), .val a, .val b, .val c, .val d, .val e, .val (.tup [a, b, c, d, e]), s7, s8]) hx =>
    init_loop K (.val (.raw (.ref y))) (.val a) (.val b) (.val c) (.val d) (.val e) (.val (.tup [a, b, c, d, e])) k kvs_POINTS [a, b, c, d, e] [.val (.raw (.ref y)), .val a, .val b, .val c, .val d, .val e, .val (.tup [a, b, c, d, e]), .un, .un] ⟨.un, .un, rfl⟩ hl2 kvs_ok hd hn hx
  rw [names_eq] at loop
  generalize hz : zipD ks_POINTS [a, b, c, d, e] = zs at loop
  refine ⟨(show 5 ≤ sizeLine by decide), rfl, hlen, ?_⟩
  show dForL (dgTup [7, 8]) (gb_init K) (zipD ks_POINTS [a, b, c, d, e]) _ _
  rw [hz]
  refine loop _ (fun hb s7 s8 => ?_) (fun p hb env => ?_)
  · rw [hb] at h2
    exact ⟨[a, b, c, d, e], rfl, rfl, badAt_flat kvs_POINTS _ hl2 hb fun p hp => (kvs_ok p hp).2, h2⟩
  · rw [hb] at h2
    exact h2
end Pr

set_option maxHeartbeats 4000000
/-! More short names: subscripts by readings, built-ins over lists, list(range). -/
namespace Gx
open PySem PySem.Spec PyProof.Rows L2 Dl Dv Dk
section
variable {X : Cx} {W : WX} {pos pos' p p2 p3 apos tpos : Pos} {a b e e2 tg iter : Expr} {es : List Expr} {fa fb fe fi : DE} {fs : DA} {x y : Str} {j k n : Nat} {F : DF}
theorem px {ta tb : TE} (ha : L2.PE X a ta) (hb : L2.PE X b tb) (hs : PlainIx b := by exact fun _ _ => rfl) : L2.PE X (.Subscript a b pos) (tOp (rIx X.K) ta tb) := pe_ix ix_seq ha hb hs
theorem ds_retN : PDS X W (.Return none pos) (dRet (dC .non)) := PS.imp ps_retN fun D σ H ⟨Z, O, env, k, a, h, ko⟩ => ko.rt _ _ h O _ .non H (Le.refl _) a .non
theorem bMaxL (c : Cn X W j) (hm : X.mg "max" = none) (ha : PDA X W [e] fs) (hg : Gl X "max" := by rfl) (h1 : starEach [e] X.env = (false, eval e X.env) :: starEach [] X.env := by rfl) (h2 : (backTo pos (starEach [] X.env)).any (·.1) = false := by rfl) : PD X W (.Call (.Name "max" p) [e] [] pos) (dCB gMaxL fs) := pd_callB (cr_max c.hc) cd_maxL hg hm (by kernel_rfl) ha (by decide) (by decide) h1 h2
theorem bMinL (c : Cn X W j) (hm : X.mg "min" = none) (ha : PDA X W [e] fs) (hg : Gl X "min" := by rfl) (h1 : starEach [e] X.env = (false, eval e X.env) :: starEach [] X.env := by rfl) (h2 : (backTo pos (starEach [] X.env)).any (·.1) = false := by rfl) : PD X W (.Call (.Name "min" p) [e] [] pos) (dCB gMinL fs) := pd_callB (cr_min c.hc) cd_minL hg hm (by kernel_rfl) ha (by decide) (by decide) h1 h2
theorem bSumL (c : Cn X W j) (hm : X.mg "sum" = none) (ha : PDA X W [e] fs) (hg : Gl X "sum" := by rfl) (h1 : starEach [e] X.env = (false, eval e X.env) :: starEach [] X.env := by rfl) (h2 : (backTo pos (starEach [] X.env)).any (·.1) = false := by rfl) : PD X W (.Call (.Name "sum" p) [e] [] pos) (dCB gSumL fs) := pd_callB (cr_sum c.hc) cd_sumL hg hm (by kernel_rfl) ha (by decide) (by decide) h1 h2
theorem bAll (c : Cn X W j) (hm : X.mg "all" = none) (ha : PDA X W [e] fs) (hg : Gl X "all" := by rfl) (h1 : starEach [e] X.env = (false, eval e X.env) :: starEach [] X.env := by rfl) (h2 : (backTo pos (starEach [] X.env)).any (·.1) = false := by rfl) : PD X W (.Call (.Name "all" p) [e] [] pos) (dCB gAll fs) := pd_callB (cr_all c.hc) cd_all hg hm (by kernel_rfl) ha (by decide) (by decide) h1 h2
theorem call_strU : CallR X (.type "str") (fun xs H Q => (∃ i, xs = [V.int i] ∧ i.natAbs.log2 < 1920 ∧ Q (.str (toString i)) H) ∨ ∃ a, xs = [V.str a] ∧ Q (.str a) H) := fun pins s σ H xs us Q I r h => h.elim (call_str_int pins s σ H xs us Q I r) (SkE.call_str_str pins s σ H xs us Q I r)
theorem bTabS {d : Addr} {ks : List Str} (c : Cn X W j) (T : KTab X.K X.w d ks n) (hs : ks.length < 64) (hm : X.mg "sorted" = none) (ha : PDA X W [e] fs) (hg : Gl X "sorted" := by rfl) (h1 : starEach [e] X.env = (false, eval e X.env) :: starEach [] X.env := by rfl) (h2 : (backTo pos (starEach [] X.env)).any (·.1) = false := by rfl) : PDL X W (.Call (.Name "sorted" p) [e] [] pos) (dCBL (gTabS d ks) fs) := pdl_callB (call_tabS T hs c.hc) cdl_tabS hg hm (by kernel_rfl) ha (by decide) (by decide) h1 h2
/-- list(range(..)) -/
def rgD (a b : Int) : List D := (List.range (b - a).toNat).map fun i : Nat => .int (a + (i : Int))
theorem rg_rep {K : PySem.W.Frag} {vl : Option (Addr × Addr)} {G : Hp} (a b : Int) : Reps K vl G (rgV a b) (rgD a b) := by
  unfold rgV rgD
  generalize List.range (b - a).toNat = l
  induction l with
  | nil => exact .nil
  | cons i l ih => exact .cons _ _ _ _ (.int _) ih
def dListR1 (f : DE) : DA := fun env Q R => f env (fun d => match d with
  | .int n => RgOk 0 n ∧ Q (rgD 0 n)
  | _ => False) R
def dListR2 (f g : DE) : DA := fun env Q R => f env (fun d => g env (fun e => match d, e with
  | .int m, .int n => RgOk m n ∧ Q (rgD m n)
  | _, _ => False) R) R
theorem bListR1 (c : Cn X W j) (hl : X.mg "list" = none) (hm : X.mg "range" = none) (ha : PD X W a fa) (hg : Gl X "range" := by rfl) (hgl : Gl X "list" := by rfl) (h1 : starEach [a] X.env = (false, eval a X.env) :: starEach [] X.env := by rfl) (h2 : (backTo p2 (starEach [] X.env)).any (·.1) = false := by rfl)
    (h3 : starEach [.Call (.Name "range" p) [a] [] p2] X.env = (false, eval (.Call (.Name "range" p) [a] [] p2) X.env) :: starEach [] X.env := by rfl) : PDL X W (.Call (.Name "list" p3) [.Call (.Name "range" p) [a] [] p2] [] pos) (dListR1 fa) :=
  PE.imp (pe_listRg c.hc hgl hl (prg_1 hg hm ha h1) h3) fun σ H Q ⟨Z, O, env, Q0, R0, at_, hf, xk, q⟩ => DT.mk at_ hf xk fun d hd v H1 s r => by
    cases d <;> first | exact False.elim hd | skip
    cases r
    exact ⟨_, rfl, hd.1, fun l hl => q _ hd.2 l _ H1 s hl (rg_rep _ _)⟩
end
end Gx

set_option maxHeartbeats 4000000
/-! Facts of the written part, looked at by a Bool: classes with slots, properties, == of one's own, errors with fields, the table's values. -/
namespace Hd
open PySem PySem.Spec PyProof.Rows L2 He Dl Dv Dk Pr

def six : List String := ["NoneType", "bool", "int", "str", "tuple", "list"]
/-- the getter of a property -/
def gAd (K : PySem.W.Frag) (C : Addr) (f : Str) : Addr := match PySem.W.recIn K (ma K C f) "property" with
  | some (.ref g :: _) => g
  | _ => 0
inductive Fx where
  | fa (f : Fa)
  | scls (x : Str)
  | slot (x f : Str) (i : Nat)
  | kit (x : Str)
  | prop (x f : Str)
  | eq (x : Str)
  | oex (x : Str)
  | xf (x : Str)
  | exc (x : Str)
  | kitx (x y : Str) (b : Bool)
  | kitt (x : Str) (t : String) (b : Bool)
  | tabv (kvs : List (Str × List D))
  | dfn (x : Str)
  | kits (xs : List Str)
def oexB (K : PySem.W.Frag) (C : Addr) : Bool := (match K.lookup C with
  | some ⟨.type "type", _, .cls cd, sl⟩ => (match cd.mro, sl.toList with
    | .ref C' :: bm, [_, _, _, _, some (.builtin n), _] => C' == C && (n == "ValueError.__new__" && (!cd.hasDel && (cd.hasDict && PySem.HandSPX.refsVE bm)))
    | _, _ => false)
  | _ => false) && (eqO (PySem.W.findIn K (.ref C) "__setattr__") (some (some (.builtin "object.__setattr__"))) && (decide (PySem.W.subIn K (.ref C) (.type "BaseException") = some true) && (decide (PySem.W.typeIn K (.ref C) = some (.type "type")) && PySem.W.keepIn K (.ref C))))
theorem oexB_ok {K : PySem.W.Frag} {C : Addr} (h : oexB K C = true) : OexC K C := by
  obtain ⟨q, h⟩ := ba h
  obtain ⟨h1, h⟩ := ba h
  obtain ⟨h2, h⟩ := ba h
  obtain ⟨h3, h4⟩ := ba h
  refine ⟨?_, eqO_ok h1, of_decide_eq_true h2, of_decide_eq_true h3, h4⟩
  split at q
  · rename_i dd cd sl ho
    split at q
    · rename_i C' bm k0 k1 k2 k3 n k5 hm hs
      simp only [Bool.and_eq_true, beq_iff_eq, Bool.not_eq_true'] at q
      obtain ⟨rfl, rfl, hdel, hdi, ht⟩ := q
      obtain ⟨nm, bs, mro, ns, qn, hd, sn, sub, ab, col, del⟩ := cd
      dsimp only at hm hdel hdi
      subst hm hdel hdi
      have hsl : sl = #[k0, k1, k2, k3, some (.builtin "ValueError.__new__"), k5] := by
        obtain ⟨l⟩ := sl
        simp only at hs
        rw [hs]
      subst hsl
      exact ⟨_, _, _, _, _, _, _, _, _, _, _, _, _, _, _, ho, ht⟩
    · cases q
  · cases q
def tupA (K : PySem.W.Frag) (a : Addr) (vs : List V) : Bool := match K.lookup a with
  | some ⟨.type c, _, .seq its _, _⟩ => decide (c = "tuple") && (decide (its.size ≤ sizeLine) && relAll vs its.toList)
  | _ => false
theorem tupA_ok {K : PySem.W.Frag} {a : Addr} {vs : List V} (h : tupA K a vs = true) (H : Hp) : SqT K H a vs := by
  unfold tupA at h
  cases q : K.lookup a with
  | none => rw [q] at h; cases h
  | some o =>
    obtain ⟨oc, od, dt, osl⟩ := o
    rw [q] at h
    cases oc with
    | type c =>
      cases dt with
      | seq its n =>
        obtain ⟨h1, h2⟩ := ba (show (decide (c = "tuple") && (decide (its.size ≤ sizeLine) && relAll vs its.toList)) = true from h)
        obtain ⟨h3, h4⟩ := ba h2
        exact .inr ⟨_, its, n, q, congrArg Value.type (of_decide_eq_true h1), rfl, of_decide_eq_true h3, relAll_ok h4⟩
      | _ => cases h
    | _ => cases dt <;> cases h
def tabvB (K : PySem.W.Frag) (a : Addr) (kvs : List (Str × List D)) : Bool := kvs.all fun p => (match PySem.W.nsIn K a p.1, toVs p.2 with
  | some (some (.ref b)), some vs => tupA K b vs
  | _, _ => false)
theorem lookup_mem {α : Type} {z : Str} {v : α} : ∀ {l : List (Str × α)}, l.lookup z = some v → (z, v) ∈ l
  | [], h => by cases h
  | (k, u) :: r, h => by
    by_cases e : z = k
    · subst e
      rw [List.lookup_cons_self] at h
      cases h
      exact List.mem_cons_self
    · have e2 : (z == k) = false := by simpa using e
      rw [List.lookup_cons, e2] at h
      exact List.mem_cons_of_mem _ (lookup_mem h)
theorem tabv_ok {K : PySem.W.Frag} {w : World} {a : Addr} {kvs : List (Str × List D)} (h : tabvB K a kvs = true) (ht : dicW K a = some (keysIn w.params (kvs.map (·.1)))) (nd : (kvs.map (·.1)).Nodup) : TabV K w a kvs := by
  refine ⟨ktab_of ht nd, fun z ds hz => ?_⟩
  obtain ⟨es, n, KD⟩ := dicW_ok ht
  have h2 := List.all_eq_true.mp h _ (lookup_mem hz)
  dsimp only at h2
  split at h2
  · rename_i b vs e1 e2
    exact ⟨b, ⟨es, n, .ref b, KD.at_, KD.lit, e1, rfl⟩, fun vl G => .tup b vs ds (tupA_ok h2 G) (reps_flat e2)⟩
  · cases h2
def Fx.ok (K : PySem.W.Frag) : Fx → Bool
  | .fa f => f.ok K
  | .scls x => PySem.W.plainGet K (ga K x) Str.empty && (PySem.W.isClsIn K (ga K x) && (PySem.W.plainOver K (ga K x) && (eqO (PySem.W.findIn K (.ref (ga K x)) "__setattr__") (some (some (.builtin "object.__setattr__"))) &&
      (eqO (PySem.W.findIn K (.ref (ga K x)) "__class__") (some (some (.builtin "object.__class__"))) && (eqO (PySem.W.specialIn K (.builtin "object.__class__") "__get__") (some (some (.builtin "getset_descriptor.__get__"))) &&
        (decide (PySem.W.takesIn K (.builtin "object.__class__") = some true) && decide (PySem.W.mroIn K (ga K x) (.type "object") = some true)))))))
  | .slot x f i => eqO (PySem.W.findIn K (.ref (ga K x)) f) (some (some (.ref (ma K (ga K x) f)))) && (eqO (PySem.W.specialIn K (.ref (ma K (ga K x) f)) "__get__") (some (some (.builtin "member_descriptor.__get__"))) &&
      (decide (PySem.W.takesIn K (.ref (ma K (ga K x) f)) = some true) && (decide (PySem.W.typeIn K (.ref (ma K (ga K x) f)) = some (.type "member_descriptor")) && (decide (PySem.W.slotIn K (ma K (ga K x) f) (ga K x) = some i) && decide (i < 1000)))))
  | .kit x => six.all fun t => decide (PySem.W.kitOne K (.type t) (.ref (ga K x)) = some false)
  | .prop x f => eqO (PySem.W.findIn K (.ref (ga K x)) f) (some (some (.ref (ma K (ga K x) f)))) && (eqO (PySem.W.specialIn K (.ref (ma K (ga K x) f)) "__get__") (some (some (.builtin "property.__get__"))) &&
      (decide (PySem.W.takesIn K (.ref (ma K (ga K x) f)) = some true) && (match PySem.W.recIn K (ma K (ga K x) f) "property" with | some (.ref _ :: _) => true | _ => false)))
  | .eq x => eqO (PySem.W.findIn K (.ref (ga K x)) "__eq__") (some (some (.ref (ma K (ga K x) "__eq__")))) && (PySem.W.isFn K (.ref (ma K (ga K x) "__eq__")) && six.all fun t => PySem.W.notFirst K (ga K x) (.type t))
  | .oex x => oexB K (ga K x) && (eqO (PySem.W.findIn K (.ref (ga K x)) "__init__") (some (some (.ref (ma K (ga K x) "__init__")))) && decide (PySem.W.typeIn K (.ref (ma K (ga K x) "__init__")) = some (.type "function")))
  | .xf x => xfB K (ga K x)
  | .exc x => eqO (PySem.W.findIn K (.ref (ga K x)) "__getattribute__") (some (some (.builtin "BaseException.__getattribute__"))) && (eqO (PySem.W.findIn K (.ref (ga K x)) "__getattr__") (some none) &&
      (decide (PySem.W.subIn K (.ref (ga K x)) (.type "BaseException") = some true) && (PySem.W.hasDictIn K (ga K x) && (eqO (PySem.W.findIn K (.ref (ga K x)) "__class__") (some (some (.builtin "object.__class__"))) &&
        (eqO (PySem.W.specialIn K (.builtin "object.__class__") "__get__") (some (some (.builtin "getset_descriptor.__get__"))) && (decide (PySem.W.takesIn K (.builtin "object.__class__") = some true) && decide (PySem.W.mroIn K (ga K x) (.type "object") = some true)))))))
  | .kitx x y b => decide (PySem.W.kitOne K (.ref (ga K x)) (.ref (ga K y)) = some b)
  | .kitt x t b => decide (PySem.W.kitOne K (.ref (ga K x)) (.type t) = some b)
  | .tabv kvs => tabvB K (aP K) kvs
  | .dfn x => PySem.W.isFn K (.ref (ga K x))
  | .kits xs => xs.all fun x => xs.all fun y => decide (PySem.W.kitOne K (.ref (ga K x)) (.ref (ga K y)) = some (x == y))
section
variable {K : PySem.W.Frag} {x y f : Str}
theorem scls_ok (h : (Fx.scls x).ok K = true) : SlX.SCls K (ga K x) ∧ SlX.SIsi K (ga K x) := by
  obtain ⟨h1, h⟩ := ba h
  obtain ⟨h2, h⟩ := ba h
  obtain ⟨h3, h⟩ := ba h
  obtain ⟨h4, h⟩ := ba h
  obtain ⟨h5, h⟩ := ba h
  obtain ⟨h6, h⟩ := ba h
  obtain ⟨h7, h8⟩ := ba h
  exact ⟨⟨h1, h2, h3, eqO_ok h4⟩, ⟨eqO_ok h5, eqO_ok h6, of_decide_eq_true h7, of_decide_eq_true h8⟩⟩
theorem slot_ok {i : Nat} (h : (Fx.slot x f i).ok K = true) : SlX.Slot1 K (ga K x) f (ma K (ga K x) f) i := by
  obtain ⟨h1, h⟩ := ba h
  obtain ⟨h2, h⟩ := ba h
  obtain ⟨h3, h⟩ := ba h
  obtain ⟨h4, h⟩ := ba h
  obtain ⟨h5, h6⟩ := ba h
  exact ⟨eqO_ok h1, eqO_ok h2, of_decide_eq_true h3, of_decide_eq_true h4, of_decide_eq_true h5, of_decide_eq_true h6⟩
theorem kit_ok (h : (Fx.kit x).ok K = true) : ∀ t, t ∈ six → PySem.W.kitOne K (.type t) (.ref (ga K x)) = some false := fun t ht => of_decide_eq_true (List.all_eq_true.mp h t ht)
theorem ruc_ok (h1 : (Fx.scls "Rule").ok K = true) (h2 : (Fx.slot "Rule" "row" 0).ok K = true) (h3 : (Fx.kit "Rule").ok K = true) : RuC K := ⟨(scls_ok h1).1, (scls_ok h1).2, ⟨_, slot_ok h2⟩, kit_ok h3⟩
theorem exc_ok' (h : (Fx.exc x).ok K = true) : ExcC K (ga K x) := by
  obtain ⟨h1, h⟩ := ba h
  obtain ⟨h2, h⟩ := ba h
  obtain ⟨h3, h⟩ := ba h
  obtain ⟨h4, h⟩ := ba h
  obtain ⟨h5, h⟩ := ba h
  obtain ⟨h6, h⟩ := ba h
  obtain ⟨h7, h8⟩ := ba h
  exact ⟨eqO_ok h1, eqO_ok h2, of_decide_eq_true h3, h4, eqO_ok h5, eqO_ok h6, of_decide_eq_true h7, of_decide_eq_true h8⟩
theorem kitx_ok {b : Bool} (h : (Fx.kitx x y b).ok K = true) : PySem.W.kitOne K (.ref (ga K x)) (.ref (ga K y)) = some b := of_decide_eq_true h
theorem kitt_ok {t : String} {b : Bool} (h : (Fx.kitt x t b).ok K = true) : PySem.W.kitOne K (.ref (ga K x)) (.type t) = some b := of_decide_eq_true h
theorem kits_ok {xs : List Str} (h : (Fx.kits xs).ok K = true) : ∀ x ∈ xs, ∀ y ∈ xs, PySem.W.kitOne K (.ref (ga K x)) (.ref (ga K y)) = some (x == y) := fun x hx y hy => of_decide_eq_true (List.all_eq_true.mp (List.all_eq_true.mp h x hx) y hy)
theorem xf_ok (h : (Fx.xf x).ok K = true) : XfC K (ga K x) := xfB_ok h
variable {P : Program} {w : World} {mg : Str → Option Value} {base : Heap} {k n : Nat} {fd : FuncData} {ps : List Str} {F G : DF}
theorem raw0 {f : Addr} {sp : Sp} (O : FnOk P w K mg base (L2.CX P w) k f fd ps sp) (hb : Binds K fd ps []) : FnR P w K mg base (L2.CX P w) k f sp := (O.raw hb .nil).imp fun vs H Q E h => by rw [List.append_nil]; exact h
/-- a def of the top: called by its name -/
theorem cal_ok {f : Addr} (O : FnOk P w K mg base (L2.CX P w) k f fd ps (spD K n G)) (h : ∀ ds Q R, F ds Q R → G ds Q R) (hm : mg x = some (.ref f)) (kp : PySem.W.keepIn K (.ref f) = true) (hb : Binds K fd ps []) : Cal P w K mg base k x n F :=
  ⟨f, fd, ps, O.imp (spD_imp h), hm, kp, hb⟩
theorem calL_ok {f : Addr} {F G : Dh.DFL} (O : FnOk P w K mg base (L2.CX P w) k f fd ps (Dh.spL K n G)) (h : ∀ ds Q R, F ds Q R → G ds Q R) (hm : mg x = some (.ref f)) (kp : PySem.W.keepIn K (.ref f) = true) (hb : Binds K fd ps []) : Dh.CalL P w K mg base k x n F :=
  ⟨f, fd, ps, O.imp (Dh.spL_imp h), hm, kp, hb⟩
theorem prop_ok (h : (Fx.prop x f).ok K = true) (sc : SlX.SCls K (ga K x)) (O : FnOk P w K mg base (L2.CX P w) k (gAd K (ga K x) f) fd ps (spD K 1 G)) (hF : ∀ ds Q R, F ds Q R → G ds Q R) (hb : Binds K fd ps []) : PrC P w K mg base k (ga K x) f F := by
  obtain ⟨h1, h⟩ := ba h
  obtain ⟨h2, h⟩ := ba h
  obtain ⟨h3, h4⟩ := ba h
  split at h4
  · rename_i g rest e
    have eg : gAd K (ga K x) f = g := by unfold gAd; rw [e]
    rw [eg] at O
    exact ⟨_, g, rest, (raw0 O hb).imp (spD_imp hF), sc, eqO_ok h1, eqO_ok h2, of_decide_eq_true h3, e⟩
  · cases h4
theorem eq_ok (h : (Fx.eq x).ok K = true) (O : FnOk P w K mg base (L2.CX P w) k (ma K (ga K x) "__eq__") fd ps (spD K 2 G)) (hF : ∀ ds Q R, F ds Q R → G ds Q R) (hb : Binds K fd ps []) : EqC P w K mg base k (ga K x) F := by
  obtain ⟨h1, h⟩ := ba h
  obtain ⟨h2, h3⟩ := ba h
  exact ⟨⟨_, (raw0 O hb).imp (spD_imp hF), eqO_ok h1, h2⟩, fun t ht => List.all_eq_true.mp h3 t ht⟩
theorem oex_ok {ns : List Str} (h : (Fx.oex x).ok K = true) (O : FnOk P w K mg base (L2.CX P w) k (ma K (ga K x) "__init__") fd ps (spX (ga K x) ns)) (hb : Binds K fd ps []) (hm : mg x = some (.ref (ga K x))) : XI P w K mg base k x (ga K x) ns := by
  obtain ⟨h1, h⟩ := ba h
  obtain ⟨h2, h3⟩ := ba h
  exact ⟨_, fd, ps, oexB_ok h1, eqO_ok h2, of_decide_eq_true h3, O, hb, hm⟩
theorem oexc_ok (h : (Fx.oex x).ok K = true) : OexC K (ga K x) := oexB_ok (ba h).1
theorem x0_ok (h : (Fx.fa (.exc x)).ok K = true) (hm : mg x = some (.ref (ga K x))) : X0 K mg x (ga K x) := by
  obtain ⟨h1, h2, h3, h4⟩ := He.exc_ok h
  exact ⟨h1, hm, h2, h3, h4⟩
theorem meth_ok' {m : Str} (h : (Fx.fa (.meth x m)).ok K = true) (sc : SlX.SCls K (ga K x)) (O : FnOk P w K mg base (L2.CX P w) k (ma K (ga K x) m) fd ps (spD K n G)) (hF : ∀ ds Q R, F ds Q R → G ds Q R) (hb : Binds K fd ps []) : MeC P w K mg base k (ga K x) m n F :=
  ⟨_, (raw0 O hb).imp (spD_imp hF), He.meth_ok h, sc⟩
theorem mkc_ok (h : (Fx.fa (.mkr x)).ok K = true) (O : FnOk P w K mg base (L2.CX P w) k (ma K (ga K x) "__init__") fd ps (spI K (ga K x) n F)) (hb : Binds K fd ps []) (hm : mg x = some (.ref (ga K x))) : MkC P w K mg base k x (ga K x) n F :=
  ⟨_, raw0 O hb, He.mkr_ok h, hm⟩
end
/-- all facts at once -/
def exAll (fx : List Fx) (K : PySem.W.Frag) : Bool := fx.all fun f => f.ok K
theorem ex_at {fx : List Fx} {K : PySem.W.Frag} (h : exAll fx K = true) {f : Fx} (hf : f ∈ fx) : f.ok K = true := List.all_eq_true.mp h f hf
theorem ex_ix {fx : List Fx} {K : PySem.W.Frag} (h : exAll fx K = true) (i : Nat) {f : Fx} (hf : fx[i]? = some f := by rfl) : f.ok K = true := List.all_eq_true.mp h f (List.mem_of_getElem? hf)
theorem bits_lt {z : Int} {n : Nat} (h : Builtin.Int.intBits z ≤ n) : z.natAbs < 2 ^ n := by
  unfold Builtin.Int.intBits at h
  by_cases e : z = 0
  · subst e
    exact Nat.two_pow_pos n
  · have e1 : (z == 0) = false := by simpa using e
    rw [e1] at h
    have h2 : z.natAbs.log2 < n := by simp at h; omega
    exact (Nat.log2_lt (by omega)).mp h2
end Hd

set_option maxHeartbeats 4000000
/-! The dealing, in plain numbers: turns, shares, lots; that the closed forms count. -/
namespace Ma
inductive Way where
  | fro | round | step
  deriving DecidableEq
structure Ru where
  s : Int
  w : Way
  f : Bool
  a : Int
  l : Bool
structure Ru.Ok (r : Ru) : Prop where
  s : r.s = 1 ∨ r.s = 2 ∨ r.s = 3
  a : r.a = 0 ∨ r.a = 2 ∨ r.a = 3 ∨ r.a = 4
structure Mo (m : Int) : Prop where
  lo : 2 ≤ m
  hi : m ≤ 12
theorem Mo.cases {m : Int} (h : Mo m) : m = 2 ∨ m = 3 ∨ m = 4 ∨ m = 5 ∨ m = 6 ∨ m = 7 ∨ m = 8 ∨ m = 9 ∨ m = 10 ∨ m = 11 ∨ m = 12 := by
  have := h.lo; have := h.hi; omega
def mir (r : Ru) (m p : Int) : Int := if r.f = true then p else m - 1 - p
def placeIn (r : Ru) (m turns p : Int) : Int := match r.w with
  | .fro => if turns % 2 = 0 then mir r m p else m - 1 - mir r m p
  | .step => (mir r m p - turns) % m
  | .round => mir r m p
def placeAt (r : Ru) (m turns place : Int) : Int := match r.w with
  | .fro => if turns % 2 = 1 then m - 1 - place else place
  | .step => (place + turns) % m
  | .round => place
def personAt (r : Ru) (m turn : Int) : Int := mir r m (placeAt r m (turn / m) (turn % m))
def turnsOf (r : Ru) (m p many : Int) : Int := many / m + if placeIn r m (many / m) p < many % m then 1 else 0
def share (r : Ru) (m p b c : Int) : Int := r.s * (turnsOf r m p (b + c / r.s) - turnsOf r m p b) + if personAt r m (b + c / r.s) = p then c % r.s else 0
def many (r : Ru) (n : Int) : Int := if 0 < r.a then n / r.a else 0
def main (r : Ru) (n : Int) : Int := n - many r n
def begin_ (r : Ru) (n : Int) : Int := if r.l = true then -(-(main r n) / r.s) else 0
def ownLot (r : Ru) (m n p : Int) : Int := share r m p 0 (main r n) + share r m p (begin_ r n) (many r n)
def turnOf (r : Ru) (n spot : Int) : Int := if spot < main r n then spot / r.s else begin_ r n + (spot - main r n) / r.s
def personOf (r : Ru) (m n spot : Int) : Int := personAt r m (turnOf r n spot)
def spotOf (r : Ru) (n thing : Int) : Int := if r.a = 0 then thing else if (thing + 1) % r.a = 0 then main r n + (thing + 1) / r.a - 1 else thing - thing / r.a
def thingAt (r : Ru) (n spot : Int) : Int := if main r n ≤ spot then (spot - main r n + 1) * r.a - 1 else if 0 < r.a then spot + spot / (r.a - 1) else spot
/-! ### where one sits -/
theorem mir_mir (r : Ru) (m p : Int) : mir r m (mir r m p) = p := by
  unfold mir; split <;> omega
theorem mir_range {r : Ru} {m p : Int} (h0 : 0 ≤ p) (h1 : p < m) : 0 ≤ mir r m p ∧ mir r m p < m := by
  unfold mir; split <;> omega
theorem placeAt_range {r : Ru} {m j i : Int} (hm : Mo m) (h0 : 0 ≤ i) (h1 : i < m) : 0 ≤ placeAt r m j i ∧ placeAt r m j i < m := by
  have := hm.lo
  unfold placeAt
  split
  · split <;> omega
  · exact ⟨Int.emod_nonneg _ (by omega), Int.emod_lt_of_pos _ (by omega)⟩
  · exact ⟨h0, h1⟩
theorem placeIn_range {r : Ru} {m j p : Int} (hm : Mo m) (h0 : 0 ≤ p) (h1 : p < m) : 0 ≤ placeIn r m j p ∧ placeIn r m j p < m := by
  have := hm.lo
  obtain ⟨f0, f1⟩ := mir_range (r := r) h0 h1
  unfold placeIn
  split
  · split <;> omega
  · exact ⟨Int.emod_nonneg _ (by omega), Int.emod_lt_of_pos _ (by omega)⟩
  · exact ⟨f0, f1⟩
theorem personAt_range {r : Ru} {m t : Int} (hm : Mo m) : 0 ≤ personAt r m t ∧ personAt r m t < m := by
  have := hm.lo
  have h := placeAt_range (r := r) (j := t / m) hm (Int.emod_nonneg t (show m ≠ 0 by omega)) (Int.emod_lt_of_pos t (show 0 < m by omega))
  exact mir_range h.1 h.2
theorem step_inv {m i j q : Int} (hm : Mo m) (i0 : 0 ≤ i) (i1 : i < m) (q0 : 0 ≤ q) (q1 : q < m) : (i + j) % m = q ↔ (q - j) % m = i := by
  rcases hm.cases with h | h | h | h | h | h | h | h | h | h | h <;> subst h <;> omega
theorem place_iff {r : Ru} {m i j p : Int} (hm : Mo m) (i0 : 0 ≤ i) (i1 : i < m) (p0 : 0 ≤ p) (p1 : p < m) : mir r m (placeAt r m j i) = p ↔ placeIn r m j p = i := by
  obtain ⟨f0, f1⟩ := mir_range (r := r) p0 p1
  have e : mir r m (placeAt r m j i) = p ↔ placeAt r m j i = mir r m p := ⟨fun h => by rw [← h, mir_mir], fun h => by rw [h, mir_mir]⟩
  rw [e]
  unfold placeAt placeIn
  cases r.w with
  | fro =>
    dsimp only
    by_cases h : j % 2 = 1
    · rw [if_pos h, if_neg (by omega)]; omega
    · rw [if_neg h, if_pos (by omega)]; omega
  | step => exact step_inv hm i0 i1 f0 f1
  | round => exact ⟨fun h => h.symm, fun h => h.symm⟩
/-! ### counting -/
def ind (b : Prop) [Decidable b] : Int := if b then 1 else 0
def cnt (g : Nat → Int) (p : Int) : Nat → Int
  | 0 => 0
  | n + 1 => cnt g p n + if g n = p then 1 else 0
theorem cnt_congr {g h : Nat → Int} {p : Int} : ∀ {n : Nat}, (∀ i, i < n → g i = h i) → cnt g p n = cnt h p n
  | 0, _ => rfl
  | n + 1, e => by
    unfold cnt
    rw [cnt_congr fun i hi => e i (by omega), e n (by omega)]
theorem cnt_add (g : Nat → Int) (p : Int) (a : Nat) : ∀ b, cnt g p (a + b) = cnt g p a + cnt (fun k => g (a + k)) p b
  | 0 => by simp [cnt]
  | b + 1 => by
    show cnt g p (a + b) + _ = _
    rw [cnt_add g p a b]
    show _ = _ + (cnt (fun k => g (a + k)) p b + _)
    rw [Int.add_assoc]
    rfl
theorem divmod {x m : Int} (h : 0 < m) : x = m * (x / m) + x % m ∧ 0 ≤ x % m ∧ x % m < m := ⟨(Int.mul_ediv_add_emod x m).symm, Int.emod_nonneg _ (by omega), Int.emod_lt_of_pos _ h⟩
/-- one more: in the round, or the next one -/
theorem succ_div {x m : Int} (h : 0 < m) : (x % m + 1 < m ∧ (x + 1) / m = x / m ∧ (x + 1) % m = x % m + 1) ∨ (x % m = m - 1 ∧ (x + 1) / m = x / m + 1 ∧ (x + 1) % m = 0) := by
  obtain ⟨e, h0, h1⟩ := divmod (x := x) h
  by_cases c : x % m + 1 < m
  · left
    refine ⟨c, ?_⟩
    have : (x + 1) / m = x / m ∧ (x + 1) % m = x % m + 1 := by
      have := (Int.ediv_emod_unique (a := x + 1) (b := m) (q := x / m) (r := x % m + 1) h).mpr ⟨by omega, by omega, c⟩
      exact this
    exact this
  · right
    have e2 : x % m = m - 1 := by omega
    refine ⟨e2, ?_⟩
    have := (Int.ediv_emod_unique (a := x + 1) (b := m) (q := x / m + 1) (r := 0) h).mpr ⟨by rw [Int.mul_add]; omega, by omega, h⟩
    exact this
theorem turns_succ {r : Ru} {m p x : Int} (hm : Mo m) (p0 : 0 ≤ p) (p1 : p < m) : turnsOf r m p (x + 1) = turnsOf r m p x + if personAt r m x = p then 1 else 0 := by
  have hp : 0 < m := by have := hm.lo; omega
  obtain ⟨e, h0, h1⟩ := divmod (x := x) hp
  have key : personAt r m x = p ↔ placeIn r m (x / m) p = x % m := place_iff hm h0 h1 p0 p1
  have rg := placeIn_range (r := r) (j := x / m) hm p0 p1
  have rg2 := placeIn_range (r := r) (j := x / m + 1) hm p0 p1
  unfold turnsOf
  rcases succ_div (x := x) hp with ⟨c, q1, q2⟩ | ⟨c, q1, q2⟩
  · rw [q1, q2]
    by_cases k : placeIn r m (x / m) p = x % m
    · rw [if_pos (key.mpr k), if_pos (by omega), if_neg (by omega)]; omega
    · rw [if_neg (fun z => k (key.mp z))]
      by_cases l : placeIn r m (x / m) p < x % m
      · rw [if_pos (by omega), if_pos l]; omega
      · rw [if_neg (by omega), if_neg l]; omega
  · rw [q1, q2, if_neg (by omega)]
    by_cases k : placeIn r m (x / m) p = x % m
    · rw [if_pos (key.mpr k), if_neg (by omega)]; omega
    · rw [if_neg (fun z => k (key.mp z)), if_pos (by omega)]
theorem turns_zero {r : Ru} {m p : Int} (hm : Mo m) (p0 : 0 ≤ p) (p1 : p < m) : turnsOf r m p 0 = 0 := by
  unfold turnsOf
  have rg := placeIn_range (r := r) (j := 0) hm p0 p1
  have : (0 : Int) / m = 0 := Int.zero_ediv _
  have e2 : (0 : Int) % m = 0 := Int.zero_emod _
  rw [this, e2, if_neg (by omega)]
  rfl
theorem turns_cnt {r : Ru} {m p : Int} (hm : Mo m) (p0 : 0 ≤ p) (p1 : p < m) : ∀ x : Nat, turnsOf r m p x = cnt (fun i => personAt r m i) p x
  | 0 => turns_zero hm p0 p1
  | x + 1 => by
    have e : ((x + 1 : Nat) : Int) = (x : Int) + 1 := by omega
    rw [e, turns_succ hm p0 p1, turns_cnt hm p0 p1 x]
    rfl
theorem Ru.Ok.pos {r : Ru} (h : r.Ok) : 0 < r.s := by rcases h.s with e | e | e <;> omega
theorem share_succ {r : Ru} {m p b c : Int} (hr : r.Ok) (hm : Mo m) (p0 : 0 ≤ p) (p1 : p < m) : share r m p b (c + 1) = share r m p b c + if personAt r m (b + c / r.s) = p then 1 else 0 := by
  unfold share
  rcases succ_div (x := c) hr.pos with ⟨k, q1, q2⟩ | ⟨k, q1, q2⟩
  · rw [q1, q2]
    split <;> omega
  · rw [q1, q2, show b + (c / r.s + 1) = b + c / r.s + 1 by omega, turns_succ hm p0 p1, k]
    have e : r.s * (turnsOf r m p (b + c / r.s) + (if personAt r m (b + c / r.s) = p then 1 else 0) - turnsOf r m p b) = r.s * (turnsOf r m p (b + c / r.s) - turnsOf r m p b) + r.s * (if personAt r m (b + c / r.s) = p then 1 else 0) := by
      rw [← Int.mul_add]; congr 1; omega
    rw [e]
    by_cases h : personAt r m (b + c / r.s) = p
    · simp only [if_pos h, ite_self]; omega
    · simp only [if_neg h, ite_self]; omega
theorem share_cnt {r : Ru} {m p b : Int} (hr : r.Ok) (hm : Mo m) (p0 : 0 ≤ p) (p1 : p < m) : ∀ c : Nat, share r m p b c = cnt (fun k => personAt r m (b + (k : Int) / r.s)) p c
  | 0 => by
    unfold share cnt
    have e1 : ((0 : Nat) : Int) / r.s = 0 := Int.zero_ediv _
    have e2 : ((0 : Nat) : Int) % r.s = 0 := Int.zero_emod _
    rw [e1, e2]
    simp
  | c + 1 => by
    have e : ((c + 1 : Nat) : Int) = (c : Int) + 1 := by omega
    rw [e, share_succ hr hm p0 p1, share_cnt hr hm p0 p1 c]
    rfl
theorem many_range {r : Ru} {n : Int} (hr : r.Ok) (h : 0 ≤ n) : 0 ≤ many r n ∧ many r n ≤ n := by
  unfold many
  rcases hr.a with e | e | e | e <;> rw [e] <;> simp <;> omega
theorem main_range {r : Ru} {n : Int} (hr : r.Ok) (h : 0 ≤ n) : 0 ≤ main r n ∧ main r n ≤ n := by
  have := many_range hr h
  unfold main; omega
theorem begin_nonneg {r : Ru} {n : Int} (hr : r.Ok) (h : 0 ≤ n) : 0 ≤ begin_ r n := by
  have := main_range hr h
  unfold begin_
  split
  · rcases hr.s with e | e | e <;> rw [e] <;> omega
  · omega
/-- the closed form counts -/
theorem lot_cnt {r : Ru} {m p : Int} {n : Nat} (hr : r.Ok) (hm : Mo m) (p0 : 0 ≤ p) (p1 : p < m) : ownLot r m n p = cnt (fun k => personOf r m n k) p n := by
  have h1 := main_range hr (show (0 : Int) ≤ (n : Int) by omega)
  have h2 := many_range hr (show (0 : Int) ≤ (n : Int) by omega)
  obtain ⟨a, ha⟩ := Int.eq_ofNat_of_zero_le h1.1
  obtain ⟨b, hb⟩ := Int.eq_ofNat_of_zero_le h2.1
  have hab : n = a + b := by unfold main at ha; omega
  unfold ownLot
  rw [ha, hb, share_cnt hr hm p0 p1, share_cnt hr hm p0 p1]
  have e3 : cnt (fun k => personOf r m n k) p n = cnt (fun k => personOf r m n k) p (a + b) := by rw [← hab]
  rw [e3, cnt_add]
  congr 1
  · refine cnt_congr fun i hi => ?_
    show _ = personAt r m (turnOf r n i)
    unfold turnOf
    rw [if_pos (by omega)]
    congr 1; omega
  · refine cnt_congr fun i hi => ?_
    show _ = personAt r m (turnOf r n ((a + i : Nat) : Int))
    unfold turnOf
    rw [if_neg (by omega), ha]
    congr 2
    rw [show ((a + i : Nat) : Int) - (a : Int) = (i : Int) by omega]
/-! ### all together -/
def sumTo (g : Nat → Int) : Nat → Int
  | 0 => 0
  | n + 1 => sumTo g n + g n
theorem sumTo_add (g h : Nat → Int) : ∀ n, sumTo (fun p => g p + h p) n = sumTo g n + sumTo h n
  | 0 => rfl
  | n + 1 => by unfold sumTo; rw [sumTo_add g h n]; omega
theorem sumTo_congr {g h : Nat → Int} : ∀ {n : Nat}, (∀ i, i < n → g i = h i) → sumTo g n = sumTo h n
  | 0, _ => rfl
  | n + 1, e => by unfold sumTo; rw [sumTo_congr fun i hi => e i (by omega), e n (by omega)]
theorem sumTo_one {q : Int} : ∀ {m : Nat}, sumTo (fun p => if q = (p : Int) then 1 else 0) m = if 0 ≤ q ∧ q < m then 1 else 0
  | 0 => by unfold sumTo; rw [if_neg (by omega)]
  | m + 1 => by
    unfold sumTo
    rw [sumTo_one (m := m)]
    by_cases h : q = (m : Int)
    · rw [if_pos h, if_neg (by omega), if_pos (by omega)]; rfl
    · rw [if_neg h]
      by_cases k : 0 ≤ q ∧ q < m
      · rw [if_pos k, if_pos (by omega)]; rfl
      · rw [if_neg k, if_neg (by omega)]; rfl
theorem sum_cnt {g : Nat → Int} {m : Nat} : ∀ {n : Nat}, (∀ i, i < n → 0 ≤ g i ∧ g i < m) → sumTo (fun p => cnt g p n) m = n
  | 0, _ => by
    have : ∀ m, sumTo (fun p => cnt g (p : Int) 0) m = 0 := fun m => by
      induction m with
      | zero => rfl
      | succ m ih => unfold sumTo; rw [ih]; rfl
    exact this m
  | n + 1, h => by
    have e : sumTo (fun p => cnt g (p : Int) (n + 1)) m = sumTo (fun p => cnt g (p : Int) n) m + sumTo (fun p => if g n = (p : Int) then 1 else 0) m := sumTo_add _ _ m
    rw [e, sum_cnt fun i hi => h i (by omega), sumTo_one, if_pos (h n (by omega))]
    omega
/-! ### which thing -/
theorem spot_thing {r : Ru} {n k : Int} (hr : r.Ok) (k0 : 0 ≤ k) (k1 : k < n) : spotOf r n (thingAt r n k) = k := by
  unfold thingAt spotOf main many
  rcases hr.a with e | e | e | e <;> rw [e]
  · simp; omega
  · simp
    by_cases h : n - n / 2 ≤ k
    · rw [if_pos h, if_pos (by omega)]; omega
    · rw [if_neg h, if_neg (by omega)]; omega
  · simp
    by_cases h : n - n / 3 ≤ k
    · rw [if_pos h, if_pos (by omega)]; omega
    · rw [if_neg h, if_neg (by omega)]; omega
  · simp
    by_cases h : n - n / 4 ≤ k
    · rw [if_pos h, if_pos (by omega)]; omega
    · rw [if_neg h, if_neg (by omega)]; omega
theorem thing_range {r : Ru} {n k : Int} (hr : r.Ok) (k0 : 0 ≤ k) (k1 : k < n) : 0 ≤ thingAt r n k ∧ thingAt r n k < n := by
  unfold thingAt main many
  rcases hr.a with e | e | e | e <;> rw [e] <;> simp
  · split <;> omega
  · split <;> omega
  · split <;> omega
  · split <;> omega
/-! ### the law's own two lists of things -/
def thingL (r : Ru) (k : Int) : Int := if 0 < r.a then k + k / (r.a - 1) else k
def thingR (r : Ru) (k : Int) : Int := (k + 1) * r.a - 1
def oneB (r : Ru) (k : Int) : Bool := decide (r.a = 0) || decide (0 < (k + 1) % r.a)
def twoB (r : Ru) (k : Int) : Bool := decide (0 < r.a) && decide ((k + 1) % (if 1 < r.a then r.a else 1) = 0)
def upto (n : Nat) : List Int := (List.range n).map fun k : Nat => (k : Int)
theorem upto_succ (n : Nat) : upto (n + 1) = upto n ++ [(n : Int)] := by unfold upto; rw [List.range_succ, List.map_append]; rfl
theorem main_zero {r : Ru} (hr : r.Ok) : (main r ((0 : Nat) : Int)).toNat = 0 := by
  have := main_range (n := ((0 : Nat) : Int)) hr (by omega)
  omega
theorem many_zero {r : Ru} (hr : r.Ok) : (many r ((0 : Nat) : Int)).toNat = 0 := by
  have := many_range (n := ((0 : Nat) : Int)) hr (by omega)
  omega
theorem one_more {r : Ru} (hr : r.Ok) (n : Nat) (h : oneB r (n : Int) = true) : (main r ((n + 1 : Nat) : Int)).toNat = (main r n).toNat + 1 ∧ thingL r ((main r n).toNat : Int) = n := by
  have e0 : ((n + 1 : Nat) : Int) = (n : Int) + 1 := by omega
  rw [e0]
  revert h
  unfold oneB thingL main many
  rcases hr.a with e | e | e | e <;> rw [e]
  · intro _
    rw [if_neg (by omega), if_neg (by omega), if_neg (by omega)]
    omega
  · intro h
    simp only [Bool.or_eq_true, decide_eq_true_eq] at h
    rw [if_pos (by omega), if_pos (by omega), if_pos (by omega)]
    omega
  · intro h
    simp only [Bool.or_eq_true, decide_eq_true_eq] at h
    rw [if_pos (by omega), if_pos (by omega), if_pos (by omega)]
    omega
  · intro h
    simp only [Bool.or_eq_true, decide_eq_true_eq] at h
    rw [if_pos (by omega), if_pos (by omega), if_pos (by omega)]
    omega
theorem one_same {r : Ru} (hr : r.Ok) (n : Nat) (h : ¬ oneB r (n : Int) = true) : main r ((n + 1 : Nat) : Int) = main r n := by
  have e0 : ((n + 1 : Nat) : Int) = (n : Int) + 1 := by omega
  rw [e0]
  revert h
  unfold oneB main many
  rcases hr.a with e | e | e | e <;> rw [e] <;> intro h <;> simp only [Bool.or_eq_true, decide_eq_true_eq] at h <;> simp only [show ¬ ((0 : Int) < 0) by omega, show (0 : Int) < 2 by omega, show (0 : Int) < 3 by omega, show (0 : Int) < 4 by omega, if_true, if_false] <;> omega
theorem ones {r : Ru} (hr : r.Ok) : ∀ n : Nat, (upto n).filter (oneB r) = (upto (main r n).toNat).map (thingL r)
  | 0 => by rw [main_zero hr]; rfl
  | n + 1 => by
    rw [upto_succ, List.filter_append, ones hr n]
    by_cases h : oneB r (n : Int) = true
    · obtain ⟨h1, h2⟩ := one_more hr n h
      rw [h1, upto_succ, List.map_append, List.filter_cons_of_pos h]
      show _ = _ ++ [thingL r _]
      rw [h2]
      rfl
    · rw [one_same hr n h, List.filter_cons_of_neg h]
      exact List.append_nil _
theorem two_more {r : Ru} (hr : r.Ok) (n : Nat) (h : twoB r (n : Int) = true) : (many r ((n + 1 : Nat) : Int)).toNat = (many r n).toNat + 1 ∧ thingR r ((many r n).toNat : Int) = n := by
  have e0 : ((n + 1 : Nat) : Int) = (n : Int) + 1 := by omega
  rw [e0]
  revert h
  unfold twoB thingR many
  rcases hr.a with e | e | e | e <;> rw [e] <;> intro h <;> simp only [Bool.and_eq_true, decide_eq_true_eq, show ¬ ((1 : Int) < 0) by omega, show (1 : Int) < 2 by omega, show (1 : Int) < 3 by omega, show (1 : Int) < 4 by omega, if_true, if_false] at h <;> simp only [show ¬ ((0 : Int) < 0) by omega, show (0 : Int) < 2 by omega, show (0 : Int) < 3 by omega, show (0 : Int) < 4 by omega, if_true, if_false] <;> omega
theorem two_same {r : Ru} (hr : r.Ok) (n : Nat) (h : ¬ twoB r (n : Int) = true) : many r ((n + 1 : Nat) : Int) = many r n := by
  have e0 : ((n + 1 : Nat) : Int) = (n : Int) + 1 := by omega
  rw [e0]
  revert h
  unfold twoB many
  rcases hr.a with e | e | e | e <;> rw [e] <;> intro h <;> simp only [Bool.and_eq_true, decide_eq_true_eq, show ¬ ((1 : Int) < 0) by omega, show (1 : Int) < 2 by omega, show (1 : Int) < 3 by omega, show (1 : Int) < 4 by omega, if_true, if_false] at h <;> simp only [show ¬ ((0 : Int) < 0) by omega, show (0 : Int) < 2 by omega, show (0 : Int) < 3 by omega, show (0 : Int) < 4 by omega, if_true, if_false] <;> omega
theorem twos {r : Ru} (hr : r.Ok) : ∀ n : Nat, (upto n).filter (twoB r) = (upto (many r n).toNat).map (thingR r)
  | 0 => by rw [many_zero hr]; rfl
  | n + 1 => by
    rw [upto_succ, List.filter_append, twos hr n]
    by_cases h : twoB r (n : Int) = true
    · obtain ⟨h1, h2⟩ := two_more hr n h
      rw [h1, upto_succ, List.map_append, List.filter_cons_of_pos h]
      show _ = _ ++ [thingR r _]
      rw [h2]
      rfl
    · rw [two_same hr n h, List.filter_cons_of_neg h]
      exact List.append_nil _
theorem thing_l {r : Ru} {n k : Int} (h : k < main r n) : thingAt r n k = thingL r k := by
  unfold thingAt thingL
  rw [if_neg (by omega)]
theorem thing_r {r : Ru} {n k : Int} (h : 0 ≤ k) : thingAt r n (main r n + k) = thingR r k := by
  unfold thingAt thingR
  rw [if_pos (by omega)]
  congr 2
  omega
end Ma

set_option maxHeartbeats 4000000
/-! Trees of numbers and rules; what the operators answer, as equations. -/
namespace Pr
open PySem PySem.Spec PyProof.Rows L2 Dl Dv Dk Gx Ma

def wS : Way → Str
  | .fro => "fro"
  | .round => "round"
  | .step => "step"
def fS (b : Bool) : Str := if b = true then "first" else "last"
def lS (b : Bool) : Str := if b = true then "on" else "anew"
/-- the five values -/
def row (r : Ru) : List D := [.int r.s, .str (wS r.w), .str (fS r.f), .int r.a, .str (lS r.l)]
abbrev rd (K : PySem.W.Frag) (r : Ru) : D := ruleD K (row r)
theorem drawn_ru {t : List D} (h : t ∈ drawn) : ∃ r : Ru, r.Ok ∧ t = row r := by
  obtain ⟨s, w, f, a, l, rfl, h1, h2, h3, h4, h5⟩ := drawn_of h
  simp only [List.mem_cons, List.not_mem_nil, or_false] at h1 h2 h3 h4 h5
  have e1 : ∃ i : Int, s = .int i ∧ (i = 1 ∨ i = 2 ∨ i = 3) := by rcases h1 with rfl | rfl | rfl <;> exact ⟨_, rfl, by omega⟩
  have e4 : ∃ i : Int, a = .int i ∧ (i = 0 ∨ i = 2 ∨ i = 3 ∨ i = 4) := by rcases h4 with rfl | rfl | rfl | rfl <;> exact ⟨_, rfl, by omega⟩
  obtain ⟨i, rfl, hi⟩ := e1
  obtain ⟨j, rfl, hj⟩ := e4
  have e2 : ∃ v : Way, w = .str (wS v) := by
    rcases h2 with rfl | rfl | rfl
    · exact ⟨.round, rfl⟩
    · exact ⟨.fro, rfl⟩
    · exact ⟨.step, rfl⟩
  have e3 : ∃ v : Bool, f = .str (fS v) := by
    rcases h3 with rfl | rfl
    · exact ⟨true, rfl⟩
    · exact ⟨false, rfl⟩
  have e5 : ∃ v : Bool, l = .str (lS v) := by
    rcases h5 with rfl | rfl
    · exact ⟨true, rfl⟩
    · exact ⟨false, rfl⟩
  obtain ⟨w, rfl⟩ := e2
  obtain ⟨f, rfl⟩ := e3
  obtain ⟨l, rfl⟩ := e5
  exact ⟨⟨i, w, f, j, l⟩, ⟨hi, hj⟩, rfl⟩
section
variable {i j : Int} {Q : D → Prop} {a b c d e : D} {l : List D} {r : Ru} {w : Way} {x y : Bool}
theorem x_add : gAddU (.int i) (.int j) Q = Q (.int (i + j)) := by
  refine propext ⟨fun h => ?_, fun h => .inl h⟩
  rcases h with h | h | h | h
  · exact h
  · exact h.elim
  · exact h.elim
  · exact h.elim
theorem x_addL {xs ys : List D} (h : xs.length + ys.length ≤ sizeLine) : gAddU (.lst xs) (.lst ys) Q = Q (.lst (xs ++ ys)) := by
  refine propext ⟨fun z => ?_, fun z => .inr (.inr (.inr ⟨h, z⟩))⟩
  rcases z with z | z | z | z
  · exact z.elim
  · exact z.elim
  · exact z.elim
  · exact z.2
theorem x_addT {xs ys : List D} (h : xs.length + ys.length ≤ sizeLine) : gAddU (.tup xs) (.tup ys) Q = Q (.tup (xs ++ ys)) := by
  refine propext ⟨fun z => ?_, fun z => .inr (.inr (.inl ⟨h, z⟩))⟩
  rcases z with z | z | z | z
  · exact z.elim
  · exact z.elim
  · exact z.2
  · exact z.elim
theorem x_sub : gSub (.int i) (.int j) Q = Q (.int (i - j)) := rfl
theorem x_mul (h : CMul i j) : gMul (.int i) (.int j) Q = Q (.int (i * j)) := propext ⟨fun z => z.2, fun z => ⟨h, z⟩⟩
theorem x_mulL (h1 : -(2 ^ 64) < i) (h2 : i < 2 ^ 64) : gMul (.int i) (.int j) Q = Q (.int (i * j)) := x_mul (.inl ⟨h1, h2⟩)
theorem x_mulR (h1 : -(2 ^ 64) < j) (h2 : j < 2 ^ 64) : gMul (.int i) (.int j) Q = Q (.int (i * j)) := x_mul (.inr ⟨h1, h2⟩)
theorem x_div (h1 : 0 < j) (h2 : j < 1073741824) : gDiv (.int i) (.int j) Q = Q (.int (i / j)) := propext ⟨fun z => z.2, fun z => ⟨⟨h1, h2⟩, z⟩⟩
theorem x_mod (h1 : 0 < j) : gMod (.int i) (.int j) Q = Q (.int (i % j)) := propext ⟨fun z => z.2, fun z => ⟨h1, z⟩⟩
theorem x_lt : gLt (.int i) (.int j) Q = Q (.bl (decide (i < j))) := rfl
theorem x_le : gLe (.int i) (.int j) Q = Q (.bl (decide (i ≤ j))) := rfl
theorem x_gt : gGt (.int i) (.int j) Q = Q (.bl (decide (j < i))) := rfl
theorem x_ge : gGe (.int i) (.int j) Q = Q (.bl (decide (j ≤ i))) := rfl
theorem deq_int : deq (.int i) (.int j) = decide (i = j) := by
  simp only [deq, py, PyData.eqv]
  first | rfl | (by_cases h : i = j <;> simp [h])
theorem x_eq : gEq (.int i) (.int j) Q = Q (.bl (decide (i = j))) := propext ⟨fun z => by have := z.2.2; rwa [deq_int] at this, fun z => ⟨rfl, rfl, by rw [deq_int]; exact z⟩⟩
theorem x_ne : gNe (.int i) (.int j) Q = Q (.bl (!decide (i = j))) := propext ⟨fun z => by have := z.2.2; rwa [deq_int] at this, fun z => ⟨rfl, rfl, by rw [deq_int]; exact z⟩⟩
theorem str_eq {p q : Str} {b : Bool} (h1 : dat 9 (.str p) = true) (h2 : dat 9 (.str q) = true) (h : deq (.str p) (.str q) = b) : gEq (.str p) (.str q) Q = Q (.bl b) := propext ⟨fun z => by have := z.2.2; rwa [h] at this, fun z => ⟨h1, h2, by rw [h]; exact z⟩⟩
theorem x_fro : gEq (.str (wS w)) (.str "fro") Q = Q (.bl (decide (w = .fro))) := by
  cases w <;> exact str_eq (by decide +kernel) (by decide +kernel) (by decide +kernel)
theorem x_step : gEq (.str (wS w)) (.str "step") Q = Q (.bl (decide (w = .step))) := by
  cases w <;> exact str_eq (by decide +kernel) (by decide +kernel) (by decide +kernel)
theorem x_first : gEq (.str (fS x)) (.str "first") Q = Q (.bl x) := by
  cases x <;> exact str_eq (by decide +kernel) (by decide +kernel) (by decide +kernel)
theorem x_last : gEq (.str (fS x)) (.str "last") Q = Q (.bl (!x)) := by
  cases x <;> exact str_eq (by decide +kernel) (by decide +kernel) (by decide +kernel)
theorem x_on : gEq (.str (lS x)) (.str "on") Q = Q (.bl x) := by
  cases x <;> exact str_eq (by decide +kernel) (by decide +kernel) (by decide +kernel)
theorem atI_pos {α : Type} {xs : List α} {k : Nat} {z : α} (h : xs[k]? = some z) : atI xs (k : Int) = some z := atI_nat h
theorem gIx_l {xs : List D} {z : D} (h : atI xs i = some z) : gIx (.lst xs) (.int i) Q = Q z := propext ⟨fun ⟨u, e, q⟩ => by rw [h] at e; cases e; exact q, fun q => ⟨z, h, q⟩⟩
theorem gIx_t {xs : List D} {z : D} (h : atI xs i = some z) : gIx (.tup xs) (.int i) Q = Q z := propext ⟨fun ⟨u, e, q⟩ => by rw [h] at e; cases e; exact q, fun q => ⟨z, h, q⟩⟩
theorem x_l0 : gIx (.lst (a :: l)) (.int 0) Q = Q a := gIx_l (atI_pos (k := 0) rfl)
theorem x_l1 : gIx (.lst (a :: b :: l)) (.int 1) Q = Q b := gIx_l (atI_pos (k := 1) rfl)
theorem x_l2 : gIx (.lst (a :: b :: c :: l)) (.int 2) Q = Q c := gIx_l (atI_pos (k := 2) rfl)
theorem x_l3 : gIx (.lst (a :: b :: c :: d :: l)) (.int 3) Q = Q d := gIx_l (atI_pos (k := 3) rfl)
theorem x_l4 : gIx (.lst (a :: b :: c :: d :: e :: l)) (.int 4) Q = Q e := gIx_l (atI_pos (k := 4) rfl)
theorem x_t0 : gIx (.tup (a :: l)) (.int 0) Q = Q a := gIx_t (atI_pos (k := 0) rfl)
theorem x_t1 : gIx (.tup (a :: b :: l)) (.int 1) Q = Q b := gIx_t (atI_pos (k := 1) rfl)
theorem x_t2 : gIx (.tup (a :: b :: c :: l)) (.int 2) Q = Q c := gIx_t (atI_pos (k := 2) rfl)
theorem x_t3 : gIx (.tup (a :: b :: c :: d :: l)) (.int 3) Q = Q d := gIx_t (atI_pos (k := 3) rfl)
theorem x_t4 : gIx (.tup (a :: b :: c :: d :: e :: l)) (.int 4) Q = Q e := gIx_t (atI_pos (k := 4) rfl)
theorem x_intB : gInt [.bl x] Q = Q (.int (if x = true then 1 else 0)) := by cases x <;> rfl
theorem x_intI : gInt [.int i] Q = Q (.int i) := rfl
theorem x_max2 : gMax2 [.int i, .int j] Q = Q (.int (if j > i then j else i)) := rfl
theorem x_min2 : gMin2 [.int i, .int j] Q = Q (.int (if j < i then j else i)) := rfl
theorem x_lenL : gLen [.lst l] Q = Q (.int (l.length : Nat)) := propext ⟨fun ⟨xs, e, q⟩ => by cases e; exact q, fun q => ⟨_, rfl, q⟩⟩
theorem x_lenT : gLen [.tup l] Q = Q (.int (l.length : Nat)) := propext ⟨fun ⟨xs, e, q⟩ => by cases e; exact q, fun q => ⟨_, rfl, q⟩⟩
theorem x_ok {P : Prop} (h : P) {q : Prop} : (P ∧ q) = q := propext ⟨fun z => z.2, fun z => ⟨h, z⟩⟩
theorem len_le {n : Nat} (h : n ≤ 1000) : n ≤ sizeLine := Nat.le_trans h (by decide)
theorem x_sz {n : Nat} (h : n ≤ 1000) {q : Prop} : (n ≤ sizeLine ∧ q) = q := x_ok (len_le h)
end
/-- the greatest, the least one -/
def maxL : List Int → Int
  | [] => 0
  | [a] => a
  | a :: b :: l => let m := maxL (b :: l); if a < m then m else a
def minL : List Int → Int
  | [] => 0
  | [a] => a
  | a :: b :: l => let m := minL (b :: l); if m < a then m else a
theorem maxL_spec : ∀ {l : List Int}, l ≠ [] → maxL l ∈ l ∧ ∀ y ∈ l, y ≤ maxL l
  | [], h => (h rfl).elim
  | [a], _ => ⟨by simp [maxL], by simp [maxL]⟩
  | a :: b :: l, _ => by
    obtain ⟨h1, h2⟩ := maxL_spec (l := b :: l) (by simp)
    have e : maxL (a :: b :: l) = if a < maxL (b :: l) then maxL (b :: l) else a := rfl
    rw [e]
    split
    · refine ⟨List.mem_cons_of_mem _ h1, fun y hy => ?_⟩
      rcases List.mem_cons.mp hy with rfl | hy
      · omega
      · exact h2 y hy
    · refine ⟨List.mem_cons_self, fun y hy => ?_⟩
      rcases List.mem_cons.mp hy with rfl | hy
      · omega
      · have := h2 y hy; omega
theorem minL_spec : ∀ {l : List Int}, l ≠ [] → minL l ∈ l ∧ ∀ y ∈ l, minL l ≤ y
  | [], h => (h rfl).elim
  | [a], _ => ⟨by simp [minL], by simp [minL]⟩
  | a :: b :: l, _ => by
    obtain ⟨h1, h2⟩ := minL_spec (l := b :: l) (by simp)
    have e : minL (a :: b :: l) = if minL (b :: l) < a then minL (b :: l) else a := rfl
    rw [e]
    split
    · refine ⟨List.mem_cons_of_mem _ h1, fun y hy => ?_⟩
      rcases List.mem_cons.mp hy with rfl | hy
      · omega
      · exact h2 y hy
    · refine ⟨List.mem_cons_self, fun y hy => ?_⟩
      rcases List.mem_cons.mp hy with rfl | hy
      · omega
      · have := h2 y hy; omega
def il (ns : List Int) : D := .lst (ns.map .int)
theorem int_inj : ∀ {ns ms : List Int}, ns.map D.int = ms.map D.int → ns = ms
  | [], [], _ => rfl
  | [], _ :: _, h => by cases h
  | _ :: _, [], h => by cases h
  | n :: ns, m :: ms, h => by
    simp only [List.map_cons, List.cons.injEq, D.int.injEq] at h
    rw [h.1, int_inj h.2]
theorem il_inj {ns ms : List Int} (h : il ns = il ms) : ns = ms := int_inj (D.lst.inj h)
theorem x_maxL {ns : List Int} {Q : D → Prop} (h : ns ≠ []) : gMaxL [il ns] Q = Q (.int (maxL ns)) := propext
  ⟨fun ⟨ms, e, _, q⟩ => by
    have := il_inj (show il ns = il ms from (List.cons.inj e).1)
    subst this
    exact q _ (maxL_spec h).1 (maxL_spec h).2,
   fun q => ⟨ns, rfl, List.length_pos_iff.mpr h, fun m hm hle => by
    have h1 := hle _ (maxL_spec h).1
    have h2 := (maxL_spec h).2 m hm
    have : m = maxL ns := by omega
    rw [this]; exact q⟩⟩
theorem x_minL {ns : List Int} {Q : D → Prop} (h : ns ≠ []) : gMinL [il ns] Q = Q (.int (minL ns)) := propext
  ⟨fun ⟨ms, e, _, q⟩ => by
    have := il_inj (show il ns = il ms from (List.cons.inj e).1)
    subst this
    exact q _ (minL_spec h).1 (minL_spec h).2,
   fun q => ⟨ns, rfl, List.length_pos_iff.mpr h, fun m hm hle => by
    have h1 := hle _ (minL_spec h).1
    have h2 := (minL_spec h).2 m hm
    have : m = minL ns := by omega
    rw [this]; exact q⟩⟩
theorem x_sumL {ns : List Int} {Q : D → Prop} : gSumL [il ns] Q = Q (.int ns.sum) := propext
  ⟨fun ⟨ms, e, q⟩ => by
    have := il_inj (show il ns = il ms from (List.cons.inj e).1)
    subst this
    exact q, fun q => ⟨ns, rfl, q⟩⟩
end Pr

set_option maxHeartbeats 4000000
/-! lots.py over trees: what each def answers. -/
namespace Pr
open PySem PySem.Spec PyProof.Rows L2 Dl Dv Dk Gx Ma

/-- what comes of it: an answer or an exception -/
def res (x : Except Exc D) (Q : D → Prop) (R : DX) : Prop := match x with
  | .ok d => Q d
  | .error e => R e
theorem res_ok {d : D} {Q : D → Prop} {R : DX} : res (.ok d) Q R = Q d := rfl
theorem res_er {e : Exc} {Q : D → Prop} {R : DX} : res (.error e) Q R = R e := rfl
theorem res_if {c : Prop} [Decidable c] {x y : Except Exc D} {Q : D → Prop} {R : DX} : res (if c then x else y) Q R = if c then res x Q R else res y Q R := by split <;> rfl
/-- a promise by a function -/
def FV {α : Type} (mk : α → List D) (P : α → Prop) (v : α → Except Exc D) : DF := fun ds Q R => ∃ a, ds = mk a ∧ P a ∧ res (v a) Q R
theorem fv_eq {α : Type} {mk : α → List D} {P : α → Prop} {v : α → Except Exc D} (inj : ∀ a b, mk a = mk b → a = b) {a : α} (h : P a) {Q : D → Prop} {R : DX} : FV mk P v (mk a) Q R = res (v a) Q R := propext
  ⟨fun ⟨b, e, _, q⟩ => by rw [inj a b e]; exact q, fun q => ⟨a, rfl, h, q⟩⟩
def FI {α : Type} (mk : α → List D) (P : α → Prop) (v : α → D) : DF := fun ds Q _ => ∃ a, ds = mk a ∧ P a ∧ Q (v a)
theorem fi_eq {α : Type} {mk : α → List D} {P : α → Prop} {v : α → D} (inj : ∀ a b, mk a = mk b → a = b) {a : α} (h : P a) {Q : D → Prop} {R : DX} : FI mk P v (mk a) Q R = Q (v a) := propext
  ⟨fun ⟨b, e, _, q⟩ => by rw [inj a b e]; exact q, fun q => ⟨a, rfl, h, q⟩⟩
theorem wS_inj : ∀ {a b : Way}, wS a = wS b → a = b := by
  intro a b h
  cases a <;> cases b <;> first | rfl | exact absurd h (by decide +kernel)
theorem fS_inj : ∀ {a b : Bool}, fS a = fS b → a = b := by
  intro a b h
  cases a <;> cases b <;> first | rfl | exact absurd h (by decide +kernel)
theorem lS_inj : ∀ {a b : Bool}, lS a = lS b → a = b := by
  intro a b h
  cases a <;> cases b <;> first | rfl | exact absurd h (by decide +kernel)
theorem row_inj {a b : Ru} (h : row a = row b) : a = b := by
  obtain ⟨s, w, f, x, l⟩ := a
  obtain ⟨s', w', f', x', l'⟩ := b
  simp only [row, List.cons.injEq, D.int.injEq, D.str.injEq, and_true] at h
  obtain ⟨rfl, h2, h3, rfl, h5⟩ := h
  rw [wS_inj h2, fS_inj h3, lS_inj h5]
theorem rd_inj {K : PySem.W.Frag} {a b : Ru} (h : rd K a = rd K b) : a = b := by
  unfold rd ruleD at h
  simp only [D.obj.injEq, List.cons.injEq, D.tup.injEq, and_true, true_and] at h
  exact row_inj h
theorem Ru.s3 {r : Ru} (h : r.Ok) : r.s ≤ 3 := by rcases h.s with e | e | e <;> omega
section
variable {K : PySem.W.Frag} {r : Ru} {Q : D → Prop} {R : DX} {m n p t b c i j : Int}
theorem x_rs : gIx (.tup (row r)) (.int 0) Q = Q (.int r.s) := x_t0
theorem x_rw : gIx (.tup (row r)) (.int 1) Q = Q (.str (wS r.w)) := x_t1
theorem x_rf : gIx (.tup (row r)) (.int 2) Q = Q (.str (fS r.f)) := x_t2
theorem x_ra : gIx (.tup (row r)) (.int 3) Q = Q (.int r.a) := x_t3
theorem x_rl : gIx (.tup (row r)) (.int 4) Q = Q (.str (lS r.l)) := x_t4
def slotD (C : Addr) (Q : D → Prop) : D → Prop := fun d => match d with
  | .obj C' ds => C' = C ∧ ∃ y, ds[0]? = some y ∧ Q y
  | _ => False
theorem x_slot {f : DE} {env : Env'} : dSlot (aR K) 0 f env Q R = f env (slotD (aR K) Q) R := rfl
theorem x_slotD : slotD (aR K) Q (rd K r) = Q (.tup (row r)) := propext ⟨fun ⟨_, y, e, q⟩ => by cases e; exact q, fun q => ⟨rfl, _, rfl, q⟩⟩
end
/-! ### the readings -/
def F_place_in (K : PySem.W.Frag) : DF := FI (fun (r, m, t, p) => [rd K r, .int m, .int t, .int p]) (fun (r, m, t, p) => r.Ok ∧ Mo m) (fun (r, m, t, p) => .int (placeIn r m t p))
def F_person_at (K : PySem.W.Frag) : DF := FI (fun (r, m, t) => [rd K r, .int m, .int t]) (fun (r, m, t) => r.Ok ∧ Mo m) (fun (r, m, t) => .int (personAt r m t))
def F_turns_of (K : PySem.W.Frag) : DF := FI (fun (r, m, p, t) => [rd K r, .int m, .int p, .int t]) (fun (r, m, p, t) => r.Ok ∧ Mo m) (fun (r, m, p, t) => .int (turnsOf r m p t))
def F_share (K : PySem.W.Frag) : DF := FI (fun (r, m, p, b, c) => [rd K r, .int m, .int p, .int b, .int c]) (fun (r, m, p, b, c) => r.Ok ∧ Mo m) (fun (r, m, p, b, c) => .int (share r m p b c))
def F_counts_of (K : PySem.W.Frag) : DF := FI (fun (r, n) => [rd K r, .int n]) (fun (r, n) => r.Ok) (fun (r, n) => .tup [.int (main r n), .int (many r n), .int (begin_ r n)])
def F_own_lot (K : PySem.W.Frag) : DF := FI (fun (r, m, n, p) => [rd K r, .int m, .int n, .int p]) (fun (r, m, n, p) => r.Ok ∧ Mo m) (fun (r, m, n, p) => .int (ownLot r m n p))
def lotsL (r : Ru) (m n : Int) : List Int := (upto m.toNat).map (ownLot r m n)
def F_own_lots (K : PySem.W.Frag) : DF := FI (fun (r, m, n) => [rd K r, .int m, .int n]) (fun (r, m, n) => r.Ok ∧ Mo m) (fun (r, m, n) => il (lotsL r m n))
def spreadOf (r : Ru) (m n : Int) : Int := maxL (lotsL r m n) - minL (lotsL r m n)
def F_own_spread (K : PySem.W.Frag) : DF := FI (fun (r, m, n) => [rd K r, .int m, .int n]) (fun (r, m, n) => r.Ok ∧ Mo m) (fun (r, m, n) => .int (spreadOf r m n))
def F_spot_of (K : PySem.W.Frag) : DF := FI (fun (r, n, t) => [rd K r, .int n, .int t]) (fun (r, n, t) => r.Ok) (fun (r, n, t) => .int (spotOf r n t))
def F_thing_at (K : PySem.W.Frag) : DF := FI (fun (r, n, t) => [rd K r, .int n, .int t]) (fun (r, n, t) => r.Ok) (fun (r, n, t) => .int (thingAt r n t))
def F_person_of (K : PySem.W.Frag) : DF := FI (fun (r, m, n, t) => [rd K r, .int m, .int n, .int t]) (fun (r, m, n, t) => r.Ok ∧ Mo m) (fun (r, m, n, t) => .int (personOf r m n t))
theorem li_inj {K : PySem.W.Frag} : ∀ a b : Ru × Int, (fun (r, n) => [rd K r, D.int n]) a = (fun (r, n) => [rd K r, D.int n]) b → a = b := by
  rintro ⟨r, n⟩ ⟨r', n'⟩ h
  simp only [List.cons.injEq, D.int.injEq, and_true] at h
  obtain ⟨h1, rfl⟩ := h
  rw [rd_inj h1]
theorem lii_inj {K : PySem.W.Frag} : ∀ a b : Ru × Int × Int, (fun (r, m, n) => [rd K r, D.int m, D.int n]) a = (fun (r, m, n) => [rd K r, D.int m, D.int n]) b → a = b := by
  rintro ⟨r, m, n⟩ ⟨r', m', n'⟩ h
  simp only [List.cons.injEq, D.int.injEq, and_true] at h
  obtain ⟨h1, rfl, rfl⟩ := h
  rw [rd_inj h1]
theorem liii_inj {K : PySem.W.Frag} : ∀ a b : Ru × Int × Int × Int, (fun (r, m, n, p) => [rd K r, D.int m, D.int n, D.int p]) a = (fun (r, m, n, p) => [rd K r, D.int m, D.int n, D.int p]) b → a = b := by
  rintro ⟨r, m, n, p⟩ ⟨r', m', n', p'⟩ h
  simp only [List.cons.injEq, D.int.injEq, and_true] at h
  obtain ⟨h1, rfl, rfl, rfl⟩ := h
  rw [rd_inj h1]
theorem liiii_inj {K : PySem.W.Frag} : ∀ a b : Ru × Int × Int × Int × Int, (fun (r, m, n, p, q) => [rd K r, D.int m, D.int n, D.int p, D.int q]) a = (fun (r, m, n, p, q) => [rd K r, D.int m, D.int n, D.int p, D.int q]) b → a = b := by
  rintro ⟨r, m, n, p, q⟩ ⟨r', m', n', p', q'⟩ h
  simp only [List.cons.injEq, D.int.injEq, and_true] at h
  obtain ⟨h1, rfl, rfl, rfl, rfl⟩ := h
  rw [rd_inj h1]
section
variable {K : PySem.W.Frag} {r : Ru} {Q : D → Prop} {R : DX} {m n p t b c : Int}
theorem y_place_in (hr : r.Ok) (hm : Mo m) : F_place_in K [rd K r, .int m, .int t, .int p] Q R = Q (.int (placeIn r m t p)) := fi_eq liii_inj (a := (r, m, t, p)) ⟨hr, hm⟩
theorem y_person_at (hr : r.Ok) (hm : Mo m) : F_person_at K [rd K r, .int m, .int t] Q R = Q (.int (personAt r m t)) := fi_eq lii_inj (a := (r, m, t)) ⟨hr, hm⟩
theorem y_turns_of (hr : r.Ok) (hm : Mo m) : F_turns_of K [rd K r, .int m, .int p, .int t] Q R = Q (.int (turnsOf r m p t)) := fi_eq liii_inj (a := (r, m, p, t)) ⟨hr, hm⟩
theorem y_share (hr : r.Ok) (hm : Mo m) : F_share K [rd K r, .int m, .int p, .int b, .int c] Q R = Q (.int (share r m p b c)) := fi_eq liiii_inj (a := (r, m, p, b, c)) ⟨hr, hm⟩
theorem y_counts_of (hr : r.Ok) : F_counts_of K [rd K r, .int n] Q R = Q (.tup [.int (main r n), .int (many r n), .int (begin_ r n)]) := fi_eq li_inj (a := (r, n)) hr
theorem y_own_lot (hr : r.Ok) (hm : Mo m) : F_own_lot K [rd K r, .int m, .int n, .int p] Q R = Q (.int (ownLot r m n p)) := fi_eq liii_inj (a := (r, m, n, p)) ⟨hr, hm⟩
theorem y_own_lots (hr : r.Ok) (hm : Mo m) : F_own_lots K [rd K r, .int m, .int n] Q R = Q (il (lotsL r m n)) := fi_eq lii_inj (a := (r, m, n)) ⟨hr, hm⟩
theorem y_own_spread (hr : r.Ok) (hm : Mo m) : F_own_spread K [rd K r, .int m, .int n] Q R = Q (.int (spreadOf r m n)) := fi_eq lii_inj (a := (r, m, n)) ⟨hr, hm⟩
theorem y_spot_of (hr : r.Ok) : F_spot_of K [rd K r, .int n, .int t] Q R = Q (.int (spotOf r n t)) := fi_eq lii_inj (a := (r, n, t)) hr
theorem y_thing_at (hr : r.Ok) : F_thing_at K [rd K r, .int n, .int t] Q R = Q (.int (thingAt r n t)) := fi_eq lii_inj (a := (r, n, t)) hr
theorem y_person_of (hr : r.Ok) (hm : Mo m) : F_person_of K [rd K r, .int m, .int n, .int t] Q R = Q (.int (personOf r m n t)) := fi_eq liii_inj (a := (r, m, n, t)) ⟨hr, hm⟩
end
def g_place_in (K : PySem.W.Frag) : DG :=
  (dSeq (dSet 4 (dIf (dTst (dOp gEq (dOp gIx (dSlot (aR K) 0 (dVar 0)) (dC (.int 2))) (dC (.str "first")))) (dVar 3) (dOp gSub (dOp gSub (dVar 1) (dC (.int 1))) (dVar 3))))
  (dSeq (dIfS (dTst (dOp gEq (dOp gIx (dSlot (aR K) 0 (dVar 0)) (dC (.int 1))) (dC (.str "fro")))) (dRet (dIf (dTst (dOp gEq (dOp gMod (dVar 2) (dC (.int 2))) (dC (.int 0)))) (dVar 4) (dOp gSub (dOp gSub (dVar 1) (dC (.int 1))) (dVar 4)))) dNx)
  (dRet (dIf (dTst (dOp gEq (dOp gIx (dSlot (aR K) 0 (dVar 0)) (dC (.int 1))) (dC (.str "step")))) (dOp gMod (dOp gSub (dVar 4) (dVar 2)) (dVar 1)) (dVar 4)))))
def g_person_at (K : PySem.W.Frag) : DG :=
  (dSeq (dPar 3 4 (dCons (dOp gDiv (dVar 2) (dVar 1)) (dCons (dOp gMod (dVar 2) (dVar 1)) dNil)))
  (dSeq (dIfS (dAndB (dTst (dOp gEq (dOp gIx (dSlot (aR K) 0 (dVar 0)) (dC (.int 1))) (dC (.str "fro")))) (dTst (dOp gEq (dOp gMod (dVar 3) (dC (.int 2))) (dC (.int 1))))) (dSet 4 (dOp gSub (dOp gSub (dVar 1) (dC (.int 1))) (dVar 4))) dNx)
  (dSeq (dIfS (dTst (dOp gEq (dOp gIx (dSlot (aR K) 0 (dVar 0)) (dC (.int 1))) (dC (.str "step")))) (dSet 4 (dOp gMod (dOp gAddU (dVar 4) (dVar 3)) (dVar 1))) dNx)
  (dRet (dIf (dTst (dOp gEq (dOp gIx (dSlot (aR K) 0 (dVar 0)) (dC (.int 2))) (dC (.str "first")))) (dVar 4) (dOp gSub (dOp gSub (dVar 1) (dC (.int 1))) (dVar 4)))))))
def g_turns_of (K : PySem.W.Frag) : DG :=
  (dRet (dOp gAddU (dOp gDiv (dVar 3) (dVar 1)) (dCB gInt (dCons (dOp gLt (dCall 4 (F_place_in K) (dCons (dVar 0) (dCons (dVar 1) (dCons (dOp gDiv (dVar 3) (dVar 1)) (dCons (dVar 2) dNil))))) (dOp gMod (dVar 3) (dVar 1))) dNil))))
def g_share (K : PySem.W.Frag) : DG :=
  (dSeq (dSet 5 (dOp gIx (dSlot (aR K) 0 (dVar 0)) (dC (.int 0))))
  (dSeq (dPar 6 7 (dCons (dOp gDiv (dVar 4) (dVar 5)) (dCons (dOp gMod (dVar 4) (dVar 5)) dNil)))
  (dSeq (dSet 8 (dOp gMul (dVar 5) (dOp gSub (dCall 4 (F_turns_of K) (dCons (dVar 0) (dCons (dVar 1) (dCons (dVar 2) (dCons (dOp gAddU (dVar 3) (dVar 6)) dNil))))) (dCall 4 (F_turns_of K) (dCons (dVar 0) (dCons (dVar 1) (dCons (dVar 2) (dCons (dVar 3) dNil))))))))
  (dRet (dOp gAddU (dVar 8) (dIf (dTst (dOp gEq (dCall 3 (F_person_at K) (dCons (dVar 0) (dCons (dVar 1) (dCons (dOp gAddU (dVar 3) (dVar 6)) dNil)))) (dVar 2))) (dVar 7) (dC (.int 0))))))))
def g_counts_of (K : PySem.W.Frag) : DG :=
  (dSeq (dSet 2 (dIf (dTst (dOp gGt (dOp gIx (dSlot (aR K) 0 (dVar 0)) (dC (.int 3))) (dC (.int 0)))) (dOp gDiv (dVar 1) (dOp gIx (dSlot (aR K) 0 (dVar 0)) (dC (.int 3)))) (dC (.int 0))))
  (dSeq (dSet 3 (dOp gSub (dVar 1) (dVar 2)))
  (dSeq (dSet 4 (dIf (dTst (dOp gEq (dOp gIx (dSlot (aR K) 0 (dVar 0)) (dC (.int 4))) (dC (.str "on")))) (dNeg (dOp gDiv (dNeg (dVar 3)) (dOp gIx (dSlot (aR K) 0 (dVar 0)) (dC (.int 0))))) (dC (.int 0))))
  (dRet (dTup (dCons (dVar 3) (dCons (dVar 2) (dCons (dVar 4) dNil))))))))
def g_own_lot (K : PySem.W.Frag) : DG :=
  (dSeq (dAsg (dCall 2 (F_counts_of K) (dCons (dVar 0) (dCons (dVar 2) dNil))) (dgTup [4, 5, 6]))
  (dRet (dOp gAddU (dCall 5 (F_share K) (dCons (dVar 0) (dCons (dVar 1) (dCons (dVar 3) (dCons (dC (.int 0)) (dCons (dVar 4) dNil)))))) (dCall 5 (F_share K) (dCons (dVar 0) (dCons (dVar 1) (dCons (dVar 3) (dCons (dVar 6) (dCons (dVar 5) dNil)))))))))
def g_own_lots (K : PySem.W.Frag) : DG :=
  (dRet (dL (dLc (dRng1 (dCons (dVar 1) dNil)) [3] (dgName 3) dYes (dCall 4 (F_own_lot K) (dCons (dVar 0) (dCons (dVar 1) (dCons (dVar 2) (dCons (dVar 3) dNil))))))))
def g_own_spread (K : PySem.W.Frag) : DG :=
  (dSeq (dSet 3 (dCall 3 (F_own_lots K) (dCons (dVar 0) (dCons (dVar 1) (dCons (dVar 2) dNil)))))
  (dRet (dOp gSub (dCB gMaxL (dCons (dVar 3) dNil)) (dCB gMinL (dCons (dVar 3) dNil)))))
def g_spot_of (K : PySem.W.Frag) : DG :=
  (dSeq (dSet 3 (dOp gIx (dSlot (aR K) 0 (dVar 0)) (dC (.int 3))))
  (dSeq (dIfS (dTst (dOp gEq (dVar 3) (dC (.int 0)))) (dRet (dVar 2)) dNx)
  (dSeq (dIfS (dTst (dOp gEq (dOp gMod (dOp gAddU (dVar 2) (dC (.int 1))) (dVar 3)) (dC (.int 0)))) (dRet (dOp gSub (dOp gAddU (dOp gIx (dCall 2 (F_counts_of K) (dCons (dVar 0) (dCons (dVar 1) dNil))) (dC (.int 0))) (dOp gDiv (dOp gAddU (dVar 2) (dC (.int 1))) (dVar 3))) (dC (.int 1)))) dNx)
  (dRet (dOp gSub (dVar 2) (dOp gDiv (dVar 2) (dVar 3)))))))
def g_person_of (K : PySem.W.Frag) : DG :=
  (dSeq (dAsg (dCall 2 (F_counts_of K) (dCons (dVar 0) (dCons (dVar 2) dNil))) (dgTup [4, 5, 6]))
  (dSeq (dSet 7 (dIf (dTst (dOp gLt (dVar 3) (dVar 4))) (dOp gDiv (dVar 3) (dOp gIx (dSlot (aR K) 0 (dVar 0)) (dC (.int 0)))) (dOp gAddU (dVar 6) (dOp gDiv (dOp gSub (dVar 3) (dVar 4)) (dOp gIx (dSlot (aR K) 0 (dVar 0)) (dC (.int 0)))))))
  (dRet (dCall 3 (F_person_at K) (dCons (dVar 0) (dCons (dVar 1) (dCons (dVar 7) dNil)))))))
theorem law_place_in (K : PySem.W.Frag) (ds : List D) (Q : D → Prop) (R : DX) (h : F_place_in K ds Q R) : dDef 5 (g_place_in K) ds Q R := by
  obtain ⟨⟨r, m, t, p⟩, rfl, ⟨hr, hm⟩, q⟩ := h
  have h1 := hm.lo; have h2 := hm.hi; have h3 := hr.pos; have h4 := Ru.s3 hr
  dsimp only at q
  simp (disch := first | assumption | omega) only [dDef, dRet, dRetL, dSeq, dIfS, dTst, dNotB, dAndB, dOrB, dAndV, dOrV, dNotV, dNeg, dIf, dCB, dCBL, dCons, dNil, dStar, dVar, dC, dCall, dOp, dOpL, dTup, dLst, dL, dSet, dAsg, dPar, dOwn, dExpr, dNx, dFor, dWhile, dItL, dItT, dProp, dMeth, dMk, dMk0, dRaise, dPart, dNoPart, dSlL, dSlT, dRevL, dgName, dgTup, dgSets, dOwnIx, dOwnLen, dOwnTup, dApp, dSetI, dRel, relE, dItZip, dItTab, dItEnK, dItEn, dIsS, dJoinG, dSplit, dFmt, dJs, dIsT2, dIndex, dCallS, dYes, wipeE, dXf, dIsX, List.map_cons, List.map_nil, List.cons_append, List.nil_append, List.append_nil, List.length_cons, List.length_nil, List.replicate_succ, List.replicate_zero, Nat.reduceAdd, Nat.reduceSub, List.getElem?_cons_zero, List.getElem?_cons_succ, List.set_cons_zero, List.set_cons_succ, Nat.zero_add, Nat.add_zero, Nat.sub_self, x_add, x_sub, x_mulL, x_mulR, x_div, x_mod, x_lt, x_le, x_gt, x_ge, x_eq, x_ne, x_fro, x_step, x_first, x_last, x_on, x_l0, x_l1, x_l2, x_l3, x_l4, x_t0, x_t1, x_t2, x_t3, x_t4, x_intB, x_intI, x_max2, x_min2, x_lenL, x_lenT, x_sz, x_rs, x_rw, x_rf, x_ra, x_rl, x_slot, x_slotD, true_and, and_true, eq_self, decide_eq_true_eq, Bool.not_eq_true', decide_eq_false_iff_not, res_ok, res_er, Bool.and_eq_true, if_true, if_false, Bool.false_eq_true, g_place_in]
  unfold placeIn mir at q
  by_cases e : t % 2 = 0 <;> cases hw : r.w <;> cases hf : r.f <;> simp_all
theorem law_person_at (K : PySem.W.Frag) (ds : List D) (Q : D → Prop) (R : DX) (h : F_person_at K ds Q R) : dDef 5 (g_person_at K) ds Q R := by
  obtain ⟨⟨r, m, t⟩, rfl, ⟨hr, hm⟩, q⟩ := h
  have h1 := hm.lo; have h2 := hm.hi; have h3 := hr.pos; have h4 := Ru.s3 hr
  dsimp only at q
  simp (disch := first | assumption | omega) only [dDef, dRet, dRetL, dSeq, dIfS, dTst, dNotB, dAndB, dOrB, dAndV, dOrV, dNotV, dNeg, dIf, dCB, dCBL, dCons, dNil, dStar, dVar, dC, dCall, dOp, dOpL, dTup, dLst, dL, dSet, dAsg, dPar, dOwn, dExpr, dNx, dFor, dWhile, dItL, dItT, dProp, dMeth, dMk, dMk0, dRaise, dPart, dNoPart, dSlL, dSlT, dRevL, dgName, dgTup, dgSets, dOwnIx, dOwnLen, dOwnTup, dApp, dSetI, dRel, relE, dItZip, dItTab, dItEnK, dItEn, dIsS, dJoinG, dSplit, dFmt, dJs, dIsT2, dIndex, dCallS, dYes, wipeE, dXf, dIsX, List.map_cons, List.map_nil, List.cons_append, List.nil_append, List.append_nil, List.length_cons, List.length_nil, List.replicate_succ, List.replicate_zero, Nat.reduceAdd, Nat.reduceSub, List.getElem?_cons_zero, List.getElem?_cons_succ, List.set_cons_zero, List.set_cons_succ, Nat.zero_add, Nat.add_zero, Nat.sub_self, x_add, x_sub, x_mulL, x_mulR, x_div, x_mod, x_lt, x_le, x_gt, x_ge, x_eq, x_ne, x_fro, x_step, x_first, x_last, x_on, x_l0, x_l1, x_l2, x_l3, x_l4, x_t0, x_t1, x_t2, x_t3, x_t4, x_intB, x_intI, x_max2, x_min2, x_lenL, x_lenT, x_sz, x_rs, x_rw, x_rf, x_ra, x_rl, x_slot, x_slotD, true_and, and_true, eq_self, decide_eq_true_eq, Bool.not_eq_true', decide_eq_false_iff_not, res_ok, res_er, Bool.and_eq_true, if_true, if_false, Bool.false_eq_true, g_person_at, dPar]
  unfold personAt placeAt mir at q
  by_cases e : t / m % 2 = 1 <;> cases hw : r.w <;> cases hf : r.f <;> simp_all
theorem law_turns_of (K : PySem.W.Frag) (ds : List D) (Q : D → Prop) (R : DX) (h : F_turns_of K ds Q R) : dDef 4 (g_turns_of K) ds Q R := by
  obtain ⟨⟨r, m, p, t⟩, rfl, ⟨hr, hm⟩, q⟩ := h
  have h1 := hm.lo; have h2 := hm.hi; have h3 := hr.pos; have h4 := Ru.s3 hr
  dsimp only at q
  simp (disch := first | assumption | omega) only [dDef, dRet, dRetL, dSeq, dIfS, dTst, dNotB, dAndB, dOrB, dAndV, dOrV, dNotV, dNeg, dIf, dCB, dCBL, dCons, dNil, dStar, dVar, dC, dCall, dOp, dOpL, dTup, dLst, dL, dSet, dAsg, dPar, dOwn, dExpr, dNx, dFor, dWhile, dItL, dItT, dProp, dMeth, dMk, dMk0, dRaise, dPart, dNoPart, dSlL, dSlT, dRevL, dgName, dgTup, dgSets, dOwnIx, dOwnLen, dOwnTup, dApp, dSetI, dRel, relE, dItZip, dItTab, dItEnK, dItEn, dIsS, dJoinG, dSplit, dFmt, dJs, dIsT2, dIndex, dCallS, dYes, wipeE, dXf, dIsX, List.map_cons, List.map_nil, List.cons_append, List.nil_append, List.append_nil, List.length_cons, List.length_nil, List.replicate_succ, List.replicate_zero, Nat.reduceAdd, Nat.reduceSub, List.getElem?_cons_zero, List.getElem?_cons_succ, List.set_cons_zero, List.set_cons_succ, Nat.zero_add, Nat.add_zero, Nat.sub_self, x_add, x_sub, x_mulL, x_mulR, x_div, x_mod, x_lt, x_le, x_gt, x_ge, x_eq, x_ne, x_fro, x_step, x_first, x_last, x_on, x_l0, x_l1, x_l2, x_l3, x_l4, x_t0, x_t1, x_t2, x_t3, x_t4, x_intB, x_intI, x_max2, x_min2, x_lenL, x_lenT, x_sz, x_rs, x_rw, x_rf, x_ra, x_rl, x_slot, x_slotD, true_and, and_true, eq_self, decide_eq_true_eq, Bool.not_eq_true', decide_eq_false_iff_not, res_ok, res_er, Bool.and_eq_true, if_true, if_false, Bool.false_eq_true, g_turns_of, y_place_in]
  exact q
theorem law_share (K : PySem.W.Frag) (ds : List D) (Q : D → Prop) (R : DX) (h : F_share K ds Q R) : dDef 9 (g_share K) ds Q R := by
  obtain ⟨⟨r, m, p, b, c⟩, rfl, ⟨hr, hm⟩, q⟩ := h
  have h1 := hm.lo; have h2 := hm.hi; have h3 := hr.pos; have h4 := Ru.s3 hr
  dsimp only at q
  simp (disch := first | assumption | omega) only [dDef, dRet, dRetL, dSeq, dIfS, dTst, dNotB, dAndB, dOrB, dAndV, dOrV, dNotV, dNeg, dIf, dCB, dCBL, dCons, dNil, dStar, dVar, dC, dCall, dOp, dOpL, dTup, dLst, dL, dSet, dAsg, dPar, dOwn, dExpr, dNx, dFor, dWhile, dItL, dItT, dProp, dMeth, dMk, dMk0, dRaise, dPart, dNoPart, dSlL, dSlT, dRevL, dgName, dgTup, dgSets, dOwnIx, dOwnLen, dOwnTup, dApp, dSetI, dRel, relE, dItZip, dItTab, dItEnK, dItEn, dIsS, dJoinG, dSplit, dFmt, dJs, dIsT2, dIndex, dCallS, dYes, wipeE, dXf, dIsX, List.map_cons, List.map_nil, List.cons_append, List.nil_append, List.append_nil, List.length_cons, List.length_nil, List.replicate_succ, List.replicate_zero, Nat.reduceAdd, Nat.reduceSub, List.getElem?_cons_zero, List.getElem?_cons_succ, List.set_cons_zero, List.set_cons_succ, Nat.zero_add, Nat.add_zero, Nat.sub_self, x_add, x_sub, x_mulL, x_mulR, x_div, x_mod, x_lt, x_le, x_gt, x_ge, x_eq, x_ne, x_fro, x_step, x_first, x_last, x_on, x_l0, x_l1, x_l2, x_l3, x_l4, x_t0, x_t1, x_t2, x_t3, x_t4, x_intB, x_intI, x_max2, x_min2, x_lenL, x_lenT, x_sz, x_rs, x_rw, x_rf, x_ra, x_rl, x_slot, x_slotD, true_and, and_true, eq_self, decide_eq_true_eq, Bool.not_eq_true', decide_eq_false_iff_not, res_ok, res_er, Bool.and_eq_true, if_true, if_false, Bool.false_eq_true, g_share, y_turns_of, y_person_at, dPar]
  unfold share at q
  by_cases e : personAt r m (b + c / r.s) = p <;> simp_all
theorem law_counts_of (K : PySem.W.Frag) (ds : List D) (Q : D → Prop) (R : DX) (h : F_counts_of K ds Q R) : dDef 5 (g_counts_of K) ds Q R := by
  obtain ⟨⟨r, n⟩, rfl, hr, q⟩ := h
  have h3 := hr.pos; have h4 := Ru.s3 hr
  have h5 : r.a ≤ 4 := by rcases hr.a with e | e | e | e <;> omega
  dsimp only at q
  unfold begin_ main many at q
  by_cases e : 0 < r.a
  · rw [if_pos e] at q
    simp (disch := first | assumption | omega) only [dDef, dRet, dRetL, dSeq, dIfS, dTst, dNotB, dAndB, dOrB, dAndV, dOrV, dNotV, dNeg, dIf, dCB, dCBL, dCons, dNil, dStar, dVar, dC, dCall, dOp, dOpL, dTup, dLst, dL, dSet, dAsg, dPar, dOwn, dExpr, dNx, dFor, dWhile, dItL, dItT, dProp, dMeth, dMk, dMk0, dRaise, dPart, dNoPart, dSlL, dSlT, dRevL, dgName, dgTup, dgSets, dOwnIx, dOwnLen, dOwnTup, dApp, dSetI, dRel, relE, dItZip, dItTab, dItEnK, dItEn, dIsS, dJoinG, dSplit, dFmt, dJs, dIsT2, dIndex, dCallS, dYes, wipeE, dXf, dIsX, List.map_cons, List.map_nil, List.cons_append, List.nil_append, List.append_nil, List.length_cons, List.length_nil, List.replicate_succ, List.replicate_zero, Nat.reduceAdd, Nat.reduceSub, List.getElem?_cons_zero, List.getElem?_cons_succ, List.set_cons_zero, List.set_cons_succ, Nat.zero_add, Nat.add_zero, Nat.sub_self, x_add, x_sub, x_mulL, x_mulR, x_div, x_mod, x_lt, x_le, x_gt, x_ge, x_eq, x_ne, x_fro, x_step, x_first, x_last, x_on, x_l0, x_l1, x_l2, x_l3, x_l4, x_t0, x_t1, x_t2, x_t3, x_t4, x_intB, x_intI, x_max2, x_min2, x_lenL, x_lenT, x_sz, x_rs, x_rw, x_rf, x_ra, x_rl, x_slot, x_slotD, true_and, and_true, eq_self, decide_eq_true_eq, Bool.not_eq_true', decide_eq_false_iff_not, res_ok, res_er, Bool.and_eq_true, if_true, if_false, Bool.false_eq_true, g_counts_of, dPar, e]
    cases hl : r.l <;> simp_all
  · rw [if_neg e] at q
    simp (disch := first | assumption | omega) only [dDef, dRet, dRetL, dSeq, dIfS, dTst, dNotB, dAndB, dOrB, dAndV, dOrV, dNotV, dNeg, dIf, dCB, dCBL, dCons, dNil, dStar, dVar, dC, dCall, dOp, dOpL, dTup, dLst, dL, dSet, dAsg, dPar, dOwn, dExpr, dNx, dFor, dWhile, dItL, dItT, dProp, dMeth, dMk, dMk0, dRaise, dPart, dNoPart, dSlL, dSlT, dRevL, dgName, dgTup, dgSets, dOwnIx, dOwnLen, dOwnTup, dApp, dSetI, dRel, relE, dItZip, dItTab, dItEnK, dItEn, dIsS, dJoinG, dSplit, dFmt, dJs, dIsT2, dIndex, dCallS, dYes, wipeE, dXf, dIsX, List.map_cons, List.map_nil, List.cons_append, List.nil_append, List.append_nil, List.length_cons, List.length_nil, List.replicate_succ, List.replicate_zero, Nat.reduceAdd, Nat.reduceSub, List.getElem?_cons_zero, List.getElem?_cons_succ, List.set_cons_zero, List.set_cons_succ, Nat.zero_add, Nat.add_zero, Nat.sub_self, x_add, x_sub, x_mulL, x_mulR, x_div, x_mod, x_lt, x_le, x_gt, x_ge, x_eq, x_ne, x_fro, x_step, x_first, x_last, x_on, x_l0, x_l1, x_l2, x_l3, x_l4, x_t0, x_t1, x_t2, x_t3, x_t4, x_intB, x_intI, x_max2, x_min2, x_lenL, x_lenT, x_sz, x_rs, x_rw, x_rf, x_ra, x_rl, x_slot, x_slotD, true_and, and_true, eq_self, decide_eq_true_eq, Bool.not_eq_true', decide_eq_false_iff_not, res_ok, res_er, Bool.and_eq_true, if_true, if_false, Bool.false_eq_true, g_counts_of, dPar, e]
    cases hl : r.l <;> simp_all
theorem law_own_lot (K : PySem.W.Frag) (ds : List D) (Q : D → Prop) (R : DX) (h : F_own_lot K ds Q R) : dDef 7 (g_own_lot K) ds Q R := by
  obtain ⟨⟨r, m, n, p⟩, rfl, ⟨hr, hm⟩, q⟩ := h
  dsimp only at q
  simp (disch := first | assumption | omega) only [dDef, dRet, dRetL, dSeq, dIfS, dTst, dNotB, dAndB, dOrB, dAndV, dOrV, dNotV, dNeg, dIf, dCB, dCBL, dCons, dNil, dStar, dVar, dC, dCall, dOp, dOpL, dTup, dLst, dL, dSet, dAsg, dPar, dOwn, dExpr, dNx, dFor, dWhile, dItL, dItT, dProp, dMeth, dMk, dMk0, dRaise, dPart, dNoPart, dSlL, dSlT, dRevL, dgName, dgTup, dgSets, dOwnIx, dOwnLen, dOwnTup, dApp, dSetI, dRel, relE, dItZip, dItTab, dItEnK, dItEn, dIsS, dJoinG, dSplit, dFmt, dJs, dIsT2, dIndex, dCallS, dYes, wipeE, dXf, dIsX, List.map_cons, List.map_nil, List.cons_append, List.nil_append, List.append_nil, List.length_cons, List.length_nil, List.replicate_succ, List.replicate_zero, Nat.reduceAdd, Nat.reduceSub, List.getElem?_cons_zero, List.getElem?_cons_succ, List.set_cons_zero, List.set_cons_succ, Nat.zero_add, Nat.add_zero, Nat.sub_self, x_add, x_sub, x_mulL, x_mulR, x_div, x_mod, x_lt, x_le, x_gt, x_ge, x_eq, x_ne, x_fro, x_step, x_first, x_last, x_on, x_l0, x_l1, x_l2, x_l3, x_l4, x_t0, x_t1, x_t2, x_t3, x_t4, x_intB, x_intI, x_max2, x_min2, x_lenL, x_lenT, x_sz, x_rs, x_rw, x_rf, x_ra, x_rl, x_slot, x_slotD, true_and, and_true, eq_self, decide_eq_true_eq, Bool.not_eq_true', decide_eq_false_iff_not, res_ok, res_er, Bool.and_eq_true, if_true, if_false, Bool.false_eq_true, g_own_lot, y_counts_of, y_share]
  exact q
theorem law_spot_of (K : PySem.W.Frag) (ds : List D) (Q : D → Prop) (R : DX) (h : F_spot_of K ds Q R) : dDef 4 (g_spot_of K) ds Q R := by
  obtain ⟨⟨r, n, t⟩, rfl, hr, q⟩ := h
  have h5 : r.a ≤ 4 ∧ 0 ≤ r.a := by rcases hr.a with e | e | e | e <;> omega
  dsimp only at q
  unfold spotOf at q
  by_cases e : r.a = 0
  · rw [if_pos e] at q
    simp (disch := first | assumption | omega) only [dDef, dRet, dRetL, dSeq, dIfS, dTst, dNotB, dAndB, dOrB, dAndV, dOrV, dNotV, dNeg, dIf, dCB, dCBL, dCons, dNil, dStar, dVar, dC, dCall, dOp, dOpL, dTup, dLst, dL, dSet, dAsg, dPar, dOwn, dExpr, dNx, dFor, dWhile, dItL, dItT, dProp, dMeth, dMk, dMk0, dRaise, dPart, dNoPart, dSlL, dSlT, dRevL, dgName, dgTup, dgSets, dOwnIx, dOwnLen, dOwnTup, dApp, dSetI, dRel, relE, dItZip, dItTab, dItEnK, dItEn, dIsS, dJoinG, dSplit, dFmt, dJs, dIsT2, dIndex, dCallS, dYes, wipeE, dXf, dIsX, List.map_cons, List.map_nil, List.cons_append, List.nil_append, List.append_nil, List.length_cons, List.length_nil, List.replicate_succ, List.replicate_zero, Nat.reduceAdd, Nat.reduceSub, List.getElem?_cons_zero, List.getElem?_cons_succ, List.set_cons_zero, List.set_cons_succ, Nat.zero_add, Nat.add_zero, Nat.sub_self, x_add, x_sub, x_mulL, x_mulR, x_div, x_mod, x_lt, x_le, x_gt, x_ge, x_eq, x_ne, x_fro, x_step, x_first, x_last, x_on, x_l0, x_l1, x_l2, x_l3, x_l4, x_t0, x_t1, x_t2, x_t3, x_t4, x_intB, x_intI, x_max2, x_min2, x_lenL, x_lenT, x_sz, x_rs, x_rw, x_rf, x_ra, x_rl, x_slot, x_slotD, true_and, and_true, eq_self, decide_eq_true_eq, Bool.not_eq_true', decide_eq_false_iff_not, res_ok, res_er, Bool.and_eq_true, if_true, if_false, Bool.false_eq_true, g_spot_of, e]
    exact q
  · rw [if_neg e] at q
    simp (disch := first | assumption | omega) only [dDef, dRet, dRetL, dSeq, dIfS, dTst, dNotB, dAndB, dOrB, dAndV, dOrV, dNotV, dNeg, dIf, dCB, dCBL, dCons, dNil, dStar, dVar, dC, dCall, dOp, dOpL, dTup, dLst, dL, dSet, dAsg, dPar, dOwn, dExpr, dNx, dFor, dWhile, dItL, dItT, dProp, dMeth, dMk, dMk0, dRaise, dPart, dNoPart, dSlL, dSlT, dRevL, dgName, dgTup, dgSets, dOwnIx, dOwnLen, dOwnTup, dApp, dSetI, dRel, relE, dItZip, dItTab, dItEnK, dItEn, dIsS, dJoinG, dSplit, dFmt, dJs, dIsT2, dIndex, dCallS, dYes, wipeE, dXf, dIsX, List.map_cons, List.map_nil, List.cons_append, List.nil_append, List.append_nil, List.length_cons, List.length_nil, List.replicate_succ, List.replicate_zero, Nat.reduceAdd, Nat.reduceSub, List.getElem?_cons_zero, List.getElem?_cons_succ, List.set_cons_zero, List.set_cons_succ, Nat.zero_add, Nat.add_zero, Nat.sub_self, x_add, x_sub, x_mulL, x_mulR, x_div, x_mod, x_lt, x_le, x_gt, x_ge, x_eq, x_ne, x_fro, x_step, x_first, x_last, x_on, x_l0, x_l1, x_l2, x_l3, x_l4, x_t0, x_t1, x_t2, x_t3, x_t4, x_intB, x_intI, x_max2, x_min2, x_lenL, x_lenT, x_sz, x_rs, x_rw, x_rf, x_ra, x_rl, x_slot, x_slotD, true_and, and_true, eq_self, decide_eq_true_eq, Bool.not_eq_true', decide_eq_false_iff_not, res_ok, res_er, Bool.and_eq_true, if_true, if_false, Bool.false_eq_true, g_spot_of, e, y_counts_of]
    split <;> simp_all
theorem law_person_of (K : PySem.W.Frag) (ds : List D) (Q : D → Prop) (R : DX) (h : F_person_of K ds Q R) : dDef 8 (g_person_of K) ds Q R := by
  obtain ⟨⟨r, m, n, t⟩, rfl, ⟨hr, hm⟩, q⟩ := h
  have h3 := hr.pos; have h4 := Ru.s3 hr
  dsimp only at q
  unfold personOf turnOf at q
  simp (disch := first | assumption | omega) only [dDef, dRet, dRetL, dSeq, dIfS, dTst, dNotB, dAndB, dOrB, dAndV, dOrV, dNotV, dNeg, dIf, dCB, dCBL, dCons, dNil, dStar, dVar, dC, dCall, dOp, dOpL, dTup, dLst, dL, dSet, dAsg, dPar, dOwn, dExpr, dNx, dFor, dWhile, dItL, dItT, dProp, dMeth, dMk, dMk0, dRaise, dPart, dNoPart, dSlL, dSlT, dRevL, dgName, dgTup, dgSets, dOwnIx, dOwnLen, dOwnTup, dApp, dSetI, dRel, relE, dItZip, dItTab, dItEnK, dItEn, dIsS, dJoinG, dSplit, dFmt, dJs, dIsT2, dIndex, dCallS, dYes, wipeE, dXf, dIsX, List.map_cons, List.map_nil, List.cons_append, List.nil_append, List.append_nil, List.length_cons, List.length_nil, List.replicate_succ, List.replicate_zero, Nat.reduceAdd, Nat.reduceSub, List.getElem?_cons_zero, List.getElem?_cons_succ, List.set_cons_zero, List.set_cons_succ, Nat.zero_add, Nat.add_zero, Nat.sub_self, x_add, x_sub, x_mulL, x_mulR, x_div, x_mod, x_lt, x_le, x_gt, x_ge, x_eq, x_ne, x_fro, x_step, x_first, x_last, x_on, x_l0, x_l1, x_l2, x_l3, x_l4, x_t0, x_t1, x_t2, x_t3, x_t4, x_intB, x_intI, x_max2, x_min2, x_lenL, x_lenT, x_sz, x_rs, x_rw, x_rf, x_ra, x_rl, x_slot, x_slotD, true_and, and_true, eq_self, decide_eq_true_eq, Bool.not_eq_true', decide_eq_false_iff_not, res_ok, res_er, Bool.and_eq_true, if_true, if_false, Bool.false_eq_true, g_person_of, y_counts_of, y_person_at]
  split <;> simp_all
end Pr

set_option maxHeartbeats 4000000
/-! Comprehensions and loops over lists of any kind; ranges; the rows of turns. -/
namespace Pr
open PySem PySem.Spec PyProof.Rows L2 Dl Dv Dk Gx Ma

theorem lc_gen {α : Type} {gt : DTg} {ft : DB} {fe : DE} {env : Env'} {f g : α → D} {p : α → Bool} {Q : List D → Prop} : ∀ (xs : List α) (acc : List D),
    (∀ x ∈ xs, ∀ (Q1 : D → Prop) (Q2 : Prop), (p x = true → Q1 (g x)) → (p x = false → Q2) → gt (f x) env fun e1 => ft e1 (fun b => if b = true then fe e1 Q1 FX else Q2) FX) →
    acc.length + xs.length ≤ sizeLine → Q (acc ++ (xs.filter p).map g) → dLcL gt ft fe env (xs.map f) acc Q
  | [], acc, _, _, q => by simpa [dLcL] using q
  | x :: xs, acc, hs, hl, q => by
    rw [List.map_cons]
    unfold dLcL
    simp only [List.length_cons] at hl
    refine hs x List.mem_cons_self _ _ (fun e => ⟨by omega, lc_gen xs _ (fun x hx => hs x (List.mem_cons_of_mem _ hx)) (by simp; omega) ?_⟩) (fun e => lc_gen xs _ (fun x hx => hs x (List.mem_cons_of_mem _ hx)) (by omega) ?_)
    · simpa [List.filter_cons, e] using q
    · simpa [List.filter_cons, e] using q
/-- [g x for x in xs if p x] -/
theorem lc_if {α : Type} {gt : DTg} {ft : DB} {fe : DE} {env : Env'} {ds : List D} {Q : List D → Prop} {xs : List α} (f g : α → D) (p : α → Bool) (e : ds = xs.map f) (hl : xs.length ≤ sizeLine)
    (hs : ∀ x ∈ xs, ∀ (Q1 : D → Prop) (Q2 : Prop), (p x = true → Q1 (g x)) → (p x = false → Q2) → gt (f x) env fun e1 => ft e1 (fun b => if b = true then fe e1 Q1 FX else Q2) FX) (q : Q ((xs.filter p).map g)) : dLcL gt ft fe env ds [] Q := by
  subst e
  exact lc_gen xs [] hs (by simpa using hl) (by simpa using q)
/-- [g x for x in xs] -/
theorem lc_map {α : Type} {gt : DTg} {fe : DE} {env : Env'} {ds : List D} {Q : List D → Prop} {xs : List α} (f g : α → D) (e : ds = xs.map f) (hl : xs.length ≤ sizeLine)
    (hs : ∀ x ∈ xs, ∀ (Q1 : D → Prop), Q1 (g x) → gt (f x) env fun e1 => fe e1 Q1 FX) (q : Q (xs.map g)) : dLcL gt dYes fe env ds [] Q := by
  subst e
  refine lc_gen (p := fun _ => true) (f := f) (g := g) xs [] (fun x hx Q1 Q2 h1 _ => ?_) (by simpa using hl) (by rw [List.nil_append, List.filter_eq_self.mpr fun _ _ => rfl]; exact q)
  exact hs x hx Q1 (h1 rfl)
theorem for_inv {α : Type} {gt : DTg} {gb : DG} {k : Kn} (f : α → D) (all : List α) (Inv : List α → Env' → Prop)
    (step : ∀ pre x post, all = pre ++ x :: post → ∀ e (N : Env' → Prop), Inv pre e → (∀ e', Inv (pre ++ [x]) e' → N e') → gt (f x) e fun e1 => gb e1 { k with nx := N, ct := N, bk := k.nx })
    (fin : ∀ e, Inv all e → k.nx e) : ∀ (post pre : List α) (env : Env'), all = pre ++ post → Inv pre env → dForL gt gb (post.map f) env k
  | [], pre, env, ha, h => fin env (by rw [ha, List.append_nil]; exact h)
  | x :: post, pre, env, ha, h => by
    rw [List.map_cons]
    unfold dForL
    exact step pre x post ha env _ h fun e' h' => for_inv f all Inv step fin post (pre ++ [x]) e' (by rw [ha]; simp) h'
/-- for x in xs -/
theorem for_list {α : Type} {gt : DTg} {gb : DG} {k : Kn} {ds : List D} {env : Env'} (f : α → D) (all : List α) (Inv : List α → Env' → Prop) (ed : ds = all.map f) (h0 : Inv [] env)
    (step : ∀ pre x post, all = pre ++ x :: post → ∀ e (N : Env' → Prop), Inv pre e → (∀ e', Inv (pre ++ [x]) e' → N e') → gt (f x) e fun e1 => gb e1 { k with nx := N, ct := N, bk := k.nx })
    (fin : ∀ e, Inv all e → k.nx e) : dForL gt gb ds env k := by
  subst ed
  exact for_inv f all Inv step fin all [] env rfl h0
theorem while_inv {ft : DB} {gb : DG} {k : Kn} (Inv : Nat → Env' → Prop)
    (hs : ∀ n e (N : Env' → Prop), Inv n e → (∀ m e', m < n → Inv m e' → N e') → ft e (fun b => if b = true then gb e { k with nx := N, ct := N, bk := k.nx } else k.nx e) (fun x => k.xc x e)) :
    ∀ (F n : Nat) (e : Env'), n ≤ F → Inv n e → dWhileN ft gb (F + 1) e k
  | 0, n, e, hn, h => by
    unfold dWhileN
    exact hs n e _ h fun m e' hm h' => by omega
  | F + 1, n, e, hn, h => by
    unfold dWhileN
    exact hs n e _ h fun m e' hm h' => while_inv Inv hs F m e' (by omega) h'
theorem while_ok {ft : DB} {gb : DG} {k : Kn} {env : Env'} (n : Nat) (Inv : Nat → Env' → Prop) (h : Inv n env)
    (hs : ∀ n e (N : Env' → Prop), Inv n e → (∀ m e', m < n → Inv m e' → N e') → ft e (fun b => if b = true then gb e { k with nx := N, ct := N, bk := k.nx } else k.nx e) (fun x => k.xc x e)) : dWhile ft gb env k :=
  ⟨n + 1, while_inv Inv hs n n env (Nat.le_refl _) h⟩
/-! ### ranges -/
theorem upto_length (n : Nat) : (upto n).length = n := by unfold upto; rw [List.length_map, List.length_range]
theorem upto_get {n i : Nat} (h : i < n) : (upto n)[i]? = some (i : Int) := by
  unfold upto
  rw [List.getElem?_map, List.getElem?_range h]
  rfl
theorem upto_mem {n : Nat} {x : Int} : x ∈ upto n ↔ 0 ≤ x ∧ x < n := by
  unfold upto
  constructor
  · intro h
    obtain ⟨k, hk, rfl⟩ := List.mem_map.mp h
    have := List.mem_range.mp hk
    omega
  · intro h
    exact List.mem_map.mpr ⟨x.toNat, List.mem_range.mpr (by omega), by omega⟩
theorem rng_upto (n : Nat) : rng 0 n = (upto n).map D.int := by
  unfold rng upto
  rw [List.map_map]
  refine List.map_congr_left fun k _ => ?_
  show D.int (0 + (k : Int)) = D.int (k : Int)
  rw [Int.zero_add]
theorem rgD_upto (m : Int) : rgD 0 m = (upto m.toNat).map D.int := by
  unfold rgD upto
  rw [List.map_map, Int.sub_zero]
  refine List.map_congr_left fun k _ => ?_
  show D.int (0 + (k : Int)) = D.int (k : Int)
  rw [Int.zero_add]
section
variable {Q : List D → Prop} {R : DX} {env : Env'} {f g : DE} {n m : Int}
def rng1D (Q : List D → Prop) : D → Prop := fun d => match d with
  | .int j => -(2 ^ 62) ≤ j ∧ j < 2 ^ 62 ∧ Q (rng 0 j.toNat)
  | _ => False
theorem x_rng1 : dRng1 (dCons f dNil) env Q R = f env (rng1D Q) R := by
  show f env _ R = _
  congr 1
  funext d
  unfold rng1D
  cases d <;> rfl
theorem x_rng1D (h0 : -4000000000000000000 ≤ n) (h1 : n ≤ 4000000000000000000) : rng1D Q (.int n) = Q ((upto n.toNat).map .int) := propext ⟨fun h => by rw [← rng_upto]; exact h.2.2, fun h => ⟨by omega, by omega, by rw [rng_upto]; exact h⟩⟩
def rangeL (i j : Int) : List Int := (upto (j - i).toNat).map fun k => i + k
theorem rng_range (i j : Int) : rng i (j - i).toNat = (rangeL i j).map .int := by
  unfold rng rangeL upto
  rw [List.map_map, List.map_map]
  rfl
def rng2D (Q : List D → Prop) (i : Int) : D → Prop := fun d => match d with
  | .int j => (-(2 ^ 62) ≤ i ∧ i < 2 ^ 62 ∧ -(2 ^ 62) ≤ j ∧ j < 2 ^ 62) ∧ Q (rng i (j - i).toNat)
  | _ => False
def rng2E (g : DE) (env : Env') (Q : List D → Prop) (R : DX) : D → Prop := fun d => match d with
  | .int i => g env (rng2D Q i) R
  | _ => g env (fun _ => False) R
theorem x_rng2 : dRng2 (dCons f (dCons g dNil)) env Q R = f env (rng2E g env Q R) R := by
  show f env _ R = _
  congr 1
  funext d
  unfold rng2E
  cases d <;> (show g env _ R = g env _ R) <;> congr 1 <;> funext e <;> (try unfold rng2D) <;> cases e <;> rfl
theorem x_rng2E : rng2E g env Q R (.int n) = g env (rng2D Q n) R := rfl
theorem x_rng2D (h0 : -4000000000000000000 ≤ n) (h1 : n ≤ 4000000000000000000) (h2 : -4000000000000000000 ≤ m) (h3 : m ≤ 4000000000000000000) : rng2D Q n (.int m) = Q ((rangeL n m).map .int) := propext ⟨fun h => by rw [← rng_range]; exact h.2, fun h => ⟨⟨by omega, by omega, by omega, by omega⟩, by rw [rng_range]; exact h⟩⟩
end
/-! ### the rows of turns -/
def rowJ (r : Ru) (m j : Int) : List Int := (upto m.toNat).map fun i => mir r m (placeAt r m j i)
theorem list_ext {xs ys : List Int} {n : Nat} (h1 : xs.length = n) (h2 : ys.length = n) (h : ∀ i, i < n → xs[i]? = ys[i]?) : xs = ys := by
  refine List.ext_getElem? fun i => ?_
  by_cases hi : i < n
  · exact h i hi
  · rw [List.getElem?_eq_none (by omega), List.getElem?_eq_none (by omega)]
theorem rev_upto (n : Nat) : (upto n).reverse = (upto n).map fun i => (n : Int) - 1 - i := by
  refine list_ext (n := n) (by rw [List.length_reverse, upto_length]) (by rw [List.length_map, upto_length]) fun i hi => ?_
  rw [List.getElem?_reverse (by rw [upto_length]; exact hi), upto_length, upto_get (by omega), List.getElem?_map, upto_get hi]
  simp
  omega
theorem rot_upto {n k : Nat} (h : k < n) : (upto n).drop k ++ (upto n).take k = (upto n).map fun i => (i + (k : Int)) % (n : Int) := by
  refine list_ext (n := n) (by simp [upto_length]; omega) (by rw [List.length_map, upto_length]) fun i hi => ?_
  rw [List.getElem?_map, upto_get hi]
  by_cases c : i < n - k
  · rw [List.getElem?_append_left (by rw [List.length_drop, upto_length]; exact c), List.getElem?_drop, upto_get (by omega)]
    show some _ = some (((i : Int) + (k : Int)) % (n : Int))
    rw [Int.emod_eq_of_lt (by omega) (by omega)]
    congr 1; omega
  · rw [List.getElem?_append_right (by rw [List.length_drop, upto_length]; omega), List.length_drop, upto_length, List.getElem?_take, if_pos (by omega), upto_get (by omega)]
    show some _ = some (((i : Int) + (k : Int)) % (n : Int))
    rw [← Int.sub_emod_right, Int.emod_eq_of_lt (by omega) (by omega)]
    congr 1; omega
/-- all persons of the first turns -/
def turnsL (r : Ru) (m : Int) (n : Nat) : List Int := (upto n).map (personAt r m)
theorem upto_add (a b : Nat) : upto (a + b) = upto a ++ (upto b).map fun i => (a : Int) + i := by
  induction b with
  | zero => simp [upto]
  | succ b ih =>
    rw [← Nat.add_assoc, upto_succ, upto_succ, ih, List.map_append, List.append_assoc]
    congr 2
theorem turnsL_next {r : Ru} {m : Nat} (j : Nat) (hm : Mo m) : turnsL r m ((j + 1) * m) = turnsL r m (j * m) ++ rowJ r m j := by
  have h1 := hm.lo
  unfold turnsL rowJ
  rw [show (j + 1) * m = j * m + m by rw [Nat.succ_mul], upto_add, List.map_append, List.map_map]
  congr 1
  rw [show ((m : Nat) : Int).toNat = m by omega]
  refine List.map_congr_left fun i hi => ?_
  have hi2 := upto_mem.mp hi
  show personAt r m (((j * m : Nat) : Int) + i) = _
  unfold personAt
  have e : (((j * m : Nat) : Int) + i) / (m : Int) = j ∧ (((j * m : Nat) : Int) + i) % (m : Int) = i :=
    (Int.ediv_emod_unique (by omega)).mpr ⟨by rw [Int.natCast_mul, Int.mul_comm]; omega, by omega, by omega⟩
  rw [e.1, e.2]
end Pr

set_option maxHeartbeats 4000000
/-! lots.py: the lists, what is refused. -/
namespace Pr
open PySem PySem.Spec PyProof.Rows L2 Dl Dv Dk Gx Ma
theorem law_own_lots (K : PySem.W.Frag) (ds : List D) (Q : D → Prop) (R : DX) (h : F_own_lots K ds Q R) : dDef 4 (g_own_lots K) ds Q R := by
  obtain ⟨⟨r, m, n⟩, rfl, ⟨hr, hm⟩, q⟩ := h
  have h1 := hm.lo; have h2 := hm.hi
  dsimp only at q
  simp (disch := first | assumption | omega) only [dDef, dRet, dRetL, dSeq, dIfS, dTst, dNotB, dAndB, dOrB, dAndV, dOrV, dNotV, dNeg, dIf, dCB, dCBL, dCons, dNil, dStar, dVar, dC, dCall, dOp, dOpL, dTup, dLst, dL, dSet, dAsg, dPar, dOwn, dExpr, dNx, dFor, dWhile, dItL, dItT, dProp, dMeth, dMk, dMk0, dRaise, dPart, dNoPart, dSlL, dSlT, dRevL, dgName, dgTup, dgSets, dOwnIx, dOwnLen, dOwnTup, dApp, dSetI, dRel, relE, dItZip, dItTab, dItEnK, dItEn, dIsS, dJoinG, dSplit, dFmt, dJs, dIsT2, dIndex, dCallS, dYes, wipeE, dXf, dIsX, List.map_cons, List.map_nil, List.cons_append, List.nil_append, List.append_nil, List.length_cons, List.length_nil, List.replicate_succ, List.replicate_zero, Nat.reduceAdd, Nat.reduceSub, List.getElem?_cons_zero, List.getElem?_cons_succ, List.set_cons_zero, List.set_cons_succ, Nat.zero_add, Nat.add_zero, Nat.sub_self, x_add, x_sub, x_mulL, x_mulR, x_div, x_mod, x_lt, x_le, x_gt, x_ge, x_eq, x_ne, x_fro, x_step, x_first, x_last, x_on, x_l0, x_l1, x_l2, x_l3, x_l4, x_t0, x_t1, x_t2, x_t3, x_t4, x_intB, x_intI, x_max2, x_min2, x_lenL, x_lenT, x_sz, x_rs, x_rw, x_rf, x_ra, x_rl, x_slot, x_slotD, true_and, and_true, eq_self, decide_eq_true_eq, Bool.not_eq_true', decide_eq_false_iff_not, res_ok, res_er, x_rng1, x_rng1D, x_rng2, x_rng2E, x_rng2D, Bool.and_eq_true, if_true, if_false, Bool.false_eq_true, g_own_lots, dLc]
  refine lc_map (xs := upto m.toNat) D.int (fun x => .int (ownLot r m n x)) rfl (len_le (by rw [upto_length]; omega)) (fun x hx Q1 h => ?_) ?_
  · simp (disch := first | assumption | omega) only [dDef, dRet, dRetL, dSeq, dIfS, dTst, dNotB, dAndB, dOrB, dAndV, dOrV, dNotV, dNeg, dIf, dCB, dCBL, dCons, dNil, dStar, dVar, dC, dCall, dOp, dOpL, dTup, dLst, dL, dSet, dAsg, dPar, dOwn, dExpr, dNx, dFor, dWhile, dItL, dItT, dProp, dMeth, dMk, dMk0, dRaise, dPart, dNoPart, dSlL, dSlT, dRevL, dgName, dgTup, dgSets, dOwnIx, dOwnLen, dOwnTup, dApp, dSetI, dRel, relE, dItZip, dItTab, dItEnK, dItEn, dIsS, dJoinG, dSplit, dFmt, dJs, dIsT2, dIndex, dCallS, dYes, wipeE, dXf, dIsX, List.map_cons, List.map_nil, List.cons_append, List.nil_append, List.append_nil, List.length_cons, List.length_nil, List.replicate_succ, List.replicate_zero, Nat.reduceAdd, Nat.reduceSub, List.getElem?_cons_zero, List.getElem?_cons_succ, List.set_cons_zero, List.set_cons_succ, Nat.zero_add, Nat.add_zero, Nat.sub_self, x_add, x_sub, x_mulL, x_mulR, x_div, x_mod, x_lt, x_le, x_gt, x_ge, x_eq, x_ne, x_fro, x_step, x_first, x_last, x_on, x_l0, x_l1, x_l2, x_l3, x_l4, x_t0, x_t1, x_t2, x_t3, x_t4, x_intB, x_intI, x_max2, x_min2, x_lenL, x_lenT, x_sz, x_rs, x_rw, x_rf, x_ra, x_rl, x_slot, x_slotD, true_and, and_true, eq_self, decide_eq_true_eq, Bool.not_eq_true', decide_eq_false_iff_not, res_ok, res_er, x_rng1, x_rng1D, x_rng2, x_rng2E, x_rng2D, Bool.and_eq_true, if_true, if_false, Bool.false_eq_true, y_own_lot, wipeE]
    exact h
  · have e : (upto m.toNat).map (fun x => D.int (ownLot r m n x)) = (lotsL r m n).map D.int := by unfold lotsL; rw [List.map_map]; rfl
    rw [e]
    exact q
theorem lotsL_ne {r : Ru} {m n : Int} (hm : Mo m) : lotsL r m n ≠ [] := fun h => by
  have h1 := hm.lo
  have : (lotsL r m n).length = m.toNat := by unfold lotsL; rw [List.length_map, upto_length]
  rw [h] at this
  simp at this
  omega
theorem law_own_spread (K : PySem.W.Frag) (ds : List D) (Q : D → Prop) (R : DX) (h : F_own_spread K ds Q R) : dDef 4 (g_own_spread K) ds Q R := by
  obtain ⟨⟨r, m, n⟩, rfl, ⟨hr, hm⟩, q⟩ := h
  dsimp only at q
  simp (disch := first | assumption | omega) only [dDef, dRet, dRetL, dSeq, dIfS, dTst, dNotB, dAndB, dOrB, dAndV, dOrV, dNotV, dNeg, dIf, dCB, dCBL, dCons, dNil, dStar, dVar, dC, dCall, dOp, dOpL, dTup, dLst, dL, dSet, dAsg, dPar, dOwn, dExpr, dNx, dFor, dWhile, dItL, dItT, dProp, dMeth, dMk, dMk0, dRaise, dPart, dNoPart, dSlL, dSlT, dRevL, dgName, dgTup, dgSets, dOwnIx, dOwnLen, dOwnTup, dApp, dSetI, dRel, relE, dItZip, dItTab, dItEnK, dItEn, dIsS, dJoinG, dSplit, dFmt, dJs, dIsT2, dIndex, dCallS, dYes, wipeE, dXf, dIsX, List.map_cons, List.map_nil, List.cons_append, List.nil_append, List.append_nil, List.length_cons, List.length_nil, List.replicate_succ, List.replicate_zero, Nat.reduceAdd, Nat.reduceSub, List.getElem?_cons_zero, List.getElem?_cons_succ, List.set_cons_zero, List.set_cons_succ, Nat.zero_add, Nat.add_zero, Nat.sub_self, x_add, x_sub, x_mulL, x_mulR, x_div, x_mod, x_lt, x_le, x_gt, x_ge, x_eq, x_ne, x_fro, x_step, x_first, x_last, x_on, x_l0, x_l1, x_l2, x_l3, x_l4, x_t0, x_t1, x_t2, x_t3, x_t4, x_intB, x_intI, x_max2, x_min2, x_lenL, x_lenT, x_sz, x_rs, x_rw, x_rf, x_ra, x_rl, x_slot, x_slotD, true_and, and_true, eq_self, decide_eq_true_eq, Bool.not_eq_true', decide_eq_false_iff_not, res_ok, res_er, x_rng1, x_rng1D, x_rng2, x_rng2E, x_rng2D, Bool.and_eq_true, if_true, if_false, Bool.false_eq_true, g_own_spread, y_own_lots, x_maxL (lotsL_ne hm), x_minL (lotsL_ne hm)]
  exact q
/-! ### what is refused -/
abbrev eP (K : PySem.W.Frag) : Exc := ⟨He.ga K "InvalidPeople", none⟩
abbrev eT (K : PySem.W.Frag) : Exc := ⟨He.ga K "InvalidThings", none⟩
abbrev ePn (K : PySem.W.Frag) : Exc := ⟨He.ga K "InvalidPerson", none⟩
abbrev eTg (K : PySem.W.Frag) : Exc := ⟨He.ga K "InvalidThing", none⟩
def isD (d : D) : Bool := (dty d).isSome
/-- what look_at answers -/
def lookAt (K : PySem.W.Frag) (m n : D) (most : Int) : Except Exc D := if isIn m 2 12 = true then (if isIn n 0 most = true then .ok .non else .error (eT K)) else .error (eP K)
def F_look_at (K : PySem.W.Frag) : DF := fun ds Q R => ∃ m n most, ds = [m, n, .int most] ∧ isD m = true ∧ isD n = true ∧ res (lookAt K m n most) Q R
def F_look_at_person (K : PySem.W.Frag) : DF := fun ds Q R => ∃ m p, ds = [.int m, p] ∧ isD p = true ∧ res (if isIn p 0 (m - 1) = true then .ok .non else .error (ePn K)) Q R
section
variable {K : PySem.W.Frag} {r : Ru} {Q : D → Prop} {R : DX} {m n p v : D} {most i l : Int}
theorem y_within (h : isD v = true) : F_is_within [v, .int l, .int i] Q R = Q (.bl (isIn v l i)) := propext ⟨fun ⟨v', l', m', e, _, q⟩ => by
    simp only [List.cons.injEq, D.int.injEq, and_true] at e
    obtain ⟨rfl, rfl, rfl⟩ := e
    exact q, fun q => ⟨v, l, i, rfl, h, q⟩⟩
theorem y_integer (h : isD v = true) : F_is_integer [v, .int l] Q R = Q (.bl (isInt v l)) := propext ⟨fun ⟨v', l', e, _, q⟩ => by
    simp only [List.cons.injEq, D.int.injEq, and_true] at e
    obtain ⟨rfl, rfl⟩ := e
    exact q, fun q => ⟨v, l, rfl, h, q⟩⟩
theorem y_look_at (h1 : isD m = true) (h2 : isD n = true) : F_look_at K [m, n, .int most] Q R = res (lookAt K m n most) Q R := propext ⟨fun ⟨m', n', o', e, _, _, q⟩ => by
    simp only [List.cons.injEq, D.int.injEq, and_true] at e
    obtain ⟨rfl, rfl, rfl⟩ := e
    exact q, fun q => ⟨m, n, most, rfl, h1, h2, q⟩⟩
theorem y_look_at_person (h : isD p = true) : F_look_at_person K [.int i, p] Q R = res (if isIn p 0 (i - 1) = true then .ok .non else .error (ePn K)) Q R := propext ⟨fun ⟨m', p', e, _, q⟩ => by
    simp only [List.cons.injEq, D.int.injEq, and_true] at e
    obtain ⟨rfl, rfl⟩ := e
    exact q, fun q => ⟨i, p, rfl, h, q⟩⟩
theorem isIn_int {a b : Int} (h : isIn v a b = true) : ∃ i, v = .int i ∧ a ≤ i ∧ i ≤ b := by
  cases v <;> simp [isIn] at h
  exact ⟨_, rfl, h⟩
theorem isIn_i {a b : Int} : isIn (.int i) a b = (decide (a ≤ i) && decide (i ≤ b)) := rfl
theorem isD_int : isD (.int i) = true := rfl
end
def g_look_at (K : PySem.W.Frag) : DG :=
  (dSeq (dIfS (dNotB (dTst (dCall 3 F_is_within (dCons (dVar 0) (dCons (dC (.int 2)) (dCons (dC (.int 12)) dNil)))))) (dRaise (dMk0 (He.ga K "InvalidPeople"))) dNx)
  (dIfS (dNotB (dTst (dCall 3 F_is_within (dCons (dVar 1) (dCons (dC (.int 0)) (dCons (dVar 2) dNil)))))) (dRaise (dMk0 (He.ga K "InvalidThings"))) dNx))
def g_look_at_person (K : PySem.W.Frag) : DG :=
  (dIfS (dNotB (dTst (dCall 3 F_is_within (dCons (dVar 1) (dCons (dC (.int 0)) (dCons (dOp gSub (dVar 0) (dC (.int 1))) dNil)))))) (dRaise (dMk0 (He.ga K "InvalidPerson"))) dNx)
def g_lot (K : PySem.W.Frag) : DG :=
  (dSeq (dExpr (dCall 3 (F_look_at K) (dCons (dVar 1) (dCons (dVar 2) (dCons (dC (.int 1000000000000000000000000000000)) dNil)))))
  (dSeq (dExpr (dCall 2 (F_look_at_person K) (dCons (dVar 1) (dCons (dVar 3) dNil))))
  (dRet (dCall 4 (F_own_lot K) (dCons (dVar 0) (dCons (dVar 1) (dCons (dVar 2) (dCons (dVar 3) dNil))))))))
def g_lots (K : PySem.W.Frag) : DG :=
  (dSeq (dExpr (dCall 3 (F_look_at K) (dCons (dVar 1) (dCons (dVar 2) (dCons (dC (.int 1000000000000000000000000000000)) dNil)))))
  (dRet (dCall 3 (F_own_lots K) (dCons (dVar 0) (dCons (dVar 1) (dCons (dVar 2) dNil))))))
def g_spread (K : PySem.W.Frag) : DG :=
  (dSeq (dExpr (dCall 3 (F_look_at K) (dCons (dVar 1) (dCons (dVar 2) (dCons (dC (.int 1000000000000000000000000000000)) dNil)))))
  (dRet (dCall 3 (F_own_spread K) (dCons (dVar 0) (dCons (dVar 1) (dCons (dVar 2) dNil))))))
def g_whose (K : PySem.W.Frag) : DG :=
  (dSeq (dExpr (dCall 3 (F_look_at K) (dCons (dVar 1) (dCons (dVar 2) (dCons (dC (.int 1000000000000000000000000000000)) dNil)))))
  (dSeq (dIfS (dNotB (dTst (dCall 3 F_is_within (dCons (dVar 3) (dCons (dC (.int 0)) (dCons (dOp gSub (dVar 2) (dC (.int 1))) dNil)))))) (dRaise (dMk0 (He.ga K "InvalidThing"))) dNx)
  (dRet (dCall 4 (F_person_of K) (dCons (dVar 0) (dCons (dVar 1) (dCons (dVar 2) (dCons (dCall 3 (F_spot_of K) (dCons (dVar 0) (dCons (dVar 2) (dCons (dVar 3) dNil)))) dNil))))))))
def g_final (K : PySem.W.Frag) : DG :=
  (dSeq (dExpr (dCall 3 (F_look_at K) (dCons (dVar 1) (dCons (dVar 2) (dCons (dC (.int 1000000000000000000000000000000)) dNil)))))
  (dRet (dIf (dTst (dOp gGt (dVar 2) (dC (.int 0)))) (dCall 4 (F_person_of K) (dCons (dVar 0) (dCons (dVar 1) (dCons (dVar 2) (dCons (dOp gSub (dVar 2) (dC (.int 1))) dNil))))) (dC .non))))
theorem law_look_at (K : PySem.W.Frag) (ds : List D) (Q : D → Prop) (R : DX) (h : F_look_at K ds Q R) : dDef 3 (g_look_at K) ds Q R := by
  obtain ⟨m, n, most, rfl, hm, hn, q⟩ := h
  unfold lookAt at q
  rw [res_if] at q
  simp (disch := first | assumption | omega) only [dDef, dRet, dRetL, dSeq, dIfS, dTst, dNotB, dAndB, dOrB, dAndV, dOrV, dNotV, dNeg, dIf, dCB, dCBL, dCons, dNil, dStar, dVar, dC, dCall, dOp, dOpL, dTup, dLst, dL, dSet, dAsg, dPar, dOwn, dExpr, dNx, dFor, dWhile, dItL, dItT, dProp, dMeth, dMk, dMk0, dRaise, dPart, dNoPart, dSlL, dSlT, dRevL, dgName, dgTup, dgSets, dOwnIx, dOwnLen, dOwnTup, dApp, dSetI, dRel, relE, dItZip, dItTab, dItEnK, dItEn, dIsS, dJoinG, dSplit, dFmt, dJs, dIsT2, dIndex, dCallS, dYes, wipeE, dXf, dIsX, List.map_cons, List.map_nil, List.cons_append, List.nil_append, List.append_nil, List.length_cons, List.length_nil, List.replicate_succ, List.replicate_zero, Nat.reduceAdd, Nat.reduceSub, List.getElem?_cons_zero, List.getElem?_cons_succ, List.set_cons_zero, List.set_cons_succ, Nat.zero_add, Nat.add_zero, Nat.sub_self, x_add, x_sub, x_mulL, x_mulR, x_div, x_mod, x_lt, x_le, x_gt, x_ge, x_eq, x_ne, x_fro, x_step, x_first, x_last, x_on, x_l0, x_l1, x_l2, x_l3, x_l4, x_t0, x_t1, x_t2, x_t3, x_t4, x_intB, x_intI, x_max2, x_min2, x_lenL, x_lenT, x_sz, x_rs, x_rw, x_rf, x_ra, x_rl, x_slot, x_slotD, true_and, and_true, eq_self, decide_eq_true_eq, Bool.not_eq_true', decide_eq_false_iff_not, res_ok, res_er, x_rng1, x_rng1D, x_rng2, x_rng2E, x_rng2D, Bool.and_eq_true, if_true, if_false, Bool.false_eq_true, g_look_at, y_within, dMk0]
  cases h1 : isIn m 2 12 <;> cases h2 : isIn n 0 most <;> simp [h1, h2, res] at q ⊢ <;> exact q
theorem law_look_at_person (K : PySem.W.Frag) (ds : List D) (Q : D → Prop) (R : DX) (h : F_look_at_person K ds Q R) : dDef 2 (g_look_at_person K) ds Q R := by
  obtain ⟨m, p, rfl, hp, q⟩ := h
  rw [res_if] at q
  simp (disch := first | assumption | omega) only [dDef, dRet, dRetL, dSeq, dIfS, dTst, dNotB, dAndB, dOrB, dAndV, dOrV, dNotV, dNeg, dIf, dCB, dCBL, dCons, dNil, dStar, dVar, dC, dCall, dOp, dOpL, dTup, dLst, dL, dSet, dAsg, dPar, dOwn, dExpr, dNx, dFor, dWhile, dItL, dItT, dProp, dMeth, dMk, dMk0, dRaise, dPart, dNoPart, dSlL, dSlT, dRevL, dgName, dgTup, dgSets, dOwnIx, dOwnLen, dOwnTup, dApp, dSetI, dRel, relE, dItZip, dItTab, dItEnK, dItEn, dIsS, dJoinG, dSplit, dFmt, dJs, dIsT2, dIndex, dCallS, dYes, wipeE, dXf, dIsX, List.map_cons, List.map_nil, List.cons_append, List.nil_append, List.append_nil, List.length_cons, List.length_nil, List.replicate_succ, List.replicate_zero, Nat.reduceAdd, Nat.reduceSub, List.getElem?_cons_zero, List.getElem?_cons_succ, List.set_cons_zero, List.set_cons_succ, Nat.zero_add, Nat.add_zero, Nat.sub_self, x_add, x_sub, x_mulL, x_mulR, x_div, x_mod, x_lt, x_le, x_gt, x_ge, x_eq, x_ne, x_fro, x_step, x_first, x_last, x_on, x_l0, x_l1, x_l2, x_l3, x_l4, x_t0, x_t1, x_t2, x_t3, x_t4, x_intB, x_intI, x_max2, x_min2, x_lenL, x_lenT, x_sz, x_rs, x_rw, x_rf, x_ra, x_rl, x_slot, x_slotD, true_and, and_true, eq_self, decide_eq_true_eq, Bool.not_eq_true', decide_eq_false_iff_not, res_ok, res_er, x_rng1, x_rng1D, x_rng2, x_rng2E, x_rng2D, Bool.and_eq_true, if_true, if_false, Bool.false_eq_true, g_look_at_person, y_within, dMk0]
  cases h1 : isIn p 0 (m - 1) <;> simp [h1, res] at q ⊢ <;> exact q
/-- behind the looks -/
def F_lot (K : PySem.W.Frag) : DF := fun ds Q R => ∃ r m n p, ds = [rd K r, m, n, p] ∧ r.Ok ∧ isD m = true ∧ isD n = true ∧ isD p = true ∧ match lookAt K m n (10 ^ 30) with
  | .error e => R e
  | .ok _ => ∀ i j, m = .int i → n = .int j → res (if isIn p 0 (i - 1) = true then .ok (match p with | .int k => .int (ownLot r i j k) | _ => .non) else .error (ePn K)) Q R
def F_lots (K : PySem.W.Frag) : DF := fun ds Q R => ∃ r m n, ds = [rd K r, m, n] ∧ r.Ok ∧ isD m = true ∧ isD n = true ∧ match lookAt K m n (10 ^ 30) with
  | .error e => R e
  | .ok _ => ∀ i j, m = .int i → n = .int j → Q (il (lotsL r i j))
def F_spread (K : PySem.W.Frag) : DF := fun ds Q R => ∃ r m n, ds = [rd K r, m, n] ∧ r.Ok ∧ isD m = true ∧ isD n = true ∧ match lookAt K m n (10 ^ 30) with
  | .error e => R e
  | .ok _ => ∀ i j, m = .int i → n = .int j → Q (.int (spreadOf r i j))
def F_whose (K : PySem.W.Frag) : DF := fun ds Q R => ∃ r m n p, ds = [rd K r, m, n, p] ∧ r.Ok ∧ isD m = true ∧ isD n = true ∧ isD p = true ∧ match lookAt K m n (10 ^ 30) with
  | .error e => R e
  | .ok _ => ∀ i j, m = .int i → n = .int j → res (if isIn p 0 (j - 1) = true then .ok (match p with | .int k => .int (personOf r i j (spotOf r j k)) | _ => .non) else .error (eTg K)) Q R
def F_final (K : PySem.W.Frag) : DF := fun ds Q R => ∃ r m n, ds = [rd K r, m, n] ∧ r.Ok ∧ isD m = true ∧ isD n = true ∧ match lookAt K m n (10 ^ 30) with
  | .error e => R e
  | .ok _ => ∀ i j, m = .int i → n = .int j → Q (if 0 < j then .int (personOf r i j (j - 1)) else .non)
theorem look_cases {K : PySem.W.Frag} {m n : D} {most : Int} : (∃ e, lookAt K m n most = .error e) ∨ (lookAt K m n most = .ok .non ∧ ∃ i j, m = .int i ∧ n = .int j ∧ Mo i ∧ 0 ≤ j ∧ j ≤ most) := by
  unfold lookAt
  cases h1 : isIn m 2 12 with
  | false => exact .inl ⟨_, rfl⟩
  | true =>
    cases h2 : isIn n 0 most with
    | false => exact .inl ⟨_, rfl⟩
    | true =>
      obtain ⟨i, rfl, a, b⟩ := isIn_int h1
      obtain ⟨j, rfl, c, d⟩ := isIn_int h2
      exact .inr ⟨rfl, i, j, rfl, rfl, ⟨a, b⟩, c, d⟩
theorem law_lots (K : PySem.W.Frag) (ds : List D) (Q : D → Prop) (R : DX) (h : F_lots K ds Q R) : dDef 3 (g_lots K) ds Q R := by
  obtain ⟨r, m, n, rfl, hr, hm, hn, q⟩ := h
  simp (disch := first | assumption | omega) only [dDef, dRet, dRetL, dSeq, dIfS, dTst, dNotB, dAndB, dOrB, dAndV, dOrV, dNotV, dNeg, dIf, dCB, dCBL, dCons, dNil, dStar, dVar, dC, dCall, dOp, dOpL, dTup, dLst, dL, dSet, dAsg, dPar, dOwn, dExpr, dNx, dFor, dWhile, dItL, dItT, dProp, dMeth, dMk, dMk0, dRaise, dPart, dNoPart, dSlL, dSlT, dRevL, dgName, dgTup, dgSets, dOwnIx, dOwnLen, dOwnTup, dApp, dSetI, dRel, relE, dItZip, dItTab, dItEnK, dItEn, dIsS, dJoinG, dSplit, dFmt, dJs, dIsT2, dIndex, dCallS, dYes, wipeE, dXf, dIsX, List.map_cons, List.map_nil, List.cons_append, List.nil_append, List.append_nil, List.length_cons, List.length_nil, List.replicate_succ, List.replicate_zero, Nat.reduceAdd, Nat.reduceSub, List.getElem?_cons_zero, List.getElem?_cons_succ, List.set_cons_zero, List.set_cons_succ, Nat.zero_add, Nat.add_zero, Nat.sub_self, x_add, x_sub, x_mulL, x_mulR, x_div, x_mod, x_lt, x_le, x_gt, x_ge, x_eq, x_ne, x_fro, x_step, x_first, x_last, x_on, x_l0, x_l1, x_l2, x_l3, x_l4, x_t0, x_t1, x_t2, x_t3, x_t4, x_intB, x_intI, x_max2, x_min2, x_lenL, x_lenT, x_sz, x_rs, x_rw, x_rf, x_ra, x_rl, x_slot, x_slotD, true_and, and_true, eq_self, decide_eq_true_eq, Bool.not_eq_true', decide_eq_false_iff_not, res_ok, res_er, x_rng1, x_rng1D, x_rng2, x_rng2E, x_rng2D, Bool.and_eq_true, if_true, if_false, Bool.false_eq_true, g_lots, y_look_at]
  rw [show (1000000000000000000000000000000 : Int) = 10 ^ 30 by decide]
  rcases look_cases (K := K) (m := m) (n := n) (most := 10 ^ 30) with ⟨e, he⟩ | ⟨he, i, j, rfl, rfl, hi, _, _⟩
  · rw [he] at q ⊢
    exact q
  · rw [he] at q ⊢
    simp (disch := first | assumption | omega) only [dDef, dRet, dRetL, dSeq, dIfS, dTst, dNotB, dAndB, dOrB, dAndV, dOrV, dNotV, dNeg, dIf, dCB, dCBL, dCons, dNil, dStar, dVar, dC, dCall, dOp, dOpL, dTup, dLst, dL, dSet, dAsg, dPar, dOwn, dExpr, dNx, dFor, dWhile, dItL, dItT, dProp, dMeth, dMk, dMk0, dRaise, dPart, dNoPart, dSlL, dSlT, dRevL, dgName, dgTup, dgSets, dOwnIx, dOwnLen, dOwnTup, dApp, dSetI, dRel, relE, dItZip, dItTab, dItEnK, dItEn, dIsS, dJoinG, dSplit, dFmt, dJs, dIsT2, dIndex, dCallS, dYes, wipeE, dXf, dIsX, List.map_cons, List.map_nil, List.cons_append, List.nil_append, List.append_nil, List.length_cons, List.length_nil, List.replicate_succ, List.replicate_zero, Nat.reduceAdd, Nat.reduceSub, List.getElem?_cons_zero, List.getElem?_cons_succ, List.set_cons_zero, List.set_cons_succ, Nat.zero_add, Nat.add_zero, Nat.sub_self, x_add, x_sub, x_mulL, x_mulR, x_div, x_mod, x_lt, x_le, x_gt, x_ge, x_eq, x_ne, x_fro, x_step, x_first, x_last, x_on, x_l0, x_l1, x_l2, x_l3, x_l4, x_t0, x_t1, x_t2, x_t3, x_t4, x_intB, x_intI, x_max2, x_min2, x_lenL, x_lenT, x_sz, x_rs, x_rw, x_rf, x_ra, x_rl, x_slot, x_slotD, true_and, and_true, eq_self, decide_eq_true_eq, Bool.not_eq_true', decide_eq_false_iff_not, res_ok, res_er, x_rng1, x_rng1D, x_rng2, x_rng2E, x_rng2D, Bool.and_eq_true, if_true, if_false, Bool.false_eq_true, y_own_lots]
    exact q i j rfl rfl
theorem law_spread (K : PySem.W.Frag) (ds : List D) (Q : D → Prop) (R : DX) (h : F_spread K ds Q R) : dDef 3 (g_spread K) ds Q R := by
  obtain ⟨r, m, n, rfl, hr, hm, hn, q⟩ := h
  simp (disch := first | assumption | omega) only [dDef, dRet, dRetL, dSeq, dIfS, dTst, dNotB, dAndB, dOrB, dAndV, dOrV, dNotV, dNeg, dIf, dCB, dCBL, dCons, dNil, dStar, dVar, dC, dCall, dOp, dOpL, dTup, dLst, dL, dSet, dAsg, dPar, dOwn, dExpr, dNx, dFor, dWhile, dItL, dItT, dProp, dMeth, dMk, dMk0, dRaise, dPart, dNoPart, dSlL, dSlT, dRevL, dgName, dgTup, dgSets, dOwnIx, dOwnLen, dOwnTup, dApp, dSetI, dRel, relE, dItZip, dItTab, dItEnK, dItEn, dIsS, dJoinG, dSplit, dFmt, dJs, dIsT2, dIndex, dCallS, dYes, wipeE, dXf, dIsX, List.map_cons, List.map_nil, List.cons_append, List.nil_append, List.append_nil, List.length_cons, List.length_nil, List.replicate_succ, List.replicate_zero, Nat.reduceAdd, Nat.reduceSub, List.getElem?_cons_zero, List.getElem?_cons_succ, List.set_cons_zero, List.set_cons_succ, Nat.zero_add, Nat.add_zero, Nat.sub_self, x_add, x_sub, x_mulL, x_mulR, x_div, x_mod, x_lt, x_le, x_gt, x_ge, x_eq, x_ne, x_fro, x_step, x_first, x_last, x_on, x_l0, x_l1, x_l2, x_l3, x_l4, x_t0, x_t1, x_t2, x_t3, x_t4, x_intB, x_intI, x_max2, x_min2, x_lenL, x_lenT, x_sz, x_rs, x_rw, x_rf, x_ra, x_rl, x_slot, x_slotD, true_and, and_true, eq_self, decide_eq_true_eq, Bool.not_eq_true', decide_eq_false_iff_not, res_ok, res_er, x_rng1, x_rng1D, x_rng2, x_rng2E, x_rng2D, Bool.and_eq_true, if_true, if_false, Bool.false_eq_true, g_spread, y_look_at]
  rw [show (1000000000000000000000000000000 : Int) = 10 ^ 30 by decide]
  rcases look_cases (K := K) (m := m) (n := n) (most := 10 ^ 30) with ⟨e, he⟩ | ⟨he, i, j, rfl, rfl, hi, _, _⟩
  · rw [he] at q ⊢
    exact q
  · rw [he] at q ⊢
    simp (disch := first | assumption | omega) only [dDef, dRet, dRetL, dSeq, dIfS, dTst, dNotB, dAndB, dOrB, dAndV, dOrV, dNotV, dNeg, dIf, dCB, dCBL, dCons, dNil, dStar, dVar, dC, dCall, dOp, dOpL, dTup, dLst, dL, dSet, dAsg, dPar, dOwn, dExpr, dNx, dFor, dWhile, dItL, dItT, dProp, dMeth, dMk, dMk0, dRaise, dPart, dNoPart, dSlL, dSlT, dRevL, dgName, dgTup, dgSets, dOwnIx, dOwnLen, dOwnTup, dApp, dSetI, dRel, relE, dItZip, dItTab, dItEnK, dItEn, dIsS, dJoinG, dSplit, dFmt, dJs, dIsT2, dIndex, dCallS, dYes, wipeE, dXf, dIsX, List.map_cons, List.map_nil, List.cons_append, List.nil_append, List.append_nil, List.length_cons, List.length_nil, List.replicate_succ, List.replicate_zero, Nat.reduceAdd, Nat.reduceSub, List.getElem?_cons_zero, List.getElem?_cons_succ, List.set_cons_zero, List.set_cons_succ, Nat.zero_add, Nat.add_zero, Nat.sub_self, x_add, x_sub, x_mulL, x_mulR, x_div, x_mod, x_lt, x_le, x_gt, x_ge, x_eq, x_ne, x_fro, x_step, x_first, x_last, x_on, x_l0, x_l1, x_l2, x_l3, x_l4, x_t0, x_t1, x_t2, x_t3, x_t4, x_intB, x_intI, x_max2, x_min2, x_lenL, x_lenT, x_sz, x_rs, x_rw, x_rf, x_ra, x_rl, x_slot, x_slotD, true_and, and_true, eq_self, decide_eq_true_eq, Bool.not_eq_true', decide_eq_false_iff_not, res_ok, res_er, x_rng1, x_rng1D, x_rng2, x_rng2E, x_rng2D, Bool.and_eq_true, if_true, if_false, Bool.false_eq_true, y_own_spread]
    exact q i j rfl rfl
theorem law_final (K : PySem.W.Frag) (ds : List D) (Q : D → Prop) (R : DX) (h : F_final K ds Q R) : dDef 3 (g_final K) ds Q R := by
  obtain ⟨r, m, n, rfl, hr, hm, hn, q⟩ := h
  simp (disch := first | assumption | omega) only [dDef, dRet, dRetL, dSeq, dIfS, dTst, dNotB, dAndB, dOrB, dAndV, dOrV, dNotV, dNeg, dIf, dCB, dCBL, dCons, dNil, dStar, dVar, dC, dCall, dOp, dOpL, dTup, dLst, dL, dSet, dAsg, dPar, dOwn, dExpr, dNx, dFor, dWhile, dItL, dItT, dProp, dMeth, dMk, dMk0, dRaise, dPart, dNoPart, dSlL, dSlT, dRevL, dgName, dgTup, dgSets, dOwnIx, dOwnLen, dOwnTup, dApp, dSetI, dRel, relE, dItZip, dItTab, dItEnK, dItEn, dIsS, dJoinG, dSplit, dFmt, dJs, dIsT2, dIndex, dCallS, dYes, wipeE, dXf, dIsX, List.map_cons, List.map_nil, List.cons_append, List.nil_append, List.append_nil, List.length_cons, List.length_nil, List.replicate_succ, List.replicate_zero, Nat.reduceAdd, Nat.reduceSub, List.getElem?_cons_zero, List.getElem?_cons_succ, List.set_cons_zero, List.set_cons_succ, Nat.zero_add, Nat.add_zero, Nat.sub_self, x_add, x_sub, x_mulL, x_mulR, x_div, x_mod, x_lt, x_le, x_gt, x_ge, x_eq, x_ne, x_fro, x_step, x_first, x_last, x_on, x_l0, x_l1, x_l2, x_l3, x_l4, x_t0, x_t1, x_t2, x_t3, x_t4, x_intB, x_intI, x_max2, x_min2, x_lenL, x_lenT, x_sz, x_rs, x_rw, x_rf, x_ra, x_rl, x_slot, x_slotD, true_and, and_true, eq_self, decide_eq_true_eq, Bool.not_eq_true', decide_eq_false_iff_not, res_ok, res_er, x_rng1, x_rng1D, x_rng2, x_rng2E, x_rng2D, Bool.and_eq_true, if_true, if_false, Bool.false_eq_true, g_final, y_look_at]
  rw [show (1000000000000000000000000000000 : Int) = 10 ^ 30 by decide]
  rcases look_cases (K := K) (m := m) (n := n) (most := 10 ^ 30) with ⟨e, he⟩ | ⟨he, i, j, rfl, rfl, hi, _, _⟩
  · rw [he] at q ⊢
    exact q
  · rw [he] at q ⊢
    simp (disch := first | assumption | omega) only [dDef, dRet, dRetL, dSeq, dIfS, dTst, dNotB, dAndB, dOrB, dAndV, dOrV, dNotV, dNeg, dIf, dCB, dCBL, dCons, dNil, dStar, dVar, dC, dCall, dOp, dOpL, dTup, dLst, dL, dSet, dAsg, dPar, dOwn, dExpr, dNx, dFor, dWhile, dItL, dItT, dProp, dMeth, dMk, dMk0, dRaise, dPart, dNoPart, dSlL, dSlT, dRevL, dgName, dgTup, dgSets, dOwnIx, dOwnLen, dOwnTup, dApp, dSetI, dRel, relE, dItZip, dItTab, dItEnK, dItEn, dIsS, dJoinG, dSplit, dFmt, dJs, dIsT2, dIndex, dCallS, dYes, wipeE, dXf, dIsX, List.map_cons, List.map_nil, List.cons_append, List.nil_append, List.append_nil, List.length_cons, List.length_nil, List.replicate_succ, List.replicate_zero, Nat.reduceAdd, Nat.reduceSub, List.getElem?_cons_zero, List.getElem?_cons_succ, List.set_cons_zero, List.set_cons_succ, Nat.zero_add, Nat.add_zero, Nat.sub_self, x_add, x_sub, x_mulL, x_mulR, x_div, x_mod, x_lt, x_le, x_gt, x_ge, x_eq, x_ne, x_fro, x_step, x_first, x_last, x_on, x_l0, x_l1, x_l2, x_l3, x_l4, x_t0, x_t1, x_t2, x_t3, x_t4, x_intB, x_intI, x_max2, x_min2, x_lenL, x_lenT, x_sz, x_rs, x_rw, x_rf, x_ra, x_rl, x_slot, x_slotD, true_and, and_true, eq_self, decide_eq_true_eq, Bool.not_eq_true', decide_eq_false_iff_not, res_ok, res_er, x_rng1, x_rng1D, x_rng2, x_rng2E, x_rng2D, Bool.and_eq_true, if_true, if_false, Bool.false_eq_true, y_person_of]
    have q2 := q i j rfl rfl
    split <;> simp_all
theorem law_lot (K : PySem.W.Frag) (ds : List D) (Q : D → Prop) (R : DX) (h : F_lot K ds Q R) : dDef 4 (g_lot K) ds Q R := by
  obtain ⟨r, m, n, p, rfl, hr, hm, hn, hp, q⟩ := h
  simp (disch := first | assumption | omega) only [dDef, dRet, dRetL, dSeq, dIfS, dTst, dNotB, dAndB, dOrB, dAndV, dOrV, dNotV, dNeg, dIf, dCB, dCBL, dCons, dNil, dStar, dVar, dC, dCall, dOp, dOpL, dTup, dLst, dL, dSet, dAsg, dPar, dOwn, dExpr, dNx, dFor, dWhile, dItL, dItT, dProp, dMeth, dMk, dMk0, dRaise, dPart, dNoPart, dSlL, dSlT, dRevL, dgName, dgTup, dgSets, dOwnIx, dOwnLen, dOwnTup, dApp, dSetI, dRel, relE, dItZip, dItTab, dItEnK, dItEn, dIsS, dJoinG, dSplit, dFmt, dJs, dIsT2, dIndex, dCallS, dYes, wipeE, dXf, dIsX, List.map_cons, List.map_nil, List.cons_append, List.nil_append, List.append_nil, List.length_cons, List.length_nil, List.replicate_succ, List.replicate_zero, Nat.reduceAdd, Nat.reduceSub, List.getElem?_cons_zero, List.getElem?_cons_succ, List.set_cons_zero, List.set_cons_succ, Nat.zero_add, Nat.add_zero, Nat.sub_self, x_add, x_sub, x_mulL, x_mulR, x_div, x_mod, x_lt, x_le, x_gt, x_ge, x_eq, x_ne, x_fro, x_step, x_first, x_last, x_on, x_l0, x_l1, x_l2, x_l3, x_l4, x_t0, x_t1, x_t2, x_t3, x_t4, x_intB, x_intI, x_max2, x_min2, x_lenL, x_lenT, x_sz, x_rs, x_rw, x_rf, x_ra, x_rl, x_slot, x_slotD, true_and, and_true, eq_self, decide_eq_true_eq, Bool.not_eq_true', decide_eq_false_iff_not, res_ok, res_er, x_rng1, x_rng1D, x_rng2, x_rng2E, x_rng2D, Bool.and_eq_true, if_true, if_false, Bool.false_eq_true, g_lot, y_look_at]
  rw [show (1000000000000000000000000000000 : Int) = 10 ^ 30 by decide]
  rcases look_cases (K := K) (m := m) (n := n) (most := 10 ^ 30) with ⟨e, he⟩ | ⟨he, i, j, rfl, rfl, hi, _, _⟩
  · rw [he] at q ⊢
    exact q
  · rw [he] at q ⊢
    have q2 := q i j rfl rfl
    simp (disch := first | assumption | omega) only [dDef, dRet, dRetL, dSeq, dIfS, dTst, dNotB, dAndB, dOrB, dAndV, dOrV, dNotV, dNeg, dIf, dCB, dCBL, dCons, dNil, dStar, dVar, dC, dCall, dOp, dOpL, dTup, dLst, dL, dSet, dAsg, dPar, dOwn, dExpr, dNx, dFor, dWhile, dItL, dItT, dProp, dMeth, dMk, dMk0, dRaise, dPart, dNoPart, dSlL, dSlT, dRevL, dgName, dgTup, dgSets, dOwnIx, dOwnLen, dOwnTup, dApp, dSetI, dRel, relE, dItZip, dItTab, dItEnK, dItEn, dIsS, dJoinG, dSplit, dFmt, dJs, dIsT2, dIndex, dCallS, dYes, wipeE, dXf, dIsX, List.map_cons, List.map_nil, List.cons_append, List.nil_append, List.append_nil, List.length_cons, List.length_nil, List.replicate_succ, List.replicate_zero, Nat.reduceAdd, Nat.reduceSub, List.getElem?_cons_zero, List.getElem?_cons_succ, List.set_cons_zero, List.set_cons_succ, Nat.zero_add, Nat.add_zero, Nat.sub_self, x_add, x_sub, x_mulL, x_mulR, x_div, x_mod, x_lt, x_le, x_gt, x_ge, x_eq, x_ne, x_fro, x_step, x_first, x_last, x_on, x_l0, x_l1, x_l2, x_l3, x_l4, x_t0, x_t1, x_t2, x_t3, x_t4, x_intB, x_intI, x_max2, x_min2, x_lenL, x_lenT, x_sz, x_rs, x_rw, x_rf, x_ra, x_rl, x_slot, x_slotD, true_and, and_true, eq_self, decide_eq_true_eq, Bool.not_eq_true', decide_eq_false_iff_not, res_ok, res_er, x_rng1, x_rng1D, x_rng2, x_rng2E, x_rng2D, Bool.and_eq_true, if_true, if_false, Bool.false_eq_true, y_look_at_person]
    cases h1 : isIn p 0 (i - 1) with
    | false => rw [h1] at q2; exact q2
    | true =>
      rw [h1] at q2
      obtain ⟨k, rfl, _, _⟩ := isIn_int h1
      simp (disch := first | assumption | omega) only [dDef, dRet, dRetL, dSeq, dIfS, dTst, dNotB, dAndB, dOrB, dAndV, dOrV, dNotV, dNeg, dIf, dCB, dCBL, dCons, dNil, dStar, dVar, dC, dCall, dOp, dOpL, dTup, dLst, dL, dSet, dAsg, dPar, dOwn, dExpr, dNx, dFor, dWhile, dItL, dItT, dProp, dMeth, dMk, dMk0, dRaise, dPart, dNoPart, dSlL, dSlT, dRevL, dgName, dgTup, dgSets, dOwnIx, dOwnLen, dOwnTup, dApp, dSetI, dRel, relE, dItZip, dItTab, dItEnK, dItEn, dIsS, dJoinG, dSplit, dFmt, dJs, dIsT2, dIndex, dCallS, dYes, wipeE, dXf, dIsX, List.map_cons, List.map_nil, List.cons_append, List.nil_append, List.append_nil, List.length_cons, List.length_nil, List.replicate_succ, List.replicate_zero, Nat.reduceAdd, Nat.reduceSub, List.getElem?_cons_zero, List.getElem?_cons_succ, List.set_cons_zero, List.set_cons_succ, Nat.zero_add, Nat.add_zero, Nat.sub_self, x_add, x_sub, x_mulL, x_mulR, x_div, x_mod, x_lt, x_le, x_gt, x_ge, x_eq, x_ne, x_fro, x_step, x_first, x_last, x_on, x_l0, x_l1, x_l2, x_l3, x_l4, x_t0, x_t1, x_t2, x_t3, x_t4, x_intB, x_intI, x_max2, x_min2, x_lenL, x_lenT, x_sz, x_rs, x_rw, x_rf, x_ra, x_rl, x_slot, x_slotD, true_and, and_true, eq_self, decide_eq_true_eq, Bool.not_eq_true', decide_eq_false_iff_not, res_ok, res_er, x_rng1, x_rng1D, x_rng2, x_rng2E, x_rng2D, Bool.and_eq_true, if_true, if_false, Bool.false_eq_true, y_own_lot]
      exact q2
theorem law_whose (K : PySem.W.Frag) (ds : List D) (Q : D → Prop) (R : DX) (h : F_whose K ds Q R) : dDef 4 (g_whose K) ds Q R := by
  obtain ⟨r, m, n, p, rfl, hr, hm, hn, hp, q⟩ := h
  simp (disch := first | assumption | omega) only [dDef, dRet, dRetL, dSeq, dIfS, dTst, dNotB, dAndB, dOrB, dAndV, dOrV, dNotV, dNeg, dIf, dCB, dCBL, dCons, dNil, dStar, dVar, dC, dCall, dOp, dOpL, dTup, dLst, dL, dSet, dAsg, dPar, dOwn, dExpr, dNx, dFor, dWhile, dItL, dItT, dProp, dMeth, dMk, dMk0, dRaise, dPart, dNoPart, dSlL, dSlT, dRevL, dgName, dgTup, dgSets, dOwnIx, dOwnLen, dOwnTup, dApp, dSetI, dRel, relE, dItZip, dItTab, dItEnK, dItEn, dIsS, dJoinG, dSplit, dFmt, dJs, dIsT2, dIndex, dCallS, dYes, wipeE, dXf, dIsX, List.map_cons, List.map_nil, List.cons_append, List.nil_append, List.append_nil, List.length_cons, List.length_nil, List.replicate_succ, List.replicate_zero, Nat.reduceAdd, Nat.reduceSub, List.getElem?_cons_zero, List.getElem?_cons_succ, List.set_cons_zero, List.set_cons_succ, Nat.zero_add, Nat.add_zero, Nat.sub_self, x_add, x_sub, x_mulL, x_mulR, x_div, x_mod, x_lt, x_le, x_gt, x_ge, x_eq, x_ne, x_fro, x_step, x_first, x_last, x_on, x_l0, x_l1, x_l2, x_l3, x_l4, x_t0, x_t1, x_t2, x_t3, x_t4, x_intB, x_intI, x_max2, x_min2, x_lenL, x_lenT, x_sz, x_rs, x_rw, x_rf, x_ra, x_rl, x_slot, x_slotD, true_and, and_true, eq_self, decide_eq_true_eq, Bool.not_eq_true', decide_eq_false_iff_not, res_ok, res_er, x_rng1, x_rng1D, x_rng2, x_rng2E, x_rng2D, Bool.and_eq_true, if_true, if_false, Bool.false_eq_true, g_whose, y_look_at]
  rw [show (1000000000000000000000000000000 : Int) = 10 ^ 30 by decide]
  rcases look_cases (K := K) (m := m) (n := n) (most := 10 ^ 30) with ⟨e, he⟩ | ⟨he, i, j, rfl, rfl, hi, _, _⟩
  · rw [he] at q ⊢
    exact q
  · rw [he] at q ⊢
    have q2 := q i j rfl rfl
    simp (disch := first | assumption | omega) only [dDef, dRet, dRetL, dSeq, dIfS, dTst, dNotB, dAndB, dOrB, dAndV, dOrV, dNotV, dNeg, dIf, dCB, dCBL, dCons, dNil, dStar, dVar, dC, dCall, dOp, dOpL, dTup, dLst, dL, dSet, dAsg, dPar, dOwn, dExpr, dNx, dFor, dWhile, dItL, dItT, dProp, dMeth, dMk, dMk0, dRaise, dPart, dNoPart, dSlL, dSlT, dRevL, dgName, dgTup, dgSets, dOwnIx, dOwnLen, dOwnTup, dApp, dSetI, dRel, relE, dItZip, dItTab, dItEnK, dItEn, dIsS, dJoinG, dSplit, dFmt, dJs, dIsT2, dIndex, dCallS, dYes, wipeE, dXf, dIsX, List.map_cons, List.map_nil, List.cons_append, List.nil_append, List.append_nil, List.length_cons, List.length_nil, List.replicate_succ, List.replicate_zero, Nat.reduceAdd, Nat.reduceSub, List.getElem?_cons_zero, List.getElem?_cons_succ, List.set_cons_zero, List.set_cons_succ, Nat.zero_add, Nat.add_zero, Nat.sub_self, x_add, x_sub, x_mulL, x_mulR, x_div, x_mod, x_lt, x_le, x_gt, x_ge, x_eq, x_ne, x_fro, x_step, x_first, x_last, x_on, x_l0, x_l1, x_l2, x_l3, x_l4, x_t0, x_t1, x_t2, x_t3, x_t4, x_intB, x_intI, x_max2, x_min2, x_lenL, x_lenT, x_sz, x_rs, x_rw, x_rf, x_ra, x_rl, x_slot, x_slotD, true_and, and_true, eq_self, decide_eq_true_eq, Bool.not_eq_true', decide_eq_false_iff_not, res_ok, res_er, x_rng1, x_rng1D, x_rng2, x_rng2E, x_rng2D, Bool.and_eq_true, if_true, if_false, Bool.false_eq_true, y_within, dMk0]
    cases h1 : isIn p 0 (j - 1) with
    | false => rw [h1] at q2; exact q2
    | true =>
      rw [h1] at q2
      obtain ⟨k, rfl, _, _⟩ := isIn_int h1
      simp (disch := first | assumption | omega) only [dDef, dRet, dRetL, dSeq, dIfS, dTst, dNotB, dAndB, dOrB, dAndV, dOrV, dNotV, dNeg, dIf, dCB, dCBL, dCons, dNil, dStar, dVar, dC, dCall, dOp, dOpL, dTup, dLst, dL, dSet, dAsg, dPar, dOwn, dExpr, dNx, dFor, dWhile, dItL, dItT, dProp, dMeth, dMk, dMk0, dRaise, dPart, dNoPart, dSlL, dSlT, dRevL, dgName, dgTup, dgSets, dOwnIx, dOwnLen, dOwnTup, dApp, dSetI, dRel, relE, dItZip, dItTab, dItEnK, dItEn, dIsS, dJoinG, dSplit, dFmt, dJs, dIsT2, dIndex, dCallS, dYes, wipeE, dXf, dIsX, List.map_cons, List.map_nil, List.cons_append, List.nil_append, List.append_nil, List.length_cons, List.length_nil, List.replicate_succ, List.replicate_zero, Nat.reduceAdd, Nat.reduceSub, List.getElem?_cons_zero, List.getElem?_cons_succ, List.set_cons_zero, List.set_cons_succ, Nat.zero_add, Nat.add_zero, Nat.sub_self, x_add, x_sub, x_mulL, x_mulR, x_div, x_mod, x_lt, x_le, x_gt, x_ge, x_eq, x_ne, x_fro, x_step, x_first, x_last, x_on, x_l0, x_l1, x_l2, x_l3, x_l4, x_t0, x_t1, x_t2, x_t3, x_t4, x_intB, x_intI, x_max2, x_min2, x_lenL, x_lenT, x_sz, x_rs, x_rw, x_rf, x_ra, x_rl, x_slot, x_slotD, true_and, and_true, eq_self, decide_eq_true_eq, Bool.not_eq_true', decide_eq_false_iff_not, res_ok, res_er, x_rng1, x_rng1D, x_rng2, x_rng2E, x_rng2D, Bool.and_eq_true, if_true, if_false, Bool.false_eq_true, y_spot_of, y_person_of]
      exact q2
end Pr

set_option maxHeartbeats 4000000
/-! The laws' own dealing: turns, what is dealt, lots. -/
namespace Pr
open PySem PySem.Spec PyProof.Rows L2 Dl Dv Dk Gx Ma
def F_l_rest (K : PySem.W.Frag) : DF := fun ds Q _ => ∃ i j, ds = [.int i, .int j] ∧ 0 < j ∧ j < 1073741824 ∧ Q (.int (i % j))
theorem y_rest {K : PySem.W.Frag} {i j : Int} {Q : D → Prop} {R : DX} (h1 : 0 < j) (h2 : j < 1073741824) : F_l_rest K [.int i, .int j] Q R = Q (.int (i % j)) := propext ⟨fun ⟨i', j', e, _, _, q⟩ => by
    simp only [List.cons.injEq, D.int.injEq, and_true] at e
    obtain ⟨rfl, rfl⟩ := e
    exact q, fun q => ⟨i, j, rfl, h1, h2, q⟩⟩
abbrev rl (r : Ru) : D := .lst (row r)
def F_l_turns (K : PySem.W.Frag) : DF := fun ds Q _ => ∃ (r : Ru) (m n : Nat), ds = [rl r, .int m, .int n] ∧ r.Ok ∧ Mo m ∧ n ≤ 100000 ∧ ∀ j : Nat, n ≤ j * m → j * m < n + m → Q (il (turnsL r m (j * m)))
def prD (p : Int × Int) : D := .tup [.int p.1, .int p.2]
/-- thing by thing -/
def dealtL (r : Ru) (m : Int) (n : Nat) : List (Int × Int) := (upto n).map fun k => (thingAt r n k, personOf r m n k)
def F_l_dealt (K : PySem.W.Frag) : DF := fun ds Q _ => ∃ (r : Ru) (m n : Nat), ds = [rl r, .int m, .int n] ∧ r.Ok ∧ Mo m ∧ n ≤ 10000 ∧ Q (.lst ((dealtL r m n).map prD))
def F_l_lots (K : PySem.W.Frag) : DF := fun ds Q _ => ∃ (r : Ru) (m n : Nat), ds = [rl r, .int m, .int n] ∧ r.Ok ∧ Mo m ∧ n ≤ 10000 ∧ Q (il (lotsL r m n))
theorem rl_inj {a b : Ru} (h : rl a = rl b) : a = b := row_inj (D.lst.inj h)
section
variable {K : PySem.W.Frag} {r : Ru} {m n : Nat} {Q : D → Prop} {R : DX}
theorem y_dealt (hr : r.Ok) (hm : Mo m) (hn : n ≤ 10000) : F_l_dealt K [rl r, .int m, .int n] Q R = Q (.lst ((dealtL r m n).map prD)) := propext ⟨fun ⟨r', m', n', e, _, _, _, q⟩ => by
    simp only [List.cons.injEq, D.int.injEq, and_true] at e
    obtain ⟨e1, e2, e3⟩ := e
    obtain rfl := rl_inj e1
    obtain rfl : m = m' := by omega
    obtain rfl : n = n' := by omega
    exact q, fun q => ⟨r, m, n, rfl, hr, hm, hn, q⟩⟩
theorem y_lots (hr : r.Ok) (hm : Mo m) (hn : n ≤ 10000) : F_l_lots K [rl r, .int m, .int n] Q R = Q (il (lotsL r m n)) := propext ⟨fun ⟨r', m', n', e, _, _, _, q⟩ => by
    simp only [List.cons.injEq, D.int.injEq, and_true] at e
    obtain ⟨e1, e2, e3⟩ := e
    obtain rfl := rl_inj e1
    obtain rfl : m = m' := by omega
    obtain rfl : n = n' := by omega
    exact q, fun q => ⟨r, m, n, rfl, hr, hm, hn, q⟩⟩
theorem z_s : gIx (rl r) (.int 0) Q = Q (.int r.s) := x_l0
theorem z_w : gIx (rl r) (.int 1) Q = Q (.str (wS r.w)) := x_l1
theorem z_f : gIx (rl r) (.int 2) Q = Q (.str (fS r.f)) := x_l2
theorem z_a : gIx (rl r) (.int 3) Q = Q (.int r.a) := x_l3
theorem z_l : gIx (rl r) (.int 4) Q = Q (.str (lS r.l)) := x_l4
end
def g_l_rest (K : PySem.W.Frag) : DG :=
  (dRet (dOp gSub (dVar 0) (dOp gMul (dOp gDiv (dVar 0) (dVar 1)) (dVar 1))))
def g_l_turns (K : PySem.W.Frag) : DG :=
  (dSeq (dSet 3 (dL (dLst dNil)))
  (dSeq (dSet 4 (dC (.int 0)))
  (dSeq (dWhile (dTst (dOp gLt (dCB gLen (dCons (dVar 3) dNil)) (dVar 2))) (dSeq (dSet 5 (dL (dListR1 (dVar 1))))
  (dSeq (dIfS (dAndB (dTst (dOp gEq (dOp gIx (dVar 0) (dC (.int 1))) (dC (.str "fro")))) (dTst (dOp gEq (dCall 2 (F_l_rest K) (dCons (dVar 4) (dCons (dC (.int 2)) dNil))) (dC (.int 1))))) (dSet 5 (dL (dRevL (dVar 5)))) dNx)
  (dSeq (dIfS (dTst (dOp gEq (dOp gIx (dVar 0) (dC (.int 1))) (dC (.str "step")))) (dSeq (dSet 6 (dCall 2 (F_l_rest K) (dCons (dVar 4) (dCons (dVar 1) dNil))))
  (dSet 5 (dOp gAddU (dL (dSlL (dVar 5) (dPart (dVar 6)) dNoPart)) (dL (dSlL (dVar 5) dNoPart (dPart (dVar 6))))))) dNx)
  (dSeq (dIfS (dTst (dOp gEq (dOp gIx (dVar 0) (dC (.int 2))) (dC (.str "last")))) (dSet 5 (dL (dLc (dItL (dVar 5)) [7] (dgName 7) dYes (dOp gSub (dOp gSub (dVar 1) (dC (.int 1))) (dVar 7))))) dNx)
  (dSeq (dSet 3 (dOp gAddU (dVar 3) (dVar 5)))
  (dSet 4 (dOp gAddU (dVar 4) (dC (.int 1))))))))))
  (dRet (dVar 3)))))
def g_l_dealt (K : PySem.W.Frag) : DG :=
  (dSeq (dSet 3 (dL (dLc (dRng1 (dCons (dVar 2) dNil)) [4] (dgName 4) (dOrB (dTst (dOp gEq (dOp gIx (dVar 0) (dC (.int 3))) (dC (.int 0)))) (dTst (dOp gGt (dCall 2 (F_l_rest K) (dCons (dOp gAddU (dVar 4) (dC (.int 1))) (dCons (dOp gIx (dVar 0) (dC (.int 3))) dNil))) (dC (.int 0))))) (dVar 4))))
  (dSeq (dSet 5 (dL (dLc (dRng1 (dCons (dVar 2) dNil)) [4] (dgName 4) (dAndB (dTst (dOp gGt (dOp gIx (dVar 0) (dC (.int 3))) (dC (.int 0)))) (dTst (dOp gEq (dCall 2 (F_l_rest K) (dCons (dOp gAddU (dVar 4) (dC (.int 1))) (dCons (dCB gMax2 (dCons (dOp gIx (dVar 0) (dC (.int 3))) (dCons (dC (.int 1)) dNil))) dNil))) (dC (.int 0))))) (dVar 4))))
  (dSeq (dSet 6 (dCall 3 (F_l_turns K) (dCons (dVar 0) (dCons (dVar 1) (dCons (dOp gAddU (dOp gMul (dC (.int 2)) (dVar 2)) (dC (.int 4))) dNil)))))
  (dSeq (dSet 7 (dL (dLc (dRng1 (dCons (dCB gLen (dCons (dVar 3) dNil)) dNil)) [4] (dgName 4) dYes (dTup (dCons (dOp gIx (dVar 3) (dVar 4)) (dCons (dOp gIx (dVar 6) (dOp gDiv (dVar 4) (dOp gIx (dVar 0) (dC (.int 0))))) dNil))))))
  (dSeq (dSet 8 (dIf (dTst (dOp gEq (dOp gIx (dVar 0) (dC (.int 4))) (dC (.str "on")))) (dOp gDiv (dOp gSub (dOp gAddU (dCB gLen (dCons (dVar 3) dNil)) (dOp gIx (dVar 0) (dC (.int 0)))) (dC (.int 1))) (dOp gIx (dVar 0) (dC (.int 0)))) (dC (.int 0))))
  (dRet (dOp gAddU (dVar 7) (dL (dLc (dRng1 (dCons (dCB gLen (dCons (dVar 5) dNil)) dNil)) [4] (dgName 4) dYes (dTup (dCons (dOp gIx (dVar 5) (dVar 4)) (dCons (dOp gIx (dVar 6) (dOp gAddU (dVar 8) (dOp gDiv (dVar 4) (dOp gIx (dVar 0) (dC (.int 0)))))) dNil))))))))))))
def g_l_lots (K : PySem.W.Frag) : DG :=
  (dSeq (dOwn 3 (dOpL gRepL (dL (dLst (dCons (dC (.int 0)) dNil))) (dVar 1)))
  (dSeq (dFor (dItL (dCall 3 (F_l_dealt K) (dCons (dVar 0) (dCons (dVar 1) (dCons (dVar 2) dNil))))) (dgTup [4, 5]) (dSetI 3 (dOp gAddU (dOwnIx 3 (dVar 5)) (dC (.int 1))) (dVar 5)))
  (dRel 3 (dRet (dVar 3)))))
theorem law_l_rest (K : PySem.W.Frag) (ds : List D) (Q : D → Prop) (R : DX) (h : F_l_rest K ds Q R) : dDef 2 (g_l_rest K) ds Q R := by
  obtain ⟨i, j, rfl, h1, h2, q⟩ := h
  simp (maxSteps := 10000000) (disch := first | assumption | omega) only [dDef, dRet, dRetL, dSeq, dIfS, dTst, dNotB, dAndB, dOrB, dAndV, dOrV, dNotV, dNeg, dIf, dCB, dCBL, dCons, dNil, dStar, dVar, dC, dCall, dOp, dOpL, dTup, dLst, dL, dSet, dAsg, dPar, dOwn, dExpr, dNx, dFor, dItL, dItT, dProp, dMeth, dMk, dMk0, dRaise, dPart, dNoPart, dSlL, dSlT, dRevL, dgName, dgTup, dgSets, dOwnIx, dOwnLen, dOwnTup, dApp, dSetI, dRel, relE, dItZip, dItTab, dItEnK, dItEn, dIsS, dJoinG, dSplit, dFmt, dJs, dIsT2, dIndex, dCallS, dYes, wipeE, dXf, dIsX, List.map_cons, List.map_nil, List.cons_append, List.nil_append, List.append_nil, List.length_cons, List.length_nil, List.replicate_succ, List.replicate_zero, Nat.reduceAdd, Nat.reduceSub, List.getElem?_cons_zero, List.getElem?_cons_succ, List.set_cons_zero, List.set_cons_succ, Nat.zero_add, Nat.add_zero, Nat.sub_self, x_add, x_sub, x_mulL, x_mulR, x_div, x_mod, x_lt, x_le, x_gt, x_ge, x_eq, x_ne, x_fro, x_step, x_first, x_last, x_on, x_l0, x_l1, x_l2, x_l3, x_l4, x_t0, x_t1, x_t2, x_t3, x_t4, x_intB, x_intI, x_max2, x_min2, x_lenL, x_lenT, x_sz, x_rs, x_rw, x_rf, x_ra, x_rl, x_slot, x_slotD, true_and, and_true, eq_self, decide_eq_true_eq, Bool.not_eq_true', decide_eq_false_iff_not, res_ok, res_er, x_rng1, x_rng1D, x_rng2, x_rng2E, x_rng2D, z_s, z_w, z_f, z_a, z_l, Bool.and_eq_true, if_true, if_false, Bool.false_eq_true, reduceCtorEq, decide_true, decide_false, Bool.not_true, Bool.not_false, Bool.true_eq_false, not_true_eq_false, not_false_eq_true, g_l_rest]
  have e : i - i / j * j = i % j := by rw [Int.emod_def, Int.mul_comm]
  rw [e]
  exact q
def turnEnv (r : Ru) (m n j : Nat) (a b c : Slot) : Env' := [.val (rl r), .val (.int m), .val (.int n), .val (il (turnsL r m (j * m))), .val (.int j), a, b, c]
theorem seqE {g1 g2 : DG} {env : Env'} {k : Kn} (E : Env') (h1 : ∀ N : Env' → Prop, N E → g1 env { k with nx := N }) (h2 : g2 E k) : dSeq g1 g2 env k := h1 _ h2
theorem cutD_lo {t : List D} {n : Nat} (h : n ≤ t.length) : Dl.cutD t none (some (n : Int)) = t.take n := by
  unfold Dl.cutD
  have e1 : HT.sIx t.length 0 none = 0 := by simp [HT.sIx]
  have e2 : HT.sIx t.length t.length (some (n : Int)) = n := by simp [HT.sIx]; rw [if_neg (by omega)]; omega
  rw [e1, e2]
  simp
theorem cutD_hi {t : List D} {n : Nat} (h : n ≤ t.length) : Dl.cutD t (some (n : Int)) none = t.drop n := by
  unfold Dl.cutD
  have e1 : HT.sIx t.length 0 (some (n : Int)) = n := by simp [HT.sIx]; rw [if_neg (by omega)]; omega
  have e2 : HT.sIx t.length t.length none = t.length := by simp [HT.sIx]
  rw [e1, e2]
  exact List.take_of_length_le (by simp)
/-- the row of a round, as the law makes it -/
def rowW (r : Ru) (m : Nat) (j : Nat) : List Int := match r.w with
  | .fro => if j % 2 = 1 then (upto m).reverse else upto m
  | .step => (upto m).drop (j % m) ++ (upto m).take (j % m)
  | .round => upto m
theorem rowW_eq (r : Ru) {m : Nat} (j : Nat) (hm : 0 < m) : rowW r m j = (upto m).map fun i => placeAt r m j i := by
  unfold rowW placeAt
  cases r.w with
  | fro =>
    dsimp only
    by_cases h : j % 2 = 1
    · rw [if_pos h, rev_upto]
      refine List.map_congr_left fun i _ => ?_
      rw [if_pos (by omega)]
    · rw [if_neg h]
      have : (upto m).map (fun i => if (j : Int) % 2 = 1 then (m : Int) - 1 - i else i) = (upto m).map id := List.map_congr_left fun i _ => by rw [if_neg (by omega)]; rfl
      rw [this, List.map_id]
  | step =>
    dsimp only
    rw [rot_upto (Nat.mod_lt _ hm)]
    refine List.map_congr_left fun i _ => ?_
    rw [Int.natCast_emod, Int.add_emod_emod]
  | round =>
    dsimp only
    exact (List.map_id _).symm
theorem row_mir (r : Ru) {m : Nat} (j : Nat) (hm : 0 < m) : (if r.f = true then rowW r m j else (rowW r m j).map fun p => (m : Int) - 1 - p) = rowJ r m j := by
  rw [rowW_eq r j hm]
  unfold rowJ mir
  rw [show ((m : Nat) : Int).toNat = m by omega]
  split
  · exact List.map_congr_left fun i _ => rfl
  · rw [List.map_map]
    exact List.map_congr_left fun i _ => rfl
theorem rowW_len (r : Ru) {m : Nat} (j : Nat) (hm : 0 < m) : (rowW r m j).length = m := by rw [rowW_eq r j hm, List.length_map, upto_length]
theorem turnsL_len {r : Ru} {m : Int} {n : Nat} : (turnsL r m n).length = n := by unfold turnsL; rw [List.length_map, upto_length]
theorem law_l_turns (K : PySem.W.Frag) (ds : List D) (Q : D → Prop) (R : DX) (h : F_l_turns K ds Q R) : dDef 8 (g_l_turns K) ds Q R := by
  obtain ⟨r, m, n, rfl, hr, hm, hn, q⟩ := h
  have h1 := hm.lo; have h2 := hm.hi
  have m0 : 0 < m := by omega
  unfold dDef g_l_turns
  refine seqE [.val (rl r), .val (.int m), .val (.int n), .val (il []), .un, .un, .un, .un] (fun N hN => ?_) ?_
  · simp (maxSteps := 10000000) (disch := first | assumption | omega) only [dDef, dRet, dRetL, dSeq, dIfS, dTst, dNotB, dAndB, dOrB, dAndV, dOrV, dNotV, dNeg, dIf, dCB, dCBL, dCons, dNil, dStar, dVar, dC, dCall, dOp, dOpL, dTup, dLst, dL, dSet, dAsg, dPar, dOwn, dExpr, dNx, dFor, dItL, dItT, dProp, dMeth, dMk, dMk0, dRaise, dPart, dNoPart, dSlL, dSlT, dRevL, dgName, dgTup, dgSets, dOwnIx, dOwnLen, dOwnTup, dApp, dSetI, dRel, relE, dItZip, dItTab, dItEnK, dItEn, dIsS, dJoinG, dSplit, dFmt, dJs, dIsT2, dIndex, dCallS, dYes, wipeE, dXf, dIsX, List.map_cons, List.map_nil, List.cons_append, List.nil_append, List.append_nil, List.length_cons, List.length_nil, List.replicate_succ, List.replicate_zero, Nat.reduceAdd, Nat.reduceSub, List.getElem?_cons_zero, List.getElem?_cons_succ, List.set_cons_zero, List.set_cons_succ, Nat.zero_add, Nat.add_zero, Nat.sub_self, x_add, x_sub, x_mulL, x_mulR, x_div, x_mod, x_lt, x_le, x_gt, x_ge, x_eq, x_ne, x_fro, x_step, x_first, x_last, x_on, x_l0, x_l1, x_l2, x_l3, x_l4, x_t0, x_t1, x_t2, x_t3, x_t4, x_intB, x_intI, x_max2, x_min2, x_lenL, x_lenT, x_sz, x_rs, x_rw, x_rf, x_ra, x_rl, x_slot, x_slotD, true_and, and_true, eq_self, decide_eq_true_eq, Bool.not_eq_true', decide_eq_false_iff_not, res_ok, res_er, x_rng1, x_rng1D, x_rng2, x_rng2E, x_rng2D, z_s, z_w, z_f, z_a, z_l, Bool.and_eq_true, if_true, if_false, Bool.false_eq_true, reduceCtorEq, decide_true, decide_false, Bool.not_true, Bool.not_false, Bool.true_eq_false, not_true_eq_false, not_false_eq_true]
    exact hN
  refine seqE (turnEnv r m n 0 .un .un .un) (fun N hN => ?_) ?_
  · simp (maxSteps := 10000000) (disch := first | assumption | omega) only [dDef, dRet, dRetL, dSeq, dIfS, dTst, dNotB, dAndB, dOrB, dAndV, dOrV, dNotV, dNeg, dIf, dCB, dCBL, dCons, dNil, dStar, dVar, dC, dCall, dOp, dOpL, dTup, dLst, dL, dSet, dAsg, dPar, dOwn, dExpr, dNx, dFor, dItL, dItT, dProp, dMeth, dMk, dMk0, dRaise, dPart, dNoPart, dSlL, dSlT, dRevL, dgName, dgTup, dgSets, dOwnIx, dOwnLen, dOwnTup, dApp, dSetI, dRel, relE, dItZip, dItTab, dItEnK, dItEn, dIsS, dJoinG, dSplit, dFmt, dJs, dIsT2, dIndex, dCallS, dYes, wipeE, dXf, dIsX, List.map_cons, List.map_nil, List.cons_append, List.nil_append, List.append_nil, List.length_cons, List.length_nil, List.replicate_succ, List.replicate_zero, Nat.reduceAdd, Nat.reduceSub, List.getElem?_cons_zero, List.getElem?_cons_succ, List.set_cons_zero, List.set_cons_succ, Nat.zero_add, Nat.add_zero, Nat.sub_self, x_add, x_sub, x_mulL, x_mulR, x_div, x_mod, x_lt, x_le, x_gt, x_ge, x_eq, x_ne, x_fro, x_step, x_first, x_last, x_on, x_l0, x_l1, x_l2, x_l3, x_l4, x_t0, x_t1, x_t2, x_t3, x_t4, x_intB, x_intI, x_max2, x_min2, x_lenL, x_lenT, x_sz, x_rs, x_rw, x_rf, x_ra, x_rl, x_slot, x_slotD, true_and, and_true, eq_self, decide_eq_true_eq, Bool.not_eq_true', decide_eq_false_iff_not, res_ok, res_er, x_rng1, x_rng1D, x_rng2, x_rng2E, x_rng2D, z_s, z_w, z_f, z_a, z_l, Bool.and_eq_true, if_true, if_false, Bool.false_eq_true, reduceCtorEq, decide_true, decide_false, Bool.not_true, Bool.not_false, Bool.true_eq_false, not_true_eq_false, not_false_eq_true]
    unfold turnEnv at hN
    rw [Nat.zero_mul] at hN
    exact hN
  show dWhile _ _ (turnEnv r m n 0 .un .un .un) _
  refine while_ok n (fun f e => ∃ (j : Nat) (a b c : Slot), e = turnEnv r m n j a b c ∧ f = n - j * m ∧ j * m < n + m) ⟨0, .un, .un, .un, rfl, by omega, by omega⟩ ?_
  rintro f e N ⟨j, a, b, c, rfl, rfl, hj⟩ hN
  have el : ((List.map D.int (turnsL r m (j * m))).length : Int) = ((j * m : Nat) : Int) := by rw [List.length_map, turnsL_len]
  have ht : ∀ Q' : Bool → Prop, Q' (decide (((j * m : Nat) : Int) < n)) → (dTst (dOp gLt (dCB gLen (dCons (dVar 3) dNil)) (dVar 2))) (turnEnv r m n j a b c) Q' R := fun Q' hq => by
    unfold turnEnv il
    simp (maxSteps := 10000000) (disch := first | assumption | omega) only [dDef, dRet, dRetL, dSeq, dIfS, dTst, dNotB, dAndB, dOrB, dAndV, dOrV, dNotV, dNeg, dIf, dCB, dCBL, dCons, dNil, dStar, dVar, dC, dCall, dOp, dOpL, dTup, dLst, dL, dSet, dAsg, dPar, dOwn, dExpr, dNx, dFor, dItL, dItT, dProp, dMeth, dMk, dMk0, dRaise, dPart, dNoPart, dSlL, dSlT, dRevL, dgName, dgTup, dgSets, dOwnIx, dOwnLen, dOwnTup, dApp, dSetI, dRel, relE, dItZip, dItTab, dItEnK, dItEn, dIsS, dJoinG, dSplit, dFmt, dJs, dIsT2, dIndex, dCallS, dYes, wipeE, dXf, dIsX, List.map_cons, List.map_nil, List.cons_append, List.nil_append, List.append_nil, List.length_cons, List.length_nil, List.replicate_succ, List.replicate_zero, Nat.reduceAdd, Nat.reduceSub, List.getElem?_cons_zero, List.getElem?_cons_succ, List.set_cons_zero, List.set_cons_succ, Nat.zero_add, Nat.add_zero, Nat.sub_self, x_add, x_sub, x_mulL, x_mulR, x_div, x_mod, x_lt, x_le, x_gt, x_ge, x_eq, x_ne, x_fro, x_step, x_first, x_last, x_on, x_l0, x_l1, x_l2, x_l3, x_l4, x_t0, x_t1, x_t2, x_t3, x_t4, x_intB, x_intI, x_max2, x_min2, x_lenL, x_lenT, x_sz, x_rs, x_rw, x_rf, x_ra, x_rl, x_slot, x_slotD, true_and, and_true, eq_self, decide_eq_true_eq, Bool.not_eq_true', decide_eq_false_iff_not, res_ok, res_er, x_rng1, x_rng1D, x_rng2, x_rng2E, x_rng2D, z_s, z_w, z_f, z_a, z_l, Bool.and_eq_true, if_true, if_false, Bool.false_eq_true, reduceCtorEq, decide_true, decide_false, Bool.not_true, Bool.not_false, Bool.true_eq_false, not_true_eq_false, not_false_eq_true, el]
    exact hq
  refine ht _ ?_
  by_cases hlt : j * m < n
  · rw [decide_eq_true (by omega)]
    rw [if_pos rfl]
    refine seqE [.val (rl r), .val (.int m), .val (.int n), .val (il (turnsL r m (j * m))), .val (.int j), .val (il (upto m)), b, c] (fun N hN => ?_) ?_
    · unfold turnEnv
      simp (maxSteps := 10000000) (disch := first | assumption | omega) only [dDef, dRet, dRetL, dSeq, dIfS, dTst, dNotB, dAndB, dOrB, dAndV, dOrV, dNotV, dNeg, dIf, dCB, dCBL, dCons, dNil, dStar, dVar, dC, dCall, dOp, dOpL, dTup, dLst, dL, dSet, dAsg, dPar, dOwn, dExpr, dNx, dFor, dItL, dItT, dProp, dMeth, dMk, dMk0, dRaise, dPart, dNoPart, dSlL, dSlT, dRevL, dgName, dgTup, dgSets, dOwnIx, dOwnLen, dOwnTup, dApp, dSetI, dRel, relE, dItZip, dItTab, dItEnK, dItEn, dIsS, dJoinG, dSplit, dFmt, dJs, dIsT2, dIndex, dCallS, dYes, wipeE, dXf, dIsX, List.map_cons, List.map_nil, List.cons_append, List.nil_append, List.append_nil, List.length_cons, List.length_nil, List.replicate_succ, List.replicate_zero, Nat.reduceAdd, Nat.reduceSub, List.getElem?_cons_zero, List.getElem?_cons_succ, List.set_cons_zero, List.set_cons_succ, Nat.zero_add, Nat.add_zero, Nat.sub_self, x_add, x_sub, x_mulL, x_mulR, x_div, x_mod, x_lt, x_le, x_gt, x_ge, x_eq, x_ne, x_fro, x_step, x_first, x_last, x_on, x_l0, x_l1, x_l2, x_l3, x_l4, x_t0, x_t1, x_t2, x_t3, x_t4, x_intB, x_intI, x_max2, x_min2, x_lenL, x_lenT, x_sz, x_rs, x_rw, x_rf, x_ra, x_rl, x_slot, x_slotD, true_and, and_true, eq_self, decide_eq_true_eq, Bool.not_eq_true', decide_eq_false_iff_not, res_ok, res_er, x_rng1, x_rng1D, x_rng2, x_rng2E, x_rng2D, z_s, z_w, z_f, z_a, z_l, Bool.and_eq_true, if_true, if_false, Bool.false_eq_true, reduceCtorEq, decide_true, decide_false, Bool.not_true, Bool.not_false, Bool.true_eq_false, not_true_eq_false, not_false_eq_true, dListR1]
      have e : rgD 0 (m : Int) = (upto m).map .int := by rw [rgD_upto]; congr 1
      rw [e]
      exact ⟨RgOk.of_le (by omega) (by omega) (by omega) (by omega), hN⟩
    -- the row turned round
    refine seqE [.val (rl r), .val (.int m), .val (.int n), .val (il (turnsL r m (j * m))), .val (.int j), .val (il (if r.w = .fro ∧ j % 2 = 1 then (upto m).reverse else upto m)), b, c] (fun N hN => ?_) ?_
    · unfold il at hN ⊢
      simp (maxSteps := 10000000) (disch := first | assumption | omega) only [dDef, dRet, dRetL, dSeq, dIfS, dTst, dNotB, dAndB, dOrB, dAndV, dOrV, dNotV, dNeg, dIf, dCB, dCBL, dCons, dNil, dStar, dVar, dC, dCall, dOp, dOpL, dTup, dLst, dL, dSet, dAsg, dPar, dOwn, dExpr, dNx, dFor, dItL, dItT, dProp, dMeth, dMk, dMk0, dRaise, dPart, dNoPart, dSlL, dSlT, dRevL, dgName, dgTup, dgSets, dOwnIx, dOwnLen, dOwnTup, dApp, dSetI, dRel, relE, dItZip, dItTab, dItEnK, dItEn, dIsS, dJoinG, dSplit, dFmt, dJs, dIsT2, dIndex, dCallS, dYes, wipeE, dXf, dIsX, List.map_cons, List.map_nil, List.cons_append, List.nil_append, List.append_nil, List.length_cons, List.length_nil, List.replicate_succ, List.replicate_zero, Nat.reduceAdd, Nat.reduceSub, List.getElem?_cons_zero, List.getElem?_cons_succ, List.set_cons_zero, List.set_cons_succ, Nat.zero_add, Nat.add_zero, Nat.sub_self, x_add, x_sub, x_mulL, x_mulR, x_div, x_mod, x_lt, x_le, x_gt, x_ge, x_eq, x_ne, x_fro, x_step, x_first, x_last, x_on, x_l0, x_l1, x_l2, x_l3, x_l4, x_t0, x_t1, x_t2, x_t3, x_t4, x_intB, x_intI, x_max2, x_min2, x_lenL, x_lenT, x_sz, x_rs, x_rw, x_rf, x_ra, x_rl, x_slot, x_slotD, true_and, and_true, eq_self, decide_eq_true_eq, Bool.not_eq_true', decide_eq_false_iff_not, res_ok, res_er, x_rng1, x_rng1D, x_rng2, x_rng2E, x_rng2D, z_s, z_w, z_f, z_a, z_l, Bool.and_eq_true, if_true, if_false, Bool.false_eq_true, reduceCtorEq, decide_true, decide_false, Bool.not_true, Bool.not_false, Bool.true_eq_false, not_true_eq_false, not_false_eq_true, y_rest]
      by_cases h1 : r.w = .fro
      · by_cases h2 : j % 2 = 1
        · rw [if_pos ⟨h1, h2⟩] at hN
          rw [if_pos h1, if_pos (by omega), ← List.map_reverse]
          exact hN
        · rw [if_neg (fun z => h2 z.2)] at hN
          rw [if_pos h1, if_neg (by omega)]
          exact hN
      · rw [if_neg (fun z => h1 z.1)] at hN
        rw [if_neg h1]
        exact hN
    -- moved on
    refine seqE [.val (rl r), .val (.int m), .val (.int n), .val (il (turnsL r m (j * m))), .val (.int j), .val (il (rowW r m j)), (if r.w = .step then .val (.int ((j % m : Nat) : Int)) else b), c] (fun N hN => ?_) ?_
    · unfold il at hN ⊢
      have ej : (j : Int) % (m : Int) = ((j % m : Nat) : Int) := (Int.natCast_emod j m).symm
      simp (maxSteps := 10000000) (disch := first | assumption | omega) only [dDef, dRet, dRetL, dSeq, dIfS, dTst, dNotB, dAndB, dOrB, dAndV, dOrV, dNotV, dNeg, dIf, dCB, dCBL, dCons, dNil, dStar, dVar, dC, dCall, dOp, dOpL, dTup, dLst, dL, dSet, dAsg, dPar, dOwn, dExpr, dNx, dFor, dItL, dItT, dProp, dMeth, dMk, dMk0, dRaise, dPart, dNoPart, dSlL, dSlT, dRevL, dgName, dgTup, dgSets, dOwnIx, dOwnLen, dOwnTup, dApp, dSetI, dRel, relE, dItZip, dItTab, dItEnK, dItEn, dIsS, dJoinG, dSplit, dFmt, dJs, dIsT2, dIndex, dCallS, dYes, wipeE, dXf, dIsX, List.map_cons, List.map_nil, List.cons_append, List.nil_append, List.append_nil, List.length_cons, List.length_nil, List.replicate_succ, List.replicate_zero, Nat.reduceAdd, Nat.reduceSub, List.getElem?_cons_zero, List.getElem?_cons_succ, List.set_cons_zero, List.set_cons_succ, Nat.zero_add, Nat.add_zero, Nat.sub_self, x_add, x_sub, x_mulL, x_mulR, x_div, x_mod, x_lt, x_le, x_gt, x_ge, x_eq, x_ne, x_fro, x_step, x_first, x_last, x_on, x_l0, x_l1, x_l2, x_l3, x_l4, x_t0, x_t1, x_t2, x_t3, x_t4, x_intB, x_intI, x_max2, x_min2, x_lenL, x_lenT, x_sz, x_rs, x_rw, x_rf, x_ra, x_rl, x_slot, x_slotD, true_and, and_true, eq_self, decide_eq_true_eq, Bool.not_eq_true', decide_eq_false_iff_not, res_ok, res_er, x_rng1, x_rng1D, x_rng2, x_rng2E, x_rng2D, z_s, z_w, z_f, z_a, z_l, Bool.and_eq_true, if_true, if_false, Bool.false_eq_true, reduceCtorEq, decide_true, decide_false, Bool.not_true, Bool.not_false, Bool.true_eq_false, not_true_eq_false, not_false_eq_true, y_rest, ej]
      unfold rowW at hN
      cases hw : r.w with
      | fro =>
        rw [hw] at hN
        simp only [reduceCtorEq, if_false, true_and] at hN ⊢
        exact hN
      | round =>
        rw [hw] at hN
        simp only [reduceCtorEq, if_false, false_and] at hN ⊢
        exact hN
      | step =>
        rw [hw] at hN
        have k1 : j % m < m := Nat.mod_lt _ m0
        simp only [reduceCtorEq, if_false, false_and, if_true] at hN ⊢
        rw [cutD_hi (by rw [List.length_map, upto_length]; omega), cutD_lo (by rw [List.length_map, upto_length]; omega), ← List.map_drop, ← List.map_take, x_addL (len_le (by simp only [List.length_map, List.length_drop, List.length_take, upto_length]; omega)), ← List.map_append]
        exact hN
    refine seqE [.val (rl r), .val (.int m), .val (.int n), .val (il (turnsL r m (j * m))), .val (.int j), .val (il (rowJ r m j)), (if r.w = .step then .val (.int ((j % m : Nat) : Int)) else b), c] (fun N hN => ?_) ?_
    · rw [← row_mir r j m0] at hN
      generalize (if r.w = .step then Slot.val (.int ((j % m : Nat) : Int)) else b) = b' at hN ⊢
      unfold il at hN ⊢
      simp (maxSteps := 10000000) (disch := first | assumption | omega) only [dDef, dRet, dRetL, dSeq, dIfS, dTst, dNotB, dAndB, dOrB, dAndV, dOrV, dNotV, dNeg, dIf, dCB, dCBL, dCons, dNil, dStar, dVar, dC, dCall, dOp, dOpL, dTup, dLst, dL, dSet, dAsg, dPar, dOwn, dExpr, dNx, dFor, dItL, dItT, dProp, dMeth, dMk, dMk0, dRaise, dPart, dNoPart, dSlL, dSlT, dRevL, dgName, dgTup, dgSets, dOwnIx, dOwnLen, dOwnTup, dApp, dSetI, dRel, relE, dItZip, dItTab, dItEnK, dItEn, dIsS, dJoinG, dSplit, dFmt, dJs, dIsT2, dIndex, dCallS, dYes, wipeE, dXf, dIsX, List.map_cons, List.map_nil, List.cons_append, List.nil_append, List.append_nil, List.length_cons, List.length_nil, List.replicate_succ, List.replicate_zero, Nat.reduceAdd, Nat.reduceSub, List.getElem?_cons_zero, List.getElem?_cons_succ, List.set_cons_zero, List.set_cons_succ, Nat.zero_add, Nat.add_zero, Nat.sub_self, x_add, x_sub, x_mulL, x_mulR, x_div, x_mod, x_lt, x_le, x_gt, x_ge, x_eq, x_ne, x_fro, x_step, x_first, x_last, x_on, x_l0, x_l1, x_l2, x_l3, x_l4, x_t0, x_t1, x_t2, x_t3, x_t4, x_intB, x_intI, x_max2, x_min2, x_lenL, x_lenT, x_sz, x_rs, x_rw, x_rf, x_ra, x_rl, x_slot, x_slotD, true_and, and_true, eq_self, decide_eq_true_eq, Bool.not_eq_true', decide_eq_false_iff_not, res_ok, res_er, x_rng1, x_rng1D, x_rng2, x_rng2E, x_rng2D, z_s, z_w, z_f, z_a, z_l, Bool.and_eq_true, if_true, if_false, Bool.false_eq_true, reduceCtorEq, decide_true, decide_false, Bool.not_true, Bool.not_false, Bool.true_eq_false, not_true_eq_false, not_false_eq_true, dLc]
      cases hf : r.f with
      | true =>
        rw [hf] at hN
        exact hN
      | false =>
        rw [hf] at hN
        refine lc_map (xs := rowW r m j) D.int (fun p => .int ((m : Int) - 1 - p)) rfl (len_le (by rw [rowW_len r j m0]; omega)) (fun x hx Q1 h => ?_) ?_
        · simp (maxSteps := 10000000) (disch := first | assumption | omega) only [dDef, dRet, dRetL, dSeq, dIfS, dTst, dNotB, dAndB, dOrB, dAndV, dOrV, dNotV, dNeg, dIf, dCB, dCBL, dCons, dNil, dStar, dVar, dC, dCall, dOp, dOpL, dTup, dLst, dL, dSet, dAsg, dPar, dOwn, dExpr, dNx, dFor, dItL, dItT, dProp, dMeth, dMk, dMk0, dRaise, dPart, dNoPart, dSlL, dSlT, dRevL, dgName, dgTup, dgSets, dOwnIx, dOwnLen, dOwnTup, dApp, dSetI, dRel, relE, dItZip, dItTab, dItEnK, dItEn, dIsS, dJoinG, dSplit, dFmt, dJs, dIsT2, dIndex, dCallS, dYes, wipeE, dXf, dIsX, List.map_cons, List.map_nil, List.cons_append, List.nil_append, List.append_nil, List.length_cons, List.length_nil, List.replicate_succ, List.replicate_zero, Nat.reduceAdd, Nat.reduceSub, List.getElem?_cons_zero, List.getElem?_cons_succ, List.set_cons_zero, List.set_cons_succ, Nat.zero_add, Nat.add_zero, Nat.sub_self, x_add, x_sub, x_mulL, x_mulR, x_div, x_mod, x_lt, x_le, x_gt, x_ge, x_eq, x_ne, x_fro, x_step, x_first, x_last, x_on, x_l0, x_l1, x_l2, x_l3, x_l4, x_t0, x_t1, x_t2, x_t3, x_t4, x_intB, x_intI, x_max2, x_min2, x_lenL, x_lenT, x_sz, x_rs, x_rw, x_rf, x_ra, x_rl, x_slot, x_slotD, true_and, and_true, eq_self, decide_eq_true_eq, Bool.not_eq_true', decide_eq_false_iff_not, res_ok, res_er, x_rng1, x_rng1D, x_rng2, x_rng2E, x_rng2D, z_s, z_w, z_f, z_a, z_l, Bool.and_eq_true, if_true, if_false, Bool.false_eq_true, reduceCtorEq, decide_true, decide_false, Bool.not_true, Bool.not_false, Bool.true_eq_false, not_true_eq_false, not_false_eq_true]
          exact h
        · rw [show (rowW r m j).map (fun p => D.int ((m : Int) - 1 - p)) = ((rowW r m j).map fun p => (m : Int) - 1 - p).map D.int by rw [List.map_map]; rfl]
          exact hN
    generalize (if r.w = .step then Slot.val (.int ((j % m : Nat) : Int)) else b) = b'
    refine seqE [.val (rl r), .val (.int m), .val (.int n), .val (il (turnsL r m ((j + 1) * m))), .val (.int j), .val (il (rowJ r m j)), b', c] (fun N hN => ?_) ?_
    · rw [turnsL_next j hm] at hN
      unfold il at hN ⊢
      simp (maxSteps := 10000000) (disch := first | assumption | omega) only [dDef, dRet, dRetL, dSeq, dIfS, dTst, dNotB, dAndB, dOrB, dAndV, dOrV, dNotV, dNeg, dIf, dCB, dCBL, dCons, dNil, dStar, dVar, dC, dCall, dOp, dOpL, dTup, dLst, dL, dSet, dAsg, dPar, dOwn, dExpr, dNx, dFor, dItL, dItT, dProp, dMeth, dMk, dMk0, dRaise, dPart, dNoPart, dSlL, dSlT, dRevL, dgName, dgTup, dgSets, dOwnIx, dOwnLen, dOwnTup, dApp, dSetI, dRel, relE, dItZip, dItTab, dItEnK, dItEn, dIsS, dJoinG, dSplit, dFmt, dJs, dIsT2, dIndex, dCallS, dYes, wipeE, dXf, dIsX, List.map_cons, List.map_nil, List.cons_append, List.nil_append, List.append_nil, List.length_cons, List.length_nil, List.replicate_succ, List.replicate_zero, Nat.reduceAdd, Nat.reduceSub, List.getElem?_cons_zero, List.getElem?_cons_succ, List.set_cons_zero, List.set_cons_succ, Nat.zero_add, Nat.add_zero, Nat.sub_self, x_add, x_sub, x_mulL, x_mulR, x_div, x_mod, x_lt, x_le, x_gt, x_ge, x_eq, x_ne, x_fro, x_step, x_first, x_last, x_on, x_l0, x_l1, x_l2, x_l3, x_l4, x_t0, x_t1, x_t2, x_t3, x_t4, x_intB, x_intI, x_max2, x_min2, x_lenL, x_lenT, x_sz, x_rs, x_rw, x_rf, x_ra, x_rl, x_slot, x_slotD, true_and, and_true, eq_self, decide_eq_true_eq, Bool.not_eq_true', decide_eq_false_iff_not, res_ok, res_er, x_rng1, x_rng1D, x_rng2, x_rng2E, x_rng2D, z_s, z_w, z_f, z_a, z_l, Bool.and_eq_true, if_true, if_false, Bool.false_eq_true, reduceCtorEq, decide_true, decide_false, Bool.not_true, Bool.not_false, Bool.true_eq_false, not_true_eq_false, not_false_eq_true]
      rw [x_addL (Nat.le_trans (m := 200000) (by
        have : (rowJ r m j).length = m := by unfold rowJ; rw [List.length_map, upto_length]; omega
        simp only [List.length_map, turnsL_len, this]; omega) (by decide)), ← List.map_append]
      exact hN
    simp (maxSteps := 10000000) (disch := first | assumption | omega) only [dDef, dRet, dRetL, dSeq, dIfS, dTst, dNotB, dAndB, dOrB, dAndV, dOrV, dNotV, dNeg, dIf, dCB, dCBL, dCons, dNil, dStar, dVar, dC, dCall, dOp, dOpL, dTup, dLst, dL, dSet, dAsg, dPar, dOwn, dExpr, dNx, dFor, dItL, dItT, dProp, dMeth, dMk, dMk0, dRaise, dPart, dNoPart, dSlL, dSlT, dRevL, dgName, dgTup, dgSets, dOwnIx, dOwnLen, dOwnTup, dApp, dSetI, dRel, relE, dItZip, dItTab, dItEnK, dItEn, dIsS, dJoinG, dSplit, dFmt, dJs, dIsT2, dIndex, dCallS, dYes, wipeE, dXf, dIsX, List.map_cons, List.map_nil, List.cons_append, List.nil_append, List.append_nil, List.length_cons, List.length_nil, List.replicate_succ, List.replicate_zero, Nat.reduceAdd, Nat.reduceSub, List.getElem?_cons_zero, List.getElem?_cons_succ, List.set_cons_zero, List.set_cons_succ, Nat.zero_add, Nat.add_zero, Nat.sub_self, x_add, x_sub, x_mulL, x_mulR, x_div, x_mod, x_lt, x_le, x_gt, x_ge, x_eq, x_ne, x_fro, x_step, x_first, x_last, x_on, x_l0, x_l1, x_l2, x_l3, x_l4, x_t0, x_t1, x_t2, x_t3, x_t4, x_intB, x_intI, x_max2, x_min2, x_lenL, x_lenT, x_sz, x_rs, x_rw, x_rf, x_ra, x_rl, x_slot, x_slotD, true_and, and_true, eq_self, decide_eq_true_eq, Bool.not_eq_true', decide_eq_false_iff_not, res_ok, res_er, x_rng1, x_rng1D, x_rng2, x_rng2E, x_rng2D, z_s, z_w, z_f, z_a, z_l, Bool.and_eq_true, if_true, if_false, Bool.false_eq_true, reduceCtorEq, decide_true, decide_false, Bool.not_true, Bool.not_false, Bool.true_eq_false, not_true_eq_false, not_false_eq_true]
    exact hN (n - (j + 1) * m) _ (by rw [Nat.succ_mul]; omega) ⟨j + 1, .val (il (rowJ r m j)), b', c, rfl, rfl, by rw [Nat.succ_mul]; omega⟩
  · rw [decide_eq_false (by omega)]
    rw [if_neg Bool.false_ne_true]
    simp (maxSteps := 10000000) (disch := first | assumption | omega) only [dDef, dRet, dRetL, dSeq, dIfS, dTst, dNotB, dAndB, dOrB, dAndV, dOrV, dNotV, dNeg, dIf, dCB, dCBL, dCons, dNil, dStar, dVar, dC, dCall, dOp, dOpL, dTup, dLst, dL, dSet, dAsg, dPar, dOwn, dExpr, dNx, dFor, dItL, dItT, dProp, dMeth, dMk, dMk0, dRaise, dPart, dNoPart, dSlL, dSlT, dRevL, dgName, dgTup, dgSets, dOwnIx, dOwnLen, dOwnTup, dApp, dSetI, dRel, relE, dItZip, dItTab, dItEnK, dItEn, dIsS, dJoinG, dSplit, dFmt, dJs, dIsT2, dIndex, dCallS, dYes, wipeE, dXf, dIsX, List.map_cons, List.map_nil, List.cons_append, List.nil_append, List.append_nil, List.length_cons, List.length_nil, List.replicate_succ, List.replicate_zero, Nat.reduceAdd, Nat.reduceSub, List.getElem?_cons_zero, List.getElem?_cons_succ, List.set_cons_zero, List.set_cons_succ, Nat.zero_add, Nat.add_zero, Nat.sub_self, x_add, x_sub, x_mulL, x_mulR, x_div, x_mod, x_lt, x_le, x_gt, x_ge, x_eq, x_ne, x_fro, x_step, x_first, x_last, x_on, x_l0, x_l1, x_l2, x_l3, x_l4, x_t0, x_t1, x_t2, x_t3, x_t4, x_intB, x_intI, x_max2, x_min2, x_lenL, x_lenT, x_sz, x_rs, x_rw, x_rf, x_ra, x_rl, x_slot, x_slotD, true_and, and_true, eq_self, decide_eq_true_eq, Bool.not_eq_true', decide_eq_false_iff_not, res_ok, res_er, x_rng1, x_rng1D, x_rng2, x_rng2E, x_rng2D, z_s, z_w, z_f, z_a, z_l, Bool.and_eq_true, if_true, if_false, Bool.false_eq_true, reduceCtorEq, decide_true, decide_false, Bool.not_true, Bool.not_false, Bool.true_eq_false, not_true_eq_false, not_false_eq_true, turnEnv]
    exact q j (by omega) hj
end Pr

set_option maxHeartbeats 4000000
/-! The laws' own dealing: what is dealt, lots. -/
namespace Pr
open PySem PySem.Spec PyProof.Rows L2 Dl Dv Dk Gx Ma
theorem gIx_map {xs : List Int} {i v : Int} {Q : D → Prop} (h0 : 0 ≤ i) (h : xs[i.toNat]? = some v) : gIx (.lst (xs.map .int)) (.int i) Q = Q (.int v) := by
  refine gIx_l ?_
  have : i = ((i.toNat : Nat) : Int) := by omega
  rw [this]
  refine atI_pos ?_
  rw [List.getElem?_map, h]
  rfl
theorem upto_map_get {f : Int → Int} {n : Nat} {i : Int} (h0 : 0 ≤ i) (h1 : i < n) : ((upto n).map f)[i.toNat]? = some (f i) := by
  rw [List.getElem?_map, upto_get (by omega)]
  show some (f _) = _
  congr 2
  omega
theorem y_turns {K : PySem.W.Frag} {r : Ru} {m n : Nat} {Q : D → Prop} {R : DX} (hr : r.Ok) (hm : Mo m) (hn : n ≤ 100000) (h : ∀ j : Nat, n ≤ j * m → j * m < n + m → Q (il (turnsL r m (j * m)))) : F_l_turns K [rl r, .int m, .int n] Q R := ⟨r, m, n, rfl, hr, hm, hn, h⟩
theorem dealt_parts {r : Ru} {m n : Nat} (hr : r.Ok) : dealtL r m n = ((upto (main r n).toNat).map fun k => (thingL r k, personAt r m (k / r.s))) ++ (upto (many r n).toNat).map fun k => (thingR r k, personAt r m (begin_ r n + k / r.s)) := by
  have h1 := main_range hr (show (0 : Int) ≤ (n : Int) by omega)
  have h2 := many_range hr (show (0 : Int) ≤ (n : Int) by omega)
  have h3 : n = (main r n).toNat + (many r n).toNat := by unfold main at h1 ⊢; omega
  unfold dealtL
  conv => lhs; rw [show upto n = upto ((main r n).toNat + (many r n).toNat) by rw [← h3]]
  rw [upto_add, List.map_append, List.map_map]
  congr 1
  · refine List.map_congr_left fun k hk => ?_
    have hk2 := upto_mem.mp hk
    rw [thing_l (by omega)]
    unfold personOf turnOf
    rw [if_pos (by omega)]
  · refine List.map_congr_left fun k hk => ?_
    have hk2 := upto_mem.mp hk
    show (thingAt r n (((main r n).toNat : Int) + k), personOf r m n (((main r n).toNat : Int) + k)) = _
    rw [show ((main r n).toNat : Int) = main r n by omega, thing_r hk2.1]
    unfold personOf turnOf
    rw [if_neg (by omega), show main r n + k - main r n = k by omega]
theorem begin_law {r : Ru} {n : Int} (hr : r.Ok) : (main r n + r.s - 1) / r.s = -(-(main r n) / r.s) := by
  rcases hr.s with e | e | e <;> rw [e] <;> omega
theorem seqP {g1 g2 : DG} {env : Env'} {k : Kn} (P : Env' → Prop) (h1 : ∀ N : Env' → Prop, (∀ e, P e → N e) → g1 env { k with nx := N }) (h2 : ∀ e, P e → g2 e k) : dSeq g1 g2 env k := h1 _ h2
theorem law_l_dealt (K : PySem.W.Frag) (ds : List D) (Q : D → Prop) (R : DX) (h : F_l_dealt K ds Q R) : dDef 9 (g_l_dealt K) ds Q R := by
  obtain ⟨r, m, n, rfl, hr, hm, hn, q⟩ := h
  have h1 := hm.lo; have h2 := hm.hi; have s0 := hr.pos; have s3 := Ru.s3 hr
  have a5 : 0 ≤ r.a ∧ r.a ≤ 4 := by rcases hr.a with e | e | e | e <;> omega
  have k1 := main_range hr (show (0 : Int) ≤ (n : Int) by omega)
  have k2 := many_range hr (show (0 : Int) ≤ (n : Int) by omega)
  unfold dDef g_l_dealt
  refine seqE [.val (rl r), .val (.int m), .val (.int n), .val (il ((upto (main r n).toNat).map (thingL r))), .un, .un, .un, .un, .un] (fun N hN => ?_) ?_
  · simp (maxSteps := 10000000) (disch := first | assumption | omega) only [dDef, dRet, dRetL, dSeq, dIfS, dTst, dNotB, dAndB, dOrB, dAndV, dOrV, dNotV, dNeg, dIf, dCB, dCBL, dCons, dNil, dStar, dVar, dC, dCall, dOp, dOpL, dTup, dLst, dL, dSet, dAsg, dPar, dOwn, dExpr, dNx, dFor, dItL, dItT, dProp, dMeth, dMk, dMk0, dRaise, dPart, dNoPart, dSlL, dSlT, dRevL, dgName, dgTup, dgSets, dOwnIx, dOwnLen, dOwnTup, dApp, dSetI, dRel, relE, dItZip, dItTab, dItEnK, dItEn, dIsS, dJoinG, dSplit, dFmt, dJs, dIsT2, dIndex, dCallS, dYes, wipeE, dXf, dIsX, List.map_cons, List.map_nil, List.cons_append, List.nil_append, List.append_nil, List.length_cons, List.length_nil, List.replicate_succ, List.replicate_zero, Nat.reduceAdd, Nat.reduceSub, List.getElem?_cons_zero, List.getElem?_cons_succ, List.set_cons_zero, List.set_cons_succ, Nat.zero_add, Nat.add_zero, Nat.sub_self, x_add, x_sub, x_mulL, x_mulR, x_div, x_mod, x_lt, x_le, x_gt, x_ge, x_eq, x_ne, x_fro, x_step, x_first, x_last, x_on, x_l0, x_l1, x_l2, x_l3, x_l4, x_t0, x_t1, x_t2, x_t3, x_t4, x_intB, x_intI, x_max2, x_min2, x_lenL, x_lenT, x_sz, x_rs, x_rw, x_rf, x_ra, x_rl, x_slot, x_slotD, true_and, and_true, eq_self, decide_eq_true_eq, Bool.not_eq_true', decide_eq_false_iff_not, res_ok, res_er, x_rng1, x_rng1D, x_rng2, x_rng2E, x_rng2D, z_s, z_w, z_f, z_a, z_l, Bool.and_eq_true, if_true, if_false, Bool.false_eq_true, reduceCtorEq, decide_true, decide_false, Bool.not_true, Bool.not_false, Bool.true_eq_false, not_true_eq_false, not_false_eq_true, dLc]
    rw [show ((n : Int).toNat) = n by omega]
    refine lc_if D.int D.int (oneB r) rfl (Nat.le_trans (m := 10000) (by rw [upto_length]; omega) (by decide)) (fun x hx Q1 Q2 q1 q2 => ?_) ?_
    · have hx2 := upto_mem.mp hx
      by_cases ha : r.a = 0
      · simp (maxSteps := 10000000) (disch := first | assumption | omega) only [dDef, dRet, dRetL, dSeq, dIfS, dTst, dNotB, dAndB, dOrB, dAndV, dOrV, dNotV, dNeg, dIf, dCB, dCBL, dCons, dNil, dStar, dVar, dC, dCall, dOp, dOpL, dTup, dLst, dL, dSet, dAsg, dPar, dOwn, dExpr, dNx, dFor, dItL, dItT, dProp, dMeth, dMk, dMk0, dRaise, dPart, dNoPart, dSlL, dSlT, dRevL, dgName, dgTup, dgSets, dOwnIx, dOwnLen, dOwnTup, dApp, dSetI, dRel, relE, dItZip, dItTab, dItEnK, dItEn, dIsS, dJoinG, dSplit, dFmt, dJs, dIsT2, dIndex, dCallS, dYes, wipeE, dXf, dIsX, List.map_cons, List.map_nil, List.cons_append, List.nil_append, List.append_nil, List.length_cons, List.length_nil, List.replicate_succ, List.replicate_zero, Nat.reduceAdd, Nat.reduceSub, List.getElem?_cons_zero, List.getElem?_cons_succ, List.set_cons_zero, List.set_cons_succ, Nat.zero_add, Nat.add_zero, Nat.sub_self, x_add, x_sub, x_mulL, x_mulR, x_div, x_mod, x_lt, x_le, x_gt, x_ge, x_eq, x_ne, x_fro, x_step, x_first, x_last, x_on, x_l0, x_l1, x_l2, x_l3, x_l4, x_t0, x_t1, x_t2, x_t3, x_t4, x_intB, x_intI, x_max2, x_min2, x_lenL, x_lenT, x_sz, x_rs, x_rw, x_rf, x_ra, x_rl, x_slot, x_slotD, true_and, and_true, eq_self, decide_eq_true_eq, Bool.not_eq_true', decide_eq_false_iff_not, res_ok, res_er, x_rng1, x_rng1D, x_rng2, x_rng2E, x_rng2D, z_s, z_w, z_f, z_a, z_l, Bool.and_eq_true, if_true, if_false, Bool.false_eq_true, reduceCtorEq, decide_true, decide_false, Bool.not_true, Bool.not_false, Bool.true_eq_false, not_true_eq_false, not_false_eq_true, ha]
        exact q1 (by unfold oneB; simp [ha])
      · simp (maxSteps := 10000000) (disch := first | assumption | omega) only [dDef, dRet, dRetL, dSeq, dIfS, dTst, dNotB, dAndB, dOrB, dAndV, dOrV, dNotV, dNeg, dIf, dCB, dCBL, dCons, dNil, dStar, dVar, dC, dCall, dOp, dOpL, dTup, dLst, dL, dSet, dAsg, dPar, dOwn, dExpr, dNx, dFor, dItL, dItT, dProp, dMeth, dMk, dMk0, dRaise, dPart, dNoPart, dSlL, dSlT, dRevL, dgName, dgTup, dgSets, dOwnIx, dOwnLen, dOwnTup, dApp, dSetI, dRel, relE, dItZip, dItTab, dItEnK, dItEn, dIsS, dJoinG, dSplit, dFmt, dJs, dIsT2, dIndex, dCallS, dYes, wipeE, dXf, dIsX, List.map_cons, List.map_nil, List.cons_append, List.nil_append, List.append_nil, List.length_cons, List.length_nil, List.replicate_succ, List.replicate_zero, Nat.reduceAdd, Nat.reduceSub, List.getElem?_cons_zero, List.getElem?_cons_succ, List.set_cons_zero, List.set_cons_succ, Nat.zero_add, Nat.add_zero, Nat.sub_self, x_add, x_sub, x_mulL, x_mulR, x_div, x_mod, x_lt, x_le, x_gt, x_ge, x_eq, x_ne, x_fro, x_step, x_first, x_last, x_on, x_l0, x_l1, x_l2, x_l3, x_l4, x_t0, x_t1, x_t2, x_t3, x_t4, x_intB, x_intI, x_max2, x_min2, x_lenL, x_lenT, x_sz, x_rs, x_rw, x_rf, x_ra, x_rl, x_slot, x_slotD, true_and, and_true, eq_self, decide_eq_true_eq, Bool.not_eq_true', decide_eq_false_iff_not, res_ok, res_er, x_rng1, x_rng1D, x_rng2, x_rng2E, x_rng2D, z_s, z_w, z_f, z_a, z_l, Bool.and_eq_true, if_true, if_false, Bool.false_eq_true, reduceCtorEq, decide_true, decide_false, Bool.not_true, Bool.not_false, Bool.true_eq_false, not_true_eq_false, not_false_eq_true, ha, y_rest]
        by_cases hb : 0 < (x + 1) % r.a
        · rw [if_pos hb]
          exact q1 (by unfold oneB; simp [hb])
        · rw [if_neg hb]
          exact q2 (by unfold oneB; simp [ha, hb])
    · rw [ones hr]
      exact hN
  refine seqE [.val (rl r), .val (.int m), .val (.int n), .val (il ((upto (main r n).toNat).map (thingL r))), .un, .val (il ((upto (many r n).toNat).map (thingR r))), .un, .un, .un] (fun N hN => ?_) ?_
  · simp (maxSteps := 10000000) (disch := first | assumption | omega) only [dDef, dRet, dRetL, dSeq, dIfS, dTst, dNotB, dAndB, dOrB, dAndV, dOrV, dNotV, dNeg, dIf, dCB, dCBL, dCons, dNil, dStar, dVar, dC, dCall, dOp, dOpL, dTup, dLst, dL, dSet, dAsg, dPar, dOwn, dExpr, dNx, dFor, dItL, dItT, dProp, dMeth, dMk, dMk0, dRaise, dPart, dNoPart, dSlL, dSlT, dRevL, dgName, dgTup, dgSets, dOwnIx, dOwnLen, dOwnTup, dApp, dSetI, dRel, relE, dItZip, dItTab, dItEnK, dItEn, dIsS, dJoinG, dSplit, dFmt, dJs, dIsT2, dIndex, dCallS, dYes, wipeE, dXf, dIsX, List.map_cons, List.map_nil, List.cons_append, List.nil_append, List.append_nil, List.length_cons, List.length_nil, List.replicate_succ, List.replicate_zero, Nat.reduceAdd, Nat.reduceSub, List.getElem?_cons_zero, List.getElem?_cons_succ, List.set_cons_zero, List.set_cons_succ, Nat.zero_add, Nat.add_zero, Nat.sub_self, x_add, x_sub, x_mulL, x_mulR, x_div, x_mod, x_lt, x_le, x_gt, x_ge, x_eq, x_ne, x_fro, x_step, x_first, x_last, x_on, x_l0, x_l1, x_l2, x_l3, x_l4, x_t0, x_t1, x_t2, x_t3, x_t4, x_intB, x_intI, x_max2, x_min2, x_lenL, x_lenT, x_sz, x_rs, x_rw, x_rf, x_ra, x_rl, x_slot, x_slotD, true_and, and_true, eq_self, decide_eq_true_eq, Bool.not_eq_true', decide_eq_false_iff_not, res_ok, res_er, x_rng1, x_rng1D, x_rng2, x_rng2E, x_rng2D, z_s, z_w, z_f, z_a, z_l, Bool.and_eq_true, if_true, if_false, Bool.false_eq_true, reduceCtorEq, decide_true, decide_false, Bool.not_true, Bool.not_false, Bool.true_eq_false, not_true_eq_false, not_false_eq_true, dLc]
    rw [show ((n : Int).toNat) = n by omega]
    refine lc_if D.int D.int (twoB r) rfl (Nat.le_trans (m := 10000) (by rw [upto_length]; omega) (by decide)) (fun x hx Q1 Q2 q1 q2 => ?_) ?_
    · have hx2 := upto_mem.mp hx
      by_cases ha : 0 < r.a
      · have a2 : 1 < r.a := by rcases hr.a with e | e | e | e <;> omega
        simp (maxSteps := 10000000) (disch := first | assumption | omega) only [dDef, dRet, dRetL, dSeq, dIfS, dTst, dNotB, dAndB, dOrB, dAndV, dOrV, dNotV, dNeg, dIf, dCB, dCBL, dCons, dNil, dStar, dVar, dC, dCall, dOp, dOpL, dTup, dLst, dL, dSet, dAsg, dPar, dOwn, dExpr, dNx, dFor, dItL, dItT, dProp, dMeth, dMk, dMk0, dRaise, dPart, dNoPart, dSlL, dSlT, dRevL, dgName, dgTup, dgSets, dOwnIx, dOwnLen, dOwnTup, dApp, dSetI, dRel, relE, dItZip, dItTab, dItEnK, dItEn, dIsS, dJoinG, dSplit, dFmt, dJs, dIsT2, dIndex, dCallS, dYes, wipeE, dXf, dIsX, List.map_cons, List.map_nil, List.cons_append, List.nil_append, List.append_nil, List.length_cons, List.length_nil, List.replicate_succ, List.replicate_zero, Nat.reduceAdd, Nat.reduceSub, List.getElem?_cons_zero, List.getElem?_cons_succ, List.set_cons_zero, List.set_cons_succ, Nat.zero_add, Nat.add_zero, Nat.sub_self, x_add, x_sub, x_mulL, x_mulR, x_div, x_mod, x_lt, x_le, x_gt, x_ge, x_eq, x_ne, x_fro, x_step, x_first, x_last, x_on, x_l0, x_l1, x_l2, x_l3, x_l4, x_t0, x_t1, x_t2, x_t3, x_t4, x_intB, x_intI, x_max2, x_min2, x_lenL, x_lenT, x_sz, x_rs, x_rw, x_rf, x_ra, x_rl, x_slot, x_slotD, true_and, and_true, eq_self, decide_eq_true_eq, Bool.not_eq_true', decide_eq_false_iff_not, res_ok, res_er, x_rng1, x_rng1D, x_rng2, x_rng2E, x_rng2D, z_s, z_w, z_f, z_a, z_l, Bool.and_eq_true, if_true, if_false, Bool.false_eq_true, reduceCtorEq, decide_true, decide_false, Bool.not_true, Bool.not_false, Bool.true_eq_false, not_true_eq_false, not_false_eq_true, ha]
        rw [if_neg (show ¬ (1 : Int) > r.a by omega)]
        simp (maxSteps := 10000000) (disch := first | assumption | omega) only [dDef, dRet, dRetL, dSeq, dIfS, dTst, dNotB, dAndB, dOrB, dAndV, dOrV, dNotV, dNeg, dIf, dCB, dCBL, dCons, dNil, dStar, dVar, dC, dCall, dOp, dOpL, dTup, dLst, dL, dSet, dAsg, dPar, dOwn, dExpr, dNx, dFor, dItL, dItT, dProp, dMeth, dMk, dMk0, dRaise, dPart, dNoPart, dSlL, dSlT, dRevL, dgName, dgTup, dgSets, dOwnIx, dOwnLen, dOwnTup, dApp, dSetI, dRel, relE, dItZip, dItTab, dItEnK, dItEn, dIsS, dJoinG, dSplit, dFmt, dJs, dIsT2, dIndex, dCallS, dYes, wipeE, dXf, dIsX, List.map_cons, List.map_nil, List.cons_append, List.nil_append, List.append_nil, List.length_cons, List.length_nil, List.replicate_succ, List.replicate_zero, Nat.reduceAdd, Nat.reduceSub, List.getElem?_cons_zero, List.getElem?_cons_succ, List.set_cons_zero, List.set_cons_succ, Nat.zero_add, Nat.add_zero, Nat.sub_self, x_add, x_sub, x_mulL, x_mulR, x_div, x_mod, x_lt, x_le, x_gt, x_ge, x_eq, x_ne, x_fro, x_step, x_first, x_last, x_on, x_l0, x_l1, x_l2, x_l3, x_l4, x_t0, x_t1, x_t2, x_t3, x_t4, x_intB, x_intI, x_max2, x_min2, x_lenL, x_lenT, x_sz, x_rs, x_rw, x_rf, x_ra, x_rl, x_slot, x_slotD, true_and, and_true, eq_self, decide_eq_true_eq, Bool.not_eq_true', decide_eq_false_iff_not, res_ok, res_er, x_rng1, x_rng1D, x_rng2, x_rng2E, x_rng2D, z_s, z_w, z_f, z_a, z_l, Bool.and_eq_true, if_true, if_false, Bool.false_eq_true, reduceCtorEq, decide_true, decide_false, Bool.not_true, Bool.not_false, Bool.true_eq_false, not_true_eq_false, not_false_eq_true, y_rest]
        by_cases hb : (x + 1) % r.a = 0
        · rw [if_pos hb]
          exact q1 (by unfold twoB; rw [if_pos a2]; simp [ha, hb])
        · rw [if_neg hb]
          exact q2 (by unfold twoB; rw [if_pos a2]; simp [hb])
      · simp (maxSteps := 10000000) (disch := first | assumption | omega) only [dDef, dRet, dRetL, dSeq, dIfS, dTst, dNotB, dAndB, dOrB, dAndV, dOrV, dNotV, dNeg, dIf, dCB, dCBL, dCons, dNil, dStar, dVar, dC, dCall, dOp, dOpL, dTup, dLst, dL, dSet, dAsg, dPar, dOwn, dExpr, dNx, dFor, dItL, dItT, dProp, dMeth, dMk, dMk0, dRaise, dPart, dNoPart, dSlL, dSlT, dRevL, dgName, dgTup, dgSets, dOwnIx, dOwnLen, dOwnTup, dApp, dSetI, dRel, relE, dItZip, dItTab, dItEnK, dItEn, dIsS, dJoinG, dSplit, dFmt, dJs, dIsT2, dIndex, dCallS, dYes, wipeE, dXf, dIsX, List.map_cons, List.map_nil, List.cons_append, List.nil_append, List.append_nil, List.length_cons, List.length_nil, List.replicate_succ, List.replicate_zero, Nat.reduceAdd, Nat.reduceSub, List.getElem?_cons_zero, List.getElem?_cons_succ, List.set_cons_zero, List.set_cons_succ, Nat.zero_add, Nat.add_zero, Nat.sub_self, x_add, x_sub, x_mulL, x_mulR, x_div, x_mod, x_lt, x_le, x_gt, x_ge, x_eq, x_ne, x_fro, x_step, x_first, x_last, x_on, x_l0, x_l1, x_l2, x_l3, x_l4, x_t0, x_t1, x_t2, x_t3, x_t4, x_intB, x_intI, x_max2, x_min2, x_lenL, x_lenT, x_sz, x_rs, x_rw, x_rf, x_ra, x_rl, x_slot, x_slotD, true_and, and_true, eq_self, decide_eq_true_eq, Bool.not_eq_true', decide_eq_false_iff_not, res_ok, res_er, x_rng1, x_rng1D, x_rng2, x_rng2E, x_rng2D, z_s, z_w, z_f, z_a, z_l, Bool.and_eq_true, if_true, if_false, Bool.false_eq_true, reduceCtorEq, decide_true, decide_false, Bool.not_true, Bool.not_false, Bool.true_eq_false, not_true_eq_false, not_false_eq_true, ha]
        exact q2 (by unfold twoB; simp [ha])
    · rw [twos hr]
      exact hN
  refine seqP (fun e => ∃ j : Nat, 2 * n + 4 ≤ j * m ∧ e = [.val (rl r), .val (.int m), .val (.int n), .val (il ((upto (main r n).toNat).map (thingL r))), .un, .val (il ((upto (many r n).toNat).map (thingR r))), .val (il (turnsL r m (j * m))), .un, .un]) (fun N hN => ?_) ?_
  · simp (maxSteps := 10000000) (disch := first | assumption | omega) only [dDef, dRet, dRetL, dSeq, dIfS, dTst, dNotB, dAndB, dOrB, dAndV, dOrV, dNotV, dNeg, dIf, dCB, dCBL, dCons, dNil, dStar, dVar, dC, dCall, dOp, dOpL, dTup, dLst, dL, dSet, dAsg, dPar, dOwn, dExpr, dNx, dFor, dItL, dItT, dProp, dMeth, dMk, dMk0, dRaise, dPart, dNoPart, dSlL, dSlT, dRevL, dgName, dgTup, dgSets, dOwnIx, dOwnLen, dOwnTup, dApp, dSetI, dRel, relE, dItZip, dItTab, dItEnK, dItEn, dIsS, dJoinG, dSplit, dFmt, dJs, dIsT2, dIndex, dCallS, dYes, wipeE, dXf, dIsX, List.map_cons, List.map_nil, List.cons_append, List.nil_append, List.append_nil, List.length_cons, List.length_nil, List.replicate_succ, List.replicate_zero, Nat.reduceAdd, Nat.reduceSub, List.getElem?_cons_zero, List.getElem?_cons_succ, List.set_cons_zero, List.set_cons_succ, Nat.zero_add, Nat.add_zero, Nat.sub_self, x_add, x_sub, x_mulL, x_mulR, x_div, x_mod, x_lt, x_le, x_gt, x_ge, x_eq, x_ne, x_fro, x_step, x_first, x_last, x_on, x_l0, x_l1, x_l2, x_l3, x_l4, x_t0, x_t1, x_t2, x_t3, x_t4, x_intB, x_intI, x_max2, x_min2, x_lenL, x_lenT, x_sz, x_rs, x_rw, x_rf, x_ra, x_rl, x_slot, x_slotD, true_and, and_true, eq_self, decide_eq_true_eq, Bool.not_eq_true', decide_eq_false_iff_not, res_ok, res_er, x_rng1, x_rng1D, x_rng2, x_rng2E, x_rng2D, z_s, z_w, z_f, z_a, z_l, Bool.and_eq_true, if_true, if_false, Bool.false_eq_true, reduceCtorEq, decide_true, decide_false, Bool.not_true, Bool.not_false, Bool.true_eq_false, not_true_eq_false, not_false_eq_true]
    rw [show (2 : Int) * (n : Int) + 4 = ((2 * n + 4 : Nat) : Int) by omega]
    exact y_turns hr hm (by omega) fun j hj1 hj2 => hN _ ⟨j, hj1, rfl⟩
  rintro e ⟨j, hj, rfl⟩
  have tn : ∀ {x : Int}, 0 ≤ x → x < j * m → (turnsL r m (j * m))[x.toNat]? = some (personAt r m x) := fun {x} h0 h1 => upto_map_get h0 (by rw [Int.natCast_mul]; exact h1)
  have l1 : ((upto (main r n).toNat).map fun k => D.int (thingL r k)) = ((upto (main r n).toNat).map (thingL r)).map D.int := by rw [List.map_map]; rfl
  have hjm : (2 * (n : Int) + 4) ≤ (j : Int) * (m : Int) := by rw [← Int.natCast_mul]; omega
  have dv : ∀ {x : Int}, 0 ≤ x → x / r.s ≤ x ∧ 0 ≤ x / r.s := fun {x} h => by rcases hr.s with e | e | e <;> rw [e] <;> omega
  refine seqE [.val (rl r), .val (.int m), .val (.int n), .val (il ((upto (main r n).toNat).map (thingL r))), .un, .val (il ((upto (many r n).toNat).map (thingR r))), .val (il (turnsL r m (j * m))), .val (.lst (((upto (main r n).toNat).map fun k => (thingL r k, personAt r m (k / r.s))).map prD)), .un] (fun N hN => ?_) ?_
  · unfold il at hN ⊢
    simp (maxSteps := 10000000) (disch := first | assumption | omega) only [dDef, dRet, dRetL, dSeq, dIfS, dTst, dNotB, dAndB, dOrB, dAndV, dOrV, dNotV, dNeg, dIf, dCB, dCBL, dCons, dNil, dStar, dVar, dC, dCall, dOp, dOpL, dTup, dLst, dL, dSet, dAsg, dPar, dOwn, dExpr, dNx, dFor, dItL, dItT, dProp, dMeth, dMk, dMk0, dRaise, dPart, dNoPart, dSlL, dSlT, dRevL, dgName, dgTup, dgSets, dOwnIx, dOwnLen, dOwnTup, dApp, dSetI, dRel, relE, dItZip, dItTab, dItEnK, dItEn, dIsS, dJoinG, dSplit, dFmt, dJs, dIsT2, dIndex, dCallS, dYes, wipeE, dXf, dIsX, List.map_cons, List.map_nil, List.cons_append, List.nil_append, List.append_nil, List.length_cons, List.length_nil, List.replicate_succ, List.replicate_zero, Nat.reduceAdd, Nat.reduceSub, List.getElem?_cons_zero, List.getElem?_cons_succ, List.set_cons_zero, List.set_cons_succ, Nat.zero_add, Nat.add_zero, Nat.sub_self, x_add, x_sub, x_mulL, x_mulR, x_div, x_mod, x_lt, x_le, x_gt, x_ge, x_eq, x_ne, x_fro, x_step, x_first, x_last, x_on, x_l0, x_l1, x_l2, x_l3, x_l4, x_t0, x_t1, x_t2, x_t3, x_t4, x_intB, x_intI, x_max2, x_min2, x_lenL, x_lenT, x_sz, x_rs, x_rw, x_rf, x_ra, x_rl, x_slot, x_slotD, true_and, and_true, eq_self, decide_eq_true_eq, Bool.not_eq_true', decide_eq_false_iff_not, res_ok, res_er, x_rng1, x_rng1D, x_rng2, x_rng2E, x_rng2D, z_s, z_w, z_f, z_a, z_l, Bool.and_eq_true, if_true, if_false, Bool.false_eq_true, reduceCtorEq, decide_true, decide_false, Bool.not_true, Bool.not_false, Bool.true_eq_false, not_true_eq_false, not_false_eq_true, dLc, List.length_map, upto_length]
    refine lc_map (xs := upto (main r n).toNat) D.int (fun k => prD (thingL r k, personAt r m (k / r.s))) (by congr 2) (Nat.le_trans (m := 10000) (by rw [upto_length]; omega) (by decide)) (fun x hx Q1 h => ?_) ?_
    · have hx2 := upto_mem.mp hx
      have d1 := dv hx2.1
      simp (maxSteps := 10000000) (disch := first | assumption | omega) only [dDef, dRet, dRetL, dSeq, dIfS, dTst, dNotB, dAndB, dOrB, dAndV, dOrV, dNotV, dNeg, dIf, dCB, dCBL, dCons, dNil, dStar, dVar, dC, dCall, dOp, dOpL, dTup, dLst, dL, dSet, dAsg, dPar, dOwn, dExpr, dNx, dFor, dItL, dItT, dProp, dMeth, dMk, dMk0, dRaise, dPart, dNoPart, dSlL, dSlT, dRevL, dgName, dgTup, dgSets, dOwnIx, dOwnLen, dOwnTup, dApp, dSetI, dRel, relE, dItZip, dItTab, dItEnK, dItEn, dIsS, dJoinG, dSplit, dFmt, dJs, dIsT2, dIndex, dCallS, dYes, wipeE, dXf, dIsX, List.map_cons, List.map_nil, List.cons_append, List.nil_append, List.append_nil, List.length_cons, List.length_nil, List.replicate_succ, List.replicate_zero, Nat.reduceAdd, Nat.reduceSub, List.getElem?_cons_zero, List.getElem?_cons_succ, List.set_cons_zero, List.set_cons_succ, Nat.zero_add, Nat.add_zero, Nat.sub_self, x_add, x_sub, x_mulL, x_mulR, x_div, x_mod, x_lt, x_le, x_gt, x_ge, x_eq, x_ne, x_fro, x_step, x_first, x_last, x_on, x_l0, x_l1, x_l2, x_l3, x_l4, x_t0, x_t1, x_t2, x_t3, x_t4, x_intB, x_intI, x_max2, x_min2, x_lenL, x_lenT, x_sz, x_rs, x_rw, x_rf, x_ra, x_rl, x_slot, x_slotD, true_and, and_true, eq_self, decide_eq_true_eq, Bool.not_eq_true', decide_eq_false_iff_not, res_ok, res_er, x_rng1, x_rng1D, x_rng2, x_rng2E, x_rng2D, z_s, z_w, z_f, z_a, z_l, Bool.and_eq_true, if_true, if_false, Bool.false_eq_true, reduceCtorEq, decide_true, decide_false, Bool.not_true, Bool.not_false, Bool.true_eq_false, not_true_eq_false, not_false_eq_true]
      rw [gIx_map hx2.1 (upto_map_get hx2.1 hx2.2)]
      rw [gIx_map d1.2 (tn d1.2 (by omega))]
      exact h
    · rw [show (((upto (main r n).toNat).map fun k => (thingL r k, personAt r m (k / r.s))).map prD) = (upto (main r n).toNat).map fun k => prD (thingL r k, personAt r m (k / r.s)) from List.map_map] at hN
      exact hN
  refine seqE [.val (rl r), .val (.int m), .val (.int n), .val (il ((upto (main r n).toNat).map (thingL r))), .un, .val (il ((upto (many r n).toNat).map (thingR r))), .val (il (turnsL r m (j * m))), .val (.lst (((upto (main r n).toNat).map fun k => (thingL r k, personAt r m (k / r.s))).map prD)), .val (.int (begin_ r n))] (fun N hN => ?_) ?_
  · generalize List.map prD _ = zs at hN ⊢
    unfold il at hN ⊢
    simp (maxSteps := 10000000) (disch := first | assumption | omega) only [dDef, dRet, dRetL, dSeq, dIfS, dTst, dNotB, dAndB, dOrB, dAndV, dOrV, dNotV, dNeg, dIf, dCB, dCBL, dCons, dNil, dStar, dVar, dC, dCall, dOp, dOpL, dTup, dLst, dL, dSet, dAsg, dPar, dOwn, dExpr, dNx, dFor, dItL, dItT, dProp, dMeth, dMk, dMk0, dRaise, dPart, dNoPart, dSlL, dSlT, dRevL, dgName, dgTup, dgSets, dOwnIx, dOwnLen, dOwnTup, dApp, dSetI, dRel, relE, dItZip, dItTab, dItEnK, dItEn, dIsS, dJoinG, dSplit, dFmt, dJs, dIsT2, dIndex, dCallS, dYes, wipeE, dXf, dIsX, List.map_cons, List.map_nil, List.cons_append, List.nil_append, List.append_nil, List.length_cons, List.length_nil, List.replicate_succ, List.replicate_zero, Nat.reduceAdd, Nat.reduceSub, List.getElem?_cons_zero, List.getElem?_cons_succ, List.set_cons_zero, List.set_cons_succ, Nat.zero_add, Nat.add_zero, Nat.sub_self, x_add, x_sub, x_mulL, x_mulR, x_div, x_mod, x_lt, x_le, x_gt, x_ge, x_eq, x_ne, x_fro, x_step, x_first, x_last, x_on, x_l0, x_l1, x_l2, x_l3, x_l4, x_t0, x_t1, x_t2, x_t3, x_t4, x_intB, x_intI, x_max2, x_min2, x_lenL, x_lenT, x_sz, x_rs, x_rw, x_rf, x_ra, x_rl, x_slot, x_slotD, true_and, and_true, eq_self, decide_eq_true_eq, Bool.not_eq_true', decide_eq_false_iff_not, res_ok, res_er, x_rng1, x_rng1D, x_rng2, x_rng2E, x_rng2D, z_s, z_w, z_f, z_a, z_l, Bool.and_eq_true, if_true, if_false, Bool.false_eq_true, reduceCtorEq, decide_true, decide_false, Bool.not_true, Bool.not_false, Bool.true_eq_false, not_true_eq_false, not_false_eq_true, List.length_map, upto_length]
    unfold begin_ at hN
    rw [show (((main r n).toNat : Nat) : Int) = main r n by omega, begin_law hr]
    cases hl : r.l with
    | true => rw [hl] at hN; exact hN
    | false => rw [hl] at hN; exact hN
  have bg : begin_ r n ≤ n ∧ 0 ≤ begin_ r n := by
    refine ⟨?_, begin_nonneg hr (by omega)⟩
    unfold begin_
    split
    · rcases hr.s with e | e | e <;> rw [e] <;> omega
    · omega
  rw [dealt_parts hr, List.map_append] at q
  have hz : (((upto (main r n).toNat).map fun k => (thingL r k, personAt r m (k / r.s))).map prD).length = (main r n).toNat := by rw [List.length_map, List.length_map, upto_length]
  generalize ((upto (main r n).toNat).map fun k => (thingL r k, personAt r m (k / r.s))).map prD = zs at hz q ⊢
  unfold il
  simp (maxSteps := 10000000) (disch := first | assumption | omega) only [dDef, dRet, dRetL, dSeq, dIfS, dTst, dNotB, dAndB, dOrB, dAndV, dOrV, dNotV, dNeg, dIf, dCB, dCBL, dCons, dNil, dStar, dVar, dC, dCall, dOp, dOpL, dTup, dLst, dL, dSet, dAsg, dPar, dOwn, dExpr, dNx, dFor, dItL, dItT, dProp, dMeth, dMk, dMk0, dRaise, dPart, dNoPart, dSlL, dSlT, dRevL, dgName, dgTup, dgSets, dOwnIx, dOwnLen, dOwnTup, dApp, dSetI, dRel, relE, dItZip, dItTab, dItEnK, dItEn, dIsS, dJoinG, dSplit, dFmt, dJs, dIsT2, dIndex, dCallS, dYes, wipeE, dXf, dIsX, List.map_cons, List.map_nil, List.cons_append, List.nil_append, List.append_nil, List.length_cons, List.length_nil, List.replicate_succ, List.replicate_zero, Nat.reduceAdd, Nat.reduceSub, List.getElem?_cons_zero, List.getElem?_cons_succ, List.set_cons_zero, List.set_cons_succ, Nat.zero_add, Nat.add_zero, Nat.sub_self, x_add, x_sub, x_mulL, x_mulR, x_div, x_mod, x_lt, x_le, x_gt, x_ge, x_eq, x_ne, x_fro, x_step, x_first, x_last, x_on, x_l0, x_l1, x_l2, x_l3, x_l4, x_t0, x_t1, x_t2, x_t3, x_t4, x_intB, x_intI, x_max2, x_min2, x_lenL, x_lenT, x_sz, x_rs, x_rw, x_rf, x_ra, x_rl, x_slot, x_slotD, true_and, and_true, eq_self, decide_eq_true_eq, Bool.not_eq_true', decide_eq_false_iff_not, res_ok, res_er, x_rng1, x_rng1D, x_rng2, x_rng2E, x_rng2D, z_s, z_w, z_f, z_a, z_l, Bool.and_eq_true, if_true, if_false, Bool.false_eq_true, reduceCtorEq, decide_true, decide_false, Bool.not_true, Bool.not_false, Bool.true_eq_false, not_true_eq_false, not_false_eq_true, dLc, List.length_map, upto_length]
  refine lc_map (xs := upto (many r n).toNat) D.int (fun k => prD (thingR r k, personAt r m (begin_ r n + k / r.s))) (by congr 2) (Nat.le_trans (m := 10000) (by rw [upto_length]; omega) (by decide)) (fun x hx Q1 h => ?_) ?_
  · have hx2 := upto_mem.mp hx
    have d1 := dv hx2.1
    simp (maxSteps := 10000000) (disch := first | assumption | omega) only [dDef, dRet, dRetL, dSeq, dIfS, dTst, dNotB, dAndB, dOrB, dAndV, dOrV, dNotV, dNeg, dIf, dCB, dCBL, dCons, dNil, dStar, dVar, dC, dCall, dOp, dOpL, dTup, dLst, dL, dSet, dAsg, dPar, dOwn, dExpr, dNx, dFor, dItL, dItT, dProp, dMeth, dMk, dMk0, dRaise, dPart, dNoPart, dSlL, dSlT, dRevL, dgName, dgTup, dgSets, dOwnIx, dOwnLen, dOwnTup, dApp, dSetI, dRel, relE, dItZip, dItTab, dItEnK, dItEn, dIsS, dJoinG, dSplit, dFmt, dJs, dIsT2, dIndex, dCallS, dYes, wipeE, dXf, dIsX, List.map_cons, List.map_nil, List.cons_append, List.nil_append, List.append_nil, List.length_cons, List.length_nil, List.replicate_succ, List.replicate_zero, Nat.reduceAdd, Nat.reduceSub, List.getElem?_cons_zero, List.getElem?_cons_succ, List.set_cons_zero, List.set_cons_succ, Nat.zero_add, Nat.add_zero, Nat.sub_self, x_add, x_sub, x_mulL, x_mulR, x_div, x_mod, x_lt, x_le, x_gt, x_ge, x_eq, x_ne, x_fro, x_step, x_first, x_last, x_on, x_l0, x_l1, x_l2, x_l3, x_l4, x_t0, x_t1, x_t2, x_t3, x_t4, x_intB, x_intI, x_max2, x_min2, x_lenL, x_lenT, x_sz, x_rs, x_rw, x_rf, x_ra, x_rl, x_slot, x_slotD, true_and, and_true, eq_self, decide_eq_true_eq, Bool.not_eq_true', decide_eq_false_iff_not, res_ok, res_er, x_rng1, x_rng1D, x_rng2, x_rng2E, x_rng2D, z_s, z_w, z_f, z_a, z_l, Bool.and_eq_true, if_true, if_false, Bool.false_eq_true, reduceCtorEq, decide_true, decide_false, Bool.not_true, Bool.not_false, Bool.true_eq_false, not_true_eq_false, not_false_eq_true]
    rw [gIx_map hx2.1 (upto_map_get hx2.1 hx2.2)]
    rw [gIx_map (by omega) (tn (by omega) (by omega))]
    exact h
  · rw [x_addL (Nat.le_trans (m := 20000) (by rw [hz, List.length_map, upto_length]; omega) (by decide))]
    rw [List.map_map] at q
    exact q
/-! ### the lots by an own dealing -/
theorem set_map {f : Int → Int} {n : Nat} {p : Int} (h0 : 0 ≤ p) (h1 : p < n) : ((upto n).map f).set p.toNat (f p + 1) = (upto n).map fun x => f x + if p = x then 1 else 0 := by
  refine list_ext (n := n) (by rw [List.length_set, List.length_map, upto_length]) (by rw [List.length_map, upto_length]) fun i hi => ?_
  rw [List.getElem?_map, upto_get hi]
  by_cases c : p.toNat = i
  · subst c
    rw [List.getElem?_set_self (by rw [List.length_map, upto_length]; exact hi)]
    show some (f p + 1) = some (f ((p.toNat : Nat) : Int) + if p = ((p.toNat : Nat) : Int) then 1 else 0)
    rw [show ((p.toNat : Nat) : Int) = p by omega, if_pos rfl]
  · rw [List.getElem?_set_ne c, List.getElem?_map, upto_get hi]
    show some (f (i : Int)) = some (f (i : Int) + if p = (i : Int) then 1 else 0)
    rw [if_neg (by omega), Int.add_zero]
theorem lotsL_cnt {r : Ru} {m n : Nat} (hr : r.Ok) (hm : Mo m) : lotsL r m n = (upto m).map fun p => cnt (fun k => personOf r m n k) p n := by
  unfold lotsL
  rw [show ((m : Nat) : Int).toNat = m by omega]
  refine List.map_congr_left fun p hp => ?_
  have := upto_mem.mp hp
  exact lot_cnt hr hm this.1 this.2
theorem law_l_lots (K : PySem.W.Frag) (ds : List D) (Q : D → Prop) (R : DX) (h : F_l_lots K ds Q R) : dDef 6 (g_l_lots K) ds Q R := by
  obtain ⟨r, m, n, rfl, hr, hm, hn, q⟩ := h
  have h1 := hm.lo; have h2 := hm.hi
  unfold dDef g_l_lots
  refine seqE [.val (rl r), .val (.int m), .val (.int n), .own (((upto m).map fun p => cnt (fun k => personOf r m n k) p 0).map .int), .un, .un] (fun N hN => ?_) ?_
  · show dOwn 3 _ _ _
    unfold dOwn
    simp (maxSteps := 10000000) (disch := first | assumption | omega) only [dDef, dRet, dRetL, dSeq, dIfS, dTst, dNotB, dAndB, dOrB, dAndV, dOrV, dNotV, dNeg, dIf, dCB, dCBL, dCons, dNil, dStar, dVar, dC, dCall, dOp, dOpL, dTup, dLst, dL, dSet, dAsg, dPar, dOwn, dExpr, dNx, dFor, dItL, dItT, dProp, dMeth, dMk, dMk0, dRaise, dPart, dNoPart, dSlL, dSlT, dRevL, dgName, dgTup, dgSets, dOwnIx, dOwnLen, dOwnTup, dApp, dSetI, dRel, relE, dItZip, dItTab, dItEnK, dItEn, dIsS, dJoinG, dSplit, dFmt, dJs, dIsT2, dIndex, dCallS, dYes, wipeE, dXf, dIsX, List.map_cons, List.map_nil, List.cons_append, List.nil_append, List.append_nil, List.length_cons, List.length_nil, List.replicate_succ, List.replicate_zero, Nat.reduceAdd, Nat.reduceSub, List.getElem?_cons_zero, List.getElem?_cons_succ, List.set_cons_zero, List.set_cons_succ, Nat.zero_add, Nat.add_zero, Nat.sub_self, x_add, x_sub, x_mulL, x_mulR, x_div, x_mod, x_lt, x_le, x_gt, x_ge, x_eq, x_ne, x_fro, x_step, x_first, x_last, x_on, x_l0, x_l1, x_l2, x_l3, x_l4, x_t0, x_t1, x_t2, x_t3, x_t4, x_intB, x_intI, x_max2, x_min2, x_lenL, x_lenT, x_sz, x_rs, x_rw, x_rf, x_ra, x_rl, x_slot, x_slotD, true_and, and_true, eq_self, decide_eq_true_eq, Bool.not_eq_true', decide_eq_false_iff_not, res_ok, res_er, x_rng1, x_rng1D, x_rng2, x_rng2E, x_rng2D, z_s, z_w, z_f, z_a, z_l, Bool.and_eq_true, if_true, if_false, Bool.false_eq_true, reduceCtorEq, decide_true, decide_false, Bool.not_true, Bool.not_false, Bool.true_eq_false, not_true_eq_false, not_false_eq_true]
    refine ⟨by omega, by omega, Nat.le_trans (m := 100) (by simp; omega) (by decide), ?_⟩
    have e : (List.replicate (m : Int).toNat [D.int 0]).flatten = ((upto m).map fun p => cnt (fun k => personOf r m n k) p 0).map .int := by
      rw [show ((m : Nat) : Int).toNat = m by omega, List.flatten_replicate_singleton, List.map_map]
      refine (List.eq_replicate_iff.mpr ⟨by rw [List.length_map, upto_length], fun b hb => ?_⟩).symm
      obtain ⟨x, _, rfl⟩ := List.mem_map.mp hb
      rfl
    rw [e]
    exact hN
  refine seqP (fun e => ∃ a b : Slot, (∀ i j t, noOwnB i j (a :: t) = noOwnB i (j + 1) t) ∧ (∀ i j t, noOwnB i j (b :: t) = noOwnB i (j + 1) t) ∧ e = [.val (rl r), .val (.int m), .val (.int n), .own (((upto m).map fun p => cnt (fun k => personOf r m n k) p n).map .int), a, b]) (fun N hN => ?_) ?_
  · simp (maxSteps := 10000000) (disch := first | assumption | omega) only [dDef, dRet, dRetL, dSeq, dIfS, dTst, dNotB, dAndB, dOrB, dAndV, dOrV, dNotV, dNeg, dIf, dCB, dCBL, dCons, dNil, dStar, dVar, dC, dCall, dOp, dOpL, dTup, dLst, dL, dSet, dAsg, dPar, dOwn, dExpr, dNx, dFor, dItL, dItT, dProp, dMeth, dMk, dMk0, dRaise, dPart, dNoPart, dSlL, dSlT, dRevL, dgName, dgTup, dgSets, dOwnIx, dOwnLen, dOwnTup, dApp, dSetI, dRel, relE, dItZip, dItTab, dItEnK, dItEn, dIsS, dJoinG, dSplit, dFmt, dJs, dIsT2, dIndex, dCallS, dYes, wipeE, dXf, dIsX, List.map_cons, List.map_nil, List.cons_append, List.nil_append, List.append_nil, List.length_cons, List.length_nil, List.replicate_succ, List.replicate_zero, Nat.reduceAdd, Nat.reduceSub, List.getElem?_cons_zero, List.getElem?_cons_succ, List.set_cons_zero, List.set_cons_succ, Nat.zero_add, Nat.add_zero, Nat.sub_self, x_add, x_sub, x_mulL, x_mulR, x_div, x_mod, x_lt, x_le, x_gt, x_ge, x_eq, x_ne, x_fro, x_step, x_first, x_last, x_on, x_l0, x_l1, x_l2, x_l3, x_l4, x_t0, x_t1, x_t2, x_t3, x_t4, x_intB, x_intI, x_max2, x_min2, x_lenL, x_lenT, x_sz, x_rs, x_rw, x_rf, x_ra, x_rl, x_slot, x_slotD, true_and, and_true, eq_self, decide_eq_true_eq, Bool.not_eq_true', decide_eq_false_iff_not, res_ok, res_er, x_rng1, x_rng1D, x_rng2, x_rng2E, x_rng2D, z_s, z_w, z_f, z_a, z_l, Bool.and_eq_true, if_true, if_false, Bool.false_eq_true, reduceCtorEq, decide_true, decide_false, Bool.not_true, Bool.not_false, Bool.true_eq_false, not_true_eq_false, not_false_eq_true, y_dealt]
    refine for_list prD (dealtL r m n) (fun pre e => ∃ a b : Slot, (∀ i j t, noOwnB i j (a :: t) = noOwnB i (j + 1) t) ∧ (∀ i j t, noOwnB i j (b :: t) = noOwnB i (j + 1) t) ∧ e = [.val (rl r), .val (.int m), .val (.int n), .own (((upto m).map fun p => cnt (fun k => personOf r m n k) p pre.length).map .int), a, b]) rfl ⟨.un, .un, fun _ _ _ => rfl, fun _ _ _ => rfl, rfl⟩ ?_ ?_
    · rintro pre x post hall e N ⟨a, b, ha, hb, rfl⟩ hN
      have hlen : (dealtL r m n).length = n := by unfold dealtL; rw [List.length_map, upto_length]
      have hx : x = (thingAt r n pre.length, personOf r m n pre.length) := by
        have h0 : (dealtL r m n)[pre.length]? = some x := by rw [hall]; simp
        have hl : pre.length < n := by rw [← hlen, hall]; simp
        unfold dealtL at h0
        rw [List.getElem?_map, upto_get hl] at h0
        exact (Option.some.inj h0).symm
      obtain ⟨p, hp⟩ : ∃ p, p = personOf r m n pre.length := ⟨_, rfl⟩
      have rg : 0 ≤ p ∧ p < m := by rw [hp]; exact personAt_range hm
      rw [hx, ← hp]
      unfold prD
      simp (maxSteps := 10000000) (disch := first | assumption | omega) only [dDef, dRet, dRetL, dSeq, dIfS, dTst, dNotB, dAndB, dOrB, dAndV, dOrV, dNotV, dNeg, dIf, dCB, dCBL, dCons, dNil, dStar, dVar, dC, dCall, dOp, dOpL, dTup, dLst, dL, dSet, dAsg, dPar, dOwn, dExpr, dNx, dFor, dItL, dItT, dProp, dMeth, dMk, dMk0, dRaise, dPart, dNoPart, dSlL, dSlT, dRevL, dgName, dgTup, dgSets, dOwnIx, dOwnLen, dOwnTup, dApp, dSetI, dRel, relE, dItZip, dItTab, dItEnK, dItEn, dIsS, dJoinG, dSplit, dFmt, dJs, dIsT2, dIndex, dCallS, dYes, wipeE, dXf, dIsX, List.map_cons, List.map_nil, List.cons_append, List.nil_append, List.append_nil, List.length_cons, List.length_nil, List.replicate_succ, List.replicate_zero, Nat.reduceAdd, Nat.reduceSub, List.getElem?_cons_zero, List.getElem?_cons_succ, List.set_cons_zero, List.set_cons_succ, Nat.zero_add, Nat.add_zero, Nat.sub_self, x_add, x_sub, x_mulL, x_mulR, x_div, x_mod, x_lt, x_le, x_gt, x_ge, x_eq, x_ne, x_fro, x_step, x_first, x_last, x_on, x_l0, x_l1, x_l2, x_l3, x_l4, x_t0, x_t1, x_t2, x_t3, x_t4, x_intB, x_intI, x_max2, x_min2, x_lenL, x_lenT, x_sz, x_rs, x_rw, x_rf, x_ra, x_rl, x_slot, x_slotD, true_and, and_true, eq_self, decide_eq_true_eq, Bool.not_eq_true', decide_eq_false_iff_not, res_ok, res_er, x_rng1, x_rng1D, x_rng2, x_rng2E, x_rng2D, z_s, z_w, z_f, z_a, z_l, Bool.and_eq_true, if_true, if_false, Bool.false_eq_true, reduceCtorEq, decide_true, decide_false, Bool.not_true, Bool.not_false, Bool.true_eq_false, not_true_eq_false, not_false_eq_true]
      refine ⟨p, D.int (cnt (fun k => personOf r m n k) p pre.length), rfl, ?_, ?_⟩
      · have e0 := upto_map_get (f := fun p => cnt (fun k => personOf r m n k) p pre.length) rg.1 rg.2
        generalize (upto m).map (fun p => cnt (fun k => personOf r m n k) p pre.length) = L at e0 ⊢
        generalize cnt (fun k => personOf r m n k) p pre.length = cc at e0 ⊢
        rw [show p = ((p.toNat : Nat) : Int) by omega]
        refine atI_pos ?_
        rw [List.getElem?_map, e0]
        rfl
      · simp (maxSteps := 10000000) (disch := first | assumption | omega) only [dDef, dRet, dRetL, dSeq, dIfS, dTst, dNotB, dAndB, dOrB, dAndV, dOrV, dNotV, dNeg, dIf, dCB, dCBL, dCons, dNil, dStar, dVar, dC, dCall, dOp, dOpL, dTup, dLst, dL, dSet, dAsg, dPar, dOwn, dExpr, dNx, dFor, dItL, dItT, dProp, dMeth, dMk, dMk0, dRaise, dPart, dNoPart, dSlL, dSlT, dRevL, dgName, dgTup, dgSets, dOwnIx, dOwnLen, dOwnTup, dApp, dSetI, dRel, relE, dItZip, dItTab, dItEnK, dItEn, dIsS, dJoinG, dSplit, dFmt, dJs, dIsT2, dIndex, dCallS, dYes, wipeE, dXf, dIsX, List.map_cons, List.map_nil, List.cons_append, List.nil_append, List.append_nil, List.length_cons, List.length_nil, List.replicate_succ, List.replicate_zero, Nat.reduceAdd, Nat.reduceSub, List.getElem?_cons_zero, List.getElem?_cons_succ, List.set_cons_zero, List.set_cons_succ, Nat.zero_add, Nat.add_zero, Nat.sub_self, x_add, x_sub, x_mulL, x_mulR, x_div, x_mod, x_lt, x_le, x_gt, x_ge, x_eq, x_ne, x_fro, x_step, x_first, x_last, x_on, x_l0, x_l1, x_l2, x_l3, x_l4, x_t0, x_t1, x_t2, x_t3, x_t4, x_intB, x_intI, x_max2, x_min2, x_lenL, x_lenT, x_sz, x_rs, x_rw, x_rf, x_ra, x_rl, x_slot, x_slotD, true_and, and_true, eq_self, decide_eq_true_eq, Bool.not_eq_true', decide_eq_false_iff_not, res_ok, res_er, x_rng1, x_rng1D, x_rng2, x_rng2E, x_rng2D, z_s, z_w, z_f, z_a, z_l, Bool.and_eq_true, if_true, if_false, Bool.false_eq_true, reduceCtorEq, decide_true, decide_false, Bool.not_true, Bool.not_false, Bool.true_eq_false, not_true_eq_false, not_false_eq_true]
        refine ⟨p, p.toNat, rfl, ?_, ?_⟩
        · unfold ixN
          rw [if_pos rg.1, if_pos (by rw [List.length_map, List.length_map, upto_length]; omega)]
        · refine hN _ ⟨.val (.int (thingAt r n pre.length)), .val (.int p), fun _ _ _ => rfl, fun _ _ _ => rfl, ?_⟩
          have e1 := set_map (f := fun p => cnt (fun k => personOf r m n k) p pre.length) rg.1 rg.2
          rw [← List.map_set, e1]
          simp only [List.length_append, List.length_cons, List.length_nil]
          congr 5
          refine congrArg (List.map D.int) (List.map_congr_left fun x hx => ?_)
          rw [hp]
          rfl
    · rintro e ⟨a, b, ha, hb, rfl⟩
      have hlen : (dealtL r m n).length = n := by unfold dealtL; rw [List.length_map, upto_length]
      rw [hlen]
      exact hN _ ⟨a, b, ha, hb, rfl⟩
  rintro e ⟨a, b, ha, hb, rfl⟩
  rw [lotsL_cnt hr hm] at q
  simp (maxSteps := 10000000) (disch := first | assumption | omega) only [dDef, dRet, dRetL, dSeq, dIfS, dTst, dNotB, dAndB, dOrB, dAndV, dOrV, dNotV, dNeg, dIf, dCB, dCBL, dCons, dNil, dStar, dVar, dC, dCall, dOp, dOpL, dTup, dLst, dL, dSet, dAsg, dPar, dOwn, dExpr, dNx, dFor, dItL, dItT, dProp, dMeth, dMk, dMk0, dRaise, dPart, dNoPart, dSlL, dSlT, dRevL, dgName, dgTup, dgSets, dOwnIx, dOwnLen, dOwnTup, dApp, dSetI, dRel, relE, dItZip, dItTab, dItEnK, dItEn, dIsS, dJoinG, dSplit, dFmt, dJs, dIsT2, dIndex, dCallS, dYes, wipeE, dXf, dIsX, List.map_cons, List.map_nil, List.cons_append, List.nil_append, List.append_nil, List.length_cons, List.length_nil, List.replicate_succ, List.replicate_zero, Nat.reduceAdd, Nat.reduceSub, List.getElem?_cons_zero, List.getElem?_cons_succ, List.set_cons_zero, List.set_cons_succ, Nat.zero_add, Nat.add_zero, Nat.sub_self, x_add, x_sub, x_mulL, x_mulR, x_div, x_mod, x_lt, x_le, x_gt, x_ge, x_eq, x_ne, x_fro, x_step, x_first, x_last, x_on, x_l0, x_l1, x_l2, x_l3, x_l4, x_t0, x_t1, x_t2, x_t3, x_t4, x_intB, x_intI, x_max2, x_min2, x_lenL, x_lenT, x_sz, x_rs, x_rw, x_rf, x_ra, x_rl, x_slot, x_slotD, true_and, and_true, eq_self, decide_eq_true_eq, Bool.not_eq_true', decide_eq_false_iff_not, res_ok, res_er, x_rng1, x_rng1D, x_rng2, x_rng2E, x_rng2D, z_s, z_w, z_f, z_a, z_l, Bool.and_eq_true, if_true, if_false, Bool.false_eq_true, reduceCtorEq, decide_true, decide_false, Bool.not_true, Bool.not_false, Bool.true_eq_false, not_true_eq_false, not_false_eq_true]
  refine ⟨?_, q⟩
  show noOwnB 3 4 [a, b] = true
  rw [ha, hb]
  rfl
end Pr

set_option maxHeartbeats 4000000
/-! What the laws' own texts lean on: drawn rules, equal things, lists. -/
namespace Pr
open PySem PySem.Spec PyProof.Rows L2 Dl Dv Dk Gx Ma
mutual
theorem deq_same : ∀ {n : Nat} {d : D}, dat n d = true → PyData.eqv (py d) (py d) = true
  | _, .non, _ => by simp [py, PyData.eqv]
  | _, .bl b, _ => by simp [py, PyData.eqv]
  | _, .int b, _ => by simp [py, PyData.eqv]
  | _, .str b, _ => by simp [py, PyData.eqv]
  | 0, .tup ds, h => by simp [dat] at h
  | n + 1, .tup ds, h => by
    simp only [py, PyData.eqv]
    exact deqs_same (n := n) (by simpa [dat] using h)
  | 0, .lst ds, h => by simp [dat] at h
  | n + 1, .lst ds, h => by
    simp only [py, PyData.eqv]
    exact deqs_same (n := n) (by simpa [dat] using h)
  | _, .obj _ _, h => by simp [dat] at h
  | _, .raw _, h => by simp [dat] at h
  | _, .vol, h => by simp [dat] at h
theorem deqs_same : ∀ {n : Nat} {ds : List D}, dats n ds = true → PyData.eqvAll (pys ds) (pys ds) = true
  | _, [], _ => by simp [pys, PyData.eqvAll]
  | n, d :: ds, h => by
    simp only [dats, Bool.and_eq_true] at h
    simp only [pys, PyData.eqvAll, Bool.and_eq_true]
    exact ⟨deq_same (n := n) h.1, deqs_same (n := n) h.2⟩
end
theorem x_neS {x : D} {Q : D → Prop} (h : dat 9 x = true) : gNe x x Q = Q (.bl false) := propext ⟨fun z => by have := z.2.2; unfold deq at this; rwa [deq_same h] at this, fun q => ⟨h, h, by unfold deq; rw [deq_same h]; exact q⟩⟩
theorem x_eqS {x : D} {Q : D → Prop} (h : dat 9 x = true) : gEq x x Q = Q (.bl true) := propext ⟨fun z => by have := z.2.2; unfold deq at this; rwa [deq_same h] at this, fun q => ⟨h, h, by unfold deq; rw [deq_same h]; exact q⟩⟩
theorem dats_all : ∀ {n : Nat} {ds : List D}, dats n ds = true ↔ ∀ d ∈ ds, dat n d = true
  | n, [] => by simp [dats]
  | n, d :: ds => by simp [dats, dats_all (ds := ds)]
theorem dat_lst {n : Nat} {ds : List D} (h : ∀ d ∈ ds, dat n d = true) : dat (n + 1) (.lst ds) = true := by
  unfold dat
  exact dats_all.mpr h
theorem dat_tup {n : Nat} {ds : List D} (h : ∀ d ∈ ds, dat n d = true) : dat (n + 1) (.tup ds) = true := by
  unfold dat
  exact dats_all.mpr h
theorem dat_int {n : Nat} {i : Int} : dat n (.int i) = true := by cases n <;> rfl
theorem dat_bl {n : Nat} {i : Bool} : dat n (.bl i) = true := by cases n <;> rfl
theorem dat_non {n : Nat} : dat n .non = true := by cases n <;> rfl
theorem dat_il {ns : List Int} : dat 9 (il ns) = true := dat_lst fun d hd => by
  obtain ⟨x, _, rfl⟩ := List.mem_map.mp hd
  exact dat_int
theorem dat_str {n : Nat} {x : Str} (h : PyData.strOk x = true) : dat n (.str x) = true := by cases n <;> exact h
theorem dat_wS {n : Nat} {w : Way} : dat n (.str (wS w)) = true := dat_str (by cases w <;> decide +kernel)
theorem dat_fS {n : Nat} {w : Bool} : dat n (.str (fS w)) = true := dat_str (by cases w <;> decide +kernel)
theorem dat_lS {n : Nat} {w : Bool} : dat n (.str (lS w)) = true := dat_str (by cases w <;> decide +kernel)
theorem dats_row {n : Nat} {r : Ru} : dats n (row r) = true := by
  unfold row
  simp only [dats, dat_int, dat_wS, dat_fS, dat_lS, Bool.and_true]
theorem row_drawn {r : Ru} (h : r.Ok) : row r ∈ drawn := by
  refine drawn_mem ?_ ?_ ?_ ?_ ?_
  · rcases h.s with e | e | e <;> rw [e] <;> simp
  · cases r.w <;> simp [wS]
  · cases r.f <;> simp [fS]
  · rcases h.a with e | e | e | e <;> rw [e] <;> simp
  · cases r.l <;> simp [lS]
section
variable {K : PySem.W.Frag} {r : Ru} {Q : D → Prop} {R : DX}
theorem y_rule {Q : List D → Prop} (h : ∀ r : Ru, r.Ok → Q (row r)) : F_l_rule [.vol] Q R := ⟨rfl, fun t ht => by
  obtain ⟨r, hr, rfl⟩ := drawn_ru ht
  exact h r hr⟩
theorem y_Rule (hr : r.Ok) : F_Rule K (row r) Q R = Q (rd K r) := propext ⟨fun ⟨h1, h2⟩ => by rw [(drawn_rows _ (row_drawn hr)).2] at h2; exact h2, fun q => F_Rule_ok (row_drawn hr) q⟩
theorem y_built (hr : r.Ok) : F_l_built K [rl r] Q R = Q (rd K r) := propext ⟨fun ⟨t, e, h⟩ => by
    have e2 := D.lst.inj (List.cons.inj e).1
    subst e2
    rwa [y_Rule hr] at h, fun q => ⟨row r, rfl, by rw [y_Rule hr]; exact q⟩⟩
theorem gIx_last {xs : List D} {z : D} (h : xs[xs.length - 1]? = some z) : gIx (.lst xs) (.int (-1)) Q = Q z := by
  refine gIx_l ?_
  have hl : 0 < xs.length := by
    cases xs with
    | nil => simp at h
    | cons => simp
  unfold atI ixN
  rw [if_neg (by omega), if_pos (by omega)]
  show xs[((xs.length : Int) + -1).toNat]? = _
  rw [show ((xs.length : Int) + -1).toNat = xs.length - 1 by omega]
  exact h
theorem x_all {bs : List Bool} : gAll [.lst (bs.map .bl)] Q = Q (.bl (bs.all id)) := propext ⟨fun ⟨cs, e, q⟩ => by
    have e2 : ∀ {as bs : List Bool}, as.map D.bl = bs.map D.bl → as = bs := by
      intro as
      induction as with
      | nil => intro bs h; cases bs <;> simp at h ⊢
      | cons a as ih =>
        intro bs h
        cases bs with
        | nil => simp at h
        | cons b bs =>
          simp only [List.map_cons, List.cons.injEq, D.bl.injEq] at h
          rw [h.1, ih h.2]
    have := e2 (D.lst.inj (List.cons.inj e).1)
    subst this
    exact q, fun q => ⟨bs, rfl, q⟩⟩
/-- one of a written list, drawn -/
theorem y_pick {xs : List D} {b : Int} (hb : 0 < b) (hl : b ≤ xs.length) (h2 : b < 1000) (h : ∀ d ∈ xs, Q d) : Fnext [.vol, .int b] (fun y => gIx (.lst xs) y Q) R :=
  next_ok hb (by omega) fun i h0 h1 => ix_draw h0 (by omega) h
end
end Pr

set_option maxHeartbeats 4000000
/-! lots.py asked rightly, as equations. -/
namespace Pr
open PySem PySem.Spec PyProof.Rows L2 Dl Dv Dk Gx Ma
structure Nu (n : Int) : Prop where
  lo : 0 ≤ n
  hi : n ≤ 10 ^ 30
theorem look_ok {K : PySem.W.Frag} {m n : Int} (hm : Mo m) (hn : Nu n) : lookAt K (.int m) (.int n) (10 ^ 30) = .ok .non := by
  have h1 := hm.lo; have h2 := hm.hi; have h3 := hn.lo; have h4 := hn.hi
  unfold lookAt isIn
  simp [h1, h2, h3]
  omega
section
variable {K : PySem.W.Frag} {r : Ru} {Q : D → Prop} {R : DX} {m n p : Int}
theorem v_lots (hr : r.Ok) (hm : Mo m) (hn : Nu n) : F_lots K [rd K r, .int m, .int n] Q R = Q (il (lotsL r m n)) := propext
  ⟨fun ⟨r', m', n', e, _, _, _, q⟩ => by
    simp only [List.cons.injEq, and_true] at e
    obtain ⟨e1, rfl, rfl⟩ := e
    obtain rfl := rd_inj e1
    rw [look_ok hm hn] at q
    exact q _ _ rfl rfl, fun q => ⟨r, _, _, rfl, hr, rfl, rfl, by rw [look_ok hm hn]; intro i j ei ej; cases ei; cases ej; exact q⟩⟩
theorem v_spread (hr : r.Ok) (hm : Mo m) (hn : Nu n) : F_spread K [rd K r, .int m, .int n] Q R = Q (.int (spreadOf r m n)) := propext
  ⟨fun ⟨r', m', n', e, _, _, _, q⟩ => by
    simp only [List.cons.injEq, and_true] at e
    obtain ⟨e1, rfl, rfl⟩ := e
    obtain rfl := rd_inj e1
    rw [look_ok hm hn] at q
    exact q _ _ rfl rfl, fun q => ⟨r, _, _, rfl, hr, rfl, rfl, by rw [look_ok hm hn]; intro i j ei ej; cases ei; cases ej; exact q⟩⟩
theorem v_final (hr : r.Ok) (hm : Mo m) (hn : Nu n) : F_final K [rd K r, .int m, .int n] Q R = Q (if 0 < n then .int (personOf r m n (n - 1)) else .non) := propext
  ⟨fun ⟨r', m', n', e, _, _, _, q⟩ => by
    simp only [List.cons.injEq, and_true] at e
    obtain ⟨e1, rfl, rfl⟩ := e
    obtain rfl := rd_inj e1
    rw [look_ok hm hn] at q
    exact q _ _ rfl rfl, fun q => ⟨r, _, _, rfl, hr, rfl, rfl, by rw [look_ok hm hn]; intro i j ei ej; cases ei; cases ej; exact q⟩⟩
theorem v_lot (hr : r.Ok) (hm : Mo m) (hn : Nu n) (p0 : 0 ≤ p) (p1 : p < m) : F_lot K [rd K r, .int m, .int n, .int p] Q R = Q (.int (ownLot r m n p)) := by
  have hp : isIn (.int p) 0 (m - 1) = true := by unfold isIn; simp [p0]; omega
  refine propext ⟨fun ⟨r', m', n', p', e, _, _, _, _, q⟩ => by
    simp only [List.cons.injEq, and_true] at e
    obtain ⟨e1, rfl, rfl, rfl⟩ := e
    obtain rfl := rd_inj e1
    rw [look_ok hm hn] at q
    have q2 := q _ _ rfl rfl
    rw [if_pos hp] at q2
    exact q2, fun q => ⟨r, _, _, _, rfl, hr, rfl, rfl, rfl, by rw [look_ok hm hn]; intro i j ei ej; cases ei; cases ej; rw [if_pos hp]; exact q⟩⟩
theorem v_whose (hr : r.Ok) (hm : Mo m) (hn : Nu n) (p0 : 0 ≤ p) (p1 : p < n) : F_whose K [rd K r, .int m, .int n, .int p] Q R = Q (.int (personOf r m n (spotOf r n p))) := by
  have hp : isIn (.int p) 0 (n - 1) = true := by unfold isIn; simp [p0]; omega
  refine propext ⟨fun ⟨r', m', n', p', e, _, _, _, _, q⟩ => by
    simp only [List.cons.injEq, and_true] at e
    obtain ⟨e1, rfl, rfl, rfl⟩ := e
    obtain rfl := rd_inj e1
    rw [look_ok hm hn] at q
    have q2 := q _ _ rfl rfl
    rw [if_pos hp] at q2
    exact q2, fun q => ⟨r, _, _, _, rfl, hr, rfl, rfl, rfl, by rw [look_ok hm hn]; intro i j ei ej; cases ei; cases ej; rw [if_pos hp]; exact q⟩⟩
end
theorem Nu.small {n : Int} (h0 : 0 ≤ n) (h1 : n ≤ 1000000) : Nu n := ⟨h0, Int.le_trans h1 (by decide)⟩
theorem seq' {g1 g2 : DG} {env : Env'} {k : Kn} (h : g1 env { k with nx := fun e => g2 e k }) : dSeq g1 g2 env k := h
end Pr

set_option maxHeartbeats 4000000
/-! Dealings: an instance with a list of states that changes: what is kept, promises of defs and methods. -/
namespace Dg
open PySem PySem.Spec PyProof.Rows L2 Dl Dv Dk Gx

/-- the state goes on, but the list at b comes to hold ws -/
structure StB (Z : Zn) (b : Addr) (ws : List V) (H H' : Hp) : Prop where
  le : Le (mask Z H) (mask Z H')
  own : ∀ a us, (a, us) ∈ Z.own → a ≠ b → H' a = some (.lst us)
  ownb : H' b = some (.lst ws)
  vol : ∀ h c, Z.vol = some (h, c) → Vol H' h c
theorem StB.step {Z : Zn} {b : Addr} {vs : List V} {H H' : Hp} (s : StB Z b vs H H') (g : Good Z H) (m : (b, vs) ∈ Z.own) : Step Z H H' := by
  refine ⟨s.le, ⟨fun a us h => ?_, s.vol, g.nd⟩⟩
  by_cases e : a = b
  · subst e
    have e1 := g.own a us h
    have e2 := g.own a vs m
    rw [e2] at e1
    cases e1
    exact s.ownb
  · exact s.own a us h e
theorem Step.stB {Z : Zn} {b : Addr} {vs : List V} {H H' : Hp} (s : Step Z H H') (m : (b, vs) ∈ Z.own) : StB Z b vs H H' := ⟨s.le, fun a us h _ => s.good.own a us h, s.good.own b vs m, s.good.vol⟩
theorem StB.trans {Z : Zn} {b : Addr} {vs ws : List V} {H H1 H2 : Hp} (s : Step Z H H1) (t : StB Z b ws H1 H2) : StB Z b ws H H2 := ⟨s.le.trans t.le, t.own, t.ownb, t.vol⟩
def Dlg.put (g : Dlg) (vs : List V) (sts : List D) : Dlg := ⟨g.a, g.dx, g.b, g.C, g.src, g.m, g.n, vs, sts⟩
theorem DAt.step {K : PySem.W.Frag} {Z : Zn} {H H' : Hp} {g : Dlg} (h : DAt K Z H g) (s : Step Z H H') : DAt K Z H' g := h.le s.le rfl
theorem DAt.put {K : PySem.W.Frag} {Z Z' : Zn} {H H' : Hp} {g : Dlg} {vs : List V} {sts : List D} (h : DAt K Z H g) (le : Le (mask Z H) (mask Z' H')) (ev : Z'.vol = Z.vol) (r : RepsZ K Z' H' vs sts) : DAt K Z' H' (Dlg.put g vs sts) := by
  obtain ⟨⟨x, h1, h2⟩, _⟩ := h.le le ev
  exact ⟨⟨x, h1, h2⟩, r⟩
theorem one_of {l : Own} {i : Nat} {p : Addr} {vs : List V} : (l.map fun q => q.2.1).Nodup → (i, p, vs) ∈ l → ∀ {j : Nat} {us : List V}, (j, p, us) ∈ l → j = i ∧ us = vs := by
  induction l with
  | nil => intro _ h; cases h
  | cons q l ih =>
    intro hn h1 j us h2
    rw [List.map_cons, List.nodup_cons] at hn
    rcases List.mem_cons.mp h1 with h1 | h1
    · rcases List.mem_cons.mp h2 with h2 | h2
      · rw [← h1] at h2
        cases h2
        exact ⟨rfl, rfl⟩
      · exact (hn.1 (by rw [← h1]; exact List.mem_map.mpr ⟨_, h2, rfl⟩)).elim
    · rcases List.mem_cons.mp h2 with h2 | h2
      · exact (hn.1 (by rw [← h2]; exact List.mem_map.mpr ⟨_, h1, rfl⟩)).elim
      · exact ih hn.2 h1 h2
theorem add_nd {Z : Zn} {O : Own} (nd : (Z.add O).msk.Nodup) : (O.map fun q => q.2.1).Nodup ∧ ∀ a ∈ O.map (fun q => q.2.1), ∀ b ∈ Z.own.map (·.1), a ≠ b := by
  have nd1 : ((Z.add O).own.map (·.1)).Nodup := (List.nodup_append.mp nd).1
  have e : (Z.add O).own.map (·.1) = (O.map fun q => q.2.1) ++ Z.own.map (·.1) := by
    show (O.map (fun q => (q.2.1, q.2.2)) ++ Z.own).map (·.1) = _
    rw [List.map_append, List.map_map]
    rfl
  rw [e] at nd1
  exact ⟨(List.nodup_append.mp nd1).1, (List.nodup_append.mp nd1).2.2⟩
/-- the dealing at slot i comes to stand otherwise -/
theorem dlg_put {K : PySem.W.Frag} {Z : Zn} {O : Own} {H H' : Hp} {σ : L2.St} {env : Env'} {i : Nat} {g : Dlg} {vs : List V} {sts : List D} (a : StAt K Z O H σ env) (e : env[i]? = some (.dlg g)) (s : StB (Z.add O) g.b vs H H') (r : RepsZ K (Z.add O) H' vs sts) :
    ∃ O', Lt Z O H O' H' ∧ StAt K Z O' H' σ (env.set i (.dlg (Dlg.put g vs sts))) ∧ mask (Z.add O') H' = mask (Z.add O) H' := by
  obtain ⟨v0, hv, hv0, hm, hd⟩ := a.env.at_ i _ e
  have em : ∀ G, mask (Z.add (putO O g.b vs)) G = mask (Z.add O) G := fun G => by
    funext b
    unfold mask
    rw [put_msk]
  obtain ⟨nd1, nd2⟩ := add_nd a.good.nd
  have le : Le (mask (Z.add O) H) (mask (Z.add (putO O g.b vs)) H') := by rw [em]; exact s.le
  have good : Good (Z.add (putO O g.b vs)) H' := by
    refine ⟨fun b us h => ?_, s.vol, by rw [put_msk]; exact a.good.nd⟩
    rcases List.mem_append.mp h with h | h
    · obtain ⟨q, hq, eq⟩ := List.mem_map.mp h
      obtain ⟨q0, hq0, e0⟩ := List.mem_map.mp hq
      by_cases hb : q0.2.1 = g.b
      · rw [if_pos hb] at e0
        rw [← e0] at eq
        cases eq
        exact s.ownb
      · rw [if_neg hb] at e0
        rw [← e0] at eq
        cases eq
        exact s.own _ _ (List.mem_append_left _ (List.mem_map.mpr ⟨_, hq0, rfl⟩)) hb
    · refine s.own b us (List.mem_append_right _ h) fun z => ?_
      exact nd2 g.b (List.mem_map.mpr ⟨_, hm, rfl⟩) b (List.mem_map.mpr ⟨_, h, rfl⟩) z.symm
  refine ⟨putO O g.b vs, le, ⟨good, ?_⟩, em H'⟩
  refine ⟨by rw [List.length_set]; exact a.env.len, fun j t q => ?_, fun j b us h => List.mem_append_left _ (List.mem_map.mpr ⟨_, h, rfl⟩)⟩
  by_cases hj : i = j
  · subst hj
    by_cases hi : i < env.length
    · rw [List.getElem?_set_self hi] at q
      cases q
      exact ⟨_, hv, hv0, List.mem_map.mpr ⟨_, hm, by rw [if_pos rfl]; rfl⟩, DAt.put hd le rfl (by show Reps K Z.vol _ _ _; rw [em]; exact r)⟩
    · rw [List.getElem?_eq_none (by rw [List.length_set]; omega)] at q
      cases q
  · rw [List.getElem?_set_ne hj] at q
    obtain ⟨v, h1, h2⟩ := a.env.at_ j t q
    refine ⟨v, h1, ?_⟩
    cases t with
    | un => trivial
    | val d => obtain ⟨x, q1, q2⟩ := h2; exact ⟨x, q1, Rep.mono le q2⟩
    | exc x => exact ⟨h2.1, h2.2.le le rfl⟩
    | own ds =>
      obtain ⟨b, us, q1, q2, q3⟩ := h2
      refine ⟨b, us, q1, List.mem_map.mpr ⟨_, q2, ?_⟩, Reps.mono le q3⟩
      have hb : b ≠ g.b := fun z => by subst z; exact hj (one_of nd1 hm q2).1.symm
      rw [if_neg hb]
    | dlg g2 =>
      obtain ⟨q1, q2, q3⟩ := h2
      refine ⟨q1, List.mem_map.mpr ⟨_, q2, ?_⟩, q3.le le rfl⟩
      have hb : g2.b ≠ g.b := fun z => hj (one_of nd1 hm (by rw [← z]; exact q2)).1.symm
      rw [if_neg hb]

/-! ### promises -/
abbrev DFM := Dlg → List D → (D → List V → List D → Prop) → (Exc → List V → List D → Prop) → Prop
def spM (K : PySem.W.Frag) (n : Nat) (F : DFM) : Sp := fun us H Q E => us.length = n + 1 ∧ ∃ (Z : Zn) (g : Dlg) (ws : List V) (ds : List D) (Q0 : D → List V → List D → Prop) (R0 : Exc → List V → List D → Prop), us = .ref g.a :: ws ∧ Good Z H ∧ (g.b, g.vs) ∈ Z.own ∧ DAt K Z H g ∧ RepsZ K Z H ws ds ∧ F g ds Q0 R0 ∧
  (∀ x vs' sts', R0 x vs' sts' → ∀ cls d H', StB Z g.b vs' H H' → RepsZ K Z H' vs' sts' → RepX K Z H' cls d x → E cls d H') ∧ ∀ d vs' sts', Q0 d vs' sts' → ∀ v H', StB Z g.b vs' H H' → RepsZ K Z H' vs' sts' → RepZ K Z H' v d → Q v H'
theorem spM_imp {K : PySem.W.Frag} {n : Nat} {F G : DFM} (h : ∀ g ds Q R, G g ds Q R → F g ds Q R) : ∀ vs H Q E, spM K n G vs H Q E → spM K n F vs H Q E := fun vs H Q E ⟨hl, Z, g, ws, ds, Q0, R0, a, b, c, d, e, f, i⟩ => ⟨hl, Z, g, ws, ds, Q0, R0, a, b, c, d, e, h _ _ _ _ f, i⟩
def dDefM (N : Nat) (g : DG) : DFM := fun gd ds Q R => g (.dlg gd :: (ds.map .val ++ List.replicate (N - (ds.length + 1)) .un))
  ⟨fun e => ∃ vs sts, e[0]? = some (.dlg (Dlg.put gd vs sts)) ∧ Q .non vs sts, fun e d => ∃ vs sts, e[0]? = some (.dlg (Dlg.put gd vs sts)) ∧ Q d vs sts, fun _ => False, fun _ => False, fun _ => False, fun x e => ∃ vs sts, e[0]? = some (.dlg (Dlg.put gd vs sts)) ∧ R x vs sts⟩
/-- a zone without the list at b -/
def Zn.out (Z : Zn) (b : Addr) : Zn := ⟨Z.own.filter (fun q => q.1 != b), Z.vol⟩
theorem out_sub {Z : Zn} {b c : Addr} (h : c ∈ (Zn.out Z b).msk) : c ∈ Z.msk := by
  rcases List.mem_append.mp h with h | h
  · obtain ⟨q, hq, rfl⟩ := List.mem_map.mp h
    exact List.mem_append_left _ (List.mem_map.mpr ⟨q, (List.mem_filter.mp hq).1, rfl⟩)
  · exact List.mem_append_right _ h
theorem out_sup {Z : Zn} {b c : Addr} (hb : c ≠ b) (h : c ∈ Z.msk) : c ∈ (Zn.out Z b).msk := by
  rcases List.mem_append.mp h with h | h
  · obtain ⟨q, hq, rfl⟩ := List.mem_map.mp h
    exact List.mem_append_left _ (List.mem_map.mpr ⟨q, List.mem_filter.mpr ⟨hq, by simpa using hb⟩, rfl⟩)
  · exact List.mem_append_right _ h
theorem add_mem {Z : Zn} {O : Own} {c : Addr} : c ∈ (Z.add O).msk ↔ c ∈ O.map (fun q => q.2.1) ∨ c ∈ Z.msk := by
  have e : (Z.add O).msk = (O.map fun q => q.2.1) ++ Z.msk := by
    show (O.map (fun q => (q.2.1, q.2.2)) ++ Z.own).map (·.1) ++ (Z.add O).vs = _
    rw [List.map_append, List.map_map, List.append_assoc]
    rfl
  rw [e, List.mem_append]
/-- the frame of a callee that has the dealing at its first slot -/
theorem start_dlg {K : PySem.W.Frag} {Z : Zn} {H : Hp} {g : Dlg} {ws : List V} {ds : List D} {N : List Str} (gd : Good Z H) (m : (g.b, g.vs) ∈ Z.own) (hd : DAt K Z H g) (r : RepsZ K Z H ws ds) :
    StAt K (Zn.out Z g.b) [(0, g.b, g.vs)] H (L2.start N (.ref g.a :: ws)) (.dlg g :: (ds.map .val ++ List.replicate (N.length - (ds.length + 1)) .un)) := by
  have sub : ∀ c, c ∈ ((Zn.out Z g.b).add [(0, g.b, g.vs)]).msk → c ∈ Z.msk := fun c h => by
    rcases add_mem.mp h with h | h
    · have : c = g.b := by simpa using h
      subst this
      exact List.mem_append_left _ (List.mem_map.mpr ⟨_, m, rfl⟩)
    · exact out_sub h
  have le : Le (mask Z H) (mask ((Zn.out Z g.b).add [(0, g.b, g.vs)]) H) := fun c o h => by
    have hc : c ∉ Z.msk := fun hm => by rw [mask_in hm] at h; cases h
    rw [mask_of hc] at h
    rw [mask_of fun z => hc (sub c z)]
    exact h
  obtain ⟨nd1, nd2, nd3⟩ := List.nodup_append.mp (show (Z.own.map (·.1) ++ Z.vs).Nodup from gd.nd)
  have good : Good ((Zn.out Z g.b).add [(0, g.b, g.vs)]) H := by
    refine ⟨fun b us h => ?_, gd.vol, ?_⟩
    · rcases List.mem_append.mp h with h | h
      · obtain ⟨q, hq, e⟩ := List.mem_map.mp h
        have : q = (0, g.b, g.vs) := by simpa using hq
        subst this
        cases e
        exact gd.own _ _ m
      · exact gd.own _ _ (List.mem_filter.mp h).1
    · show (g.b :: ((Z.own.filter (fun q => q.1 != g.b)).map (·.1) ++ Z.vs)).Nodup
      refine List.nodup_cons.mpr ⟨fun h => ?_, List.nodup_append.mpr ⟨((List.filter_sublist).map _).nodup nd1, nd2, fun x hx y hy => nd3 x (by
        obtain ⟨q, hq, rfl⟩ := List.mem_map.mp hx
        exact List.mem_map.mpr ⟨q, (List.mem_filter.mp hq).1, rfl⟩) y hy⟩⟩
      rcases List.mem_append.mp h with h | h
      · obtain ⟨q, hq, he⟩ := List.mem_map.mp h
        have := (List.mem_filter.mp hq).2
        simp [he] at this
      · exact nd3 g.b (List.mem_map.mpr ⟨_, m, rfl⟩) g.b h rfl
  have h := start_rep (K := K) (Z := Z) (N := N) (ds := .raw (.ref g.a) :: ds) (vs := .ref g.a :: ws) (.cons _ _ _ _ (.raw _) r)
  rw [add_nil] at h
  refine ⟨good, by have := h.len; simpa using this, fun i s q => ?_, fun j b us hm => ?_⟩
  · cases i with
    | zero =>
      cases q
      obtain ⟨v, h1, x, rfl, h3⟩ := h.at_ 0 (.val (.raw (.ref g.a))) rfl
      cases h3
      exact ⟨_, h1, rfl, List.mem_cons_self, hd.le le rfl⟩
    | succ i =>
      obtain ⟨v, h1, h2⟩ := h.at_ (i + 1) s q
      refine ⟨v, h1, ?_⟩
      have hs : s = .un ∨ ∃ d, s = .val d := by
        have q' : (ds.map Slot.val ++ List.replicate (N.length - (ds.length + 1)) .un)[i]? = some s := q
        rcases List.mem_append.mp (List.mem_of_getElem? q') with z | z
        · obtain ⟨d, _, rfl⟩ := List.mem_map.mp z
          exact .inr ⟨d, rfl⟩
        · exact .inl (List.eq_of_mem_replicate z)
      rcases hs with rfl | ⟨d, rfl⟩
      · trivial
      · obtain ⟨x, q1, q2⟩ := h2
        exact ⟨x, q1, Rep.mono le q2⟩
  · have : (j, b, us) = (0, g.b, g.vs) := by simpa using hm
    cases this
    exact List.mem_append_left _ (List.mem_map.mpr ⟨_, List.mem_cons_self, rfl⟩)
/-- what the callee left is what the caller finds -/
theorem end_dlg {K : PySem.W.Frag} {Z : Zn} {H H' : Hp} {g : Dlg} {O' : Own} {σ' : L2.St} {env' : Env'} {vs : List V} {sts : List D} (gd : Good Z H) (m : (g.b, g.vs) ∈ Z.own) (l : Lt (Zn.out Z g.b) [(0, g.b, g.vs)] H O' H') (a : StAt K (Zn.out Z g.b) O' H' σ' env') (e : env'[0]? = some (.dlg (Dlg.put g vs sts))) :
    StB Z g.b vs H H' ∧ RepsZ K Z H' vs sts ∧ Le (mask ((Zn.out Z g.b).add O') H') (mask Z H') := by
  obtain ⟨v0, _, hv0, hm, hd⟩ := a.env.at_ 0 _ e
  have sup : ∀ c, c ∈ Z.msk → c ∈ ((Zn.out Z g.b).add O').msk := fun c h => by
    by_cases hc : c = g.b
    · subst hc
      exact add_mem.mpr (.inl (List.mem_map.mpr ⟨_, hm, rfl⟩))
    · exact add_mem.mpr (.inr (out_sup hc h))
  have le2 : Le (mask ((Zn.out Z g.b).add O') H') (mask Z H') := fun c o h => by
    have hc : c ∉ ((Zn.out Z g.b).add O').msk := fun hm => by rw [mask_in hm] at h; cases h
    rw [mask_of hc] at h
    rw [mask_of fun z => hc (sup c z)]
    exact h
  have le1 : Le (mask Z H) (mask ((Zn.out Z g.b).add [(0, g.b, g.vs)]) H) := fun c o h => by
    have hc : c ∉ Z.msk := fun hm => by rw [mask_in hm] at h; cases h
    rw [mask_of hc] at h
    rw [mask_of fun z => hc ?_]
    · exact h
    · rcases add_mem.mp z with z | z
      · have : c = g.b := by simpa using z
        subst this
        exact List.mem_append_left _ (List.mem_map.mpr ⟨_, m, rfl⟩)
      · exact out_sub z
  refine ⟨⟨(le1.trans l).trans le2, fun b us hb hne => ?_, ?_, a.good.vol⟩, Reps.mono le2 hd.reps, le2⟩
  · exact a.good.own b us (List.mem_append_right _ (List.mem_filter.mpr ⟨hb, by simpa using hne⟩))
  · exact a.good.own g.b vs (List.mem_append_left _ (List.mem_map.mpr ⟨_, hm, rfl⟩))
theorem RepX.leZ {K : PySem.W.Frag} {Z Z' : Zn} {H' : Hp} {cls : Value} {d : Option Addr} {x : Exc} (h : RepX K Z H' cls d x) (le : Le (mask Z H') (mask Z' H')) (ev : Z'.vol = Z.vol) : RepX K Z' H' cls d x := h.le le ev
theorem okM {P : Program} {w : World} {K : PySem.W.Frag} {mg : Str → Option Value} {base : Heap} {x qual : Str} {params : Arguments} {body : List Stmt} {scope : Scope} {f : Addr} {fd : FuncData} {N ps : List Str} {k n : Nat} {g : DG} (F : FunD K x qual params body scope [] [] f fd) (S : FnScope N ps scope) (hn : ps.length = n + 1)
    (hbody : ∀ (cdv : Value) (A : Around) (outer : List Env) (s : Shared) (H : Hp) (E : XK), Cn (cxOf (L2.CX P w) P w K mg base N qual scope f cdv A outer s H E) (fun cls d _ H' => E cls d H') k →
      PDSs (cxOf (L2.CX P w) P w K mg base N qual scope f cdv A outer s H E) (fun cls d _ H' => E cls d H') body g) :
    FnOk P w K mg base (L2.CX P w) (k + 1) f fd ps (spM K n (dDefM N.length g)) := by
  refine F.ok S (fun vs H Q E h => h.1.trans hn.symm) fun cdv A outer s H vs Q E hr h => ?_
  obtain ⟨hl, Z, gg, ws, ds, Q0, R0, rfl, gd, m, hd, r, hf, hx, hq⟩ := h
  refine ⟨_, hbody cdv A outer s H E ⟨takes_of rfl rfl rfl rfl, passes_of rfl, hr, rfl⟩, _, _, _, _, start_dlg gd m hd r, hf, ?_⟩
  refine ⟨fun env' ⟨vs, sts, e, h'⟩ O' σ' H' l a => ?_, fun env' d ⟨vs, sts, e, h'⟩ O' σ' v H' l a rv => ?_, fun _ h' => h'.elim, fun _ h' => h'.elim, fun _ h' => h'.elim, fun y env' ⟨vs, sts, e, h'⟩ O' cls d σ' H' l a rx => ?_⟩
  · obtain ⟨s1, s2, s3⟩ := end_dlg gd m l a e
    exact hq _ _ _ h' _ H' s1 s2 .non
  · obtain ⟨s1, s2, s3⟩ := end_dlg gd m l a e
    exact hq _ _ _ h' v H' s1 s2 (Rep.mono s3 rv)
  · obtain ⟨s1, s2, s3⟩ := end_dlg gd m l a e
    exact hx y _ _ h' cls d H' s1 s2 (rx.le s3 rfl)
end Dg

set_option maxHeartbeats 4000000
/-! Dealings: expressions and statements that read and change the one at a slot. -/
namespace Dg
open PySem PySem.Spec PyProof.Rows L2 Dl Dv Dk Gx

structure DlC (K : PySem.W.Frag) (C : Addr) : Prop where
  cl : Cls K C
  f0 : NoAttr K C "source"
  f1 : NoAttr K C "people"
  f2 : NoAttr K C "whole"
  f3 : NoAttr K C "states"
theorem at_dlg {K : PySem.W.Frag} {Z : Zn} {O : Own} {H : Hp} {σ : L2.St} {env : Env'} {i : Nat} {g : Dlg} (a : At K Z O H σ env) (e : env[i]? = some (.dlg g)) : σ[i]? = some (some (.ref g.a)) ∧ (i, g.b, g.vs) ∈ O ∧ (g.b, g.vs) ∈ Z.own ∧ DAt K Z H g ∧ H g.b = some (.lst g.vs) ∧ ∃ x, H g.a = some (.ins g.C g.dx (g.fs x)) ∧ RepZ K Z H x g.src := by
  obtain ⟨v, h1, h2, h3, h4⟩ := a.env.at_ i _ e
  have h5 := a.env.sub _ _ _ h3
  obtain ⟨x, h6, h7⟩ := h4.ins
  exact ⟨by rw [h1, h2], h3, h5, h4, a.good.own _ _ h5, x, mask_le _ _ _ _ h6, h7⟩
def Dlg.fld (g : Dlg) : Nat → D
  | 0 => g.src
  | 1 => .int g.m
  | _ => .int g.n
def fname : Nat → Str
  | 0 => "source"
  | 1 => "people"
  | _ => "whole"
/-- x.source, x.people, x.whole -/
def dDF (C : Addr) (i j : Nat) : DE := fun env Q _ => match env[i]? with
  | some (.dlg g) => g.C = C ∧ Q (Dlg.fld g j)
  | _ => False
section
variable {X : Cx} {W : WX} {C : Addr} {e o : Expr} {es : List Expr} {x y f : Str} {i j k n : Nat} {pos pos' p p2 apos : Pos} {fe fi : DE} {fs : DA}
theorem pd_dF (c : DlC X.K C) (hj : j < 3) (he : L2.PE X e (tVar i)) (hb : attributeBase e (fname j) X.env (eval e X.env) = eval e X.env := by rfl) : PD X W (.Attribute e (fname j) pos) (dDF C i j) :=
  PE.imp (pe_fld he hb) fun σ H Q ⟨Z, O, env, Q0, R0, a, hf, _, q⟩ => by
    unfold dDF at hf
    split at hf
    · rename_i g hg
      obtain ⟨h1, h2, h3, h4, h5, w, h6, h7⟩ := at_dlg a hg
      obtain ⟨ec, hf⟩ := hf
      subst ec
      match j, hj, hf with
      | 0, _, hf => exact ⟨_, h1, g.a, g.C, g.dx, _, w, rfl, h6, c.cl, c.f0, rfl, q _ hf _ H (Step.refl a.good) h7⟩
      | 1, _, hf => exact ⟨_, h1, g.a, g.C, g.dx, _, .int g.m, rfl, h6, c.cl, c.f1, rfl, q _ hf _ H (Step.refl a.good) (.int _)⟩
      | 2, _, hf => exact ⟨_, h1, g.a, g.C, g.dx, _, .int g.n, rfl, h6, c.cl, c.f2, rfl, q _ hf _ H (Step.refl a.good) (.int _)⟩
    · exact hf.elim
/-- x.states[e] -/
def dDIx (C : Addr) (i : Nat) (fi : DE) : DE := fun env Q R => match env[i]? with
  | some (.dlg g) => g.C = C ∧ fi env (fun j => ∃ n d, j = .int n ∧ atI g.sts n = some d ∧ Q d) R
  | _ => False
theorem pd_dIx {ei : Expr} (c : DlC X.K C) (he : L2.PE X e (tVar i)) (hi : PD X W ei fi) (hb : attributeBase e "states" X.env (eval e X.env) = eval e X.env := by rfl) (hs : PlainIx ei := by exact fun _ _ => rfl) : PD X W (.Subscript (.Attribute e "states" p) ei pos) (dDIx C i fi) :=
  PE.imp (pe_ix ix_seq (pe_fld he hb) hi hs) fun σ H Q ⟨Z, O, env, Q0, R0, a, hf, xk, q⟩ => by
    unfold dDIx at hf
    split at hf
    · rename_i g hg
      obtain ⟨h1, h2, h3, h4, h5, w, h6, h7⟩ := at_dlg a hg
      obtain ⟨ec, hf⟩ := hf
      subst ec
      refine ⟨_, h1, g.a, g.C, g.dx, _, .ref g.b, rfl, h6, c.cl, c.f3, rfl, DT.mk a hf xk fun j hj u H2 s2 r2 => ?_⟩
      obtain ⟨n, d, ej, hd, hq⟩ := hj
      subst ej
      cases r2
      obtain ⟨g1, g2, g3, g4, g5, _⟩ := at_dlg (a.step s2) hg
      obtain ⟨v, e1, e2⟩ := atI_rep g4.reps hd
      exact .inl ⟨g.b, g.vs, n, v, rfl, rfl, SqL.of g5, e1, q d hq v H2 s2 e2⟩
    · exact hf.elim
/-- len(x.states) -/
def dDLen (C : Addr) (i : Nat) : DE := fun env Q _ => match env[i]? with
  | some (.dlg g) => g.C = C ∧ Q (.int g.sts.length)
  | _ => False
theorem pd_dLen (c : DlC X.K C) (he : L2.PE X e (tVar i)) (hm : X.mg "len" = none) (hb : attributeBase e "states" X.env (eval e X.env) = eval e X.env := by rfl) (hg : Gl X "len" := by rfl) (hs : starEach [.Attribute e "states" p] X.env = (false, eval (.Attribute e "states" p) X.env) :: starEach [] X.env := by rfl) (hpl : (backTo pos (starEach [] X.env)).any (·.1) = false := by rfl) :
    PD X W (.Call (.Name "len" p2) [.Attribute e "states" p] [] pos) (dDLen C i) := PE.imp (pe_callB call_len hg hm boot_len (pa_cons (pe_fld he hb) pa_nil hs) (by decide) (by decide) hs hpl) fun σ H Q ⟨Z, O, env, Q0, R0, a, hf, xk, q⟩ => by
  unfold dDLen at hf
  split at hf
  · rename_i g hg
    obtain ⟨h1, h2, h3, h4, h5, w, h6, h7⟩ := at_dlg a hg
    obtain ⟨ec, hf⟩ := hf
    subst ec
    refine ⟨_, h1, g.a, g.C, g.dx, _, .ref g.b, rfl, h6, c.cl, c.f3, rfl, .ref g.b, g.vs.length, rfl, .inl ⟨g.vs, SqL.of h5, rfl⟩, ?_⟩
    have e : (g.vs.length : Int) = (g.sts.length : Int) := by rw [h4.reps.length]
    rw [e]
    exact q _ hf _ H (Step.refl a.good) (.int _)
  · exact hf.elim
/-- x.states[i:j], a new list -/
def dDSl (C : Addr) (i : Nat) (lo hi : DO) : DA := fun env Q R => match env[i]? with
  | some (.dlg g) => g.C = C ∧ lo env (fun i => hi env (fun j => Q (cutD g.sts i j)) R) R
  | _ => False
theorem pdl_dSl {lo hi : Option Expr} {fl fh : DO} (c : DlC X.K C) (he : L2.PE X e (tVar i)) (hl : PDO X W lo fl) (hh : PDO X W hi fh) (hb : attributeBase e "states" X.env (eval e X.env) = eval e X.env := by rfl) : PDL X W (.Subscript (.Attribute e "states" p) (.Slice lo hi none p2) pos) (dDSl C i fl fh) :=
  PE.imp (pe_slice sl_list (pe_fld he hb) hl hh) fun σ H Q ⟨Z, O, env, Q0, R0, a, hf, xk, q⟩ => by
    unfold dDSl at hf
    split at hf
    · rename_i g hg
      obtain ⟨h1, h2, h3, h4, h5, w, h6, h7⟩ := at_dlg a hg
      obtain ⟨ec, hf⟩ := hf
      subst ec
      refine ⟨_, h1, g.a, g.C, g.dx, _, .ref g.b, rfl, h6, c.cl, c.f3, rfl, ?_⟩
      refine ⟨Z, O, env, _, R0, a, hf, xk, fun i hi H2 s2 => ?_⟩
      refine ⟨Z, O, env, _, R0, a.step s2, hi, xk.step s2, fun j hj H3 s3 => ?_⟩
      obtain ⟨g1, g2, g3, g4, g5, _⟩ := at_dlg (a.step (s2.trans s3)) hg
      exact ⟨g.b, g.vs, rfl, SqL.of g5, fun p hp => q _ hj p _ H3 (s2.trans s3) hp (cut_rep g4.reps i j)⟩
    · exact hf.elim
/-! ### changes -/
/-- x.states.append(e) -/
def dDApp (C : Addr) (i : Nat) (fe : DE) : DG := fun env k => match env[i]? with
  | some (.dlg g) => g.C = C ∧ fe env (fun d => g.sts.length < sizeLine ∧ ∀ v, k.nx (env.set i (.dlg (Dlg.put g (g.vs ++ [v]) (g.sts ++ [d]))))) (fun x => k.xc x env)
  | _ => False
theorem stB_own {K : PySem.W.Frag} {Z : Zn} {O : Own} {H : Hp} {σ : L2.St} {env : Env'} {i : Nat} {g : Dlg} (a : StAt K Z O H σ env) (e : env[i]? = some (.dlg g)) (ws : List V) : StB (Z.add O) g.b ws H (upd H g.b (.lst ws)) := by
  obtain ⟨h1, h2, h3, h4, h5, w, h6, h7⟩ := at_dlg a e
  have hm : g.b ∈ (Z.add O).msk := List.mem_append_left _ (List.mem_map.mpr ⟨_, h3, rfl⟩)
  refine ⟨fun c o h => ?_, fun b us hb hne => by rw [upd_ne hne]; exact a.good.own b us hb, upd_same, fun h c e => ?_⟩
  · have hc : c ∉ (Z.add O).msk := fun z => by rw [mask_in z] at h; cases h
    rw [mask_of hc] at h ⊢
    rw [upd_ne fun z => hc (by rw [z]; exact hm)]
    exact h
  · obtain ⟨s, j, cs, q1, q2, q3⟩ := a.good.vol h c e
    have hv : h ∈ (Z.add O).vs ∧ c ∈ (Z.add O).vs := by
      unfold Zn.vs
      rw [e]
      simp
    have nd3 := (List.nodup_append.mp a.good.nd).2.2 g.b (List.mem_map.mpr ⟨_, h3, rfl⟩)
    exact ⟨s, j, cs, by rw [upd_ne (Ne.symm (nd3 h hv.1))]; exact q1, by rw [upd_ne (Ne.symm (nd3 c hv.2))]; exact q2, q3⟩
theorem ds_dApp (c : DlC X.K C) (hv : L2.PE X (.Name x p) (tVar i)) (he : PD X W e fe) (hb : attributeBase (.Name x p) "states" X.env (eval (.Name x p) X.env) = eval (.Name x p) X.env := by rfl) (hs : starEach [e] X.env = (false, eval e X.env) :: starEach [] X.env := by rfl)
    (hbase : attributeBase (.Attribute (.Name x p) "states" apos) "append" X.env (eval (.Attribute (.Name x p) "states" apos) X.env) = eval (.Attribute (.Name x p) "states" apos) X.env := by rfl)
    (hfew : ((backTo pos (starEach [e] X.env)).all (fun x => !x.1) && (backToKw pos (keywordEach [] X.env)).all (fun x => x.1.isSome) && decide ([e].length + ([] : List Keyword).length + (if ([] : List Keyword).isEmpty then 0 else 1) < 30)) = true := by rfl)
    (hline : (p2.endLine == pos.line) = true := by rfl) (hsw : swapsWith (.Call (.Attribute (.Attribute (.Name x p) "states" apos) "append" p2) [e] [] pos) none pos'.line X.env = pure false := by rfl) :
    PDS X W (.Expr (.Call (.Attribute (.Attribute (.Name x p) "states" apos) "append" p2) [e] [] pos) pos') (dDApp C i fe) :=
  PS.imp (ps_expr (pe_bm PySem.F.plainAttrs_list PySem.F.slot_list_append PySem.F.type_list_append mt_append (pe_fld hv hb) (pa_cons he pa_nil hs) hbase hfew hline hs rfl) hsw) fun D σ H ⟨Z, O, env, k, a, h, ko⟩ => by
    unfold dDApp at h
    split at h
    · rename_i g hg
      obtain ⟨h1, h2, h3, h4, h5, w, h6, h7⟩ := at_dlg a hg
      obtain ⟨ec, h⟩ := h
      subst ec
      refine ⟨_, h1, g.a, g.C, g.dx, _, .ref g.b, rfl, h6, c.cl, c.f3, rfl, .inl ⟨rfl, g.vs, SqL.of h5⟩, DT.mk a h (ko.xk a) fun d hd v H1 s r => ?_⟩
      have a1 := a.step s
      obtain ⟨g1, g2, g3, g4, g5, _⟩ := at_dlg a1 hg
      refine ⟨g.b, g.vs, v, rfl, rfl, g5, by rw [g4.reps.length]; exact hd.1, ?_⟩
      have sb := stB_own a1 hg (g.vs ++ [v])
      obtain ⟨O', l, a2, _⟩ := dlg_put a1 hg sb (Reps.mono sb.le (g4.reps.append (.one r)))
      exact ko.nx _ (hd.2 v) _ _ _ (s.le.trans l) a2
    · exact h.elim
/-- x.states.pop() -/
def dDPop (C : Addr) (i : Nat) : DG := fun env k => match env[i]? with
  | some (.dlg g) => g.C = C ∧ g.sts ≠ [] ∧ k.nx (env.set i (.dlg (Dlg.put g g.vs.dropLast g.sts.dropLast)))
  | _ => False
theorem reps_dropLast {K : PySem.W.Frag} {vl : Option (Addr × Addr)} {G : Hp} {vs : List V} {ds : List D} (r : Reps K vl G vs ds) : Reps K vl G vs.dropLast ds.dropLast := by
  rw [List.dropLast_eq_take, List.dropLast_eq_take, r.length]
  exact r.take _
theorem ds_dPop (c : DlC X.K C) (hv : L2.PE X (.Name x p) (tVar i)) (hb : attributeBase (.Name x p) "states" X.env (eval (.Name x p) X.env) = eval (.Name x p) X.env := by rfl)
    (hbase : attributeBase (.Attribute (.Name x p) "states" apos) "pop" X.env (eval (.Attribute (.Name x p) "states" apos) X.env) = eval (.Attribute (.Name x p) "states" apos) X.env := by rfl)
    (hline : (p2.endLine == pos.line) = true := by rfl) (hsw : swapsWith (.Call (.Attribute (.Attribute (.Name x p) "states" apos) "pop" p2) [] [] pos) none pos'.line X.env = pure false := by rfl) :
    PDS X W (.Expr (.Call (.Attribute (.Attribute (.Name x p) "states" apos) "pop" p2) [] [] pos) pos') (dDPop C i) :=
  PS.imp (ps_expr (pe_bm0 PySem.F.plainAttrs_list PySem.F.slot_list_pop PySem.F.type_list_pop mt_pop (pe_fld hv hb) hbase hline) hsw) fun D σ H ⟨Z, O, env, k, a, h, ko⟩ => by
    unfold dDPop at h
    split at h
    · rename_i g hg
      obtain ⟨h1, h2, h3, h4, h5, w, h6, h7⟩ := at_dlg a hg
      obtain ⟨ec, hne, h⟩ := h
      subst ec
      have hl : g.vs.length = g.sts.length := h4.reps.length
      have hpos : 0 < g.vs.length := by
        rw [hl]
        exact List.length_pos_iff.mpr hne
      refine ⟨_, h1, g.a, g.C, g.dx, _, .ref g.b, rfl, h6, c.cl, c.f3, rfl, .inl ⟨rfl, g.vs, SqL.of h5⟩, ?_⟩
      refine ⟨g.b, g.vs, g.vs[g.vs.length - 1]'(by omega), rfl, rfl, h5, List.getElem?_eq_getElem _, ?_⟩
      have sb := stB_own a hg g.vs.dropLast
      obtain ⟨O', l, a2, _⟩ := dlg_put a hg sb (Reps.mono sb.le (reps_dropLast h4.reps))
      exact ko.nx _ h _ _ _ l a2
    · exact h.elim
end
end Dg

set_option maxHeartbeats 4000000
/-! Dealings: calls of defs, methods, properties; expressions and tests that change them. -/
namespace Dg
open PySem PySem.Spec PyProof.Rows L2 Dl Dv Dk Gx

/-! ### what is promised, where it stands -/
structure CalM (P : Program) (w : World) (K : PySem.W.Frag) (mg : Str → Option Value) (base : Heap) (k : Nat) (x : Str) (n : Nat) (F : DFM) : Prop where
  ex : ∃ f fd ps, FnOk P w K mg base (L2.CX P w) k f fd ps (spM K n F) ∧ mg x = some (.ref f) ∧ PySem.W.keepIn K (.ref f) = true ∧ Binds K fd ps []
structure MeM (P : Program) (w : World) (K : PySem.W.Frag) (mg : Str → Option Value) (base : Heap) (k : Nat) (C : Addr) (m : Str) (n : Nat) (F : DFM) : Prop where
  ex : ∃ f, FnR P w K mg base (L2.CX P w) k f (spM K n F) ∧ Meth K C m f ∧ Cls K C
structure PrM (P : Program) (w : World) (K : PySem.W.Frag) (mg : Str → Option Value) (base : Heap) (k : Nat) (C : Addr) (m : Str) (F : DFM) : Prop where
  ex : ∃ p f fd ps, FnOk P w K mg base (L2.CX P w) k f fd ps (spM K 0 F) ∧ PropOf K C m p f ∧ Cls K C ∧ Binds K fd ps []

/-! ### readings that change the frame's dealings -/
abbrev DEm := Env' → (D → Env' → Prop) → (Exc → Env' → Prop) → Prop
abbrev DBm := Env' → (Bool → Env' → Prop) → (Exc → Env' → Prop) → Prop
def XkM (K : PySem.W.Frag) (Z : Zn) (O : Own) (H : Hp) (σ : L2.St) (R : Exc → Env' → Prop) (W : WX) : Prop := ∀ x env', R x env' → ∀ O' cls d H', Lt Z O H O' H' → StAt K Z O' H' σ env' → RepX K (Z.add O') H' cls d x → W cls d σ H'
def DTm (K : PySem.W.Frag) (f : DEm) (W : WX) : TE := fun σ H Q => ∃ Z O env, ∃ (Q0 : D → Env' → Prop) (R0 : Exc → Env' → Prop), StAt K Z O H σ env ∧ f env Q0 R0 ∧ XkM K Z O H σ R0 W ∧ ∀ d env', Q0 d env' → ∀ O' v H', Lt Z O H O' H' → StAt K Z O' H' σ env' → RepZ K (Z.add O') H' v d → Q v H'
def DTBm (K : PySem.W.Frag) (f : DBm) (W : WX) : TT := fun σ H Q => ∃ Z O env, ∃ (Q0 : Bool → Env' → Prop) (R0 : Exc → Env' → Prop), StAt K Z O H σ env ∧ f env Q0 R0 ∧ XkM K Z O H σ R0 W ∧ ∀ b env', Q0 b env' → ∀ O' H', Lt Z O H O' H' → StAt K Z O' H' σ env' → Q b H'
theorem XkM.xk {K : PySem.W.Frag} {Z : Zn} {O : Own} {H : Hp} {σ : L2.St} {env : Env'} {R : Exc → Env' → Prop} {W : WX} (x : XkM K Z O H σ R W) (a : StAt K Z O H σ env) : Xk K (Z.add O) H σ (fun e => R e env) W := fun e he cls d H' s r => x e env he O cls d H' s.le (a.step s) r
theorem XkM.lt {K : PySem.W.Frag} {Z : Zn} {O O1 : Own} {H H1 : Hp} {σ : L2.St} {R : Exc → Env' → Prop} {W : WX} (x : XkM K Z O H σ R W) (l : Lt Z O H O1 H1) : XkM K Z O1 H1 σ R W := fun e env' he O' cls d H' l' => x e env' he O' cls d H' (l.trans l')
abbrev PDm (X : Cx) (W : WX) (e : Expr) (f : DEm) : Prop := L2.PE X e (DTm X.K f W)
abbrev PDBm (X : Cx) (W : WX) (e : Expr) (f : DBm) : Prop := L2.PT X e (DTBm X.K f W)
abbrev PDWm (X : Cx) (W : WX) (e : Expr) (f : DBm) : Prop := L2.PW X e (DTBm X.K f W)
def dUp (f : DE) : DEm := fun env Q R => f env (fun d => Q d env) (fun x => R x env)
def dUpB (f : DB) : DBm := fun env Q R => f env (fun d => Q d env) (fun x => R x env)
theorem DTm.mk {K : PySem.W.Frag} {f : DEm} {W : WX} {Z : Zn} {O : Own} {H : Hp} {σ : L2.St} {env : Env'} {Q0 : D → Env' → Prop} {R0 : Exc → Env' → Prop} {Q : VK} (a : StAt K Z O H σ env) (hf : f env Q0 R0) (x : XkM K Z O H σ R0 W) (q : ∀ d env', Q0 d env' → ∀ O' v H', Lt Z O H O' H' → StAt K Z O' H' σ env' → RepZ K (Z.add O') H' v d → Q v H') : DTm K f W σ H Q := ⟨Z, O, env, Q0, R0, a, hf, x, q⟩
theorem DTBm.mk {K : PySem.W.Frag} {f : DBm} {W : WX} {Z : Zn} {O : Own} {H : Hp} {σ : L2.St} {env : Env'} {Q0 : Bool → Env' → Prop} {R0 : Exc → Env' → Prop} {Q : Bool → Hp → Prop} (a : StAt K Z O H σ env) (hf : f env Q0 R0) (x : XkM K Z O H σ R0 W) (q : ∀ d env', Q0 d env' → ∀ O' H', Lt Z O H O' H' → StAt K Z O' H' σ env' → Q d H') : DTBm K f W σ H Q := ⟨Z, O, env, Q0, R0, a, hf, x, q⟩
section
variable {X : Cx} {W : WX} {a b c e : Expr} {es : List Expr} {x y m f : Str} {i j k n : Nat} {C : Addr} {pos pos' p p2 apos : Pos} {fa fb fe : DE} {fs : DA} {t : DB}
theorem pm_up (h : PD X W e fe) : PDm X W e (dUp fe) := PE.imp h fun σ H Q ⟨Z, O, env, Q0, R0, a, hf, x, q⟩ => DT.mk a hf (x.xk a) fun d hd v H' s r => q d env hd O v H' s.le (a.step s) r
theorem pmb_up (h : PDB X W e t) : PDBm X W e (dUpB t) := PT.imp h fun σ H Q ⟨Z, O, env, Q0, R0, a, hf, x, q⟩ => DTB.mk a hf (x.xk a) fun d hd H' s => q d env hd O H' s.le (a.step s)
/-- e op e', the left one may change dealings -/
def dOpMB (g : D2) (fa : DEm) (fb : DE) : DBm := fun env Q R => fa env (fun x e1 => fb e1 (fun y => g x y fun d => match d with
  | .bl k => Q k e1
  | _ => False) (fun x => R x e1)) R
theorem pmb_cmp {op : CmpOp} {r : R2} {g : D2} {fa : DEm} (ho : OpR X (compareOp op) r) (hr : OpD X.K r g) (ha : PDm X W a fa) (hb : PD X W b fb) (hm : behindInMarks op b = false) : PDBm X W (.Compare a [op] [b] pos) (dOpMB g fa fb) :=
  PT.imp (pt_cmpR ho ha hb hm) fun σ H Q ⟨Z, O, env, Q0, R0, a, hf, x, q⟩ => by
    refine DTm.mk a hf x fun d1 e1 h1 O1 v1 H1 l1 a1 r1 => ?_
    refine DT.mk a1 h1 ((x.lt l1).xk a1) fun d2 h2 v2 H2 s2 r2 => ?_
    refine hr _ H2 v1 v2 d1 d2 _ _ s2.good (r1.step s2) r2 h2 fun d hd v H3 s3 rv => ?_
    cases d <;> first | exact False.elim hd | skip
    cases rv
    exact ⟨_, rfl, q _ _ hd O1 H3 (l1.trans (s2.le.trans s3.le)) ((a1.step s2).step s3)⟩
def dAndBm (f g : DBm) : DBm := fun env Q R => f env (fun b e => if b = true then g e Q R else Q false e) R
def dOrBm (f g : DBm) : DBm := fun env Q R => f env (fun b e => if b = true then Q true e else g e Q R) R
theorem pwm_or1 {f : DBm} (h : PDBm X W a f) : PDWm X W (.BoolOp .Or [a] pos) f := pw_or1 h
theorem pwm_and1 {f : DBm} (h : PDBm X W a f) : PDWm X W (.BoolOp .And [a] pos) f := pw_and1 h
theorem pwm_or {f g : DBm} {rest : List Expr} (h : PDBm X W a f) (h2 : PDWm X W (.BoolOp .Or (b :: rest) pos) g) : PDWm X W (.BoolOp .Or (a :: b :: rest) pos) (dOrBm f g) := PW.imp (pw_or h h2) fun σ H Q ⟨Z, O, env, Q0, R0, at_, hf, x, q⟩ =>
  DTBm.mk at_ hf x fun k e1 hk O1 H1 l1 a1 => by
    cases k with
    | false => rw [if_neg Bool.false_ne_true] at hk ⊢; exact DTBm.mk a1 hk (x.lt l1) fun b e2 hb O2 H2 l2 a2 => q b e2 hb O2 H2 (l1.trans l2) a2
    | true => rw [if_pos rfl] at hk ⊢; exact q _ _ hk O1 H1 l1 a1
theorem pwm_and {f g : DBm} {rest : List Expr} (h : PDBm X W a f) (h2 : PDWm X W (.BoolOp .And (b :: rest) pos) g) : PDWm X W (.BoolOp .And (a :: b :: rest) pos) (dAndBm f g) := PW.imp (pw_and h h2) fun σ H Q ⟨Z, O, env, Q0, R0, at_, hf, x, q⟩ =>
  DTBm.mk at_ hf x fun k e1 hk O1 H1 l1 a1 => by
    cases k with
    | true => rw [if_pos rfl] at hk ⊢; exact DTBm.mk a1 hk (x.lt l1) fun b e2 hb O2 H2 l2 a2 => q b e2 hb O2 H2 (l1.trans l2) a2
    | false => rw [if_neg Bool.false_ne_true] at hk ⊢; exact q _ _ hk O1 H1 l1 a1
theorem pmb_w {f : DBm} (h : PDWm X W a f) : PDBm X W a f := h.pt
/-- a and b as a value, the first may change dealings -/
def dAndVm (f : DEm) (g : DE) : DEm := fun env Q R => f env (fun d e => match d with
  | .bl b => if b = true then g e (fun d => Q d e) (fun x => R x e) else Q (.bl false) e
  | _ => False) R
theorem pm_and {f : DEm} {g : DE} {rest : List Expr} (h : PDm X W a f) (h2 : PD X W (.BoolOp .And (b :: rest) pos) g) : PDm X W (.BoolOp .And (a :: b :: rest) pos) (dAndVm f g) := PE.imp (pe_and h h2) fun σ H Q ⟨Z, O, env, Q0, R0, at_, hf, x, q⟩ =>
  DTm.mk at_ hf x fun d e1 hd O1 v H1 l1 a1 r1 => by
    cases d <;> first | exact False.elim hd | skip
    rename_i k
    cases r1
    refine ⟨k, rfl, ?_⟩
    cases k with
    | true => dsimp only at hd; rw [if_pos rfl] at hd ⊢; exact DT.mk a1 hd ((x.lt l1).xk a1) fun d hd v H2 s2 r => q d e1 hd O1 v H2 (l1.trans s2.le) (a1.step s2) r
    | false => dsimp only at hd; rw [if_neg Bool.false_ne_true] at hd ⊢; exact q _ _ hd O1 _ H1 l1 a1 (.bl _)
/-! statements -/
def dIfM (t : DBm) (g1 g2 : DG) : DG := fun env k => t env (fun b e => if b = true then g1 e k else g2 e k) k.xc
theorem KOk.xkM {K : PySem.W.Frag} {Z : Zn} {O : Own} {H : Hp} {σ : L2.St} {k : Kn} {D : Ends} (ko : KOk K Z O H k D W) : XkM K Z O H σ k.xc W := fun x env' hx O' cls d H' l a r => ko.xc x env' hx O' cls d σ H' l a r
theorem ds_ifM {t : DBm} {g g2 : DG} {xs ys : List Stmt} (hc : PDBm X W c t) (h1 : PDSs X W xs g) (h2 : PDSs X W ys g2) : PDS X W (.If c xs ys pos) (dIfM t g g2) := PS.imp (ps_if hc h1 h2) fun D σ H ⟨Z, O, env, k, a, h, ko⟩ =>
  DTBm.mk a h (KOk.xkM ko) fun q e1 hq O1 H1 l1 a1 => by
    cases q with
    | true => rw [if_pos rfl] at hq ⊢; exact ⟨Z, O1, e1, k, a1, hq, ko.step l1⟩
    | false => rw [if_neg Bool.false_ne_true] at hq ⊢; exact ⟨Z, O1, e1, k, a1, hq, ko.step l1⟩
def dSetM (i : Nat) (f : DEm) : DG := fun env k => f env (fun d e => k.nx (e.set i (.val d))) k.xc
theorem ds_setM {f : DEm} (he : PDm X W e f) (hN : X.N.Nodup := by first | assumption | decide +kernel) (hi : X.N[i]? = some x := by rfl) (hx : Loc X.env.scope x := by first | exact .inl rfl | exact .inr rfl) (hs : swapsWith e (some (.Name x pos')) pos.line X.env = pure false := by rfl) (hf : X.fn x = true ∨ X.env.scope.names.lookup x = some .local := by first | exact .inl rfl | exact .inr rfl) :
    PDS X W (.Assign [.Name x pos'] e pos) (dSetM i f) := PS.imp (ps_set hN hi hx he hs hf) fun D σ H ⟨Z, O, env, k, a, h, ko⟩ =>
  DTm.mk a h (KOk.xkM ko) fun d e1 hd O1 v H1 l1 a1 r1 => ko.nx _ hd O1 _ H1 l1 (a1.set r1 i)
def dRetM (f : DEm) : DG := fun env k => f env (fun d e => k.rt e d) k.xc
theorem ds_retM {f : DEm} (he : PDm X W e f) : PDS X W (.Return (some e) pos) (dRetM f) := PS.imp (ps_ret he) fun D σ H ⟨Z, O, env, k, a, h, ko⟩ =>
  DTm.mk a h (KOk.xkM ko) fun d e1 hd O1 v H1 l1 a1 r1 => ko.rt _ _ hd O1 _ v H1 l1 a1 r1
/-! ### calls -/
def dCallM (i n : Nat) (F : DFM) (fs : DA) : DEm := fun env Q R => match env[i]? with
  | some (.dlg g) => fs env (fun ds => ds.length = n ∧ F g ds (fun d vs sts => Q d (env.set i (.dlg (Dlg.put g vs sts)))) (fun x vs sts => R x (env.set i (.dlg (Dlg.put g vs sts))))) (fun x => R x env)
  | _ => False
def dMethM (C : Addr) (i n : Nat) (F : DFM) (fs : DA) : DEm := fun env Q R => match env[i]? with
  | some (.dlg g) => g.C = C ∧ fs env (fun ds => ds.length = n ∧ F g ds (fun d vs sts => Q d (env.set i (.dlg (Dlg.put g vs sts)))) (fun x vs sts => R x (env.set i (.dlg (Dlg.put g vs sts))))) (fun x => R x env)
  | _ => False
/-- a call that leaves the dealing as it stands -/
def dCallR (i n : Nat) (F : DFM) (fs : DA) : DE := fun env Q R => match env[i]? with
  | some (.dlg g) => fs env (fun ds => ds.length = n ∧ F g ds (fun d vs _ => vs = g.vs ∧ Q d) (fun x vs _ => vs = g.vs ∧ R x)) R
  | _ => False
def dMethR (C : Addr) (i n : Nat) (F : DFM) (fs : DA) : DE := fun env Q R => match env[i]? with
  | some (.dlg g) => g.C = C ∧ fs env (fun ds => ds.length = n ∧ F g ds (fun d vs _ => vs = g.vs ∧ Q d) (fun x vs _ => vs = g.vs ∧ R x)) R
  | _ => False
def dPropR (C : Addr) (i : Nat) (F : DFM) : DE := fun env Q R => match env[i]? with
  | some (.dlg g) => g.C = C ∧ F g [] (fun d vs _ => vs = g.vs ∧ Q d) (fun _ _ _ => False)
  | _ => False
theorem spM_R {K : PySem.W.Frag} {Z : Zn} {O : Own} {H1 : Hp} {σ : L2.St} {env : Env'} {g : Dlg} {F : DFM} {vs : List V} {ds : List D} {Q0 : D → Prop} {R0 : DX} {Q : VK} {E : XK} (a : At K Z O H1 σ env) (e : env[i]? = some (.dlg g)) (hl : ds.length = n) (r : RepsZ K Z H1 vs ds)
    (hF : F g ds (fun d vs _ => vs = g.vs ∧ Q0 d) (fun x vs _ => vs = g.vs ∧ R0 x)) (hx : ∀ x, R0 x → ∀ cls d H', Step Z H1 H' → RepX K Z H' cls d x → E cls d H') (hq : ∀ d, Q0 d → ∀ v H', Step Z H1 H' → RepZ K Z H' v d → Q v H') : spM K n F (.ref g.a :: vs) H1 Q E := by
  obtain ⟨h1, h2, h3, h4, h5, _⟩ := at_dlg a e
  refine ⟨by simp [r.length, hl], Z, g, vs, ds, _, _, rfl, a.good, h3, h4, r, hF, ?_, ?_⟩
  · rintro x vs' sts' ⟨rfl, hx'⟩ cls d H' s _ rx
    exact hx x hx' cls d H' (s.step a.good h3) rx
  · rintro d vs' sts' ⟨rfl, hd⟩ v H' s _ rv
    exact hq d hd v H' (s.step a.good h3) rv
theorem spM_M {K : PySem.W.Frag} {Z : Zn} {O : Own} {H1 : Hp} {σ : L2.St} {env : Env'} {g : Dlg} {F : DFM} {vs : List V} {ds : List D} {Q0 : D → Env' → Prop} {R0 : Exc → Env' → Prop} {Q : VK} {E : XK} (a : StAt K Z O H1 σ env) (e : env[i]? = some (.dlg g)) (hl : ds.length = n) (r : RepsZ K (Z.add O) H1 vs ds)
    (hF : F g ds (fun d vs sts => Q0 d (env.set i (.dlg (Dlg.put g vs sts)))) (fun x vs sts => R0 x (env.set i (.dlg (Dlg.put g vs sts))))) (hx : ∀ x env', R0 x env' → ∀ O' cls d H', Lt Z O H1 O' H' → StAt K Z O' H' σ env' → RepX K (Z.add O') H' cls d x → E cls d H') (hq : ∀ d env', Q0 d env' → ∀ O' v H', Lt Z O H1 O' H' → StAt K Z O' H' σ env' → RepZ K (Z.add O') H' v d → Q v H') : spM K n F (.ref g.a :: vs) H1 Q E := by
  obtain ⟨h1, h2, h3, h4, h5, _⟩ := at_dlg a e
  refine ⟨by simp [r.length, hl], Z.add O, g, vs, ds, _, _, rfl, a.good, h3, h4, r, hF, ?_, ?_⟩
  · intro x vs' sts' hx' cls d H' s rs rx
    obtain ⟨O', l, a', em⟩ := dlg_put a e s rs
    exact hx x _ hx' O' cls d H' l a' (rx.le (fun c o h => by rw [em]; exact h) rfl)
  · intro d vs' sts' hd v H' s rs rv
    obtain ⟨O', l, a', em⟩ := dlg_put a e s rs
    exact hq d _ hd O' v H' l a' (Rep.mono (fun c o h => by rw [em]; exact h) rv)
theorem pm_call {F : DFM} (c : Cn X W j) (C : CalM X.prog X.w X.K X.mg X.base k y n F) (hv : L2.PE X (.Name x p2) (tVar i)) (ha : PDA X W es fs) (hk : k ≤ j := by decide) (hg : Gl X y := by rfl)
    (hdb : (y == ("__debug__" : Str)) = false := by decide) (he : starEach (.Name x p2 :: es) X.env = (false, eval (.Name x p2) X.env) :: starEach es X.env := by rfl) (hpl : (backTo pos (starEach es X.env)).any (·.1) = false := by rfl) :
    PDm X W (.Call (.Name y p) (.Name x p2 :: es) [] pos) (dCallM i n F fs) := by
  obtain ⟨f, fd, ps, FO, hm, hkp, hb⟩ := C.ex
  refine PE.imp (pe_callS FO (c.hr.mono hk) hg hm hkp hb (fun σ => passAt c.tk σ) (pa_cons hv ha he) hdb he hpl) fun σ H Q ⟨Z, O, env, Q0, R0, a, hf, xk, q⟩ => ?_
  unfold dCallM at hf
  split at hf
  · rename_i g hg
    refine ⟨_, (at_dlg a hg).1, DTA.mk a hf (xk.xk a) fun ds hd vs H1 s r => ?_⟩
    exact spM_M (a.step s) hg hd.1 r hd.2 (fun x env' hx O' cls d H' l a' rx => xk x env' hx O' cls d H' (s.le.trans l) a' rx) fun d env' hd O' v H' l a' rv => q d env' hd O' v H' (s.le.trans l) a' rv
  · exact hf.elim
theorem pd_callR {F : DFM} (c : Cn X W j) (C : CalM X.prog X.w X.K X.mg X.base k y n F) (hv : L2.PE X (.Name x p2) (tVar i)) (ha : PDA X W es fs) (hk : k ≤ j := by decide) (hg : Gl X y := by rfl)
    (hdb : (y == ("__debug__" : Str)) = false := by decide) (he : starEach (.Name x p2 :: es) X.env = (false, eval (.Name x p2) X.env) :: starEach es X.env := by rfl) (hpl : (backTo pos (starEach es X.env)).any (·.1) = false := by rfl) :
    PD X W (.Call (.Name y p) (.Name x p2 :: es) [] pos) (dCallR i n F fs) := by
  obtain ⟨f, fd, ps, FO, hm, hkp, hb⟩ := C.ex
  refine PE.imp (pe_callS FO (c.hr.mono hk) hg hm hkp hb (fun σ => passAt c.tk σ) (pa_cons hv ha he) hdb he hpl) fun σ H Q ⟨Z, O, env, Q0, R0, a, hf, xk, q⟩ => ?_
  unfold dCallR at hf
  split at hf
  · rename_i g hg
    refine ⟨_, (at_dlg a hg).1, DTA.mk a hf xk fun ds hd vs H1 s r => ?_⟩
    exact spM_R (a.step s) hg hd.1 r hd.2 (fun x hx cls d H' s' rx => xk x hx cls d H' (s.trans s') rx) fun d hd v H' s' rv => q d hd v H' (s.trans s') rv
  · exact hf.elim
/-- o.m(..), a method of a class with a dict -/
def tMethW (C : Addr) (m : Str) (sp : Sp) (W : WX) (ta : TE) (t : TA) : TE := fun σ H Q => ta σ H fun x H1 => ∃ a dx fs, x = .ref a ∧ H1 a = some (.ins C dx fs) ∧ fs.lookup m = none ∧ t σ H1 fun vs H2 => sp (x :: vs) H2 Q (WE W σ)
theorem pe_methW {pl : Sem Bool} {o : Expr} {g : Addr} {sp : Sp} {ta : TE} {t : TA} (ho : L2.PE X o ta) (cl : Cls X.K C) (hm : Meth X.K C m g) (FR : FnR X.prog X.w X.K X.mg X.base (L2.CX X.prog X.w) k g sp) (hr : Room k X.A) (tk : Takes X W) (ha : L2.PA X (e :: es) t)
    (hst : starEach (e :: es) X.env = (false, eval e X.env) :: starEach es X.env := by rfl) (hpl : (backTo pos (starEach es X.env)).any (·.1) = false := by rfl)
    (ht : eval (.Call (.Attribute o m apos) (e :: es) [] pos) X.env = (do
      let ov ← eval o X.env
      standAt apos.atName
      let (f, first) ← holding [ov] (getMethod ov m pl)
      callWith pos f first (backTo pos (starEach (e :: es) X.env)) (backToKw pos (keywordEach [] X.env))) := by rfl) :
    L2.PE X (.Call (.Attribute o m apos) (e :: es) [] pos) (tMethW C m sp W ta t) := by
  refine ⟨fun pins s σ H Q I h => ?_⟩
  refine PySem.W.methodCall_KW (pl := pl) (thn (ho.run pins s σ H _ I h) fun u s1 ⟨x, H1, I1, rx, a, dx, fs, ex, ea, l, q⟩ => ?_) ht
  subst ex
  obtain rfl : u = Value.ref a := rx
  refine getmeth_ok I1 ea cl hm l ?_
  refine PySem.W.callWith_K (first := [.ref a]) (h₀ := X.base) I.ok.mod.kin hm.kp (thn (ha.run pos pins s1 σ H1 _ I1 q) fun us s2 ⟨vs, H2, I2, r, q2⟩ => ⟨I2.kIn, ?_⟩) hst hpl
  exact wpAny_call (run_fnRS (us := .ref a :: us) (vs := .ref a :: vs) FR hr (passAt tk σ) I2 (.cons rfl r) q2)
theorem pe_methW0 {pl : Sem Bool} {o : Expr} {g : Addr} {sp : Sp} {ta : TE} (ho : L2.PE X o ta) (cl : Cls X.K C) (hm : Meth X.K C m g) (FR : FnR X.prog X.w X.K X.mg X.base (L2.CX X.prog X.w) k g sp) (hr : Room k X.A) (tk : Takes X W)
    (ht : eval (.Call (.Attribute o m apos) [] [] pos) X.env = (do
      let ov ← eval o X.env
      standAt apos.atName
      let (f, first) ← holding [ov] (getMethod ov m pl)
      callWith pos f first (backTo pos (starEach [] X.env)) (backToKw pos (keywordEach [] X.env))) := by rfl) :
    L2.PE X (.Call (.Attribute o m apos) [] [] pos) (tMethW C m sp W ta tNil) := by
  refine ⟨fun pins s σ H Q I h => ?_⟩
  refine PySem.W.methodCall_KW (pl := pl) (thn (ho.run pins s σ H _ I h) fun u s1 ⟨x, H1, I1, rx, a, dx, fs, ex, ea, l, q⟩ => ?_) ht
  subst ex
  obtain rfl : u = Value.ref a := rx
  refine getmeth_ok I1 ea cl hm l ?_
  exact PySem.W.callWith_K0 (first := [.ref a]) I1.kIn hm.kp (wpAny_call (run_fnRS (us := [.ref a]) (vs := [.ref a]) FR hr (passAt tk σ) I1 (.cons rfl .nil) q))
theorem pm_meth {pl : Sem Bool} {F : DFM} (c : Cn X W j) (M : MeM X.prog X.w X.K X.mg X.base k C m n F) (hv : L2.PE X (.Name x p2) (tVar i)) (ha : PDA X W (e :: es) fs) (hk : k ≤ j := by decide) (hl : ∀ (g : Dlg) (z : V), (g.fs z).lookup m = none := by intros; rfl)
    (hst : starEach (e :: es) X.env = (false, eval e X.env) :: starEach es X.env := by rfl) (hpl : (backTo pos (starEach es X.env)).any (·.1) = false := by rfl)
    (ht : eval (.Call (.Attribute (.Name x p2) m apos) (e :: es) [] pos) X.env = (do
      let ov ← eval (.Name x p2) X.env
      standAt apos.atName
      let (f, first) ← holding [ov] (getMethod ov m pl)
      callWith pos f first (backTo pos (starEach (e :: es) X.env)) (backToKw pos (keywordEach [] X.env))) := by rfl) :
    PDm X W (.Call (.Attribute (.Name x p2) m apos) (e :: es) [] pos) (dMethM C i n F fs) := by
  obtain ⟨f, FR, hm, cl⟩ := M.ex
  refine PE.imp (pe_methW (pl := pl) hv cl hm FR (c.hr.mono hk) c.tk ha hst hpl ht) fun σ H Q ⟨Z, O, env, Q0, R0, a, hf, xk, q⟩ => ?_
  unfold dMethM at hf
  split at hf
  · rename_i g hg
    obtain ⟨ec, hf⟩ := hf
    subst ec
    obtain ⟨h1, h2, h3, h4, h5, w, h6, h7⟩ := at_dlg a hg
    refine ⟨_, h1, g.a, g.dx, _, rfl, h6, hl g w, DTA.mk a hf (xk.xk a) fun ds hd vs H1 s r => ?_⟩
    exact spM_M (a.step s) hg hd.1 r hd.2 (fun x env' hx O' cls d H' l a' rx => xk x env' hx O' cls d H' (s.le.trans l) a' rx) fun d env' hd O' v H' l a' rv => q d env' hd O' v H' (s.le.trans l) a' rv
  · exact hf.elim
theorem pm_meth0 {pl : Sem Bool} {F : DFM} (c : Cn X W j) (M : MeM X.prog X.w X.K X.mg X.base k C m 0 F) (hv : L2.PE X (.Name x p2) (tVar i)) (hk : k ≤ j := by decide) (hl : ∀ (g : Dlg) (z : V), (g.fs z).lookup m = none := by intros; rfl)
    (ht : eval (.Call (.Attribute (.Name x p2) m apos) [] [] pos) X.env = (do
      let ov ← eval (.Name x p2) X.env
      standAt apos.atName
      let (f, first) ← holding [ov] (getMethod ov m pl)
      callWith pos f first (backTo pos (starEach [] X.env)) (backToKw pos (keywordEach [] X.env))) := by rfl) :
    PDm X W (.Call (.Attribute (.Name x p2) m apos) [] [] pos) (dMethM C i 0 F dNil) := by
  obtain ⟨f, FR, hm, cl⟩ := M.ex
  refine PE.imp (pe_methW0 (pl := pl) hv cl hm FR (c.hr.mono hk) c.tk ht) fun σ H Q ⟨Z, O, env, Q0, R0, a, hf, xk, q⟩ => ?_
  unfold dMethM at hf
  split at hf
  · rename_i g hg
    obtain ⟨ec, hf⟩ := hf
    subst ec
    obtain ⟨h1, h2, h3, h4, h5, w, h6, h7⟩ := at_dlg a hg
    have hf : ([] : List D).length = 0 ∧ F g [] _ _ := hf
    exact ⟨_, h1, g.a, g.dx, _, rfl, h6, hl g w, spM_M a hg hf.1 .nil hf.2 xk q⟩
  · exact hf.elim
theorem pd_propR {F : DFM} (c : Cn X W j) (M : PrM X.prog X.w X.K X.mg X.base k C m F) (hv : L2.PE X e (tVar i)) (hk : k + 1 ≤ j := by decide) (hb : attributeBase e m X.env (eval e X.env) = eval e X.env := by rfl) : PD X W (.Attribute e m pos) (dPropR C i F) := by
  obtain ⟨p, f, fd, ps, FO, hp, cl, hbi⟩ := M.ex
  refine PE.imp (pe_prop (E := fun _ _ _ => False) hv cl hp FO (c.hr.mono hk) hbi .nil (fun _ _ _ _ _ _ _ ⟨_, _, _, _, _, _, _, _, _, _, _, _, z⟩ => z) hb) fun σ H Q ⟨Z, O, env, Q0, R0, a, hf, xk, q⟩ => ?_
  unfold dPropR at hf
  split at hf
  · rename_i g hg
    obtain ⟨ec, hf⟩ := hf
    subst ec
    obtain ⟨h1, h2, h3, h4, h5, w, h6, h7⟩ := at_dlg a hg
    refine ⟨_, h1, g.a, g.dx, _, rfl, h6, ?_⟩
    exact spM_R (R0 := FX) (n := 0) a hg rfl .nil (by simpa [FX] using hf) (fun _ z => z.elim) q
  · exact hf.elim
end
end Dg

set_option maxHeartbeats 4000000
/-! len(x) of an instance by its own __len__. -/
namespace Dg
open PySem PySem.Spec PyProof.Rows L2 Dl Dv Dk Gx PySem.Calls

theorem len_own {X : Cx} {pins : List (Addr × Obj)} {σ : L2.St} {H : Hp} {s : Shared} {a dx C f : Addr} {fs : List (Str × V)} {k : Nat} {sp : Sp} {Q : VK} (I : Inv X pins σ H s) (ea : H a = some (.ins C dx fs)) (hm : Meth X.K C "__len__" f)
    (FR : FnR X.prog X.w X.K X.mg X.base (L2.CX X.prog X.w) k f sp) (hr : Room (k + 1) X.A) (h : sp [.ref a] H (fun v H' => ∃ n : Nat, v = .int n ∧ n ≤ sizeLine ∧ Q (.int n) H') fun _ _ _ => False) :
    wpAny (model X.prog X.w) X.A (call (.builtin "len") [.ref a]) (EP X pins σ Q) X.xe s := by
  obtain ⟨mA, O, _, _, _, _⟩ := ins_get I.hok ea
  obtain ⟨od, J, _⟩ := O.look
  have hl := line63
  have hs : sizeLine = 16777216 := sizeLine_eq
  refine call_function_entry kind_len plain_len entry_len (args_len1 _) ?_
  unfold Builtin.«len»
  refine wpAny_bind (m := oneArg "len" _) (wpAny_pure ?_)
  refine wpAny_bind (m := callSpecial? (.ref a) (Str.ofString "__len__")) ?_
  unfold callSpecial? specialOf
  refine wpAny_bind (wpAny_bind (J.type.here ((PySem.W.looks_findIn I.kIn hm.at_).here ?_)))
  refine wpAny_holding ?_
  refine wpAny_bind ((PySem.W.bind_fn I.kIn (.ref a) (beq_iff_eq.mp hm.fn)).here ?_)
  refine wpAny_bind (wpAny_call (codeAny_mono (FR X.A.in1 X.stack s H [.ref a] [.ref a] _ _ hr.in1 I.env0.in1 (.cons rfl .nil) h) fun r s1 hq => ?_))
  cases r with
  | error er => obtain ⟨_, _, _, _, _, _, _, _, _, _, _, _, z⟩ := hq; exact z.elim
  | ok fl =>
  cases fl with
  | next => exact False.elim hq
  | brk => exact False.elim hq
  | cont => exact False.elim hq
  | ret u =>
  obtain ⟨x, H1, I1, rx, n, ex, hn, q⟩ := I.after hq
  subst ex
  obtain ⟨t, rfl⟩ := (show ∃ t, u = Value.int n t from rx)
  refine wpAny_pure ?_
  refine wpAny_bind (wpAny_holding (wpAny_pure ?_))
  refine wpAny_bind (wpAny_letGo ?_)
  show wpAny _ _ (if ((n : Nat) : Int) < 0 then _ else _) _ _ _
  rw [if_neg (by omega)]
  show wpAny _ _ (if ((n : Nat) : Int) ≥ 2 ^ 63 then _ else _) _ _ _
  rw [if_neg (by omega)]
  exact wpAny_bind (wpAny_mkInt (wpAny_pure ⟨_, rfl, .int n, H1, I1.tok _, ⟨_, rfl⟩, q⟩))
/-- len(x), x the dealing at slot i -/
def dLenR (C : Addr) (i : Nat) (F : DFM) : DE := fun env Q R => match env[i]? with
  | some (.dlg g) => g.C = C ∧ F g [] (fun d vs _ => vs = g.vs ∧ ∃ n : Nat, d = .int n ∧ n ≤ sizeLine ∧ Q d) (fun _ _ _ => False)
  | _ => False
section
variable {X : Cx} {W : WX} {x : Str} {i j k : Nat} {C : Addr} {pos p p2 : Pos} {F : DFM}
theorem pd_lenR (c : Cn X W j) (M : MeM X.prog X.w X.K X.mg X.base k C "__len__" 0 F) (hmg : X.mg "len" = none) (hv : L2.PE X (.Name x p2) (tVar i)) (hk : k + 1 ≤ j := by decide) (hg : Gl X "len" := by rfl)
    (hs : starEach [.Name x p2] X.env = (false, eval (.Name x p2) X.env) :: starEach [] X.env := by rfl) (hpl : (backTo pos (starEach [] X.env)).any (·.1) = false := by rfl) : PD X W (.Call (.Name "len" p) [.Name x p2] [] pos) (dLenR C i F) := by
  obtain ⟨f, FR, hm, cl⟩ := M.ex
  refine PE.imp (pe_callB (r := fun xs H Q => ∃ a dx fs, xs = [.ref a] ∧ H a = some (.ins C dx fs) ∧ spM X.K 0 F [.ref a] H (fun v H' => ∃ n : Nat, v = .int n ∧ n ≤ sizeLine ∧ Q (.int n) H') fun _ _ _ => False) ?_ hg hmg boot_len (pa_cons hv pa_nil hs) (by decide) (by decide) hs hpl) ?_
  · intro pins s σ H xs us Q I r ⟨a, dx, fs, ex, ea, h⟩
    subst ex
    obtain ⟨u, rfl, ru⟩ := r.one
    cases ru
    exact len_own I ea hm FR (c.hr.mono hk) h
  · intro σ H Q ⟨Z, O, env, Q0, R0, a, hf, xk, q⟩
    unfold dLenR at hf
    split at hf
    · rename_i g hg
      obtain ⟨ec, hf⟩ := hf
      subst ec
      obtain ⟨h1, h2, h3, h4, h5, w, h6, h7⟩ := at_dlg a hg
      refine ⟨_, h1, g.a, g.dx, _, rfl, h6, ?_⟩
      refine ⟨rfl, Z, g, [], [], _, _, rfl, a.good, h3, h4, .nil, hf, fun _ _ _ z => z.elim, ?_⟩
      rintro d vs' sts' ⟨rfl, n, rfl, hn, hd⟩ v H' s _ rv
      cases rv
      exact ⟨n, rfl, hn, q _ hd _ H' (s.step a.good h3) (.int _)⟩
    · exact hf.elim
end
end Dg

set_option maxHeartbeats 4000000
/-! A dealing is made: __init__, the class called, copy. -/
namespace Dg
open PySem PySem.Spec PyProof.Rows L2 Dl Dv Dk Gx

abbrev DFN := List D → (D → Int → Int → Prop) → DX → Prop
def zrs (m : Int) : D := .tup ((List.replicate m.toNat (0 : Int)).map .int)
structure Fresh (C : Addr) (src : D) (m n : Int) (g : Dlg) : Prop where
  c : g.C = C
  s : g.src = src
  m : g.m = m
  n : g.n = n
/-- what __init__ does -/
def spDI (K : PySem.W.Frag) (C : Addr) (F : DFN) : Sp := fun vs H Q E => vs.length = 4 ∧ ∃ (Z : Zn) (H0 : Hp) (x dx : Addr) (ws : List V) (ds : List D) (Q0 : D → Int → Int → Prop) (R0 : DX), vs = .ref x :: ws ∧ Good Z H0 ∧ H0 x = none ∧ H0 dx = none ∧ dx ≠ x ∧
  H = upd (upd H0 dx (.own x)) x (.ins C dx []) ∧ RepsZ K Z H0 ws ds ∧ F ds Q0 R0 ∧ (∀ y, R0 y → ∀ cls d H', Step Z H0 H' → RepX K Z H' cls d y → E cls d H') ∧
  ∀ src m n, Q0 src m n → ∀ g : Dlg, Fresh C src m n g → g.sts = [zrs m] → g.a = x → ∀ H1, Step Z H0 H1 → H1 g.b = none → DAt K Z H1 g → Q .non (upd H1 g.b (.lst g.vs))
/-- the same but at x -/
def LeO (x : Addr) (G G' : Hp) : Prop := ∀ a o, a ≠ x → G a = some o → G' a = some o
theorem LeO.upd {x : Addr} {G : Hp} {o : HO} : LeO x G (upd G x o) := fun a u h e => by rw [upd_ne h]; exact e
theorem LeO.trans {x : Addr} {G G1 G2 : Hp} (a : LeO x G G1) (b : LeO x G1 G2) : LeO x G G2 := fun c o h e => b c o h (a c o h e)
theorem Good.leO {Z : Zn} {H H' : Hp} {x : Addr} (g : Good Z H) (hx : x ∉ Z.msk) (l : LeO x H H') : Good Z H' := by
  refine ⟨fun a vs h => l a _ (fun z => hx (by rw [← z]; exact List.mem_append_left _ (List.mem_map.mpr ⟨_, h, rfl⟩))) (g.own a vs h), fun h c e => ?_, g.nd⟩
  obtain ⟨s, j, cs, q1, q2, q3⟩ := g.vol h c e
  have hv : h ∈ Z.msk ∧ c ∈ Z.msk := by
    unfold Zn.msk Zn.vs
    rw [e]
    simp
  exact ⟨s, j, cs, l h _ (fun z => hx (by rw [← z]; exact hv.1)) q1, l c _ (fun z => hx (by rw [← z]; exact hv.2)) q2, q3⟩
theorem ints_tup {K : PySem.W.Frag} {vl : Option (Addr × Addr)} {G G' : Hp} {v : V} {ns : List Int} (l : ∀ a xs, SqT K G a xs → SqT K G' a xs) (r : Rep K vl G v (.tup (ns.map .int))) : Rep K vl G' v (.tup (ns.map .int)) := by
  cases r with
  | tup a vs ds h r =>
    rw [r.ofInts] at h
    exact .tup a _ _ (l _ _ h) (Reps.ints ns)
theorem sqt_leO {K : PySem.W.Frag} {Z : Zn} {H H' : Hp} {x : Addr} (l : LeO x H H') (hx : ∃ C dx fs, mask Z H x = some (.ins C dx fs)) : ∀ a xs, SqT K (mask Z H) a xs → SqT K (mask Z H') a xs := fun a xs h => by
  obtain ⟨C, dx, fs, hx⟩ := hx
  have key : ∀ o, mask Z H a = some o → (∀ C dx fs, o ≠ .ins C dx fs) → mask Z H' a = some o := fun o e hn => by
    have hm : a ∉ Z.msk := fun z => by rw [mask_in z] at e; cases e
    have ha : a ≠ x := fun z => by subst z; rw [hx] at e; cases e; exact hn _ _ _ rfl
    rw [mask_of hm] at e ⊢
    exact l a o ha e
  rcases h with (h | ⟨o, h⟩) | h
  · exact .inl (.inl (key _ h fun _ _ _ z => nomatch z))
  · exact .inl (.inr ⟨o, key _ h fun _ _ _ z => nomatch z⟩)
  · exact .inr h
theorem initD {P : Program} {w : World} {K : PySem.W.Frag} {mg : Str → Option Value} {base : Heap} {x qual : Str} {params : Arguments} {s1 s2 s3 s4 s5 : Stmt} {scope : Scope} {f : Addr} {fd : FuncData} {N ps : List Str} {k : Nat} {C : Addr} {f1 : DE} {F : DFN} (FD : FunD K x qual params [s1, s2, s3, s4, s5] scope [] [] f fd) (S : FnScope N ps scope) (hn : ps.length = 4) (hN : N.length = 4) (c : DlC K C)
    (hbody : ∀ (cdv : Value) (A : Around) (outer : List Env) (s : Shared) (H : Hp) (E : XK), Cn (cxOf (L2.CX P w) P w K mg base N qual scope f cdv A outer s H E) (fun cls d _ H' => E cls d H') k →
      L2.PS (cxOf (L2.CX P w) P w K mg base N qual scope f cdv A outer s H E) s1 (fun D σ H => DT K f1 (fun cls d _ H' => E cls d H') σ H fun _ H1 => D.nx σ H1) ∧ L2.PS (cxOf (L2.CX P w) P w K mg base N qual scope f cdv A outer s H E) s2 (sFld K (tVar 0) (tVar 1) "source") ∧
      L2.PS (cxOf (L2.CX P w) P w K mg base N qual scope f cdv A outer s H E) s3 (sFld K (tVar 0) (tVar 2) "people") ∧ L2.PS (cxOf (L2.CX P w) P w K mg base N qual scope f cdv A outer s H E) s4 (sFld K (tVar 0) (tVar 3) "whole") ∧
      L2.PS (cxOf (L2.CX P w) P w K mg base N qual scope f cdv A outer s H E) s5 (sFld K (tVar 0) (DTL K (dLst (dCons (dOp gRepT (dTup (dCons (dC (.int 0)) dNil)) (dVar 2)) dNil)) (fun cls d _ H' => E cls d H')) "states"))
    (hF : ∀ (y : Addr) ds Q R, F ds Q R → ∃ src dm dn, ds = [src, dm, dn] ∧ f1 [.val (.raw (.ref y)), .val src, .val dm, .val dn] (fun _ => ∃ m n, dm = .int m ∧ dn = .int n ∧ 2 ≤ m ∧ m ≤ 1000 ∧ Q src m n) R) :
    FnOk P w K mg base (L2.CX P w) (k + 1) f fd ps (spDI K C F) := by
  refine FD.ok S (fun vs H Q E h => by rw [h.1, hn]) fun cdv A outer s H vs Q E hr h => ?_
  obtain ⟨hl, Z, H0, y, dx, ws, ds, Q0, R0, rfl, g0, hy, hd, hne, rfl, r, hFd, hx, hq⟩ := h
  obtain ⟨p1, p2, p3, p4, p5⟩ := hbody cdv A outer s (upd (upd H0 dx (.own y)) y (.ins C dx [])) E ⟨takes_of rfl rfl rfl rfl, passes_of rfl, hr, rfl⟩
  obtain ⟨src, dm, dn, rfl, hf1⟩ := hF y ds Q0 R0 hFd
  refine ⟨_, pss_cons p1 (pss_cons p2 (pss_cons p3 (pss_cons p4 (pss_one p5)))), ?_⟩
  show DT K f1 (fun cls d _ H' => E cls d H') _ _ _
  have sa := Step.new g0 (.own y) hd
  have hy' : upd H0 dx (.own y) y = none := by rw [upd_ne (Ne.symm hne)]; exact hy
  have sb := sa.trans (Step.new sa.good (.ins C dx []) hy')
  have hym := g0.fresh hy
  cases r with
  | cons w0 _ ws1 _ r0 r =>
  cases r with
  | cons w1 _ ws2 _ r1 r =>
  cases r with
  | cons w2 _ ws3 _ r2 r =>
  cases r
  have st0 : At K Z [] (upd (upd H0 dx (.own y)) y (.ins C dx [])) (L2.start N [V.ref y, w0, w1, w2]) [.val (.raw (.ref y)), .val src, .val dm, .val dn] := by
    have h := start_rep (K := K) (N := N) (ds := [.raw (.ref y), src, dm, dn]) (Z := Z) (.cons _ _ _ _ (.raw (.ref y)) (.cons _ _ _ _ (Rep.mono sb.le r0) (.cons _ _ _ _ (Rep.mono sb.le r1) (.cons _ _ _ _ (Rep.mono sb.le r2) .nil))))
    rw [hN, add_nil] at h
    exact ⟨sb.good, h⟩
  have hσ : L2.start N [V.ref y, w0, w1, w2] = [some (.ref y), some w0, some w1, some w2] := by
    unfold L2.start
    simp [hN]
  have ix0 : mask Z (upd (upd H0 dx (.own y)) y (.ins C dx [])) y = some (.ins C dx []) := by
    rw [mask_of hym]
    exact upd_same
  refine DT.mk st0 hf1 (fun e he cls d H' s rx => hx e he cls d H' (sb.trans s) rx) fun d0 ⟨m, n, em, en, hm2, hmk, hQ⟩ v0 H1 s1 _ => ?_
  subst em en
  cases r1
  cases r2
  rw [hσ]
  have e1 : H1 y = some (.ins C dx []) := mask_le _ _ _ _ (s1.le _ _ ix0)
  refine ⟨w0, rfl, .ref y, rfl, y, C, dx, [], rfl, e1, c.cl, c.f0, by simp, ?_⟩
  refine ⟨.int m, rfl, .ref y, rfl, y, C, dx, [("source", w0)], rfl, upd_same, c.cl, c.f1, by simp, ?_⟩
  refine ⟨.int n, rfl, .ref y, rfl, y, C, dx, [("source", w0), ("people", .int m)], rfl, upd_same, c.cl, c.f2, by simp, ?_⟩
  have l4 : LeO y H1 (upd (upd (upd H1 y (.ins C dx [("source", w0)])) y (.ins C dx [("source", w0), ("people", .int m)])) y (.ins C dx [("source", w0), ("people", .int m), ("whole", .int n)])) := (LeO.upd.trans LeO.upd).trans LeO.upd
  have g4 := Good.leO s1.good hym l4
  have st4 : At K Z [] (upd (upd (upd H1 y (.ins C dx [("source", w0)])) y (.ins C dx [("source", w0), ("people", .int m)])) y (.ins C dx [("source", w0), ("people", .int m), ("whole", .int n)])) [some (.ref y), some w0, some (.int m), some (.int n)] [.un, .un, .val (.int m), .un] := by
    refine ⟨g4, rfl, fun i sl q => ?_, fun _ _ _ z => by cases z⟩
    match i, q with
    | 0, q => cases q; exact ⟨_, rfl, trivial⟩
    | 1, q => cases q; exact ⟨_, rfl, trivial⟩
    | 2, q => cases q; exact ⟨_, rfl, _, rfl, .int _⟩
    | 3, q => cases q; exact ⟨_, rfl, trivial⟩
  have ez : (List.replicate m.toNat [D.int 0]).flatten = (List.replicate m.toNat (0 : Int)).map .int := by
    generalize m.toNat = j
    induction j with
    | zero => rfl
    | succ j ih => rw [List.replicate_succ, List.flatten_cons, ih, List.replicate_succ, List.map_cons]; rfl
  have hsl : (1 : Nat) ≤ sizeLine := by rw [sizeLine_eq]; omega
  refine ⟨Z, [], _, (fun ds => ds = [zrs m]), FX, st4, ?_, fx_xk, fun ds5 e5 p vs5 H5 s5 hp r5 => ?_⟩
  · show ([D.int 0] : List D).length ≤ sizeLine ∧ _
    refine ⟨hsl, by simp, hm2, hmk, by simp, ?_⟩
    show ([_] : List D).length ≤ sizeLine ∧ _
    refine ⟨hsl, ?_⟩
    rw [ez]
    rfl
  subst e5
  have ins4 : mask Z H5 y = some (.ins C dx [("source", w0), ("people", .int m), ("whole", .int n)]) := s5.le _ _ (by rw [mask_of hym]; exact upd_same)
  have hpy : p ≠ y := fun z => by
    subst z
    have := mask_le _ _ _ _ ins4
    rw [hp] at this
    cases this
  refine ⟨.ref y, rfl, y, C, dx, [("source", w0), ("people", .int m), ("whole", .int n)], rfl, by rw [upd_ne (Ne.symm hpy)]; exact mask_le _ _ _ _ ins4, c.cl, c.f3, by simp, ?_⟩
  have comm : upd (upd H5 p (.lst vs5)) y (.ins C dx [("source", w0), ("people", .int m), ("whole", .int n), ("states", .ref p)]) = upd (upd H5 y (.ins C dx [("source", w0), ("people", .int m), ("whole", .int n), ("states", .ref p)])) p (.lst vs5) := by
    funext b
    unfold upd
    by_cases h1 : b = y
    · rw [if_pos h1, if_neg (fun z => hpy (by rw [← z, h1])), if_pos h1]
    · rw [if_neg h1]
      by_cases h2 : b = p
      · rw [if_pos h2, if_pos h2]
      · rw [if_neg h2, if_neg h2, if_neg h1]
  have le5 : Le (mask Z H0) (mask Z (upd H5 y (.ins C dx [("source", w0), ("people", .int m), ("whole", .int n), ("states", .ref p)]))) := fun b o e => by
    have hb : b ∉ Z.msk := fun z => by rw [mask_in z] at e; cases e
    have hby : b ≠ y := fun z => by subst z; rw [mask_of hb, hy] at e; cases e
    have e2 := s1.le _ _ (sb.le _ _ e)
    rw [mask_of hb] at e2
    have e3 := l4 b o hby e2
    have e4 := s5.le b o (by rw [mask_of hb]; exact e3)
    rw [mask_of hb] at e4 ⊢
    rw [upd_ne hby]
    exact e4
  have st : Step Z H0 (upd H5 y (.ins C dx [("source", w0), ("people", .int m), ("whole", .int n), ("states", .ref p)])) := ⟨le5, Good.leO s5.good hym LeO.upd⟩
  show Q .non (upd (upd H5 p (.lst vs5)) y (.ins C dx [("source", w0), ("people", .int m), ("whole", .int n), ("states", .ref p)]))
  rw [comm]
  obtain ⟨v5, rfl, rv5⟩ := r5.inv1
  refine hq src m n hQ ⟨y, dx, p, C, src, m, n, [v5], [zrs m]⟩ ⟨rfl, rfl, rfl, rfl⟩ rfl rfl _ st (by rw [upd_ne hpy]; exact hp) ⟨⟨w0, ?_, Rep.mono st.le r0⟩, ?_⟩
  · rw [mask_of hym]
    exact upd_same
  · exact .one (ints_tup (sqt_leO LeO.upd ⟨_, _, _, ins4⟩) rv5)
theorem _root_.Dl.Step.none_ {Z : Zn} {H H1 : Hp} {y : Addr} (s : Step Z H H1) (h : H1 y = none) : H y = none := by
  cases e : H y with
  | none => rfl
  | some o =>
    have hm : y ∉ Z.msk := s.good.fresh h
    have e2 := s.le y o (by rw [mask_of hm]; exact e)
    rw [mask_of hm, h] at e2
    cases e2
/-! ### the class called -/
structure MkD (P : Program) (w : World) (K : PySem.W.Frag) (mg : Str → Option Value) (base : Heap) (k : Nat) (x : Str) (C : Addr) (F : DFN) : Prop where
  ex : ∃ f, FnR P w K mg base (L2.CX P w) k f (spDI K C F) ∧ Mk K C f ∧ mg x = some (.ref C)
abbrev DEn := Env' → (D → Int → Int → Prop) → DX → Prop
/-- a new dealing (its list is known to nobody else) -/
def DTN (K : PySem.W.Frag) (C : Addr) (f : DEn) (W : WX) : TE := fun σ H Q => ∃ Z O env, ∃ (Q0 : D → Int → Int → Prop) (R0 : DX), At K Z O H σ env ∧ f env Q0 R0 ∧ Xk K Z H σ R0 W ∧
  ∀ src m n, Q0 src m n → ∀ g : Dlg, Fresh C src m n g → g.sts = [zrs m] → H g.a = none → ∀ H1, Step Z H H1 → H1 g.b = none → DAt K Z H1 g → Q (.ref g.a) (upd H1 g.b (.lst g.vs))
abbrev PDN (X : Cx) (W : WX) (C : Addr) (e : Expr) (f : DEn) : Prop := L2.PE X e (DTN X.K C f W)
def dNewF (F : DFN) (fs : DA) : DEn := fun env Q R => fs env (fun ds => ds.length = 3 ∧ F ds Q R) R
section
variable {X : Cx} {W : WX} {e : Expr} {es : List Expr} {pos pos' p p2 : Pos} {fs : DA} {x : Str} {i k j : Nat} {C : Addr} {F : DFN} {f : DEn}
theorem pdn_make (cn : Cn X W j) (c : MkD X.prog X.w X.K X.mg X.base k x C F) (ha : PDA X W (e :: es) fs) (hk : k + 1 ≤ j := by decide) (hg : Gl X x := by rfl)
    (hdb : (x == ("__debug__" : Str)) = false := by decide) (he : starEach (e :: es) X.env = (false, eval e X.env) :: starEach es X.env := by rfl) (hpl : (backTo pos (starEach es X.env)).any (·.1) = false := by rfl) :
    PDN X W C (.Call (.Name x p) (e :: es) [] pos) (dNewF F fs) := by
  obtain ⟨f, FR, M, hm⟩ := c.ex
  refine ⟨fun pins s σ H Q I ⟨Z, O, env, Q0, R0, at_, hf, xk, q⟩ => ?_⟩
  refine wpAny_Call_Name_kw (ld_glob I hg hm ?_ hdb)
  refine PySem.W.callWith_K (h₀ := X.base) I.ok.mod.kin M.kp (thn (ha.run pos pins s σ H _ I (DTA.mk (Q := fun vs H1 => ∀ y dx, H1 y = none → H1 dx = none → dx ≠ y → spDI X.K C F (V.ref y :: vs) (upd (upd H1 dx (.own y)) y (.ins C dx [])) (fun v H2 => v = .non ∧ Q (.ref y) H2) (WE W σ)) at_ hf xk fun ds hd vs H1 s1 r => ?_)) fun us s1 ⟨vs, H1, I1, r, hq⟩ => ⟨I1.kIn, ?_⟩) he hpl
  · intro y dx h1 h2 h3
    have xk1 := xk.step s1
    refine ⟨by simp [r.length, hd.1], Z, H1, y, dx, vs, ds, Q0, R0, rfl, s1.good, h1, h2, h3, rfl, r, hd.2, fun z hz cls d H' s rx => xk1 z hz cls d H' s rx, fun src m n hQ g fr gs ga H2 s2 hb hD => ⟨rfl, ?_⟩⟩
    rw [← ga]
    exact q src m n hQ g fr gs (by rw [ga]; exact s1.none_ h1) H2 (s1.trans s2) hb hD
  · exact run_makeRS M FR (cn.hr.mono hk) (passAt cn.tk σ) I1 r hq
theorem dlg_new {K : PySem.W.Frag} {Z : Zn} {O : Own} {H : Hp} {σ : L2.St} {env : Env'} {g : Dlg} (a : StAt K Z O H σ env) (i : Nat) (hp : H g.b = none) (r : DAt K (Z.add O) H g) :
    Lt Z O H ((i, g.b, g.vs) :: O) (upd H g.b (.lst g.vs)) ∧ StAt K Z ((i, g.b, g.vs) :: O) (upd H g.b (.lst g.vs)) (σ.set i (some (.ref g.a))) (env.set i (.dlg g)) := by
  obtain ⟨l, a2⟩ := own_new a i hp r.reps
  refine ⟨l, a2.good, by have := a2.env.len; simpa using this, fun k s e => ?_, a2.env.sub⟩
  by_cases hj : i = k
  · subst hj
    by_cases hi : i < env.length
    · rw [List.getElem?_set_self hi] at e
      cases e
      exact ⟨_, List.getElem?_set_self (by rw [a.env.len]; exact hi), rfl, List.mem_cons_self, r.le l rfl⟩
    · rw [List.getElem?_eq_none (by rw [List.length_set]; omega)] at e
      cases e
  · rw [List.getElem?_set_ne hj] at e ⊢
    have h := a2.env.at_ k s (by rw [List.getElem?_set_ne hj]; exact e)
    rw [List.getElem?_set_ne hj] at h
    exact h
/-- x = C(..) -/
def dNewD (C : Addr) (i : Nat) (f : DEn) : DG := fun env k => f env (fun src m n => ∀ g : Dlg, Fresh C src m n g → g.sts = [zrs m] → k.nx (env.set i (.dlg g))) (fun x => k.xc x env)
theorem ds_newD (he : PDN X W C e f) (hN : X.N.Nodup := by first | assumption | decide +kernel) (hi : X.N[i]? = some x := by rfl) (hx : Loc X.env.scope x := by first | exact .inl rfl | exact .inr rfl) (hs : swapsWith e (some (.Name x pos')) pos.line X.env = pure false := by rfl) (hf : X.fn x = true ∨ X.env.scope.names.lookup x = some .local := by first | exact .inl rfl | exact .inr rfl) :
    PDS X W (.Assign [.Name x pos'] e pos) (dNewD C i f) := PS.imp (ps_set hN hi hx he hs hf) fun D σ H ⟨Z, O, env, k, a, h, ko⟩ =>
  ⟨Z.add O, O, env, _, _, a, h, ko.xk a, fun src m n hQ g fr gs _ H1 s hb hD => by
    obtain ⟨l, a'⟩ := dlg_new (a.step s) i hb hD
    exact ko.nx _ (hQ g fr gs) _ _ _ (s.le.trans l) a'⟩
/-- C(..) that is refused -/
def dNewX (f : DEn) : DE := fun env _ R => f env (fun _ _ _ => False) R
theorem pd_newX (he : PDN X W C e f) : PD X W e (dNewX f) := PE.imp he fun σ H Q ⟨Z, O, env, Q0, R0, at_, hf, xk, q⟩ => ⟨Z, O, env, _, R0, at_, hf, xk, fun _ _ _ z => z.elim⟩
/-! ### copy -/
def spC (K : PySem.W.Frag) (F : Dlg → Prop) : Sp := fun us H Q E => ∃ (Z : Zn) (g : Dlg), us = [.ref g.a] ∧ Good Z H ∧ (g.b, g.vs) ∈ Z.own ∧ DAt K Z H g ∧ F g ∧
  ∀ g' : Dlg, Fresh g.C g.src g.m g.n g' → g'.vs = g.vs → g'.sts = g.sts → ∀ H1, Step Z H H1 → H1 g'.b = none → DAt K Z H1 g' → Q (.ref g'.a) (upd H1 g'.b (.lst g'.vs))
structure CpM (P : Program) (w : World) (K : PySem.W.Frag) (mg : Str → Option Value) (base : Heap) (k : Nat) (C : Addr) (m : Str) (F : Dlg → Prop) : Prop where
  ex : ∃ f, FnR P w K mg base (L2.CX P w) k f (spC K F) ∧ Meth K C m f ∧ Cls K C
/-- y = x.copy() -/
def dCopy (C : Addr) (i j : Nat) (F : Dlg → Prop) : DG := fun env k => match env[i]? with
  | some (.dlg g) => g.C = C ∧ F g ∧ ∀ g' : Dlg, Fresh C g.src g.m g.n g' → g'.vs = g.vs → g'.sts = g.sts → k.nx (env.set j (.dlg g'))
  | _ => False
theorem ds_copy {m y : Str} {apos : Pos} {l : Nat} {pl : Sem Bool} {G : Dlg → Prop} (cn : Cn X W l) (M : CpM X.prog X.w X.K X.mg X.base k C m G) (hv : L2.PE X (.Name y p2) (tVar i)) (hk : k ≤ l := by decide) (hl : ∀ (g : Dlg) (z : V), (g.fs z).lookup m = none := by intros; rfl)
    (hN : X.N.Nodup := by first | assumption | decide +kernel) (hi : X.N[j]? = some x := by rfl) (hx : Loc X.env.scope x := by first | exact .inl rfl | exact .inr rfl) (hs : swapsWith (.Call (.Attribute (.Name y p2) m apos) [] [] p) (some (.Name x pos')) pos.line X.env = pure false := by rfl) (hf : X.fn x = true ∨ X.env.scope.names.lookup x = some .local := by first | exact .inl rfl | exact .inr rfl)
    (ht : eval (.Call (.Attribute (.Name y p2) m apos) [] [] p) X.env = (do
      let ov ← eval (.Name y p2) X.env
      standAt apos.atName
      let (f, first) ← holding [ov] (getMethod ov m pl)
      callWith p f first (backTo p (starEach [] X.env)) (backToKw p (keywordEach [] X.env))) := by rfl) :
    PDS X W (.Assign [.Name x pos'] (.Call (.Attribute (.Name y p2) m apos) [] [] p) pos) (dCopy C i j G) := by
  obtain ⟨f, FR, hm, cl⟩ := M.ex
  refine PS.imp (ps_set hN hi hx (pe_methW0 (pl := pl) hv cl hm FR (cn.hr.mono hk) cn.tk ht) hs hf) fun D σ H ⟨Z, O, env, k, a, h, ko⟩ => ?_
  unfold dCopy at h
  split at h
  · rename_i g hg
    obtain ⟨ec, hG, h⟩ := h
    subst ec
    obtain ⟨h1, h2, h3, h4, h5, w, h6, h7⟩ := at_dlg a hg
    refine ⟨_, h1, g.a, g.dx, _, rfl, h6, hl g w, Z.add O, g, rfl, a.good, h3, h4, hG, fun g' fr ev es H1 s hb hD => ?_⟩
    obtain ⟨l, a'⟩ := dlg_new (a.step s) j hb hD
    exact ko.nx _ (h g' fr ev es) _ _ _ (s.le.trans l) a'
  · exact h.elim
end
end Dg

set_option maxHeartbeats 4000000
/-! copy's body. -/
namespace Dg
open PySem PySem.Spec PyProof.Rows L2 Dl Dv Dk Gx

/-- all of G but instances with attributes, G' tracks the same -/
def LeI (G G' : Hp) : Prop := ∀ a o, G a = some o → (∀ C dx f fs, o ≠ .ins C dx (f :: fs)) → G' a = some o
section
variable {K : PySem.W.Frag} {vl : Option (Addr × Addr)} {G G' : Hp}
theorem LeI.sqt {a : Addr} {xs : List V} (e : LeI G G') (h : SqT K G a xs) : SqT K G' a xs := by
  rcases h with (h | ⟨o, h⟩) | h
  · exact .inl (.inl (e a _ h fun _ _ _ _ z => nomatch z))
  · exact .inl (.inr ⟨o, e a _ h fun _ _ _ _ z => nomatch z⟩)
  · exact .inr h
theorem LeI.slt {a C dx : Addr} {vs : List (Option V)} (e : LeI G G') (h : SlX.Slt G a C dx vs) : SlX.Slt G' a C dx vs := by
  rcases h with ⟨h1, h2⟩ | ⟨h1, h2⟩
  · exact Or.inl ⟨e _ _ h1 (fun _ _ _ _ z => nomatch z), h2⟩
  · exact Or.inr ⟨e _ _ h1 (fun _ _ _ _ z => nomatch z), e _ _ h2 (fun _ _ _ _ z => nomatch z)⟩
mutual
theorem Rep.monoI (e : LeI G G') : ∀ {v : V} {d : D}, Rep K vl G v d → Rep K vl G' v d
  | _, _, .non => .non
  | _, _, .bl b => .bl b
  | _, _, .int i => .int i
  | _, _, .str x => .str x
  | _, _, .tup a vs ds h r => .tup a vs ds (e.sqt h) (Reps.monoI e r)
  | _, _, .lst a vs ds h r => .lst a vs ds (e _ _ h fun _ _ _ _ z => nomatch z) (Reps.monoI e r)
  | _, _, .obj a C dx vs ds h r => .obj a C dx vs ds (e.slt h) (Reps.monoI e r)
  | _, _, .raw v => .raw v
  | _, _, .vol h c q => .vol h c q
theorem Reps.monoI (e : LeI G G') : ∀ {vs : List V} {ds : List D}, Reps K vl G vs ds → Reps K vl G' vs ds
  | _, _, .nil => .nil
  | _, _, .cons v d vs ds h r => .cons v d vs ds (Rep.monoI e h) (Reps.monoI e r)
end
end
theorem out_iff {Z : Zn} {b c : Addr} {vs : List V} (m : (b, vs) ∈ Z.own) : c ∈ ((Zn.out Z b).add [(0, b, vs)]).msk ↔ c ∈ Z.msk := by
  constructor
  · intro h
    rcases add_mem.mp h with h | h
    · have : c = b := by simpa using h
      subst this
      exact List.mem_append_left _ (List.mem_map.mpr ⟨_, m, rfl⟩)
    · exact out_sub h
  · intro h
    by_cases hc : c = b
    · subst hc
      exact add_mem.mpr (.inl (by simp))
    · exact add_mem.mpr (.inr (out_sup hc h))
theorem mask_out {Z : Zn} {b : Addr} {vs : List V} (m : (b, vs) ∈ Z.own) (H : Hp) : mask ((Zn.out Z b).add [(0, b, vs)]) H = mask Z H := by
  funext c
  unfold mask
  by_cases h : c ∈ Z.msk
  · rw [if_pos h, if_pos ((out_iff m).mpr h)]
  · rw [if_neg h, if_neg fun z => h ((out_iff m).mp z)]
theorem copyOk {P : Program} {w : World} {K : PySem.W.Frag} {mg : Str → Option Value} {base : Heap} {x qual : Str} {params : Arguments} {s1 s2 s3 : Stmt} {scope : Scope} {f : Addr} {fd : FuncData} {N ps : List Str} {k : Nat} {C : Addr} {F : DFN} {G : Dlg → Prop} (FD : FunD K x qual params [s1, s2, s3] scope [] [] f fd) (S : FnScope N ps scope) (hn : ps.length = 1) (hN : N.length = 2) (c : DlC K C)
    (hbody : ∀ (cdv : Value) (A : Around) (outer : List Env) (s : Shared) (H : Hp) (E : XK), Cn (cxOf (L2.CX P w) P w K mg base N qual scope f cdv A outer s H E) (fun cls d _ H' => E cls d H') k →
      L2.PS (cxOf (L2.CX P w) P w K mg base N qual scope f cdv A outer s H E) s1 (fun D σ H => DTN K C (dNewF F (dCons (dDF C 0 0) (dCons (dDF C 0 1) (dCons (dDF C 0 2) dNil)))) (fun cls d _ H' => E cls d H') σ H fun v H1 => D.nx (σ.set 1 (some v)) H1) ∧
      L2.PS (cxOf (L2.CX P w) P w K mg base N qual scope f cdv A outer s H E) s2 (sFld K (tVar 1) (tCB (fun xs H Q => ∃ p ys, xs = [.ref p] ∧ (SqL K H p ys ∨ SqT K H p ys) ∧ ∀ l, H l = none → Q (.ref l) (upd H l (.lst ys))) (tCons (tFld K (tVar 0) "states") tNil)) "states") ∧
      L2.PS (cxOf (L2.CX P w) P w K mg base N qual scope f cdv A outer s H E) s3 (fun D σ H => tVar 1 σ H fun v H1 => D.rt v H1))
    (hC : ∀ g, G g → g.C = C) (hF : ∀ g, G g → F [g.src, .int g.m, .int g.n] (fun src m n => src = g.src ∧ m = g.m ∧ n = g.n) FX) :
    FnOk P w K mg base (L2.CX P w) (k + 1) f fd ps (spC K G) := by
  refine FD.ok S (fun vs H Q E h => by obtain ⟨_, g, rfl, _⟩ := h; rw [hn]; rfl) fun cdv A outer s H vs Q E hr h => ?_
  obtain ⟨Z, g, rfl, gd, m, hd, hG, hq⟩ := h
  have ec := hC g hG
  obtain ⟨p1, p2, p3⟩ := hbody cdv A outer s H E ⟨takes_of rfl rfl rfl rfl, passes_of rfl, hr, rfl⟩
  refine ⟨_, pss_cons p1 (pss_cons p2 (pss_one p3)), ?_⟩
  have a0 := start_dlg (N := N) gd m hd .nil
  have eN : L2.start N [V.ref g.a] = [some (.ref g.a), none] := by
    unfold L2.start
    simp [hN]
  have eE : (Slot.dlg g :: (([] : List D).map Slot.val ++ List.replicate (N.length - (([] : List D).length + 1)) .un)) = [.dlg g, .un] := by
    rw [hN]
    rfl
  rw [eN, eE] at a0
  unfold tSeq DTN
  rw [eN]
  refine ⟨_, _, _, (fun src m n => src = g.src ∧ m = g.m ∧ n = g.n), FX, a0, ?_, fx_xk, fun src m' n' hQ g1 fr gs ha H1 st hb hD => ?_⟩
  · exact ⟨ec, ec, ec, rfl, hF g hG⟩
  obtain ⟨rfl, rfl, rfl⟩ := hQ
  obtain ⟨w0, w1, w2⟩ := hd.ins
  obtain ⟨u0, u1, u2⟩ := hD.ins
  rw [mask_out m] at u1
  have u2 : Rep K Z.vol (mask Z H1) u0 g1.src := by
    have u3 : Rep K Z.vol (mask ((Zn.out Z g.b).add [(0, g.b, g.vs)]) H1) u0 g1.src := u2
    rw [mask_out m] at u3
    exact u3
  have hbm : g.b ∈ Z.msk := List.mem_append_left _ (List.mem_map.mpr ⟨_, m, rfl⟩)
  have h1 : ∀ c o, H c = some o → c ∉ Z.msk → H1 c = some o := fun c o e hm => by
    have := st.le c o (by rw [mask_out m, mask_of hm]; exact e)
    rw [mask_out m] at this
    exact mask_le _ _ _ _ this
  have hgb : H1 g.b = some (.lst g.vs) := st.good.own _ _ (List.mem_append_left _ (List.mem_map.mpr ⟨_, List.mem_cons_self, rfl⟩))
  have hown : ∀ b us, (b, us) ∈ Z.own → H1 b = some (.lst us) := fun b us h => by
    by_cases e : b = g.b
    · subst e
      have e1 := gd.own _ _ h
      rw [gd.own _ _ m] at e1
      cases e1
      exact hgb
    · exact st.good.own b us (List.mem_append_right _ (List.mem_filter.mpr ⟨h, by simpa using e⟩))
  have hga1 : g1.a ∉ Z.msk := gd.fresh ha
  have nb : ∀ {c o}, H1 c = some o → c ≠ g1.b := fun {c o} e z => by rw [z, hb] at e; cases e
  have na : ∀ {c o}, H c = some o → c ≠ g1.a := fun {c o} e z => by rw [z, ha] at e; cases e
  have wm := mask_le _ _ _ _ w1
  have hga : H1 g.a = some (.ins g.C g.dx (g.fs w0)) := h1 _ _ wm fun z => by rw [mask_in z] at w1; cases w1
  have hi1 : H1 g1.a = some (.ins g1.C g1.dx (g1.fs u0)) := mask_le _ _ _ _ u1
  refine ⟨.ref g.a, rfl, g.a, g.C, g.dx, _, .ref g.b, rfl, by rw [upd_ne (nb hga)]; exact hga, by rw [ec]; exact c.cl, by rw [ec]; exact c.f3, rfl, g.b, g.vs, rfl, .inl (SqL.of (by rw [upd_ne (nb hgb)]; exact hgb)), fun l hl => ?_⟩
  have hlb : l ≠ g1.b := fun z => by rw [z, upd_same] at hl; cases hl
  have hl1 : H1 l = none := by rw [upd_ne hlb] at hl; exact hl
  have hla : l ≠ g1.a := fun z => by rw [z, hi1] at hl1; cases hl1
  refine ⟨.ref g1.a, rfl, g1.a, g1.C, g1.dx, g1.fs u0, rfl, by rw [upd_ne (Ne.symm hla), upd_ne (nb hi1)]; exact hi1, by rw [fr.c]; exact c.cl, by rw [fr.c]; exact c.f3, by simp [Dlg.fs], ?_⟩
  refine ⟨.ref g1.a, rfl, ?_⟩
  have ep : putF "states" (.ref l) (g1.fs u0) = ([("source", u0), ("people", .int g1.m), ("whole", .int g1.n), ("states", .ref l)] : List (Str × V)) := rfl
  rw [ep]
  have comm : ∀ o, upd (upd (upd H1 g1.b (.lst g1.vs)) l (.lst g.vs)) g1.a o = upd (upd (upd H1 g1.b (.lst g1.vs)) g1.a o) l (.lst g.vs) := fun o => by
    funext b
    unfold upd
    by_cases e1 : b = g1.a
    · rw [if_pos e1, if_neg (fun z => hla (by rw [← z, e1])), if_pos e1]
    · rw [if_neg e1]
      by_cases e2 : b = l
      · rw [if_pos e2, if_pos e2]
      · rw [if_neg e2, if_neg e2, if_neg e1]
  rw [comm]
  have key : ∀ c o, H1 c = some o → c ≠ g1.a → ∀ u, upd (upd H1 g1.b (.lst g1.vs)) g1.a u c = some o := fun c o e hc u => by rw [upd_ne hc, upd_ne (nb e)]; exact e
  have st2 : Step Z H (upd (upd H1 g1.b (.lst g1.vs)) g1.a (.ins g1.C g1.dx ([("source", u0), ("people", .int g1.m), ("whole", .int g1.n), ("states", .ref l)] : List (Str × V)))) := by
    refine ⟨fun c o e => ?_, fun b us h => key b _ (hown b us h) (na (gd.own b us h)) _, fun h c e => ?_, gd.nd⟩
    · have hc : c ∉ Z.msk := fun z => by rw [mask_in z] at e; cases e
      rw [mask_of hc] at e ⊢
      exact key c o (h1 c o e hc) (na e) _
    · obtain ⟨s, j, cs, q1, q2, q3⟩ := st.good.vol h c e
      obtain ⟨s', j', cs', q1', q2', _⟩ := gd.vol h c e
      exact ⟨s, j, cs, key _ _ q1 (na q1') _, key _ _ q2 (na q2') _, q3⟩
  refine hq ⟨g1.a, g1.dx, l, g1.C, g1.src, g1.m, g1.n, g.vs, g.sts⟩ ⟨by show g1.C = g.C; rw [fr.c, ec], fr.s, fr.m, fr.n⟩ rfl rfl _ st2 ?_ ⟨⟨u0, ?_, ?_⟩, Reps.mono st2.le hd.reps⟩
  · show upd (upd H1 g1.b (.lst g1.vs)) g1.a _ l = none
    rw [upd_ne hla, upd_ne hlb]
    exact hl1
  · rw [mask_of hga1]
    exact upd_same
  · refine Rep.monoI (fun c o e hno => ?_) u2
    have hc : c ∉ Z.msk := fun z => by rw [mask_in z] at e; cases e
    rw [mask_of hc] at e ⊢
    refine key c o e (fun z => ?_) _
    subst z
    rw [hi1] at e
    cases e
    exact hno _ _ _ _ rfl
end Dg

set_option maxHeartbeats 4000000
/-! x[i] += e, x owned. -/
namespace Dg
open PySem PySem.Spec PyProof.Rows L2 Dl Dv Dk Gx

def tGetL (K : PySem.W.Frag) : V → V → Hp → VK → Prop := fun o i H Q => ∃ p xs k v, o = .ref p ∧ i = .int k ∧ SqL K H p xs ∧ 0 ≤ k ∧ xs[k.toNat]? = some v ∧ Q v H
theorem get_listP {X : Cx} : PGet X (tGetL X.K) := by
  intro pins s σ H o i ov iv Q I ro ri h
  obtain ⟨p, xs, k, v, rfl, rfl, hq, hk, hv, q⟩ := h
  cases ro
  obtain ⟨t, rfl⟩ := ri
  obtain ⟨its, r, pl, hz⟩ := I.list hq
  obtain ⟨w, ew, rw'⟩ := r.get hv
  have hn := line63
  have hl := r.length
  have hlt : k.toNat < xs.length := (List.getElem?_eq_some_iff.mp hv).1
  exact wpAny_getItem_list pl.isList hk (by omega) (by simpa using ew) ⟨v, H, I, rw', q⟩
def dAugI (i : Nat) (fi fe : DE) : DG := fun env k => match env[i]? with
  | some (.own ds) => fi env (fun j => ∃ n z, j = .int n ∧ 0 ≤ n ∧ ds[n.toNat]? = some (.int z) ∧ fe env (fun d => ∃ y, d = .int y ∧ k.nx (env.set i (.own (ds.set n.toNat (.int (z + y)))))) (fun x => k.xc x env)) (fun x => k.xc x env)
  | _ => False
section
variable {X : Cx} {W : WX} {e ei : Expr} {x : Str} {i : Nat} {pos p p2 : Pos} {fi fe : DE}
theorem ixN_of {n l : Nat} (h : n < l) : ixN l (n : Int) = some n := by
  unfold ixN
  rw [if_pos (by omega), if_pos (by omega)]
  simp
theorem ds_augI (hv : L2.PE X (.Name x p) (tVar i)) (hi : PD X W ei fi) (he : PD X W e fe)
    (ha : ∀ ov iv new, augStore ei ov iv new = (do holding [new, ov, iv] (setItem ov iv new); release [new, ov, iv] []; pure .next) := by intros; rfl) :
    PDS X W (.AugAssign (.Subscript (.Name x p) ei p2) .Add e pos) (dAugI i fi fe) := PS.imp (ps_augS hv hi get_listP he ip_add set_list ha) fun D σ H ⟨Z, O, env, k, a, h, ko⟩ => by
  unfold dAugI at h
  split at h
  · rename_i ds ho
    obtain ⟨q, vs, h1, h2, h3, h4⟩ := own_at a ho
    refine ⟨.ref q, h1, DT.mk a h (ko.xk a) fun j hj u H1 s1 r1 => ?_⟩
    obtain ⟨n, z, ej, hn, hz, hf⟩ := hj
    subst ej
    cases r1
    have a1 := a.step s1
    obtain ⟨q', vs', g1, g2, g3, g4⟩ := own_at a1 ho
    rw [h1] at g1
    cases g1
    obtain ⟨v, hv, rv⟩ := g3.get hz
    cases rv
    refine ⟨q, vs', n, .int z, rfl, rfl, SqL.of g4, hn, hv, DT.mk a1 hf ((ko.step s1.le).xk a1) fun d hd u2 H2 s2 r2 => ?_⟩
    obtain ⟨y, ed, hk⟩ := hd
    subst ed
    cases r2
    have a2 := a1.step s2
    obtain ⟨q2, vs2, g1, g2', g3', g4'⟩ := own_at a2 ho
    rw [h1] at g1
    cases g1
    refine ⟨z, y, rfl, rfl, q, vs2, n, n.toNat, rfl, rfl, g4', ?_, ?_⟩
    · have hlt : n.toNat < ds.length := (List.getElem?_eq_some_iff.mp hz).1
      have := ixN_of (n := n.toNat) (l := vs2.length) (by rw [g3'.length]; exact hlt)
      rw [Int.toNat_of_nonneg hn] at this
      exact this
    · obtain ⟨l, a3⟩ := own_put a2 h1 g2' (g3'.set n.toNat (.int (z + y)))
      exact ko.nx _ hk _ _ _ ((s1.le.trans s2.le).trans l) a3
  · exact h.elim
end
end Dg

set_option maxHeartbeats 2000000
/-! Dealings: from the facts of the head. -/
namespace Dg
open PySem PySem.Spec PyProof.Rows L2 Dl Dv Dk Gx He Hd
section
variable {P : Program} {w : World} {K : PySem.W.Frag} {mg : Str → Option Value} {base : Heap} {k n : Nat} {fd : FuncData} {ps : List Str} {x m : Str} {F G : DFM}
theorem mkd_ok {F : DFN} (h : (Fx.fa (.mkr x)).ok K = true) (O : FnOk P w K mg base (L2.CX P w) k (ma K (ga K x) "__init__") fd ps (spDI K (ga K x) F)) (hb : Binds K fd ps []) (hm : mg x = some (.ref (ga K x))) : MkD P w K mg base k x (ga K x) F :=
  ⟨_, raw0 O hb, He.mkr_ok h, hm⟩
theorem cp_ok {F : Dlg → Prop} (h : (Fx.fa (.meth x m)).ok K = true) (c : Cls K (ga K x)) (O : FnOk P w K mg base (L2.CX P w) k (ma K (ga K x) m) fd ps (spC K F)) (hb : Binds K fd ps []) : CpM P w K mg base k (ga K x) m F := ⟨_, raw0 O hb, He.meth_ok h, c⟩
theorem mem_ok (h : (Fx.fa (.meth x m)).ok K = true) (c : Cls K (ga K x)) (O : FnOk P w K mg base (L2.CX P w) k (ma K (ga K x) m) fd ps (spM K n G)) (hF : ∀ g ds Q R, F g ds Q R → G g ds Q R) (hb : Binds K fd ps []) : MeM P w K mg base k (ga K x) m n F :=
  ⟨_, (raw0 O hb).imp (spM_imp hF), He.meth_ok h, c⟩
theorem calm_ok {f : Addr} (O : FnOk P w K mg base (L2.CX P w) k f fd ps (spM K n G)) (hF : ∀ g ds Q R, F g ds Q R → G g ds Q R) (hm : mg x = some (.ref f)) (kp : PySem.W.keepIn K (.ref f) = true) (hb : Binds K fd ps []) : CalM P w K mg base k x n F :=
  ⟨f, fd, ps, O.imp (spM_imp hF), hm, kp, hb⟩
theorem prm_ok (h : (Fx.prop x m).ok K = true) (c : Cls K (ga K x)) (O : FnOk P w K mg base (L2.CX P w) k (gAd K (ga K x) m) fd ps (spM K 0 G)) (hF : ∀ g ds Q R, F g ds Q R → G g ds Q R) (hb : Binds K fd ps []) : PrM P w K mg base k (ga K x) m F := by
  obtain ⟨h1, h⟩ := ba h
  obtain ⟨h2, h⟩ := ba h
  obtain ⟨h3, h4⟩ := ba h
  split at h4
  · rename_i g rest e
    have eg : gAd K (ga K x) m = g := by unfold gAd; rw [e]
    rw [eg] at O
    exact ⟨_, g, fd, ps, O.imp (spM_imp hF), ⟨eqO_ok h1, eqO_ok h2, of_decide_eq_true h3, rest, e⟩, c, hb⟩
  · cases h4
end
end Dg

set_option maxHeartbeats 4000000
/-! sum of a tuple of ints. -/
namespace Gx
open PySem PySem.Spec PyProof.Rows L2 Dl Dv Dk

def rSumTu (K : PySem.W.Frag) : List V → Hp → VK → Prop := fun vs H Q => ∃ (a : Addr) (ns : List Int), vs = [V.ref a] ∧ SqT K H a (ns.map V.int) ∧ Q (.int ns.sum) H
theorem cr_sumTu {X : Cx} (hc : X.calm = true) : CallR X (.builtin "sum") (rSumTu X.K) := by
  intro pins s σ H vs us Q I r h
  obtain ⟨a, ns, rfl, hs, q⟩ := h
  obtain ⟨its, rv, hl, _⟩ := I.tuple hs
  rw [Vals.ref1 r]
  have hi := rv.ints
  obtain ⟨xs, e⟩ := hi.allInts.items
  have hn : numsOf (intItems xs).toList = ns := by rw [← e]; exact hi.numsOf
  rw [nums_intItems] at hn
  rw [e] at hl
  refine PySem.W.ktm_sumG (I.ok.hd hc) hl fun h' tk t' hk => ?_
  rw [preSum_eq, List.take_of_length_le (by simp), hn]
  exact ⟨.int _, H, I.kept hk, ⟨_, rfl⟩, q⟩
def gSumT : DC1 := fun ds Q => ∃ ns : List Int, ds = [.tup (ns.map .int)] ∧ Q (.int ns.sum)
theorem cd_sumT {K : PySem.W.Frag} : CallD K (rSumTu K) gSumT := fun Z H vs ds Q0 Q gd r hg q => by
  obtain ⟨ns, rfl, hg⟩ := hg
  obtain ⟨v, rfl, h⟩ := r.inv1
  cases h with
  | tup a ws ds h rs =>
    rw [rs.ofInts] at h
    exact ⟨a, ns, rfl, unm_t h, q _ hg _ H (Step.refl gd) (.int _)⟩
section
variable {X : Cx} {W : WX} {e : Expr} {fs : DA} {pos p : Pos} {j : Nat}
theorem bSumT (c : Cn X W j) (hm : X.mg "sum" = none) (ha : PDA X W [e] fs) (hg : Gl X "sum" := by rfl) (h1 : starEach [e] X.env = (false, eval e X.env) :: starEach [] X.env := by rfl) (h2 : (backTo pos (starEach [] X.env)).any (·.1) = false := by rfl) : PD X W (.Call (.Name "sum" p) [e] [] pos) (dCB gSumT fs) := pd_callB (cr_sumTu c.hc) cd_sumT hg hm (by kernel_rfl) ha (by decide) (by decide) h1 h2
theorem bListR2 {a b : Expr} {fa fb : DE} {p2 p3 : Pos} (c : Cn X W j) (hl : X.mg "list" = none) (hm : X.mg "range" = none) (ha : PD X W a fa) (hb : PD X W b fb) (hg : Gl X "range" := by rfl) (hgl : Gl X "list" := by rfl) (h1 : starEach [a, b] X.env = (false, eval a X.env) :: starEach [b] X.env := by rfl) (h1' : starEach [b] X.env = (false, eval b X.env) :: starEach [] X.env := by rfl) (hp : (backTo p2 (starEach [b] X.env)).any (·.1) = false := by rfl)
    (h3 : starEach [.Call (.Name "range" p) [a, b] [] p2] X.env = (false, eval (.Call (.Name "range" p) [a, b] [] p2) X.env) :: starEach [] X.env := by rfl) : PDL X W (.Call (.Name "list" p3) [.Call (.Name "range" p) [a, b] [] p2] [] pos) (dListR2 fa fb) :=
  PE.imp (pe_listRg c.hc hgl hl (prg_2 hg hm ha hb h1 h1' hp) h3) fun σ H Q ⟨Z, O, env, Q0, R0, at_, hf, xk, q⟩ => DT.mk at_ hf xk fun d hd v H1 s r => by
    refine DT.mk (at_.step s) hd (xk.step s) fun e he v2 H2 s2 r2 => ?_
    cases d <;> cases e <;> first | exact False.elim he | skip
    have r := r.step s2
    cases r
    cases r2
    exact ⟨_, _, rfl, rfl, he.1, fun l hl => q _ he.2 l _ H2 (s.trans s2) hl (rg_rep _ _)⟩
end
end Gx

set_option maxHeartbeats 4000000
/-! dealings.py: what is promised. -/
namespace Pr
open PySem PySem.Spec PyProof.Rows L2 Dl Dv Dk Gx Ma

abbrev aD (K : PySem.W.Frag) : Addr := He.ga K "Dealing"
/-- the lots behind p things -/
def rowAt (r : Ru) (m n p : Nat) : List Int := (upto m).map fun q => cnt (fun k => personOf r m n k) q p
def stD (r : Ru) (m n p : Nat) : D := .tup ((rowAt r m n p).map .int)
/-- a dealing: its rule, its numbers, how many things were dealt behind each call; the last one -/
structure Led (K : PySem.W.Frag) (r : Ru) (m n : Nat) (past : List Nat) (p : Nat) (g : Dlg) : Prop where
  c : g.C = aD K
  s : g.src = rd K r
  gm : g.m = m
  gn : g.n = n
  st : g.sts = (past ++ [p]).map (stD r m n)
  hr : r.Ok
  hm : Mo m
  hn : n ≤ 1000
  hp : p ≤ n
  hl : past.length ≤ 1000
def comD (r : Ru) (m n p : Nat) : D := if p < n then .tup [.int (thingAt r n p), .int (personOf r m n p)] else .non
def persons (r : Ru) (m n p i : Nat) : List Int := (upto i).map fun k => personOf r m n (p + k)
abbrev eN (K : PySem.W.Frag) : Exc := ⟨He.ga K "InvalidNumber", none⟩
abbrev eDn (K : PySem.W.Frag) : Exc := ⟨He.ga K "Done", none⟩
def FM_next_of (K : PySem.W.Frag) : Dg.DFM := fun g ds Q _ => ∃ r m n past p, Led K r m n past p g ∧ ds = [] ∧ Q (comD r m n p) g.vs g.sts
def FM_Dealing_lots (K : PySem.W.Frag) : Dg.DFM := fun g ds Q _ => ∃ r m n past p, Led K r m n past p g ∧ ds = [] ∧ Q (stD r m n p) g.vs g.sts
def FM_Dealing_left (K : PySem.W.Frag) : Dg.DFM := fun g ds Q _ => ∃ r m n past p, Led K r m n past p g ∧ ds = [] ∧ Q (.int ((n : Int) - p)) g.vs g.sts
def FM_Dealing_coming (K : PySem.W.Frag) : Dg.DFM := fun g ds Q _ => ∃ r m n past p, Led K r m n past p g ∧ ds = [] ∧ Q (comD r m n p) g.vs g.sts
def FM_DealingU_lenU (K : PySem.W.Frag) : Dg.DFM := fun g ds Q _ => ∃ r m n past p, Led K r m n past p g ∧ ds = [] ∧ Q (.int past.length) g.vs g.sts
def FM_Dealing_give (K : PySem.W.Frag) : Dg.DFM := fun g ds Q R => ∃ r m n past p, Led K r m n past p g ∧ ((∃ x, ds = [x] ∧ isD x = true ∧ isInt x 1 = false ∧ R (eN K) g.vs g.sts) ∨
  (∃ i : Nat, ds = [.int i] ∧ 1 ≤ i ∧ n < p + i ∧ R (eDn K) g.vs g.sts) ∨ ∃ i : Nat, ds = [.int i] ∧ 1 ≤ i ∧ p + i ≤ n ∧ ∀ v, Q (il (persons r m n p i)) (g.vs ++ [v]) (g.sts ++ [stD r m n (p + i)]))
def FM_Dealing_undo (K : PySem.W.Frag) : Dg.DFM := fun g ds Q _ => ∃ r m n past p, Led K r m n past p g ∧ ds = [] ∧ if past = [] then Q (.bl false) g.vs g.sts else Q (.bl true) g.vs.dropLast g.sts.dropLast
def G_copy (K : PySem.W.Frag) : Dlg → Prop := fun g => g.C = aD K ∧ ∃ r m n past p, Led K r m n past p g
def F_Dealing (K : PySem.W.Frag) : Dg.DFN := fun ds Q R => ∃ src dm dn, ds = [src, dm, dn] ∧ isD dm = true ∧ isD dn = true ∧ match lookAt K dm dn 1000 with
  | .error e => R e
  | .ok _ => ∀ m n, dm = .int m → dn = .int n → Q src m n
def f1_Dealing (K : PySem.W.Frag) : DE := dCall 3 (F_look_at K) (dCons (dVar 2) (dCons (dVar 3) (dCons (dC (.int 1000)) dNil)))
theorem look_casesD {K : PySem.W.Frag} {m n : D} : (∃ e, lookAt K m n 1000 = .error e) ∨ (lookAt K m n 1000 = .ok .non ∧ ∃ i j, m = .int i ∧ n = .int j ∧ Mo i ∧ 0 ≤ j ∧ j ≤ 1000) := look_cases
theorem init_Dealing (K : PySem.W.Frag) (y : Addr) (ds : List D) (Q : D → Int → Int → Prop) (R : DX) (h : F_Dealing K ds Q R) : ∃ src dm dn, ds = [src, dm, dn] ∧ f1_Dealing K [.val (.raw (.ref y)), .val src, .val dm, .val dn] (fun _ => ∃ m n, dm = .int m ∧ dn = .int n ∧ 2 ≤ m ∧ m ≤ 1000 ∧ Q src m n) R := by
  obtain ⟨src, dm, dn, rfl, h1, h2, h3⟩ := h
  refine ⟨src, dm, dn, rfl, rfl, dm, dn, 1000, rfl, h1, h2, ?_⟩
  rcases look_casesD (K := K) (m := dm) (n := dn) with ⟨e, he⟩ | ⟨he, i, j, rfl, rfl, hi, _⟩
  · rw [he] at h3 ⊢
    exact h3
  · rw [he] at h3 ⊢
    have := hi.lo; have := hi.hi
    exact ⟨i, j, rfl, rfl, by omega, by omega, h3 i j rfl rfl⟩
theorem copy_Dealing (K : PySem.W.Frag) (g : Dlg) (h : G_copy K g) : F_Dealing K [g.src, .int g.m, .int g.n] (fun src m n => src = g.src ∧ m = g.m ∧ n = g.n) FX := by
  obtain ⟨_, r, m, n, past, p, l⟩ := h
  refine ⟨_, _, _, rfl, rfl, rfl, ?_⟩
  rcases look_casesD (K := K) (m := .int g.m) (n := .int g.n) with ⟨e, he⟩ | ⟨he, i, j, ei, ej, _⟩
  · have hm := l.hm
    have h1 := hm.lo; have h2 := hm.hi; have h3 := l.hn
    unfold lookAt at he
    rw [isIn_i, isIn_i, l.gm, l.gn, if_pos (by simp; omega), if_pos (by simp; omega)] at he
    cases he
  · rw [he]
    intro i j ei ej
    cases ei; cases ej
    exact ⟨rfl, rfl, rfl⟩
/-! ### what is so of the numbers -/
theorem rowAt_len {r : Ru} {m n p : Nat} : (rowAt r m n p).length = m := by unfold rowAt; rw [List.length_map, upto_length]
theorem sum_upto (f : Int → Int) : ∀ m : Nat, ((upto m).map f).sum = Ma.sumTo (fun q => f q) m
  | 0 => rfl
  | m + 1 => by
    rw [upto_succ, List.map_append, List.sum_append, sum_upto f m]
    show Ma.sumTo (fun q => f q) m + (f m + 0) = Ma.sumTo (fun q => f q) m + f m
    rw [Int.add_zero]
theorem rowAt_sum {r : Ru} {m n p : Nat} (hm : Mo m) : (rowAt r m n p).sum = p := by
  unfold rowAt
  rw [sum_upto]
  exact Ma.sum_cnt fun i _ => personAt_range hm
theorem rowAt_set {r : Ru} {m n p : Nat} (hm : Mo m) : (rowAt r m n p).set (personOf r m n p).toNat (cnt (fun k => personOf r m n k) (personOf r m n p) p + 1) = rowAt r m n (p + 1) := by
  have rg : 0 ≤ personOf r m n p ∧ personOf r m n p < m := personAt_range hm
  unfold rowAt
  rw [set_map (f := fun q => cnt (fun k => personOf r m n k) q p) rg.1 rg.2]
  exact List.map_congr_left fun q _ => rfl
theorem rowAt_get {r : Ru} {m n p : Nat} (hm : Mo m) : (rowAt r m n p)[(personOf r m n p).toNat]? = some (cnt (fun k => personOf r m n k) (personOf r m n p) p) := by
  have rg : 0 ≤ personOf r m n p ∧ personOf r m n p < m := personAt_range hm
  exact upto_map_get (f := fun q => cnt (fun k => personOf r m n k) q p) rg.1 rg.2
def g_thing_at (K : PySem.W.Frag) : DG :=
  (dSeq (dSet 3 (dOp gIx (dCall 2 (F_counts_of K) (dCons (dVar 0) (dCons (dVar 1) dNil))) (dC (.int 0))))
  (dSeq (dSet 4 (dOp gIx (dSlot (aR K) 0 (dVar 0)) (dC (.int 3))))
  (dSeq (dIfS (dTst (dOp gGe (dVar 2) (dVar 3))) (dRet (dOp gSub (dOp gMul (dOp gAddU (dOp gSub (dVar 2) (dVar 3)) (dC (.int 1))) (dVar 4)) (dC (.int 1)))) dNx)
  (dRet (dIf (dTst (dOp gGt (dVar 4) (dC (.int 0)))) (dOp gAddU (dVar 2) (dOp gDiv (dVar 2) (dOp gSub (dVar 4) (dC (.int 1))))) (dVar 2))))))
theorem law_thing_at (K : PySem.W.Frag) (ds : List D) (Q : D → Prop) (R : DX) (h : F_thing_at K ds Q R) : dDef 5 (g_thing_at K) ds Q R := by
  obtain ⟨⟨r, n, t⟩, rfl, hr, q⟩ := h
  have ha : 0 ≤ r.a ∧ r.a ≤ 4 ∧ r.a ≠ 1 := by rcases hr.a with e | e | e | e <;> rw [e] <;> decide
  obtain ⟨a0, a1, a2⟩ := ha
  dsimp only at q hr
  unfold thingAt at q
  simp (maxSteps := 10000000) (disch := first | assumption | omega) only [dDef, dRet, dRetL, dSeq, dIfS, dTst, dNotB, dAndB, dOrB, dAndV, dOrV, dNotV, dNeg, dIf, dCB, dCBL, dCons, dNil, dStar, dVar, dC, dCall, dOp, dOpL, dTup, dLst, dL, dSet, dAsg, dPar, dOwn, dExpr, dNx, dFor, dItL, dItT, dProp, dMeth, dMk, dMk0, dRaise, dPart, dNoPart, dSlL, dSlT, dRevL, dgName, dgTup, dgSets, dOwnIx, dOwnLen, dOwnTup, dApp, dSetI, dRel, relE, dItZip, dItTab, dItEnK, dItEn, dIsS, dJoinG, dSplit, dFmt, dJs, dIsT2, dIndex, dCallS, dYes, wipeE, dXf, dIsX, List.map_cons, List.map_nil, List.cons_append, List.nil_append, List.append_nil, List.length_cons, List.length_nil, List.replicate_succ, List.replicate_zero, Nat.reduceAdd, Nat.reduceSub, List.getElem?_cons_zero, List.getElem?_cons_succ, List.set_cons_zero, List.set_cons_succ, Nat.zero_add, Nat.add_zero, Nat.sub_self, x_add, x_sub, x_mulL, x_mulR, x_div, x_mod, x_lt, x_le, x_gt, x_ge, x_eq, x_ne, x_fro, x_step, x_first, x_last, x_on, x_l0, x_l1, x_l2, x_l3, x_l4, x_t0, x_t1, x_t2, x_t3, x_t4, x_intB, x_intI, x_max2, x_min2, x_lenL, x_lenT, x_sz, x_rs, x_rw, x_rf, x_ra, x_rl, x_slot, x_slotD, true_and, and_true, eq_self, decide_eq_true_eq, Bool.not_eq_true', decide_eq_false_iff_not, res_ok, res_er, x_rng1, x_rng1D, x_rng2, x_rng2E, x_rng2D, z_s, z_w, z_f, z_a, z_l, Bool.and_eq_true, if_true, if_false, Bool.false_eq_true, reduceCtorEq, decide_true, decide_false, Bool.not_true, Bool.not_false, Bool.true_eq_false, not_true_eq_false, not_false_eq_true, g_thing_at, y_counts_of]
  by_cases c : main r n ≤ t
  · rw [if_pos c] at q ⊢
    exact q
  · rw [if_neg c] at q ⊢
    by_cases e : 0 < r.a
    · rw [if_pos e] at q ⊢
      exact q
    · rw [if_neg e] at q ⊢
      exact q
end Pr

set_option maxHeartbeats 4000000
/-! dealings.py: what each def answers. -/
namespace Pr
open PySem PySem.Spec PyProof.Rows L2 Dl Dv Dk Gx Ma

def g_next_of (K : PySem.W.Frag) : DG :=
  (dSeq (dSet 1 (dCB gSumT (dCons (Dg.dDIx (aD K) 0 (dNeg (dC (.int 1)))) dNil)))
  (dSeq (dIfS (dTst (dOp gEq (dVar 1) (Dg.dDF (aD K) 0 2))) (dRet (dC .non)) dNx)
  (dSeq (dSet 2 (dCall 3 (F_thing_at K) (dCons (Dg.dDF (aD K) 0 0) (dCons (Dg.dDF (aD K) 0 2) (dCons (dVar 1) dNil)))))
  (dRet (dTup (dCons (dVar 2) (dCons (dCall 4 (F_person_of K) (dCons (Dg.dDF (aD K) 0 0) (dCons (Dg.dDF (aD K) 0 1) (dCons (Dg.dDF (aD K) 0 2) (dCons (dVar 1) dNil))))) dNil)))))))
def g_Dealing_lots (K : PySem.W.Frag) : DG :=
  (dRet (Dg.dDIx (aD K) 0 (dNeg (dC (.int 1)))))
def g_Dealing_left (K : PySem.W.Frag) : DG :=
  (dRet (dOp gSub (Dg.dDF (aD K) 0 2) (dCB gSumT (dCons (Dg.dDIx (aD K) 0 (dNeg (dC (.int 1)))) dNil))))
def g_Dealing_coming (K : PySem.W.Frag) : DG :=
  (dRet (Dg.dCallR 0 0 (FM_next_of K) dNil))
def g_DealingU_lenU (K : PySem.W.Frag) : DG :=
  (dRet (dCB gLen (dCons (dL (Dg.dDSl (aD K) 0 (dPart (dC (.int 1))) dNoPart)) dNil)))
def g_Dealing_give (K : PySem.W.Frag) : DG :=
  (dSeq (dIfS (dNotB (dTst (dCall 2 F_is_integer (dCons (dVar 1) (dCons (dC (.int 1)) dNil))))) (dRaise (dMk0 (He.ga K "InvalidNumber"))) dNx)
  (dSeq (dSet 2 (dCB gSumT (dCons (Dg.dDIx (aD K) 0 (dNeg (dC (.int 1)))) dNil)))
  (dSeq (dIfS (dTst (dOp gGt (dOp gAddU (dVar 2) (dVar 1)) (Dg.dDF (aD K) 0 2))) (dRaise (dMk0 (He.ga K "Done"))) dNx)
  (dSeq (dSet 3 (dL (dListR2 (dVar 2) (dOp gAddU (dVar 2) (dVar 1)))))
  (dSeq (dSet 4 (dL (dLc (dItL (dVar 3)) [5] (dgName 5) dYes (dCall 4 (F_person_of K) (dCons (Dg.dDF (aD K) 0 0) (dCons (Dg.dDF (aD K) 0 1) (dCons (Dg.dDF (aD K) 0 2) (dCons (dVar 5) dNil))))))))
  (dSeq (dOwn 6 (dCBL gListOf (dCons (Dg.dDIx (aD K) 0 (dNeg (dC (.int 1)))) dNil)))
  (dSeq (dFor (dItL (dVar 4)) (dgName 7) (Dg.dAugI 6 (dVar 7) (dC (.int 1))))
  (dSeq (Dg.dDApp (aD K) 0 (dOwnTup 6))
  (dRet (dVar 4))))))))))
def g_Dealing_undo (K : PySem.W.Frag) : DG :=
  (dSeq (dIfS (dTst (dOp gEq (Dg.dDLen (aD K) 0) (dC (.int 1)))) (dRet (dC (.bl false))) dNx)
  (dSeq (Dg.dDPop (aD K) 0)
  (dRet (dC (.bl true)))))
theorem atI_lastD {xs : List D} {x : D} : atI (xs ++ [x]) (-1) = some x := by
  unfold atI ixN
  rw [if_neg (by omega), if_pos (by simp; omega)]
  show (xs ++ [x])[(((xs ++ [x]).length : Int) + -1).toNat]? = _
  rw [show (((xs ++ [x]).length : Int) + -1).toNat = xs.length by simp; omega]
  simp
theorem rgD_rangeL (i j : Int) : rgD i j = (rangeL i j).map .int := by
  unfold rgD
  exact rng_range i j
section
variable {K : PySem.W.Frag} {r : Ru} {m n : Nat} {past : List Nat} {p : Nat} {a dx b : Addr} {vs : List V}
theorem Led.lit {g : Dlg} (h : Led K r m n past p g) : g = ⟨g.a, g.dx, g.b, aD K, rd K r, m, n, g.vs, (past ++ [p]).map (stD r m n)⟩ := by
  obtain ⟨h1, h2, h3, h4, h5, _⟩ := h
  obtain ⟨a, dx, b, C, src, m', n', vs, sts⟩ := g
  cases h1; cases h2; cases h3; cases h4; cases h5
  rfl
theorem x_top {env : Env'} {i : Nat} {g : Dlg} {Q : D → Prop} {R : DX} (e : env[i]? = some (.dlg g)) (h : Led K r m n past p g) : Dg.dDIx (aD K) i (dNeg (dC (.int 1))) env Q R = Q (stD r m n p) := by
  unfold Dg.dDIx
  rw [e]
  have ha : atI g.sts (-1) = some (stD r m n p) := by rw [h.st, List.map_append]; exact atI_lastD
  exact propext ⟨fun ⟨_, k, d, ek, hd, q⟩ => by cases ek; rw [ha] at hd; cases hd; exact q, fun q => ⟨h.c, -1, _, rfl, ha, q⟩⟩
theorem x_sumT {ns : List Int} {Q : D → Prop} : gSumT [.tup (ns.map .int)] Q = Q (.int ns.sum) := propext ⟨fun ⟨ms, e, q⟩ => by
  have e2 : ns.map D.int = ms.map D.int := D.tup.inj (List.cons.inj e).1
  have e3 : ns = ms := by
    have := congrArg (List.map fun d => match d with | D.int i => i | _ => 0) e2
    rw [List.map_map, List.map_map] at this
    simpa [Function.comp_def] using this
  rw [e3]; exact q, fun q => ⟨ns, rfl, q⟩⟩
theorem x_sumSt {Q : D → Prop} (hm : Mo m) : gSumT [stD r m n p] Q = Q (.int p) := by unfold stD; rw [x_sumT, rowAt_sum hm]
theorem x_dF0 {env : Env'} {i : Nat} {g : Dlg} {Q : D → Prop} {R : DX} (e : env[i]? = some (.dlg g)) (h : Led K r m n past p g) : Dg.dDF (aD K) i 0 env Q R = Q (rd K r) := by
  unfold Dg.dDF; rw [e]; exact propext ⟨fun ⟨_, q⟩ => by rw [← h.s]; exact q, fun q => ⟨h.c, by show Q g.src; rw [h.s]; exact q⟩⟩
theorem x_dF1 {env : Env'} {i : Nat} {g : Dlg} {Q : D → Prop} {R : DX} (e : env[i]? = some (.dlg g)) (h : Led K r m n past p g) : Dg.dDF (aD K) i 1 env Q R = Q (.int m) := by
  unfold Dg.dDF; rw [e]; exact propext ⟨fun ⟨_, q⟩ => by rw [← h.gm]; exact q, fun q => ⟨h.c, by show Q (.int g.m); rw [h.gm]; exact q⟩⟩
theorem x_dF2 {env : Env'} {i : Nat} {g : Dlg} {Q : D → Prop} {R : DX} (e : env[i]? = some (.dlg g)) (h : Led K r m n past p g) : Dg.dDF (aD K) i 2 env Q R = Q (.int n) := by
  unfold Dg.dDF; rw [e]; exact propext ⟨fun ⟨_, q⟩ => by rw [← h.gn]; exact q, fun q => ⟨h.c, by show Q (.int g.n); rw [h.gn]; exact q⟩⟩
theorem x_top0 {env : Env'} {g : Dlg} {Q : D → Prop} {R : DX} (h : Led K r m n past p g) : Dg.dDIx (aD K) 0 (dNeg (dC (.int 1))) (.dlg g :: env) Q R = Q (stD r m n p) := x_top rfl h
theorem x_dF00 {env : Env'} {g : Dlg} {Q : D → Prop} {R : DX} (h : Led K r m n past p g) : Dg.dDF (aD K) 0 0 (.dlg g :: env) Q R = Q (rd K r) := x_dF0 rfl h
theorem x_dF10 {env : Env'} {g : Dlg} {Q : D → Prop} {R : DX} (h : Led K r m n past p g) : Dg.dDF (aD K) 0 1 (.dlg g :: env) Q R = Q (.int m) := x_dF1 rfl h
theorem x_dF20 {env : Env'} {g : Dlg} {Q : D → Prop} {R : DX} (h : Led K r m n past p g) : Dg.dDF (aD K) 0 2 (.dlg g :: env) Q R = Q (.int n) := x_dF2 rfl h
theorem put_same {g : Dlg} : Dg.Dlg.put g g.vs g.sts = g := rfl
end
theorem law_next_of (K : PySem.W.Frag) (g : Dlg) (ds : List D) (Q : D → List V → List D → Prop) (R : Exc → List V → List D → Prop) (h : FM_next_of K g ds Q R) : Dg.dDefM 3 (g_next_of K) g ds Q R := by
  obtain ⟨r, m, n, past, p, l, rfl, q⟩ := h
  have hr := l.hr; have hm := l.hm
  unfold Dg.dDefM g_next_of
  simp (maxSteps := 10000000) (disch := first | assumption | omega) only [dDef, dRet, dRetL, dSeq, dIfS, dTst, dNotB, dAndB, dOrB, dAndV, dOrV, dNotV, dNeg, dIf, dCB, dCBL, dCons, dNil, dStar, dVar, dC, dCall, dOp, dOpL, dTup, dLst, dL, dSet, dAsg, dPar, dOwn, dExpr, dNx, dFor, dItL, dItT, dProp, dMeth, dMk, dMk0, dRaise, dPart, dNoPart, dSlL, dSlT, dRevL, dgName, dgTup, dgSets, dOwnIx, dOwnLen, dOwnTup, dApp, dSetI, dRel, relE, dItZip, dItTab, dItEnK, dItEn, dIsS, dJoinG, dSplit, dFmt, dJs, dIsT2, dIndex, dCallS, dYes, wipeE, dXf, dIsX, List.map_cons, List.map_nil, List.cons_append, List.nil_append, List.append_nil, List.length_cons, List.length_nil, List.replicate_succ, List.replicate_zero, Nat.reduceAdd, Nat.reduceSub, List.getElem?_cons_zero, List.getElem?_cons_succ, List.set_cons_zero, List.set_cons_succ, Nat.zero_add, Nat.add_zero, Nat.sub_self, x_add, x_sub, x_mulL, x_mulR, x_div, x_mod, x_lt, x_le, x_gt, x_ge, x_eq, x_ne, x_fro, x_step, x_first, x_last, x_on, x_l0, x_l1, x_l2, x_l3, x_l4, x_t0, x_t1, x_t2, x_t3, x_t4, x_intB, x_intI, x_max2, x_min2, x_lenL, x_lenT, x_sz, x_rs, x_rw, x_rf, x_ra, x_rl, x_slot, x_slotD, true_and, and_true, eq_self, decide_eq_true_eq, Bool.not_eq_true', decide_eq_false_iff_not, res_ok, res_er, x_rng1, x_rng1D, x_rng2, x_rng2E, x_rng2D, z_s, z_w, z_f, z_a, z_l, Bool.and_eq_true, if_true, if_false, Bool.false_eq_true, reduceCtorEq, decide_true, decide_false, Bool.not_true, Bool.not_false, Bool.true_eq_false, not_true_eq_false, not_false_eq_true, x_top0 l, x_sumSt hm, x_dF00 l, x_dF10 l, x_dF20 l]
  unfold comD at q
  by_cases c : (p : Int) = n
  · rw [if_pos c]
    rw [if_neg (by omega)] at q
    exact ⟨_, _, rfl, q⟩
  · rw [if_neg c]
    have hp := l.hp
    rw [if_pos (by omega)] at q
    simp (maxSteps := 10000000) (disch := first | assumption | omega) only [dDef, dRet, dRetL, dSeq, dIfS, dTst, dNotB, dAndB, dOrB, dAndV, dOrV, dNotV, dNeg, dIf, dCB, dCBL, dCons, dNil, dStar, dVar, dC, dCall, dOp, dOpL, dTup, dLst, dL, dSet, dAsg, dPar, dOwn, dExpr, dNx, dFor, dItL, dItT, dProp, dMeth, dMk, dMk0, dRaise, dPart, dNoPart, dSlL, dSlT, dRevL, dgName, dgTup, dgSets, dOwnIx, dOwnLen, dOwnTup, dApp, dSetI, dRel, relE, dItZip, dItTab, dItEnK, dItEn, dIsS, dJoinG, dSplit, dFmt, dJs, dIsT2, dIndex, dCallS, dYes, wipeE, dXf, dIsX, List.map_cons, List.map_nil, List.cons_append, List.nil_append, List.append_nil, List.length_cons, List.length_nil, List.replicate_succ, List.replicate_zero, Nat.reduceAdd, Nat.reduceSub, List.getElem?_cons_zero, List.getElem?_cons_succ, List.set_cons_zero, List.set_cons_succ, Nat.zero_add, Nat.add_zero, Nat.sub_self, x_add, x_sub, x_mulL, x_mulR, x_div, x_mod, x_lt, x_le, x_gt, x_ge, x_eq, x_ne, x_fro, x_step, x_first, x_last, x_on, x_l0, x_l1, x_l2, x_l3, x_l4, x_t0, x_t1, x_t2, x_t3, x_t4, x_intB, x_intI, x_max2, x_min2, x_lenL, x_lenT, x_sz, x_rs, x_rw, x_rf, x_ra, x_rl, x_slot, x_slotD, true_and, and_true, eq_self, decide_eq_true_eq, Bool.not_eq_true', decide_eq_false_iff_not, res_ok, res_er, x_rng1, x_rng1D, x_rng2, x_rng2E, x_rng2D, z_s, z_w, z_f, z_a, z_l, Bool.and_eq_true, if_true, if_false, Bool.false_eq_true, reduceCtorEq, decide_true, decide_false, Bool.not_true, Bool.not_false, Bool.true_eq_false, not_true_eq_false, not_false_eq_true, x_dF00 l, x_dF10 l, x_dF20 l, y_thing_at, y_person_of]
    exact ⟨_, _, rfl, q⟩
theorem law_Dealing_lots (K : PySem.W.Frag) (g : Dlg) (ds : List D) (Q : D → List V → List D → Prop) (R : Exc → List V → List D → Prop) (h : FM_Dealing_lots K g ds Q R) : Dg.dDefM 1 (g_Dealing_lots K) g ds Q R := by
  obtain ⟨r, m, n, past, p, l, rfl, q⟩ := h
  unfold Dg.dDefM g_Dealing_lots
  simp (maxSteps := 10000000) (disch := first | assumption | omega) only [dDef, dRet, dRetL, dSeq, dIfS, dTst, dNotB, dAndB, dOrB, dAndV, dOrV, dNotV, dNeg, dIf, dCB, dCBL, dCons, dNil, dStar, dVar, dC, dCall, dOp, dOpL, dTup, dLst, dL, dSet, dAsg, dPar, dOwn, dExpr, dNx, dFor, dItL, dItT, dProp, dMeth, dMk, dMk0, dRaise, dPart, dNoPart, dSlL, dSlT, dRevL, dgName, dgTup, dgSets, dOwnIx, dOwnLen, dOwnTup, dApp, dSetI, dRel, relE, dItZip, dItTab, dItEnK, dItEn, dIsS, dJoinG, dSplit, dFmt, dJs, dIsT2, dIndex, dCallS, dYes, wipeE, dXf, dIsX, List.map_cons, List.map_nil, List.cons_append, List.nil_append, List.append_nil, List.length_cons, List.length_nil, List.replicate_succ, List.replicate_zero, Nat.reduceAdd, Nat.reduceSub, List.getElem?_cons_zero, List.getElem?_cons_succ, List.set_cons_zero, List.set_cons_succ, Nat.zero_add, Nat.add_zero, Nat.sub_self, x_add, x_sub, x_mulL, x_mulR, x_div, x_mod, x_lt, x_le, x_gt, x_ge, x_eq, x_ne, x_fro, x_step, x_first, x_last, x_on, x_l0, x_l1, x_l2, x_l3, x_l4, x_t0, x_t1, x_t2, x_t3, x_t4, x_intB, x_intI, x_max2, x_min2, x_lenL, x_lenT, x_sz, x_rs, x_rw, x_rf, x_ra, x_rl, x_slot, x_slotD, true_and, and_true, eq_self, decide_eq_true_eq, Bool.not_eq_true', decide_eq_false_iff_not, res_ok, res_er, x_rng1, x_rng1D, x_rng2, x_rng2E, x_rng2D, z_s, z_w, z_f, z_a, z_l, Bool.and_eq_true, if_true, if_false, Bool.false_eq_true, reduceCtorEq, decide_true, decide_false, Bool.not_true, Bool.not_false, Bool.true_eq_false, not_true_eq_false, not_false_eq_true, x_top0 l]
  exact ⟨_, _, rfl, q⟩
theorem law_Dealing_left (K : PySem.W.Frag) (g : Dlg) (ds : List D) (Q : D → List V → List D → Prop) (R : Exc → List V → List D → Prop) (h : FM_Dealing_left K g ds Q R) : Dg.dDefM 1 (g_Dealing_left K) g ds Q R := by
  obtain ⟨r, m, n, past, p, l, rfl, q⟩ := h
  have hm := l.hm
  unfold Dg.dDefM g_Dealing_left
  simp (maxSteps := 10000000) (disch := first | assumption | omega) only [dDef, dRet, dRetL, dSeq, dIfS, dTst, dNotB, dAndB, dOrB, dAndV, dOrV, dNotV, dNeg, dIf, dCB, dCBL, dCons, dNil, dStar, dVar, dC, dCall, dOp, dOpL, dTup, dLst, dL, dSet, dAsg, dPar, dOwn, dExpr, dNx, dFor, dItL, dItT, dProp, dMeth, dMk, dMk0, dRaise, dPart, dNoPart, dSlL, dSlT, dRevL, dgName, dgTup, dgSets, dOwnIx, dOwnLen, dOwnTup, dApp, dSetI, dRel, relE, dItZip, dItTab, dItEnK, dItEn, dIsS, dJoinG, dSplit, dFmt, dJs, dIsT2, dIndex, dCallS, dYes, wipeE, dXf, dIsX, List.map_cons, List.map_nil, List.cons_append, List.nil_append, List.append_nil, List.length_cons, List.length_nil, List.replicate_succ, List.replicate_zero, Nat.reduceAdd, Nat.reduceSub, List.getElem?_cons_zero, List.getElem?_cons_succ, List.set_cons_zero, List.set_cons_succ, Nat.zero_add, Nat.add_zero, Nat.sub_self, x_add, x_sub, x_mulL, x_mulR, x_div, x_mod, x_lt, x_le, x_gt, x_ge, x_eq, x_ne, x_fro, x_step, x_first, x_last, x_on, x_l0, x_l1, x_l2, x_l3, x_l4, x_t0, x_t1, x_t2, x_t3, x_t4, x_intB, x_intI, x_max2, x_min2, x_lenL, x_lenT, x_sz, x_rs, x_rw, x_rf, x_ra, x_rl, x_slot, x_slotD, true_and, and_true, eq_self, decide_eq_true_eq, Bool.not_eq_true', decide_eq_false_iff_not, res_ok, res_er, x_rng1, x_rng1D, x_rng2, x_rng2E, x_rng2D, z_s, z_w, z_f, z_a, z_l, Bool.and_eq_true, if_true, if_false, Bool.false_eq_true, reduceCtorEq, decide_true, decide_false, Bool.not_true, Bool.not_false, Bool.true_eq_false, not_true_eq_false, not_false_eq_true, x_top0 l, x_sumSt hm, x_dF20 l]
  exact ⟨_, _, rfl, q⟩
theorem law_Dealing_coming (K : PySem.W.Frag) (g : Dlg) (ds : List D) (Q : D → List V → List D → Prop) (R : Exc → List V → List D → Prop) (h : FM_Dealing_coming K g ds Q R) : Dg.dDefM 1 (g_Dealing_coming K) g ds Q R := by
  obtain ⟨r, m, n, past, p, l, rfl, q⟩ := h
  unfold Dg.dDefM g_Dealing_coming
  show _ ∧ FM_next_of K g [] _ _
  exact ⟨rfl, r, m, n, past, p, l, rfl, rfl, _, _, rfl, q⟩
theorem law_DealingU_lenU (K : PySem.W.Frag) (g : Dlg) (ds : List D) (Q : D → List V → List D → Prop) (R : Exc → List V → List D → Prop) (h : FM_DealingU_lenU K g ds Q R) : Dg.dDefM 1 (g_DealingU_lenU K) g ds Q R := by
  obtain ⟨r, m, n, past, p, l, rfl, q⟩ := h
  unfold Dg.dDefM g_DealingU_lenU
  have e : (cutD g.sts (some 1) none).length = past.length := by
    have h1 : 1 ≤ g.sts.length := by rw [l.st]; simp
    rw [show (1 : Int) = ((1 : Nat) : Int) from rfl, cutD_hi h1, List.length_drop, l.st]
    simp
  simp (maxSteps := 10000000) (disch := first | assumption | omega) only [dDef, dRet, dRetL, dSeq, dIfS, dTst, dNotB, dAndB, dOrB, dAndV, dOrV, dNotV, dNeg, dIf, dCB, dCBL, dCons, dNil, dStar, dVar, dC, dCall, dOp, dOpL, dTup, dLst, dL, dSet, dAsg, dPar, dOwn, dExpr, dNx, dFor, dItL, dItT, dProp, dMeth, dMk, dMk0, dRaise, dPart, dNoPart, dSlL, dSlT, dRevL, dgName, dgTup, dgSets, dOwnIx, dOwnLen, dOwnTup, dApp, dSetI, dRel, relE, dItZip, dItTab, dItEnK, dItEn, dIsS, dJoinG, dSplit, dFmt, dJs, dIsT2, dIndex, dCallS, dYes, wipeE, dXf, dIsX, List.map_cons, List.map_nil, List.cons_append, List.nil_append, List.append_nil, List.length_cons, List.length_nil, List.replicate_succ, List.replicate_zero, Nat.reduceAdd, Nat.reduceSub, List.getElem?_cons_zero, List.getElem?_cons_succ, List.set_cons_zero, List.set_cons_succ, Nat.zero_add, Nat.add_zero, Nat.sub_self, x_add, x_sub, x_mulL, x_mulR, x_div, x_mod, x_lt, x_le, x_gt, x_ge, x_eq, x_ne, x_fro, x_step, x_first, x_last, x_on, x_l0, x_l1, x_l2, x_l3, x_l4, x_t0, x_t1, x_t2, x_t3, x_t4, x_intB, x_intI, x_max2, x_min2, x_lenL, x_lenT, x_sz, x_rs, x_rw, x_rf, x_ra, x_rl, x_slot, x_slotD, true_and, and_true, eq_self, decide_eq_true_eq, Bool.not_eq_true', decide_eq_false_iff_not, res_ok, res_er, x_rng1, x_rng1D, x_rng2, x_rng2E, x_rng2D, z_s, z_w, z_f, z_a, z_l, Bool.and_eq_true, if_true, if_false, Bool.false_eq_true, reduceCtorEq, decide_true, decide_false, Bool.not_true, Bool.not_false, Bool.true_eq_false, not_true_eq_false, not_false_eq_true, Dg.dDSl]
  refine ⟨l.c, ?_⟩
  rw [e]
  exact ⟨_, _, rfl, q⟩
theorem law_Dealing_undo (K : PySem.W.Frag) (g : Dlg) (ds : List D) (Q : D → List V → List D → Prop) (R : Exc → List V → List D → Prop) (h : FM_Dealing_undo K g ds Q R) : Dg.dDefM 1 (g_Dealing_undo K) g ds Q R := by
  obtain ⟨r, m, n, past, p, l, rfl, q⟩ := h
  unfold Dg.dDefM g_Dealing_undo
  have e : g.sts.length = past.length + 1 := by rw [l.st]; simp
  simp (maxSteps := 10000000) (disch := first | assumption | omega) only [dDef, dRet, dRetL, dSeq, dIfS, dTst, dNotB, dAndB, dOrB, dAndV, dOrV, dNotV, dNeg, dIf, dCB, dCBL, dCons, dNil, dStar, dVar, dC, dCall, dOp, dOpL, dTup, dLst, dL, dSet, dAsg, dPar, dOwn, dExpr, dNx, dFor, dItL, dItT, dProp, dMeth, dMk, dMk0, dRaise, dPart, dNoPart, dSlL, dSlT, dRevL, dgName, dgTup, dgSets, dOwnIx, dOwnLen, dOwnTup, dApp, dSetI, dRel, relE, dItZip, dItTab, dItEnK, dItEn, dIsS, dJoinG, dSplit, dFmt, dJs, dIsT2, dIndex, dCallS, dYes, wipeE, dXf, dIsX, List.map_cons, List.map_nil, List.cons_append, List.nil_append, List.append_nil, List.length_cons, List.length_nil, List.replicate_succ, List.replicate_zero, Nat.reduceAdd, Nat.reduceSub, List.getElem?_cons_zero, List.getElem?_cons_succ, List.set_cons_zero, List.set_cons_succ, Nat.zero_add, Nat.add_zero, Nat.sub_self, x_add, x_sub, x_mulL, x_mulR, x_div, x_mod, x_lt, x_le, x_gt, x_ge, x_eq, x_ne, x_fro, x_step, x_first, x_last, x_on, x_l0, x_l1, x_l2, x_l3, x_l4, x_t0, x_t1, x_t2, x_t3, x_t4, x_intB, x_intI, x_max2, x_min2, x_lenL, x_lenT, x_sz, x_rs, x_rw, x_rf, x_ra, x_rl, x_slot, x_slotD, true_and, and_true, eq_self, decide_eq_true_eq, Bool.not_eq_true', decide_eq_false_iff_not, res_ok, res_er, x_rng1, x_rng1D, x_rng2, x_rng2E, x_rng2D, z_s, z_w, z_f, z_a, z_l, Bool.and_eq_true, if_true, if_false, Bool.false_eq_true, reduceCtorEq, decide_true, decide_false, Bool.not_true, Bool.not_false, Bool.true_eq_false, not_true_eq_false, not_false_eq_true, Dg.dDLen, Dg.dDPop]
  refine ⟨l.c, ?_⟩
  by_cases c : past = []
  · rw [if_pos c] at q
    rw [if_pos (by rw [e, c]; rfl)]
    exact ⟨_, _, rfl, q⟩
  · rw [if_neg c] at q
    have h2 : past.length ≠ 0 := fun z => c (List.length_eq_zero_iff.mp z)
    rw [if_neg (by rw [e]; omega)]
    exact ⟨l.c, fun z => by rw [z] at e; simp at e, _, _, rfl, q⟩
theorem law_Dealing_give (K : PySem.W.Frag) (g : Dlg) (ds : List D) (Q : D → List V → List D → Prop) (R : Exc → List V → List D → Prop) (h : FM_Dealing_give K g ds Q R) : Dg.dDefM 8 (g_Dealing_give K) g ds Q R := by
  obtain ⟨r, m, n, past, p, l, h⟩ := h
  have hr := l.hr; have hm := l.hm; have hn := l.hn; have hp := l.hp
  unfold Dg.dDefM g_Dealing_give
  rcases h with ⟨x, rfl, hx, hi, q⟩ | ⟨i, rfl, h1, h2, q⟩ | ⟨i, rfl, h1, h2, q⟩
  · simp (maxSteps := 10000000) (disch := first | assumption | omega) only [dDef, dRet, dRetL, dSeq, dIfS, dTst, dNotB, dAndB, dOrB, dAndV, dOrV, dNotV, dNeg, dIf, dCB, dCBL, dCons, dNil, dStar, dVar, dC, dCall, dOp, dOpL, dTup, dLst, dL, dSet, dAsg, dPar, dOwn, dExpr, dNx, dFor, dItL, dItT, dProp, dMeth, dMk, dMk0, dRaise, dPart, dNoPart, dSlL, dSlT, dRevL, dgName, dgTup, dgSets, dOwnIx, dOwnLen, dOwnTup, dApp, dSetI, dRel, relE, dItZip, dItTab, dItEnK, dItEn, dIsS, dJoinG, dSplit, dFmt, dJs, dIsT2, dIndex, dCallS, dYes, wipeE, dXf, dIsX, List.map_cons, List.map_nil, List.cons_append, List.nil_append, List.append_nil, List.length_cons, List.length_nil, List.replicate_succ, List.replicate_zero, Nat.reduceAdd, Nat.reduceSub, List.getElem?_cons_zero, List.getElem?_cons_succ, List.set_cons_zero, List.set_cons_succ, Nat.zero_add, Nat.add_zero, Nat.sub_self, x_add, x_sub, x_mulL, x_mulR, x_div, x_mod, x_lt, x_le, x_gt, x_ge, x_eq, x_ne, x_fro, x_step, x_first, x_last, x_on, x_l0, x_l1, x_l2, x_l3, x_l4, x_t0, x_t1, x_t2, x_t3, x_t4, x_intB, x_intI, x_max2, x_min2, x_lenL, x_lenT, x_sz, x_rs, x_rw, x_rf, x_ra, x_rl, x_slot, x_slotD, true_and, and_true, eq_self, decide_eq_true_eq, Bool.not_eq_true', decide_eq_false_iff_not, res_ok, res_er, x_rng1, x_rng1D, x_rng2, x_rng2E, x_rng2D, z_s, z_w, z_f, z_a, z_l, Bool.and_eq_true, if_true, if_false, Bool.false_eq_true, reduceCtorEq, decide_true, decide_false, Bool.not_true, Bool.not_false, Bool.true_eq_false, not_true_eq_false, not_false_eq_true, y_integer, hi]
    exact ⟨_, _, rfl, q⟩
  · have hi : isInt (.int (i : Int)) 1 = true := by unfold isInt; simp; omega
    have hd : isD (.int (i : Int)) = true := rfl
    simp (maxSteps := 10000000) (disch := first | assumption | omega) only [dDef, dRet, dRetL, dSeq, dIfS, dTst, dNotB, dAndB, dOrB, dAndV, dOrV, dNotV, dNeg, dIf, dCB, dCBL, dCons, dNil, dStar, dVar, dC, dCall, dOp, dOpL, dTup, dLst, dL, dSet, dAsg, dPar, dOwn, dExpr, dNx, dFor, dItL, dItT, dProp, dMeth, dMk, dMk0, dRaise, dPart, dNoPart, dSlL, dSlT, dRevL, dgName, dgTup, dgSets, dOwnIx, dOwnLen, dOwnTup, dApp, dSetI, dRel, relE, dItZip, dItTab, dItEnK, dItEn, dIsS, dJoinG, dSplit, dFmt, dJs, dIsT2, dIndex, dCallS, dYes, wipeE, dXf, dIsX, List.map_cons, List.map_nil, List.cons_append, List.nil_append, List.append_nil, List.length_cons, List.length_nil, List.replicate_succ, List.replicate_zero, Nat.reduceAdd, Nat.reduceSub, List.getElem?_cons_zero, List.getElem?_cons_succ, List.set_cons_zero, List.set_cons_succ, Nat.zero_add, Nat.add_zero, Nat.sub_self, x_add, x_sub, x_mulL, x_mulR, x_div, x_mod, x_lt, x_le, x_gt, x_ge, x_eq, x_ne, x_fro, x_step, x_first, x_last, x_on, x_l0, x_l1, x_l2, x_l3, x_l4, x_t0, x_t1, x_t2, x_t3, x_t4, x_intB, x_intI, x_max2, x_min2, x_lenL, x_lenT, x_sz, x_rs, x_rw, x_rf, x_ra, x_rl, x_slot, x_slotD, true_and, and_true, eq_self, decide_eq_true_eq, Bool.not_eq_true', decide_eq_false_iff_not, res_ok, res_er, x_rng1, x_rng1D, x_rng2, x_rng2E, x_rng2D, z_s, z_w, z_f, z_a, z_l, Bool.and_eq_true, if_true, if_false, Bool.false_eq_true, reduceCtorEq, decide_true, decide_false, Bool.not_true, Bool.not_false, Bool.true_eq_false, not_true_eq_false, not_false_eq_true, y_integer, hi, x_top0 l, x_sumSt hm, x_dF20 l]
    rw [if_pos (by omega)]
    exact ⟨_, _, rfl, q⟩
  · have hi : isInt (.int (i : Int)) 1 = true := by unfold isInt; simp; omega
    have hd : isD (.int (i : Int)) = true := rfl
    refine seqE [.dlg g, .val (.int i), .un, .un, .un, .un, .un, .un] (fun N hN => ?_) ?_
    · simp (maxSteps := 10000000) (disch := first | assumption | omega) only [dDef, dRet, dRetL, dSeq, dIfS, dTst, dNotB, dAndB, dOrB, dAndV, dOrV, dNotV, dNeg, dIf, dCB, dCBL, dCons, dNil, dStar, dVar, dC, dCall, dOp, dOpL, dTup, dLst, dL, dSet, dAsg, dPar, dOwn, dExpr, dNx, dFor, dItL, dItT, dProp, dMeth, dMk, dMk0, dRaise, dPart, dNoPart, dSlL, dSlT, dRevL, dgName, dgTup, dgSets, dOwnIx, dOwnLen, dOwnTup, dApp, dSetI, dRel, relE, dItZip, dItTab, dItEnK, dItEn, dIsS, dJoinG, dSplit, dFmt, dJs, dIsT2, dIndex, dCallS, dYes, wipeE, dXf, dIsX, List.map_cons, List.map_nil, List.cons_append, List.nil_append, List.append_nil, List.length_cons, List.length_nil, List.replicate_succ, List.replicate_zero, Nat.reduceAdd, Nat.reduceSub, List.getElem?_cons_zero, List.getElem?_cons_succ, List.set_cons_zero, List.set_cons_succ, Nat.zero_add, Nat.add_zero, Nat.sub_self, x_add, x_sub, x_mulL, x_mulR, x_div, x_mod, x_lt, x_le, x_gt, x_ge, x_eq, x_ne, x_fro, x_step, x_first, x_last, x_on, x_l0, x_l1, x_l2, x_l3, x_l4, x_t0, x_t1, x_t2, x_t3, x_t4, x_intB, x_intI, x_max2, x_min2, x_lenL, x_lenT, x_sz, x_rs, x_rw, x_rf, x_ra, x_rl, x_slot, x_slotD, true_and, and_true, eq_self, decide_eq_true_eq, Bool.not_eq_true', decide_eq_false_iff_not, res_ok, res_er, x_rng1, x_rng1D, x_rng2, x_rng2E, x_rng2D, z_s, z_w, z_f, z_a, z_l, Bool.and_eq_true, if_true, if_false, Bool.false_eq_true, reduceCtorEq, decide_true, decide_false, Bool.not_true, Bool.not_false, Bool.true_eq_false, not_true_eq_false, not_false_eq_true, y_integer, hi]
      exact hN
    refine seqE [.dlg g, .val (.int i), .val (.int p), .un, .un, .un, .un, .un] (fun N hN => ?_) ?_
    · simp (maxSteps := 10000000) (disch := first | assumption | omega) only [dDef, dRet, dRetL, dSeq, dIfS, dTst, dNotB, dAndB, dOrB, dAndV, dOrV, dNotV, dNeg, dIf, dCB, dCBL, dCons, dNil, dStar, dVar, dC, dCall, dOp, dOpL, dTup, dLst, dL, dSet, dAsg, dPar, dOwn, dExpr, dNx, dFor, dItL, dItT, dProp, dMeth, dMk, dMk0, dRaise, dPart, dNoPart, dSlL, dSlT, dRevL, dgName, dgTup, dgSets, dOwnIx, dOwnLen, dOwnTup, dApp, dSetI, dRel, relE, dItZip, dItTab, dItEnK, dItEn, dIsS, dJoinG, dSplit, dFmt, dJs, dIsT2, dIndex, dCallS, dYes, wipeE, dXf, dIsX, List.map_cons, List.map_nil, List.cons_append, List.nil_append, List.append_nil, List.length_cons, List.length_nil, List.replicate_succ, List.replicate_zero, Nat.reduceAdd, Nat.reduceSub, List.getElem?_cons_zero, List.getElem?_cons_succ, List.set_cons_zero, List.set_cons_succ, Nat.zero_add, Nat.add_zero, Nat.sub_self, x_add, x_sub, x_mulL, x_mulR, x_div, x_mod, x_lt, x_le, x_gt, x_ge, x_eq, x_ne, x_fro, x_step, x_first, x_last, x_on, x_l0, x_l1, x_l2, x_l3, x_l4, x_t0, x_t1, x_t2, x_t3, x_t4, x_intB, x_intI, x_max2, x_min2, x_lenL, x_lenT, x_sz, x_rs, x_rw, x_rf, x_ra, x_rl, x_slot, x_slotD, true_and, and_true, eq_self, decide_eq_true_eq, Bool.not_eq_true', decide_eq_false_iff_not, res_ok, res_er, x_rng1, x_rng1D, x_rng2, x_rng2E, x_rng2D, z_s, z_w, z_f, z_a, z_l, Bool.and_eq_true, if_true, if_false, Bool.false_eq_true, reduceCtorEq, decide_true, decide_false, Bool.not_true, Bool.not_false, Bool.true_eq_false, not_true_eq_false, not_false_eq_true, x_top0 l, x_sumSt hm]
      exact hN
    refine seqE [.dlg g, .val (.int i), .val (.int p), .un, .un, .un, .un, .un] (fun N hN => ?_) ?_
    · simp (maxSteps := 10000000) (disch := first | assumption | omega) only [dDef, dRet, dRetL, dSeq, dIfS, dTst, dNotB, dAndB, dOrB, dAndV, dOrV, dNotV, dNeg, dIf, dCB, dCBL, dCons, dNil, dStar, dVar, dC, dCall, dOp, dOpL, dTup, dLst, dL, dSet, dAsg, dPar, dOwn, dExpr, dNx, dFor, dItL, dItT, dProp, dMeth, dMk, dMk0, dRaise, dPart, dNoPart, dSlL, dSlT, dRevL, dgName, dgTup, dgSets, dOwnIx, dOwnLen, dOwnTup, dApp, dSetI, dRel, relE, dItZip, dItTab, dItEnK, dItEn, dIsS, dJoinG, dSplit, dFmt, dJs, dIsT2, dIndex, dCallS, dYes, wipeE, dXf, dIsX, List.map_cons, List.map_nil, List.cons_append, List.nil_append, List.append_nil, List.length_cons, List.length_nil, List.replicate_succ, List.replicate_zero, Nat.reduceAdd, Nat.reduceSub, List.getElem?_cons_zero, List.getElem?_cons_succ, List.set_cons_zero, List.set_cons_succ, Nat.zero_add, Nat.add_zero, Nat.sub_self, x_add, x_sub, x_mulL, x_mulR, x_div, x_mod, x_lt, x_le, x_gt, x_ge, x_eq, x_ne, x_fro, x_step, x_first, x_last, x_on, x_l0, x_l1, x_l2, x_l3, x_l4, x_t0, x_t1, x_t2, x_t3, x_t4, x_intB, x_intI, x_max2, x_min2, x_lenL, x_lenT, x_sz, x_rs, x_rw, x_rf, x_ra, x_rl, x_slot, x_slotD, true_and, and_true, eq_self, decide_eq_true_eq, Bool.not_eq_true', decide_eq_false_iff_not, res_ok, res_er, x_rng1, x_rng1D, x_rng2, x_rng2E, x_rng2D, z_s, z_w, z_f, z_a, z_l, Bool.and_eq_true, if_true, if_false, Bool.false_eq_true, reduceCtorEq, decide_true, decide_false, Bool.not_true, Bool.not_false, Bool.true_eq_false, not_true_eq_false, not_false_eq_true, x_dF20 l]
      rw [if_neg (by omega)]
      exact hN
    refine seqE [.dlg g, .val (.int i), .val (.int p), .val (il (rangeL p ((p : Int) + i))), .un, .un, .un, .un] (fun N hN => ?_) ?_
    · simp (maxSteps := 10000000) (disch := first | assumption | omega) only [dDef, dRet, dRetL, dSeq, dIfS, dTst, dNotB, dAndB, dOrB, dAndV, dOrV, dNotV, dNeg, dIf, dCB, dCBL, dCons, dNil, dStar, dVar, dC, dCall, dOp, dOpL, dTup, dLst, dL, dSet, dAsg, dPar, dOwn, dExpr, dNx, dFor, dItL, dItT, dProp, dMeth, dMk, dMk0, dRaise, dPart, dNoPart, dSlL, dSlT, dRevL, dgName, dgTup, dgSets, dOwnIx, dOwnLen, dOwnTup, dApp, dSetI, dRel, relE, dItZip, dItTab, dItEnK, dItEn, dIsS, dJoinG, dSplit, dFmt, dJs, dIsT2, dIndex, dCallS, dYes, wipeE, dXf, dIsX, List.map_cons, List.map_nil, List.cons_append, List.nil_append, List.append_nil, List.length_cons, List.length_nil, List.replicate_succ, List.replicate_zero, Nat.reduceAdd, Nat.reduceSub, List.getElem?_cons_zero, List.getElem?_cons_succ, List.set_cons_zero, List.set_cons_succ, Nat.zero_add, Nat.add_zero, Nat.sub_self, x_add, x_sub, x_mulL, x_mulR, x_div, x_mod, x_lt, x_le, x_gt, x_ge, x_eq, x_ne, x_fro, x_step, x_first, x_last, x_on, x_l0, x_l1, x_l2, x_l3, x_l4, x_t0, x_t1, x_t2, x_t3, x_t4, x_intB, x_intI, x_max2, x_min2, x_lenL, x_lenT, x_sz, x_rs, x_rw, x_rf, x_ra, x_rl, x_slot, x_slotD, true_and, and_true, eq_self, decide_eq_true_eq, Bool.not_eq_true', decide_eq_false_iff_not, res_ok, res_er, x_rng1, x_rng1D, x_rng2, x_rng2E, x_rng2D, z_s, z_w, z_f, z_a, z_l, Bool.and_eq_true, if_true, if_false, Bool.false_eq_true, reduceCtorEq, decide_true, decide_false, Bool.not_true, Bool.not_false, Bool.true_eq_false, not_true_eq_false, not_false_eq_true, dListR2]
      rw [rgD_rangeL]
      refine ⟨by unfold RgOk; omega, ?_⟩
      exact hN
    have er : rangeL (p : Int) ((p : Int) + i) = (upto i).map fun k => (p : Int) + k := by
      unfold rangeL
      rw [show ((p : Int) + i - p).toNat = i by omega]
    refine seqE [.dlg g, .val (.int i), .val (.int p), .val (il (rangeL p ((p : Int) + i))), .val (il (persons r m n p i)), .un, .un, .un] (fun N hN => ?_) ?_
    · unfold il at hN ⊢
      simp (maxSteps := 10000000) (disch := first | assumption | omega) only [dDef, dRet, dRetL, dSeq, dIfS, dTst, dNotB, dAndB, dOrB, dAndV, dOrV, dNotV, dNeg, dIf, dCB, dCBL, dCons, dNil, dStar, dVar, dC, dCall, dOp, dOpL, dTup, dLst, dL, dSet, dAsg, dPar, dOwn, dExpr, dNx, dFor, dItL, dItT, dProp, dMeth, dMk, dMk0, dRaise, dPart, dNoPart, dSlL, dSlT, dRevL, dgName, dgTup, dgSets, dOwnIx, dOwnLen, dOwnTup, dApp, dSetI, dRel, relE, dItZip, dItTab, dItEnK, dItEn, dIsS, dJoinG, dSplit, dFmt, dJs, dIsT2, dIndex, dCallS, dYes, wipeE, dXf, dIsX, List.map_cons, List.map_nil, List.cons_append, List.nil_append, List.append_nil, List.length_cons, List.length_nil, List.replicate_succ, List.replicate_zero, Nat.reduceAdd, Nat.reduceSub, List.getElem?_cons_zero, List.getElem?_cons_succ, List.set_cons_zero, List.set_cons_succ, Nat.zero_add, Nat.add_zero, Nat.sub_self, x_add, x_sub, x_mulL, x_mulR, x_div, x_mod, x_lt, x_le, x_gt, x_ge, x_eq, x_ne, x_fro, x_step, x_first, x_last, x_on, x_l0, x_l1, x_l2, x_l3, x_l4, x_t0, x_t1, x_t2, x_t3, x_t4, x_intB, x_intI, x_max2, x_min2, x_lenL, x_lenT, x_sz, x_rs, x_rw, x_rf, x_ra, x_rl, x_slot, x_slotD, true_and, and_true, eq_self, decide_eq_true_eq, Bool.not_eq_true', decide_eq_false_iff_not, res_ok, res_er, x_rng1, x_rng1D, x_rng2, x_rng2E, x_rng2D, z_s, z_w, z_f, z_a, z_l, Bool.and_eq_true, if_true, if_false, Bool.false_eq_true, reduceCtorEq, decide_true, decide_false, Bool.not_true, Bool.not_false, Bool.true_eq_false, not_true_eq_false, not_false_eq_true, dLc]
      refine lc_map (xs := rangeL p ((p : Int) + i)) D.int (fun k => D.int (personOf r m n k)) rfl (Nat.le_trans (m := 1000) (by rw [er, List.length_map, upto_length]; omega) (by decide)) (fun x hx Q1 h => ?_) ?_
      · simp (maxSteps := 10000000) (disch := first | assumption | omega) only [dDef, dRet, dRetL, dSeq, dIfS, dTst, dNotB, dAndB, dOrB, dAndV, dOrV, dNotV, dNeg, dIf, dCB, dCBL, dCons, dNil, dStar, dVar, dC, dCall, dOp, dOpL, dTup, dLst, dL, dSet, dAsg, dPar, dOwn, dExpr, dNx, dFor, dItL, dItT, dProp, dMeth, dMk, dMk0, dRaise, dPart, dNoPart, dSlL, dSlT, dRevL, dgName, dgTup, dgSets, dOwnIx, dOwnLen, dOwnTup, dApp, dSetI, dRel, relE, dItZip, dItTab, dItEnK, dItEn, dIsS, dJoinG, dSplit, dFmt, dJs, dIsT2, dIndex, dCallS, dYes, wipeE, dXf, dIsX, List.map_cons, List.map_nil, List.cons_append, List.nil_append, List.append_nil, List.length_cons, List.length_nil, List.replicate_succ, List.replicate_zero, Nat.reduceAdd, Nat.reduceSub, List.getElem?_cons_zero, List.getElem?_cons_succ, List.set_cons_zero, List.set_cons_succ, Nat.zero_add, Nat.add_zero, Nat.sub_self, x_add, x_sub, x_mulL, x_mulR, x_div, x_mod, x_lt, x_le, x_gt, x_ge, x_eq, x_ne, x_fro, x_step, x_first, x_last, x_on, x_l0, x_l1, x_l2, x_l3, x_l4, x_t0, x_t1, x_t2, x_t3, x_t4, x_intB, x_intI, x_max2, x_min2, x_lenL, x_lenT, x_sz, x_rs, x_rw, x_rf, x_ra, x_rl, x_slot, x_slotD, true_and, and_true, eq_self, decide_eq_true_eq, Bool.not_eq_true', decide_eq_false_iff_not, res_ok, res_er, x_rng1, x_rng1D, x_rng2, x_rng2E, x_rng2D, z_s, z_w, z_f, z_a, z_l, Bool.and_eq_true, if_true, if_false, Bool.false_eq_true, reduceCtorEq, decide_true, decide_false, Bool.not_true, Bool.not_false, Bool.true_eq_false, not_true_eq_false, not_false_eq_true, x_dF00 l, x_dF10 l, x_dF20 l, y_person_of]
        exact h
      · have e9 : ((rangeL p ((p : Int) + i)).map fun k => D.int (personOf r m n k)) = (persons r m n p i).map D.int := by
          rw [er, List.map_map]
          unfold persons
          rw [List.map_map]
          rfl
        rw [e9]
        exact hN
    refine seqE [.dlg g, .val (.int i), .val (.int p), .val (il (rangeL p ((p : Int) + i))), .val (il (persons r m n p i)), .un, .own ((rowAt r m n p).map .int), .un] (fun N hN => ?_) ?_
    · show dOwn 6 _ _ _
      unfold dOwn
      simp (maxSteps := 10000000) (disch := first | assumption | omega) only [dDef, dRet, dRetL, dSeq, dIfS, dTst, dNotB, dAndB, dOrB, dAndV, dOrV, dNotV, dNeg, dIf, dCB, dCBL, dCons, dNil, dStar, dVar, dC, dCall, dOp, dOpL, dTup, dLst, dL, dSet, dAsg, dPar, dOwn, dExpr, dNx, dFor, dItL, dItT, dProp, dMeth, dMk, dMk0, dRaise, dPart, dNoPart, dSlL, dSlT, dRevL, dgName, dgTup, dgSets, dOwnIx, dOwnLen, dOwnTup, dApp, dSetI, dRel, relE, dItZip, dItTab, dItEnK, dItEn, dIsS, dJoinG, dSplit, dFmt, dJs, dIsT2, dIndex, dCallS, dYes, wipeE, dXf, dIsX, List.map_cons, List.map_nil, List.cons_append, List.nil_append, List.append_nil, List.length_cons, List.length_nil, List.replicate_succ, List.replicate_zero, Nat.reduceAdd, Nat.reduceSub, List.getElem?_cons_zero, List.getElem?_cons_succ, List.set_cons_zero, List.set_cons_succ, Nat.zero_add, Nat.add_zero, Nat.sub_self, x_add, x_sub, x_mulL, x_mulR, x_div, x_mod, x_lt, x_le, x_gt, x_ge, x_eq, x_ne, x_fro, x_step, x_first, x_last, x_on, x_l0, x_l1, x_l2, x_l3, x_l4, x_t0, x_t1, x_t2, x_t3, x_t4, x_intB, x_intI, x_max2, x_min2, x_lenL, x_lenT, x_sz, x_rs, x_rw, x_rf, x_ra, x_rl, x_slot, x_slotD, true_and, and_true, eq_self, decide_eq_true_eq, Bool.not_eq_true', decide_eq_false_iff_not, res_ok, res_er, x_rng1, x_rng1D, x_rng2, x_rng2E, x_rng2D, z_s, z_w, z_f, z_a, z_l, Bool.and_eq_true, if_true, if_false, Bool.false_eq_true, reduceCtorEq, decide_true, decide_false, Bool.not_true, Bool.not_false, Bool.true_eq_false, not_true_eq_false, not_false_eq_true, x_top0 l]
      exact ⟨_, rfl, hN⟩
    generalize hspots : (D.lst ((rangeL p ((p : Int) + i)).map .int)) = spots
    have hil : il (rangeL p ((p : Int) + i)) = spots := hspots
    rw [hil]
    refine seqP (fun e => ∃ z : Slot, e = [.dlg g, .val (.int i), .val (.int p), .val spots, .val (il (persons r m n p i)), .un, .own ((rowAt r m n (p + i)).map .int), z]) (fun N hN => ?_) ?_
    · unfold il
      simp (maxSteps := 10000000) (disch := first | assumption | omega) only [dDef, dRet, dRetL, dSeq, dIfS, dTst, dNotB, dAndB, dOrB, dAndV, dOrV, dNotV, dNeg, dIf, dCB, dCBL, dCons, dNil, dStar, dVar, dC, dCall, dOp, dOpL, dTup, dLst, dL, dSet, dAsg, dPar, dOwn, dExpr, dNx, dFor, dItL, dItT, dProp, dMeth, dMk, dMk0, dRaise, dPart, dNoPart, dSlL, dSlT, dRevL, dgName, dgTup, dgSets, dOwnIx, dOwnLen, dOwnTup, dApp, dSetI, dRel, relE, dItZip, dItTab, dItEnK, dItEn, dIsS, dJoinG, dSplit, dFmt, dJs, dIsT2, dIndex, dCallS, dYes, wipeE, dXf, dIsX, List.map_cons, List.map_nil, List.cons_append, List.nil_append, List.append_nil, List.length_cons, List.length_nil, List.replicate_succ, List.replicate_zero, Nat.reduceAdd, Nat.reduceSub, List.getElem?_cons_zero, List.getElem?_cons_succ, List.set_cons_zero, List.set_cons_succ, Nat.zero_add, Nat.add_zero, Nat.sub_self, x_add, x_sub, x_mulL, x_mulR, x_div, x_mod, x_lt, x_le, x_gt, x_ge, x_eq, x_ne, x_fro, x_step, x_first, x_last, x_on, x_l0, x_l1, x_l2, x_l3, x_l4, x_t0, x_t1, x_t2, x_t3, x_t4, x_intB, x_intI, x_max2, x_min2, x_lenL, x_lenT, x_sz, x_rs, x_rw, x_rf, x_ra, x_rl, x_slot, x_slotD, true_and, and_true, eq_self, decide_eq_true_eq, Bool.not_eq_true', decide_eq_false_iff_not, res_ok, res_er, x_rng1, x_rng1D, x_rng2, x_rng2E, x_rng2D, z_s, z_w, z_f, z_a, z_l, Bool.and_eq_true, if_true, if_false, Bool.false_eq_true, reduceCtorEq, decide_true, decide_false, Bool.not_true, Bool.not_false, Bool.true_eq_false, not_true_eq_false, not_false_eq_true]
      refine for_list D.int (persons r m n p i) (fun pre e => ∃ z : Slot, e = [.dlg g, .val (.int i), .val (.int p), .val spots, .val (.lst ((persons r m n p i).map .int)), .un, .own ((rowAt r m n (p + pre.length)).map .int), z]) rfl ⟨_, rfl⟩ ?_ ?_
      · rintro pre x post hall e N ⟨z, rfl⟩ hN
        have hlen : (persons r m n p i).length = i := by unfold persons; rw [List.length_map, upto_length]
        have hl : pre.length < i := by rw [← hlen, hall]; simp
        have hx : x = personOf r m n ((p + pre.length : Nat) : Int) := by
          have h0 : (persons r m n p i)[pre.length]? = some x := by rw [hall]; simp
          unfold persons at h0
          rw [List.getElem?_map, upto_get hl] at h0
          rw [← Option.some.inj h0, Int.natCast_add]
        have rg : 0 ≤ personOf r m n ((p + pre.length : Nat) : Int) ∧ personOf r m n ((p + pre.length : Nat) : Int) < m := personAt_range hm
        subst hx
        simp (maxSteps := 10000000) (disch := first | assumption | omega) only [dDef, dRet, dRetL, dSeq, dIfS, dTst, dNotB, dAndB, dOrB, dAndV, dOrV, dNotV, dNeg, dIf, dCB, dCBL, dCons, dNil, dStar, dVar, dC, dCall, dOp, dOpL, dTup, dLst, dL, dSet, dAsg, dPar, dOwn, dExpr, dNx, dFor, dItL, dItT, dProp, dMeth, dMk, dMk0, dRaise, dPart, dNoPart, dSlL, dSlT, dRevL, dgName, dgTup, dgSets, dOwnIx, dOwnLen, dOwnTup, dApp, dSetI, dRel, relE, dItZip, dItTab, dItEnK, dItEn, dIsS, dJoinG, dSplit, dFmt, dJs, dIsT2, dIndex, dCallS, dYes, wipeE, dXf, dIsX, List.map_cons, List.map_nil, List.cons_append, List.nil_append, List.append_nil, List.length_cons, List.length_nil, List.replicate_succ, List.replicate_zero, Nat.reduceAdd, Nat.reduceSub, List.getElem?_cons_zero, List.getElem?_cons_succ, List.set_cons_zero, List.set_cons_succ, Nat.zero_add, Nat.add_zero, Nat.sub_self, x_add, x_sub, x_mulL, x_mulR, x_div, x_mod, x_lt, x_le, x_gt, x_ge, x_eq, x_ne, x_fro, x_step, x_first, x_last, x_on, x_l0, x_l1, x_l2, x_l3, x_l4, x_t0, x_t1, x_t2, x_t3, x_t4, x_intB, x_intI, x_max2, x_min2, x_lenL, x_lenT, x_sz, x_rs, x_rw, x_rf, x_ra, x_rl, x_slot, x_slotD, true_and, and_true, eq_self, decide_eq_true_eq, Bool.not_eq_true', decide_eq_false_iff_not, res_ok, res_er, x_rng1, x_rng1D, x_rng2, x_rng2E, x_rng2D, z_s, z_w, z_f, z_a, z_l, Bool.and_eq_true, if_true, if_false, Bool.false_eq_true, reduceCtorEq, decide_true, decide_false, Bool.not_true, Bool.not_false, Bool.true_eq_false, not_true_eq_false, not_false_eq_true, Dg.dAugI]
        refine ⟨_, cnt (fun k => personOf r m n k) (personOf r m n ((p + pre.length : Nat) : Int)) (p + pre.length), rfl, rg.1, ?_, _, rfl, ?_⟩
        · rw [List.getElem?_map, rowAt_get hm]; rfl
        · refine hN _ ⟨.val (.int (personOf r m n ((p + pre.length : Nat) : Int))), ?_⟩
          have e1 := rowAt_set (r := r) (m := m) (n := n) (p := p + pre.length) hm
          rw [List.length_append, List.length_singleton, ← Nat.add_assoc, ← e1, List.map_set]
      · rintro e ⟨z, rfl⟩
        have hlen : (persons r m n p i).length = i := by unfold persons; rw [List.length_map, upto_length]
        rw [hlen]
        exact hN _ ⟨z, rfl⟩
    rintro e ⟨z, rfl⟩
    simp (maxSteps := 10000000) (disch := first | assumption | omega) only [dDef, dRet, dRetL, dSeq, dIfS, dTst, dNotB, dAndB, dOrB, dAndV, dOrV, dNotV, dNeg, dIf, dCB, dCBL, dCons, dNil, dStar, dVar, dC, dCall, dOp, dOpL, dTup, dLst, dL, dSet, dAsg, dPar, dOwn, dExpr, dNx, dFor, dItL, dItT, dProp, dMeth, dMk, dMk0, dRaise, dPart, dNoPart, dSlL, dSlT, dRevL, dgName, dgTup, dgSets, dOwnIx, dOwnLen, dOwnTup, dApp, dSetI, dRel, relE, dItZip, dItTab, dItEnK, dItEn, dIsS, dJoinG, dSplit, dFmt, dJs, dIsT2, dIndex, dCallS, dYes, wipeE, dXf, dIsX, List.map_cons, List.map_nil, List.cons_append, List.nil_append, List.append_nil, List.length_cons, List.length_nil, List.replicate_succ, List.replicate_zero, Nat.reduceAdd, Nat.reduceSub, List.getElem?_cons_zero, List.getElem?_cons_succ, List.set_cons_zero, List.set_cons_succ, Nat.zero_add, Nat.add_zero, Nat.sub_self, x_add, x_sub, x_mulL, x_mulR, x_div, x_mod, x_lt, x_le, x_gt, x_ge, x_eq, x_ne, x_fro, x_step, x_first, x_last, x_on, x_l0, x_l1, x_l2, x_l3, x_l4, x_t0, x_t1, x_t2, x_t3, x_t4, x_intB, x_intI, x_max2, x_min2, x_lenL, x_lenT, x_sz, x_rs, x_rw, x_rf, x_ra, x_rl, x_slot, x_slotD, true_and, and_true, eq_self, decide_eq_true_eq, Bool.not_eq_true', decide_eq_false_iff_not, res_ok, res_er, x_rng1, x_rng1D, x_rng2, x_rng2E, x_rng2D, z_s, z_w, z_f, z_a, z_l, Bool.and_eq_true, if_true, if_false, Bool.false_eq_true, reduceCtorEq, decide_true, decide_false, Bool.not_true, Bool.not_false, Bool.true_eq_false, not_true_eq_false, not_false_eq_true, Dg.dDApp]
    have hl : g.sts.length < sizeLine := by
      have := l.hl
      rw [l.st, sizeLine_eq]
      simp
      omega
    exact ⟨l.c, hl, fun v => ⟨_, _, rfl, q v⟩⟩
end Pr

set_option maxHeartbeats 4000000
namespace K10
open PySem PySem.Spec PyProof.Rows L2 Dl Dv Dk Gx Pr Ma
structure ErC (K : PySem.W.Frag) : Prop where
  nn : PySem.W.exmOne K (.ref (He.ga K "InvalidNumber")) (.ref (He.ga K "InvalidNumber")) = some true
  dn : PySem.W.exmOne K (.ref (He.ga K "Done")) (.ref (He.ga K "InvalidNumber")) = some false
  dd : PySem.W.exmOne K (.ref (He.ga K "Done")) (.ref (He.ga K "Done")) = some true
  pp : PySem.W.exmOne K (.ref (He.ga K "InvalidPeople")) (.ref (He.ga K "InvalidPeople")) = some true
  tp : PySem.W.exmOne K (.ref (He.ga K "InvalidThings")) (.ref (He.ga K "InvalidPeople")) = some false
  tt : PySem.W.exmOne K (.ref (He.ga K "InvalidThings")) (.ref (He.ga K "InvalidThings")) = some true
def FM_l_done (K : PySem.W.Frag) : Dg.DFM := fun g ds Q R => ∃ r m n past p, Led K r m n past p g ∧ ((∃ x, ds = [x] ∧ isD x = true ∧ isInt x 1 = false ∧ Q (.str "number") g.vs g.sts) ∨
  (∃ i : Nat, ds = [.int i] ∧ 1 ≤ i ∧ n < p + i ∧ Q (.str "done") g.vs g.sts) ∨ ∃ i : Nat, ds = [.int i] ∧ 1 ≤ i ∧ p + i ≤ n ∧ ∀ v, Q (il (persons r m n p i)) (g.vs ++ [v]) (g.sts ++ [stD r m n (p + i)]))
def FM_l_stands (K : PySem.W.Frag) : Dg.DFM := fun g ds Q _ => ∃ r m n past p, Led K r m n past p g ∧ ds = [.int (m : Nat), .lst ((dealtL r m n).map prD), .int (p : Nat)] ∧ Q (.bl true) g.vs g.sts
def F_l_opened (K : PySem.W.Frag) : DF := fun ds Q _ => (∃ s x y, ds = [s, x, y] ∧ isD x = true ∧ isD y = true ∧ isIn x 2 12 = false ∧ Q (.str "people")) ∨ ∃ s x y, ds = [s, .int x, y] ∧ Mo x ∧ isD y = true ∧ isIn y 0 1000 = false ∧ Q (.str "things")
def g_l_done (K : PySem.W.Frag) : DG :=
  (dSeq (dSet 2 (dC .non))
  (dSeq (dTry K (Dg.dSetM 2 (Dg.dMethM (aD K) 0 1 (FM_Dealing_give K) (dCons (dVar 1) dNil))) [((He.ga K "InvalidNumber"), none, fun a cls d => (dSet 2 (dC (.str "number")))), ((He.ga K "Done"), none, fun a cls d => (dSet 2 (dC (.str "done"))))])
  (dRet (dVar 2))))
def g_l_opened (K : PySem.W.Frag) : DG :=
  (dSeq (dSet 3 (dC .non))
  (dSeq (dTry K (dExpr (Dg.dNewX (Dg.dNewF (F_Dealing K) (dCons (dVar 0) (dCons (dVar 1) (dCons (dVar 2) dNil)))))) [((He.ga K "InvalidPeople"), none, fun a cls d => (dSet 3 (dC (.str "people")))), ((He.ga K "InvalidThings"), none, fun a cls d => (dSet 3 (dC (.str "things"))))])
  (dRet (dVar 3))))
def g_l_stands (K : PySem.W.Frag) : DG :=
  (dSeq (dOwn 4 (dOpL gRepL (dL (dLst (dCons (dC (.int 0)) dNil))) (dVar 1)))
  (dSeq (dFor (dItL (dL (dSlL (dVar 2) dNoPart (dPart (dVar 3))))) (dgTup [5, 6]) (dSetI 4 (dOp gAddU (dOwnIx 4 (dVar 6)) (dC (.int 1))) (dVar 6)))
  (dSeq (dIfS (dOrB (dTst (dOp gNe (Dg.dPropR (aD K) 0 (FM_Dealing_lots K)) (dOwnTup 4))) (dTst (dOp gNe (Dg.dPropR (aD K) 0 (FM_Dealing_left K)) (dOp gSub (dCB gLen (dCons (dVar 2) dNil)) (dVar 3))))) (dRet (dC (.bl false))) dNx)
  (dRet (dOp gEq (Dg.dPropR (aD K) 0 (FM_Dealing_coming K)) (dIf (dTst (dOp gLt (dVar 3) (dCB gLen (dCons (dVar 2) dNil)))) (dOp gIx (dVar 2) (dVar 3)) (dC .non)))))))
theorem law_l_done (K : PySem.W.Frag) (g : Dlg) (ds : List D) (Q : D → List V → List D → Prop) (R : Exc → List V → List D → Prop) (h : ErC K ∧ FM_l_done K g ds Q R) : Dg.dDefM 3 (g_l_done K) g ds Q R := by
  obtain ⟨E, r, m, n, past, p, l, ⟨x, rfl, hx, hi, q⟩ | ⟨i, rfl, h1, h2, q⟩ | ⟨i, rfl, h1, h2, q⟩⟩ := h
  · unfold Dg.dDefM g_l_done dTry
    simp (maxSteps := 10000000) (disch := first | assumption | omega) only [dDef, dRet, dRetL, dSeq, dIfS, dTst, dNotB, dAndB, dOrB, dAndV, dOrV, dNotV, dNeg, dIf, dCB, dCBL, dCons, dNil, dStar, dVar, dC, dCall, dOp, dOpL, dTup, dLst, dL, dSet, dAsg, dPar, dOwn, dExpr, dNx, dFor, dItL, dItT, dProp, dMeth, dMk, dMk0, dRaise, dPart, dNoPart, dSlL, dSlT, dRevL, dgName, dgTup, dgSets, dOwnIx, dOwnLen, dOwnTup, dApp, dSetI, dRel, relE, dItZip, dItTab, dItEnK, dItEn, dIsS, dJoinG, dSplit, dFmt, dJs, dIsT2, dIndex, dCallS, dYes, wipeE, dXf, dIsX, List.map_cons, List.map_nil, List.cons_append, List.nil_append, List.append_nil, List.length_cons, List.length_nil, List.replicate_succ, List.replicate_zero, Nat.reduceAdd, Nat.reduceSub, List.getElem?_cons_zero, List.getElem?_cons_succ, List.set_cons_zero, List.set_cons_succ, Nat.zero_add, Nat.add_zero, Nat.sub_self, x_add, x_sub, x_mulL, x_mulR, x_div, x_mod, x_lt, x_le, x_gt, x_ge, x_eq, x_ne, x_fro, x_step, x_first, x_last, x_on, x_l0, x_l1, x_l2, x_l3, x_l4, x_t0, x_t1, x_t2, x_t3, x_t4, x_intB, x_intI, x_max2, x_min2, x_lenL, x_lenT, x_sz, x_rs, x_rw, x_rf, x_ra, x_rl, x_slot, x_slotD, true_and, and_true, eq_self, decide_eq_true_eq, Bool.not_eq_true', decide_eq_false_iff_not, res_ok, res_er, x_rng1, x_rng1D, x_rng2, x_rng2E, x_rng2D, z_s, z_w, z_f, z_a, z_l, Bool.and_eq_true, if_true, if_false, Bool.false_eq_true, reduceCtorEq, decide_true, decide_false, Bool.not_true, Bool.not_false, Bool.true_eq_false, not_true_eq_false, not_false_eq_true, Dg.dSetM, Dg.dMethM]
    refine ⟨l.c, r, m, n, past, p, l, .inl ⟨x, rfl, hx, hi, ⟨true, E.nn, fun _ _ _ => ?_, fun z => (nomatch z)⟩⟩⟩
    exact ⟨_, _, rfl, q⟩
  · unfold Dg.dDefM g_l_done dTry
    simp (maxSteps := 10000000) (disch := first | assumption | omega) only [dDef, dRet, dRetL, dSeq, dIfS, dTst, dNotB, dAndB, dOrB, dAndV, dOrV, dNotV, dNeg, dIf, dCB, dCBL, dCons, dNil, dStar, dVar, dC, dCall, dOp, dOpL, dTup, dLst, dL, dSet, dAsg, dPar, dOwn, dExpr, dNx, dFor, dItL, dItT, dProp, dMeth, dMk, dMk0, dRaise, dPart, dNoPart, dSlL, dSlT, dRevL, dgName, dgTup, dgSets, dOwnIx, dOwnLen, dOwnTup, dApp, dSetI, dRel, relE, dItZip, dItTab, dItEnK, dItEn, dIsS, dJoinG, dSplit, dFmt, dJs, dIsT2, dIndex, dCallS, dYes, wipeE, dXf, dIsX, List.map_cons, List.map_nil, List.cons_append, List.nil_append, List.append_nil, List.length_cons, List.length_nil, List.replicate_succ, List.replicate_zero, Nat.reduceAdd, Nat.reduceSub, List.getElem?_cons_zero, List.getElem?_cons_succ, List.set_cons_zero, List.set_cons_succ, Nat.zero_add, Nat.add_zero, Nat.sub_self, x_add, x_sub, x_mulL, x_mulR, x_div, x_mod, x_lt, x_le, x_gt, x_ge, x_eq, x_ne, x_fro, x_step, x_first, x_last, x_on, x_l0, x_l1, x_l2, x_l3, x_l4, x_t0, x_t1, x_t2, x_t3, x_t4, x_intB, x_intI, x_max2, x_min2, x_lenL, x_lenT, x_sz, x_rs, x_rw, x_rf, x_ra, x_rl, x_slot, x_slotD, true_and, and_true, eq_self, decide_eq_true_eq, Bool.not_eq_true', decide_eq_false_iff_not, res_ok, res_er, x_rng1, x_rng1D, x_rng2, x_rng2E, x_rng2D, z_s, z_w, z_f, z_a, z_l, Bool.and_eq_true, if_true, if_false, Bool.false_eq_true, reduceCtorEq, decide_true, decide_false, Bool.not_true, Bool.not_false, Bool.true_eq_false, not_true_eq_false, not_false_eq_true, Dg.dSetM, Dg.dMethM]
    refine ⟨l.c, r, m, n, past, p, l, .inr (.inl ⟨i, rfl, h1, h2, ⟨false, E.dn, fun z => (nomatch z), fun _ => ⟨true, E.dd, fun _ _ _ => ?_, fun z => (nomatch z)⟩⟩⟩)⟩
    exact ⟨_, _, rfl, q⟩
  · unfold Dg.dDefM g_l_done dTry
    simp (maxSteps := 10000000) (disch := first | assumption | omega) only [dDef, dRet, dRetL, dSeq, dIfS, dTst, dNotB, dAndB, dOrB, dAndV, dOrV, dNotV, dNeg, dIf, dCB, dCBL, dCons, dNil, dStar, dVar, dC, dCall, dOp, dOpL, dTup, dLst, dL, dSet, dAsg, dPar, dOwn, dExpr, dNx, dFor, dItL, dItT, dProp, dMeth, dMk, dMk0, dRaise, dPart, dNoPart, dSlL, dSlT, dRevL, dgName, dgTup, dgSets, dOwnIx, dOwnLen, dOwnTup, dApp, dSetI, dRel, relE, dItZip, dItTab, dItEnK, dItEn, dIsS, dJoinG, dSplit, dFmt, dJs, dIsT2, dIndex, dCallS, dYes, wipeE, dXf, dIsX, List.map_cons, List.map_nil, List.cons_append, List.nil_append, List.append_nil, List.length_cons, List.length_nil, List.replicate_succ, List.replicate_zero, Nat.reduceAdd, Nat.reduceSub, List.getElem?_cons_zero, List.getElem?_cons_succ, List.set_cons_zero, List.set_cons_succ, Nat.zero_add, Nat.add_zero, Nat.sub_self, x_add, x_sub, x_mulL, x_mulR, x_div, x_mod, x_lt, x_le, x_gt, x_ge, x_eq, x_ne, x_fro, x_step, x_first, x_last, x_on, x_l0, x_l1, x_l2, x_l3, x_l4, x_t0, x_t1, x_t2, x_t3, x_t4, x_intB, x_intI, x_max2, x_min2, x_lenL, x_lenT, x_sz, x_rs, x_rw, x_rf, x_ra, x_rl, x_slot, x_slotD, true_and, and_true, eq_self, decide_eq_true_eq, Bool.not_eq_true', decide_eq_false_iff_not, res_ok, res_er, x_rng1, x_rng1D, x_rng2, x_rng2E, x_rng2D, z_s, z_w, z_f, z_a, z_l, Bool.and_eq_true, if_true, if_false, Bool.false_eq_true, reduceCtorEq, decide_true, decide_false, Bool.not_true, Bool.not_false, Bool.true_eq_false, not_true_eq_false, not_false_eq_true, Dg.dSetM, Dg.dMethM]
    exact ⟨l.c, r, m, n, past, p, l, .inr (.inr ⟨i, rfl, h1, h2, fun v => ⟨_, _, rfl, q v⟩⟩)⟩
theorem law_l_opened (K : PySem.W.Frag) (ds : List D) (Q : D → Prop) (R : DX) (h : ErC K ∧ F_l_opened K ds Q R) : dDef 4 (g_l_opened K) ds Q R := by
  obtain ⟨E, ⟨s, x, y, rfl, h1, h2, h3, q⟩ | ⟨s, x, y, rfl, h1, h2, h3, q⟩⟩ := h
  · unfold g_l_opened dTry
    simp (maxSteps := 10000000) (disch := first | assumption | omega) only [dDef, dRet, dRetL, dSeq, dIfS, dTst, dNotB, dAndB, dOrB, dAndV, dOrV, dNotV, dNeg, dIf, dCB, dCBL, dCons, dNil, dStar, dVar, dC, dCall, dOp, dOpL, dTup, dLst, dL, dSet, dAsg, dPar, dOwn, dExpr, dNx, dFor, dItL, dItT, dProp, dMeth, dMk, dMk0, dRaise, dPart, dNoPart, dSlL, dSlT, dRevL, dgName, dgTup, dgSets, dOwnIx, dOwnLen, dOwnTup, dApp, dSetI, dRel, relE, dItZip, dItTab, dItEnK, dItEn, dIsS, dJoinG, dSplit, dFmt, dJs, dIsT2, dIndex, dCallS, dYes, wipeE, dXf, dIsX, List.map_cons, List.map_nil, List.cons_append, List.nil_append, List.append_nil, List.length_cons, List.length_nil, List.replicate_succ, List.replicate_zero, Nat.reduceAdd, Nat.reduceSub, List.getElem?_cons_zero, List.getElem?_cons_succ, List.set_cons_zero, List.set_cons_succ, Nat.zero_add, Nat.add_zero, Nat.sub_self, x_add, x_sub, x_mulL, x_mulR, x_div, x_mod, x_lt, x_le, x_gt, x_ge, x_eq, x_ne, x_fro, x_step, x_first, x_last, x_on, x_l0, x_l1, x_l2, x_l3, x_l4, x_t0, x_t1, x_t2, x_t3, x_t4, x_intB, x_intI, x_max2, x_min2, x_lenL, x_lenT, x_sz, x_rs, x_rw, x_rf, x_ra, x_rl, x_slot, x_slotD, true_and, and_true, eq_self, decide_eq_true_eq, Bool.not_eq_true', decide_eq_false_iff_not, res_ok, res_er, x_rng1, x_rng1D, x_rng2, x_rng2E, x_rng2D, z_s, z_w, z_f, z_a, z_l, Bool.and_eq_true, if_true, if_false, Bool.false_eq_true, reduceCtorEq, decide_true, decide_false, Bool.not_true, Bool.not_false, Bool.true_eq_false, not_true_eq_false, not_false_eq_true, Dg.dNewX, Dg.dNewF]
    refine ⟨s, x, y, rfl, h1, h2, ?_⟩
    unfold lookAt
    rw [h3, if_neg Bool.false_ne_true]
    exact ⟨true, E.pp, fun _ _ _ => q, fun z => (nomatch z)⟩
  · unfold g_l_opened dTry
    simp (maxSteps := 10000000) (disch := first | assumption | omega) only [dDef, dRet, dRetL, dSeq, dIfS, dTst, dNotB, dAndB, dOrB, dAndV, dOrV, dNotV, dNeg, dIf, dCB, dCBL, dCons, dNil, dStar, dVar, dC, dCall, dOp, dOpL, dTup, dLst, dL, dSet, dAsg, dPar, dOwn, dExpr, dNx, dFor, dItL, dItT, dProp, dMeth, dMk, dMk0, dRaise, dPart, dNoPart, dSlL, dSlT, dRevL, dgName, dgTup, dgSets, dOwnIx, dOwnLen, dOwnTup, dApp, dSetI, dRel, relE, dItZip, dItTab, dItEnK, dItEn, dIsS, dJoinG, dSplit, dFmt, dJs, dIsT2, dIndex, dCallS, dYes, wipeE, dXf, dIsX, List.map_cons, List.map_nil, List.cons_append, List.nil_append, List.append_nil, List.length_cons, List.length_nil, List.replicate_succ, List.replicate_zero, Nat.reduceAdd, Nat.reduceSub, List.getElem?_cons_zero, List.getElem?_cons_succ, List.set_cons_zero, List.set_cons_succ, Nat.zero_add, Nat.add_zero, Nat.sub_self, x_add, x_sub, x_mulL, x_mulR, x_div, x_mod, x_lt, x_le, x_gt, x_ge, x_eq, x_ne, x_fro, x_step, x_first, x_last, x_on, x_l0, x_l1, x_l2, x_l3, x_l4, x_t0, x_t1, x_t2, x_t3, x_t4, x_intB, x_intI, x_max2, x_min2, x_lenL, x_lenT, x_sz, x_rs, x_rw, x_rf, x_ra, x_rl, x_slot, x_slotD, true_and, and_true, eq_self, decide_eq_true_eq, Bool.not_eq_true', decide_eq_false_iff_not, res_ok, res_er, x_rng1, x_rng1D, x_rng2, x_rng2E, x_rng2D, z_s, z_w, z_f, z_a, z_l, Bool.and_eq_true, if_true, if_false, Bool.false_eq_true, reduceCtorEq, decide_true, decide_false, Bool.not_true, Bool.not_false, Bool.true_eq_false, not_true_eq_false, not_false_eq_true, Dg.dNewX, Dg.dNewF]
    refine ⟨s, .int x, y, rfl, rfl, h2, ?_⟩
    have h4 := h1.lo; have h5 := h1.hi
    unfold lookAt
    rw [isIn_i, if_pos (by simp; omega), h3, if_neg Bool.false_ne_true]
    exact ⟨false, E.tp, fun z => (nomatch z), fun _ => ⟨true, E.tt, fun _ _ _ => q, fun z => (nomatch z)⟩⟩
theorem dealt_len {r : Ru} {m : Int} {n : Nat} : (dealtL r m n).length = n := by unfold dealtL; rw [List.length_map, upto_length]
theorem rowAt_zero {r : Ru} {m n : Nat} : rowAt r m n 0 = List.replicate m 0 := by
  unfold rowAt
  refine List.eq_replicate_iff.mpr ⟨by rw [List.length_map, upto_length], fun b hb => ?_⟩
  obtain ⟨x, _, rfl⟩ := List.mem_map.mp hb
  rfl
theorem dat_stD {r : Ru} {m n p : Nat} : dat 9 (stD r m n p) = true := dat_tup fun d hd => by
  obtain ⟨x, _, rfl⟩ := List.mem_map.mp hd
  exact dat_int
theorem dat_comD {r : Ru} {m n p : Nat} : dat 9 (comD r m n p) = true := by unfold comD; split <;> rfl
theorem law_l_stands (K : PySem.W.Frag) (g : Dlg) (ds : List D) (Q : D → List V → List D → Prop) (R : Exc → List V → List D → Prop) (h : FM_l_stands K g ds Q R) : Dg.dDefM 7 (g_l_stands K) g ds Q R := by
  obtain ⟨r, m, n, past, p, l, rfl, q⟩ := h
  have hr := l.hr; have hm := l.hm; have hn := l.hn; have hp := l.hp
  have h1 := hm.lo; have h2 := hm.hi
  generalize hdl : (dealtL r m n).map prD = dl
  have hdlen : dl.length = n := by rw [← hdl, List.length_map, dealt_len]
  unfold Dg.dDefM g_l_stands
  refine seqE [.dlg g, .val (.int m), .val (.lst dl), .val (.int p), .own ((rowAt r m n 0).map .int), .un, .un] (fun N hN => ?_) ?_
  · show dOwn 4 _ _ _
    unfold dOwn
    simp (maxSteps := 10000000) (disch := first | assumption | omega) only [dDef, dRet, dRetL, dSeq, dIfS, dTst, dNotB, dAndB, dOrB, dAndV, dOrV, dNotV, dNeg, dIf, dCB, dCBL, dCons, dNil, dStar, dVar, dC, dCall, dOp, dOpL, dTup, dLst, dL, dSet, dAsg, dPar, dOwn, dExpr, dNx, dFor, dItL, dItT, dProp, dMeth, dMk, dMk0, dRaise, dPart, dNoPart, dSlL, dSlT, dRevL, dgName, dgTup, dgSets, dOwnIx, dOwnLen, dOwnTup, dApp, dSetI, dRel, relE, dItZip, dItTab, dItEnK, dItEn, dIsS, dJoinG, dSplit, dFmt, dJs, dIsT2, dIndex, dCallS, dYes, wipeE, dXf, dIsX, List.map_cons, List.map_nil, List.cons_append, List.nil_append, List.append_nil, List.length_cons, List.length_nil, List.replicate_succ, List.replicate_zero, Nat.reduceAdd, Nat.reduceSub, List.getElem?_cons_zero, List.getElem?_cons_succ, List.set_cons_zero, List.set_cons_succ, Nat.zero_add, Nat.add_zero, Nat.sub_self, x_add, x_sub, x_mulL, x_mulR, x_div, x_mod, x_lt, x_le, x_gt, x_ge, x_eq, x_ne, x_fro, x_step, x_first, x_last, x_on, x_l0, x_l1, x_l2, x_l3, x_l4, x_t0, x_t1, x_t2, x_t3, x_t4, x_intB, x_intI, x_max2, x_min2, x_lenL, x_lenT, x_sz, x_rs, x_rw, x_rf, x_ra, x_rl, x_slot, x_slotD, true_and, and_true, eq_self, decide_eq_true_eq, Bool.not_eq_true', decide_eq_false_iff_not, res_ok, res_er, x_rng1, x_rng1D, x_rng2, x_rng2E, x_rng2D, z_s, z_w, z_f, z_a, z_l, Bool.and_eq_true, if_true, if_false, Bool.false_eq_true, reduceCtorEq, decide_true, decide_false, Bool.not_true, Bool.not_false, Bool.true_eq_false, not_true_eq_false, not_false_eq_true]
    refine ⟨by omega, by omega, Nat.le_trans (m := 100) (by simp; omega) (by decide), ?_⟩
    have e : (List.replicate (m : Int).toNat [D.int 0]).flatten = (rowAt r m n 0).map .int := by
      rw [show ((m : Nat) : Int).toNat = m by omega, List.flatten_replicate_singleton, rowAt_zero, List.map_replicate]
    rw [e]
    exact hN
  refine seqP (fun e => ∃ a b : Slot, e = [.dlg g, .val (.int m), .val (.lst dl), .val (.int p), .own ((rowAt r m n p).map .int), a, b]) (fun N hN => ?_) ?_
  · simp (maxSteps := 10000000) (disch := first | assumption | omega) only [dDef, dRet, dRetL, dSeq, dIfS, dTst, dNotB, dAndB, dOrB, dAndV, dOrV, dNotV, dNeg, dIf, dCB, dCBL, dCons, dNil, dStar, dVar, dC, dCall, dOp, dOpL, dTup, dLst, dL, dSet, dAsg, dPar, dOwn, dExpr, dNx, dFor, dItL, dItT, dProp, dMeth, dMk, dMk0, dRaise, dPart, dNoPart, dSlL, dSlT, dRevL, dgName, dgTup, dgSets, dOwnIx, dOwnLen, dOwnTup, dApp, dSetI, dRel, relE, dItZip, dItTab, dItEnK, dItEn, dIsS, dJoinG, dSplit, dFmt, dJs, dIsT2, dIndex, dCallS, dYes, wipeE, dXf, dIsX, List.map_cons, List.map_nil, List.cons_append, List.nil_append, List.append_nil, List.length_cons, List.length_nil, List.replicate_succ, List.replicate_zero, Nat.reduceAdd, Nat.reduceSub, List.getElem?_cons_zero, List.getElem?_cons_succ, List.set_cons_zero, List.set_cons_succ, Nat.zero_add, Nat.add_zero, Nat.sub_self, x_add, x_sub, x_mulL, x_mulR, x_div, x_mod, x_lt, x_le, x_gt, x_ge, x_eq, x_ne, x_fro, x_step, x_first, x_last, x_on, x_l0, x_l1, x_l2, x_l3, x_l4, x_t0, x_t1, x_t2, x_t3, x_t4, x_intB, x_intI, x_max2, x_min2, x_lenL, x_lenT, x_sz, x_rs, x_rw, x_rf, x_ra, x_rl, x_slot, x_slotD, true_and, and_true, eq_self, decide_eq_true_eq, Bool.not_eq_true', decide_eq_false_iff_not, res_ok, res_er, x_rng1, x_rng1D, x_rng2, x_rng2E, x_rng2D, z_s, z_w, z_f, z_a, z_l, Bool.and_eq_true, if_true, if_false, Bool.false_eq_true, reduceCtorEq, decide_true, decide_false, Bool.not_true, Bool.not_false, Bool.true_eq_false, not_true_eq_false, not_false_eq_true]
    rw [cutD_lo (by rw [hdlen]; exact hp)]
    refine for_list prD ((dealtL r m n).take p) (fun pre e => ∃ a b : Slot, e = [.dlg g, .val (.int m), .val (.lst dl), .val (.int p), .own ((rowAt r m n pre.length).map .int), a, b]) (by rw [← hdl, List.map_take]) ⟨.un, .un, rfl⟩ ?_ ?_
    · rintro pre x post hall e N ⟨a, b, rfl⟩ hN
      have hlen : ((dealtL r m n).take p).length = p := by rw [List.length_take, dealt_len]; omega
      have hl : pre.length < p := by rw [← hlen, hall]; simp
      have hx : x = (thingAt r n pre.length, personOf r m n pre.length) := by
        have h0 : ((dealtL r m n).take p)[pre.length]? = some x := by rw [hall]; simp
        rw [List.getElem?_take_of_lt hl] at h0
        unfold dealtL at h0
        rw [List.getElem?_map, upto_get (by omega)] at h0
        exact (Option.some.inj h0).symm
      have rg : 0 ≤ personOf r m n pre.length ∧ personOf r m n pre.length < m := personAt_range hm
      subst hx
      unfold prD
      simp (maxSteps := 10000000) (disch := first | assumption | omega) only [dDef, dRet, dRetL, dSeq, dIfS, dTst, dNotB, dAndB, dOrB, dAndV, dOrV, dNotV, dNeg, dIf, dCB, dCBL, dCons, dNil, dStar, dVar, dC, dCall, dOp, dOpL, dTup, dLst, dL, dSet, dAsg, dPar, dOwn, dExpr, dNx, dFor, dItL, dItT, dProp, dMeth, dMk, dMk0, dRaise, dPart, dNoPart, dSlL, dSlT, dRevL, dgName, dgTup, dgSets, dOwnIx, dOwnLen, dOwnTup, dApp, dSetI, dRel, relE, dItZip, dItTab, dItEnK, dItEn, dIsS, dJoinG, dSplit, dFmt, dJs, dIsT2, dIndex, dCallS, dYes, wipeE, dXf, dIsX, List.map_cons, List.map_nil, List.cons_append, List.nil_append, List.append_nil, List.length_cons, List.length_nil, List.replicate_succ, List.replicate_zero, Nat.reduceAdd, Nat.reduceSub, List.getElem?_cons_zero, List.getElem?_cons_succ, List.set_cons_zero, List.set_cons_succ, Nat.zero_add, Nat.add_zero, Nat.sub_self, x_add, x_sub, x_mulL, x_mulR, x_div, x_mod, x_lt, x_le, x_gt, x_ge, x_eq, x_ne, x_fro, x_step, x_first, x_last, x_on, x_l0, x_l1, x_l2, x_l3, x_l4, x_t0, x_t1, x_t2, x_t3, x_t4, x_intB, x_intI, x_max2, x_min2, x_lenL, x_lenT, x_sz, x_rs, x_rw, x_rf, x_ra, x_rl, x_slot, x_slotD, true_and, and_true, eq_self, decide_eq_true_eq, Bool.not_eq_true', decide_eq_false_iff_not, res_ok, res_er, x_rng1, x_rng1D, x_rng2, x_rng2E, x_rng2D, z_s, z_w, z_f, z_a, z_l, Bool.and_eq_true, if_true, if_false, Bool.false_eq_true, reduceCtorEq, decide_true, decide_false, Bool.not_true, Bool.not_false, Bool.true_eq_false, not_true_eq_false, not_false_eq_true]
      have e0 := rowAt_get (r := r) (m := m) (n := n) (p := pre.length) hm
      have e1 := rowAt_set (r := r) (m := m) (n := n) (p := pre.length) hm
      refine ⟨_, D.int (cnt (fun k => personOf r m n k) (personOf r m n pre.length) pre.length), rfl, ?_, ?_⟩
      · obtain ⟨j, hj⟩ : ∃ j : Nat, personOf r m n pre.length = (j : Int) := ⟨(personOf r m n pre.length).toNat, by omega⟩
        rw [hj] at e0 ⊢
        refine atI_pos ?_
        rw [List.getElem?_map]
        rw [show ((j : Int)).toNat = j by omega] at e0
        rw [e0]
        rfl
      · simp (maxSteps := 10000000) (disch := first | assumption | omega) only [dDef, dRet, dRetL, dSeq, dIfS, dTst, dNotB, dAndB, dOrB, dAndV, dOrV, dNotV, dNeg, dIf, dCB, dCBL, dCons, dNil, dStar, dVar, dC, dCall, dOp, dOpL, dTup, dLst, dL, dSet, dAsg, dPar, dOwn, dExpr, dNx, dFor, dItL, dItT, dProp, dMeth, dMk, dMk0, dRaise, dPart, dNoPart, dSlL, dSlT, dRevL, dgName, dgTup, dgSets, dOwnIx, dOwnLen, dOwnTup, dApp, dSetI, dRel, relE, dItZip, dItTab, dItEnK, dItEn, dIsS, dJoinG, dSplit, dFmt, dJs, dIsT2, dIndex, dCallS, dYes, wipeE, dXf, dIsX, List.map_cons, List.map_nil, List.cons_append, List.nil_append, List.append_nil, List.length_cons, List.length_nil, List.replicate_succ, List.replicate_zero, Nat.reduceAdd, Nat.reduceSub, List.getElem?_cons_zero, List.getElem?_cons_succ, List.set_cons_zero, List.set_cons_succ, Nat.zero_add, Nat.add_zero, Nat.sub_self, x_add, x_sub, x_mulL, x_mulR, x_div, x_mod, x_lt, x_le, x_gt, x_ge, x_eq, x_ne, x_fro, x_step, x_first, x_last, x_on, x_l0, x_l1, x_l2, x_l3, x_l4, x_t0, x_t1, x_t2, x_t3, x_t4, x_intB, x_intI, x_max2, x_min2, x_lenL, x_lenT, x_sz, x_rs, x_rw, x_rf, x_ra, x_rl, x_slot, x_slotD, true_and, and_true, eq_self, decide_eq_true_eq, Bool.not_eq_true', decide_eq_false_iff_not, res_ok, res_er, x_rng1, x_rng1D, x_rng2, x_rng2E, x_rng2D, z_s, z_w, z_f, z_a, z_l, Bool.and_eq_true, if_true, if_false, Bool.false_eq_true, reduceCtorEq, decide_true, decide_false, Bool.not_true, Bool.not_false, Bool.true_eq_false, not_true_eq_false, not_false_eq_true]
        refine ⟨_, (personOf r m n pre.length).toNat, rfl, ?_, ?_⟩
        · unfold ixN
          rw [if_pos rg.1, if_pos (by rw [List.length_map, rowAt_len]; omega)]
        · refine hN _ ⟨.val (.int (thingAt r n pre.length)), .val (.int (personOf r m n pre.length)), ?_⟩
          rw [List.length_append, List.length_singleton, ← e1, List.map_set]
    · rintro e ⟨a, b, rfl⟩
      rw [List.length_take, dealt_len, Nat.min_eq_left hp]
      exact hN _ ⟨a, b, rfl⟩
  rintro e ⟨a, b, rfl⟩
  have lots : ∀ {env : Env'} {Q1 : D → Prop} {R1 : DX}, env[0]? = some (.dlg g) → Q1 (stD r m n p) → Dg.dPropR (aD K) 0 (FM_Dealing_lots K) env Q1 R1 := fun {env Q1 R1} e h => by
    unfold Dg.dPropR
    rw [e]
    exact ⟨l.c, r, m, n, past, p, l, rfl, rfl, h⟩
  have left : ∀ {env : Env'} {Q1 : D → Prop} {R1 : DX}, env[0]? = some (.dlg g) → Q1 (.int ((n : Int) - p)) → Dg.dPropR (aD K) 0 (FM_Dealing_left K) env Q1 R1 := fun {env Q1 R1} e h => by
    unfold Dg.dPropR
    rw [e]
    exact ⟨l.c, r, m, n, past, p, l, rfl, rfl, h⟩
  have coming : ∀ {env : Env'} {Q1 : D → Prop} {R1 : DX}, env[0]? = some (.dlg g) → Q1 (comD r m n p) → Dg.dPropR (aD K) 0 (FM_Dealing_coming K) env Q1 R1 := fun {env Q1 R1} e h => by
    unfold Dg.dPropR
    rw [e]
    exact ⟨l.c, r, m, n, past, p, l, rfl, rfl, h⟩
  simp (maxSteps := 10000000) (disch := first | assumption | omega) only [dDef, dRet, dRetL, dSeq, dIfS, dTst, dNotB, dAndB, dOrB, dAndV, dOrV, dNotV, dNeg, dIf, dCB, dCBL, dCons, dNil, dStar, dVar, dC, dCall, dOp, dOpL, dTup, dLst, dL, dSet, dAsg, dPar, dOwn, dExpr, dNx, dFor, dItL, dItT, dProp, dMeth, dMk, dMk0, dRaise, dPart, dNoPart, dSlL, dSlT, dRevL, dgName, dgTup, dgSets, dOwnIx, dOwnLen, dOwnTup, dApp, dSetI, dRel, relE, dItZip, dItTab, dItEnK, dItEn, dIsS, dJoinG, dSplit, dFmt, dJs, dIsT2, dIndex, dCallS, dYes, wipeE, dXf, dIsX, List.map_cons, List.map_nil, List.cons_append, List.nil_append, List.append_nil, List.length_cons, List.length_nil, List.replicate_succ, List.replicate_zero, Nat.reduceAdd, Nat.reduceSub, List.getElem?_cons_zero, List.getElem?_cons_succ, List.set_cons_zero, List.set_cons_succ, Nat.zero_add, Nat.add_zero, Nat.sub_self, x_add, x_sub, x_mulL, x_mulR, x_div, x_mod, x_lt, x_le, x_gt, x_ge, x_eq, x_ne, x_fro, x_step, x_first, x_last, x_on, x_l0, x_l1, x_l2, x_l3, x_l4, x_t0, x_t1, x_t2, x_t3, x_t4, x_intB, x_intI, x_max2, x_min2, x_lenL, x_lenT, x_sz, x_rs, x_rw, x_rf, x_ra, x_rl, x_slot, x_slotD, true_and, and_true, eq_self, decide_eq_true_eq, Bool.not_eq_true', decide_eq_false_iff_not, res_ok, res_er, x_rng1, x_rng1D, x_rng2, x_rng2E, x_rng2D, z_s, z_w, z_f, z_a, z_l, Bool.and_eq_true, if_true, if_false, Bool.false_eq_true, reduceCtorEq, decide_true, decide_false, Bool.not_true, Bool.not_false, Bool.true_eq_false, not_true_eq_false, not_false_eq_true]
  refine lots rfl ?_
  show gNe (stD r m n p) (stD r m n p) _
  rw [x_neS dat_stD]
  simp (maxSteps := 10000000) (disch := first | assumption | omega) only [dDef, dRet, dRetL, dSeq, dIfS, dTst, dNotB, dAndB, dOrB, dAndV, dOrV, dNotV, dNeg, dIf, dCB, dCBL, dCons, dNil, dStar, dVar, dC, dCall, dOp, dOpL, dTup, dLst, dL, dSet, dAsg, dPar, dOwn, dExpr, dNx, dFor, dItL, dItT, dProp, dMeth, dMk, dMk0, dRaise, dPart, dNoPart, dSlL, dSlT, dRevL, dgName, dgTup, dgSets, dOwnIx, dOwnLen, dOwnTup, dApp, dSetI, dRel, relE, dItZip, dItTab, dItEnK, dItEn, dIsS, dJoinG, dSplit, dFmt, dJs, dIsT2, dIndex, dCallS, dYes, wipeE, dXf, dIsX, List.map_cons, List.map_nil, List.cons_append, List.nil_append, List.append_nil, List.length_cons, List.length_nil, List.replicate_succ, List.replicate_zero, Nat.reduceAdd, Nat.reduceSub, List.getElem?_cons_zero, List.getElem?_cons_succ, List.set_cons_zero, List.set_cons_succ, Nat.zero_add, Nat.add_zero, Nat.sub_self, x_add, x_sub, x_mulL, x_mulR, x_div, x_mod, x_lt, x_le, x_gt, x_ge, x_eq, x_ne, x_fro, x_step, x_first, x_last, x_on, x_l0, x_l1, x_l2, x_l3, x_l4, x_t0, x_t1, x_t2, x_t3, x_t4, x_intB, x_intI, x_max2, x_min2, x_lenL, x_lenT, x_sz, x_rs, x_rw, x_rf, x_ra, x_rl, x_slot, x_slotD, true_and, and_true, eq_self, decide_eq_true_eq, Bool.not_eq_true', decide_eq_false_iff_not, res_ok, res_er, x_rng1, x_rng1D, x_rng2, x_rng2E, x_rng2D, z_s, z_w, z_f, z_a, z_l, Bool.and_eq_true, if_true, if_false, Bool.false_eq_true, reduceCtorEq, decide_true, decide_false, Bool.not_true, Bool.not_false, Bool.true_eq_false, not_true_eq_false, not_false_eq_true]
  refine left rfl ?_
  simp (maxSteps := 10000000) (disch := first | assumption | omega) only [dDef, dRet, dRetL, dSeq, dIfS, dTst, dNotB, dAndB, dOrB, dAndV, dOrV, dNotV, dNeg, dIf, dCB, dCBL, dCons, dNil, dStar, dVar, dC, dCall, dOp, dOpL, dTup, dLst, dL, dSet, dAsg, dPar, dOwn, dExpr, dNx, dFor, dItL, dItT, dProp, dMeth, dMk, dMk0, dRaise, dPart, dNoPart, dSlL, dSlT, dRevL, dgName, dgTup, dgSets, dOwnIx, dOwnLen, dOwnTup, dApp, dSetI, dRel, relE, dItZip, dItTab, dItEnK, dItEn, dIsS, dJoinG, dSplit, dFmt, dJs, dIsT2, dIndex, dCallS, dYes, wipeE, dXf, dIsX, List.map_cons, List.map_nil, List.cons_append, List.nil_append, List.append_nil, List.length_cons, List.length_nil, List.replicate_succ, List.replicate_zero, Nat.reduceAdd, Nat.reduceSub, List.getElem?_cons_zero, List.getElem?_cons_succ, List.set_cons_zero, List.set_cons_succ, Nat.zero_add, Nat.add_zero, Nat.sub_self, x_add, x_sub, x_mulL, x_mulR, x_div, x_mod, x_lt, x_le, x_gt, x_ge, x_eq, x_ne, x_fro, x_step, x_first, x_last, x_on, x_l0, x_l1, x_l2, x_l3, x_l4, x_t0, x_t1, x_t2, x_t3, x_t4, x_intB, x_intI, x_max2, x_min2, x_lenL, x_lenT, x_sz, x_rs, x_rw, x_rf, x_ra, x_rl, x_slot, x_slotD, true_and, and_true, eq_self, decide_eq_true_eq, Bool.not_eq_true', decide_eq_false_iff_not, res_ok, res_er, x_rng1, x_rng1D, x_rng2, x_rng2E, x_rng2D, z_s, z_w, z_f, z_a, z_l, Bool.and_eq_true, if_true, if_false, Bool.false_eq_true, reduceCtorEq, decide_true, decide_false, Bool.not_true, Bool.not_false, Bool.true_eq_false, not_true_eq_false, not_false_eq_true, hdlen]
  refine coming rfl ?_
  by_cases c : p < n
  · rw [if_pos (by omega)]
    have hx : dl[p]? = some (comD r m n p) := by
      rw [← hdl]
      unfold dealtL comD
      rw [List.map_map, List.getElem?_map, upto_get c, if_pos c]
      rfl
    refine gIx_l (atI_pos hx) ▸ ?_
    rw [x_eqS dat_comD]
    exact ⟨_, _, rfl, q⟩
  · rw [if_neg (by omega)]
    have hx : comD r m n p = .non := by unfold comD; rw [if_neg c]
    rw [hx, x_eqS (by rfl)]
    exact ⟨_, _, rfl, q⟩
end K10

set_option maxHeartbeats 4000000
namespace K10
open PySem PySem.Spec PyProof.Rows L2 Dl Dv Dk Gx Pr Ma
def c1 (K : PySem.W.Frag) : DG :=
  (dSet 2 (dCall 1 (fun ds Q R => F_l_rule ds (fun es => Q (.lst es)) R) (dCons (dVar 1) dNil)))
def c2 (K : PySem.W.Frag) : DG :=
  (dPar 3 4 (dCons (dOp gAddU (dC (.int 2)) (dCall 2 Fnext (dCons (dVar 1) (dCons (dC (.int 5)) dNil)))) (dCons (dCall 2 Fnext (dCons (dVar 1) (dCons (dC (.int 41)) dNil))) dNil)))
def c3 (K : PySem.W.Frag) : DG :=
  (dSet 5 (dCall 3 (F_l_dealt K) (dCons (dVar 2) (dCons (dVar 3) (dCons (dVar 4) dNil)))))
def c4 (K : PySem.W.Frag) : DG :=
  (dSet 6 (dCall 1 (F_l_built K) (dCons (dVar 2) dNil)))
def c5 (K : PySem.W.Frag) : DG :=
  (Dg.dNewD (aD K) 7 (Dg.dNewF (F_Dealing K) (dCons (dVar 6) (dCons (dVar 3) (dCons (dVar 4) dNil)))))
def c6 (K : PySem.W.Frag) : DG :=
  (dSet 8 (dL (dLst (dCons (dC (.int 0)) dNil))))
def c7 (K : PySem.W.Frag) : DG :=
  (dFor (dRng1 (dCons (dCall 2 Fnext (dCons (dVar 1) (dCons (dC (.int 13)) dNil))) dNil)) (dgName 9) (dSeq (dIfS (dTst (dOp gEq (dCall 2 Fnext (dCons (dVar 1) (dCons (dC (.int 5)) dNil))) (dC (.int 0)))) (dSeq (Dg.dIfM (Dg.dOpMB gNe (Dg.dMethM (aD K) 7 0 (FM_Dealing_undo K) dNil) (dOp gGt (dCB gLen (dCons (dVar 8) dNil)) (dC (.int 1)))) (dRet (dC (.bl false))) dNx)
  (dSet 8 (dL (dSlL (dVar 8) dNoPart (dPart (dCB gMax2 (dCons (dC (.int 1)) (dCons (dOp gSub (dCB gLen (dCons (dVar 8) dNil)) (dC (.int 1))) dNil)))))))) (dSeq (Dg.dCopy (aD K) 7 10 (G_copy K))
  (dSeq (dSet 11 (dCall 2 Fnext (dCons (dVar 1) (dCons (dOp gIx (dL (dLst (dCons (dC (.int 3)) (dCons (dC (.int 9)) (dCons (dOp gAddU (dVar 4) (dC (.int 2))) dNil))))) (dCall 2 Fnext (dCons (dVar 1) (dCons (dC (.int 3)) dNil)))) dNil))))
  (dSeq (dSet 12 (dIf (dTst (dOp gLt (dVar 11) (dC (.int 1)))) (dC (.str "number")) (dC (.str "done"))))
  (dSeq (dSet 13 (dOp gIx (dVar 8) (dNeg (dC (.int 1)))))
  (dSeq (dIfS (dAndB (dTst (dOp gGt (dVar 11) (dC (.int 0)))) (dTst (dOp gLe (dOp gAddU (dVar 13) (dVar 11)) (dVar 4)))) (dSeq (dSet 12 (dL (dLc (dItL (dL (dSlL (dVar 5) (dPart (dVar 13)) (dPart (dOp gAddU (dVar 13) (dVar 11)))))) [14, 15] (dgTup [14, 15]) dYes (dVar 15))))
  (dSet 8 (dOp gAddU (dVar 8) (dL (dLst (dCons (dOp gAddU (dVar 13) (dVar 11)) dNil)))))) dNx)
  (Dg.dIfM (Dg.dOrBm (Dg.dOpMB gNe (Dg.dCallM 7 1 (FM_l_done K) (dCons (dVar 11) dNil)) (dVar 12)) (Dg.dUpB (dNotB (dTst (Dg.dCallR 10 3 (FM_l_stands K) (dCons (dVar 3) (dCons (dVar 5) (dCons (dVar 13) dNil)))))))) (dRet (dC (.bl false))) dNx)))))))
  (dIfS (dOrB (dNotB (dTst (Dg.dCallR 7 3 (FM_l_stands K) (dCons (dVar 3) (dCons (dVar 5) (dCons (dOp gIx (dVar 8) (dNeg (dC (.int 1)))) dNil)))))) (dTst (dOp gNe (Dg.dLenR (aD K) 7 (FM_DealingU_lenU K)) (dOp gSub (dCB gLen (dCons (dVar 8) dNil)) (dC (.int 1)))))) (dRet (dC (.bl false))) dNx)))
def c8 (K : PySem.W.Frag) : DG :=
  (dIfS (dTst (dOp gNe (dL (dLc (dItL (dL (dLst (dCons (dC (.int 0)) (dCons (dNeg (dC (.int 1))) (dCons (dC (.bl true)) (dCons (dC .non) (dCons (dC (.str "1")) dNil)))))))) [16] (dgName 16) dYes (Dg.dCallR 7 1 (FM_l_done K) (dCons (dVar 16) dNil)))) (dL (dOpL gRepL (dL (dLst (dCons (dC (.str "number")) dNil))) (dC (.int 5)))))) (dRet (dC (.bl false))) dNx)
def c9 (K : PySem.W.Frag) : DG :=
  (dIfS (dTst (dOp gNe (dCall 3 (F_l_opened K) (dCons (dVar 6) (dCons (dOp gIx (dL (dLst (dCons (dC (.int 1)) (dCons (dC (.int 13)) (dCons (dC (.bl true)) (dCons (dC .non) dNil)))))) (dCall 2 Fnext (dCons (dVar 1) (dCons (dC (.int 4)) dNil)))) (dCons (dC .non) dNil)))) (dC (.str "people")))) (dRet (dC (.bl false))) dNx)
def c10 (K : PySem.W.Frag) : DG :=
  (dRet (dOp gEq (dCall 3 (F_l_opened K) (dCons (dVar 6) (dCons (dVar 3) (dCons (dOp gIx (dL (dLst (dCons (dNeg (dC (.int 1))) (dCons (dC (.int 1001)) (dCons (dC (.bl true)) (dCons (dC .non) dNil)))))) (dCall 2 Fnext (dCons (dVar 1) (dCons (dC (.int 4)) dNil)))) dNil)))) (dC (.str "things"))))
def g_law (K : PySem.W.Frag) : DG := (dSeq (c1 K) (dSeq (c2 K) (dSeq (c3 K) (dSeq (c4 K) (dSeq (c5 K) (dSeq (c6 K) (dSeq (c7 K) (dSeq (c8 K) (dSeq (c9 K) (c10 K))))))))))
def c7_1 (K : PySem.W.Frag) : DG := (dIfS (dTst (dOp gEq (dCall 2 Fnext (dCons (dVar 1) (dCons (dC (.int 5)) dNil))) (dC (.int 0)))) (dSeq (Dg.dIfM (Dg.dOpMB gNe (Dg.dMethM (aD K) 7 0 (FM_Dealing_undo K) dNil) (dOp gGt (dCB gLen (dCons (dVar 8) dNil)) (dC (.int 1)))) (dRet (dC (.bl false))) dNx)
  (dSet 8 (dL (dSlL (dVar 8) dNoPart (dPart (dCB gMax2 (dCons (dC (.int 1)) (dCons (dOp gSub (dCB gLen (dCons (dVar 8) dNil)) (dC (.int 1))) dNil)))))))) (dSeq (Dg.dCopy (aD K) 7 10 (G_copy K))
  (dSeq (dSet 11 (dCall 2 Fnext (dCons (dVar 1) (dCons (dOp gIx (dL (dLst (dCons (dC (.int 3)) (dCons (dC (.int 9)) (dCons (dOp gAddU (dVar 4) (dC (.int 2))) dNil))))) (dCall 2 Fnext (dCons (dVar 1) (dCons (dC (.int 3)) dNil)))) dNil))))
  (dSeq (dSet 12 (dIf (dTst (dOp gLt (dVar 11) (dC (.int 1)))) (dC (.str "number")) (dC (.str "done"))))
  (dSeq (dSet 13 (dOp gIx (dVar 8) (dNeg (dC (.int 1)))))
  (dSeq (dIfS (dAndB (dTst (dOp gGt (dVar 11) (dC (.int 0)))) (dTst (dOp gLe (dOp gAddU (dVar 13) (dVar 11)) (dVar 4)))) (dSeq (dSet 12 (dL (dLc (dItL (dL (dSlL (dVar 5) (dPart (dVar 13)) (dPart (dOp gAddU (dVar 13) (dVar 11)))))) [14, 15] (dgTup [14, 15]) dYes (dVar 15))))
  (dSet 8 (dOp gAddU (dVar 8) (dL (dLst (dCons (dOp gAddU (dVar 13) (dVar 11)) dNil)))))) dNx)
  (Dg.dIfM (Dg.dOrBm (Dg.dOpMB gNe (Dg.dCallM 7 1 (FM_l_done K) (dCons (dVar 11) dNil)) (dVar 12)) (Dg.dUpB (dNotB (dTst (Dg.dCallR 10 3 (FM_l_stands K) (dCons (dVar 3) (dCons (dVar 5) (dCons (dVar 13) dNil)))))))) (dRet (dC (.bl false))) dNx)))))))
def c7_2 (K : PySem.W.Frag) : DG := (dIfS (dOrB (dNotB (dTst (Dg.dCallR 7 3 (FM_l_stands K) (dCons (dVar 3) (dCons (dVar 5) (dCons (dOp gIx (dVar 8) (dNeg (dC (.int 1)))) dNil)))))) (dTst (dOp gNe (Dg.dLenR (aD K) 7 (FM_DealingU_lenU K)) (dOp gSub (dCB gLen (dCons (dVar 8) dNil)) (dC (.int 1)))))) (dRet (dC (.bl false))) dNx)
theorem c7_body (K : PySem.W.Frag) : c7 K = dFor (dRng1 (dCons (dCall 2 Fnext (dCons (dVar 1) (dCons (dC (.int 13)) dNil))) dNil)) (dgName 9) (dSeq (c7_1 K) (c7_2 K)) := rfl
abbrev pl (past : List Nat) (p : Nat) : D := .lst ((past ++ [p]).map fun k : Nat => D.int k)
def ev (K : PySem.W.Frag) (r : Ru) (m n : Nat) (g : Dlg) (past : List Nat) (p : Nat) (a b c d e f x y : Slot) : Env' := [.un, .val .vol, .val (rl r), .val (.int m), .val (.int n), .val (.lst ((dealtL r m n).map prD)), .val (rd K r), .dlg g, .val (pl past p), a, b, c, d, e, f, x, y]
theorem s1 {K : PySem.W.Frag} {k : Kn} (h : ∀ r : Ru, r.Ok → k.nx [.un, .val .vol, .val (rl r), .un, .un, .un, .un, .un, .un, .un, .un, .un, .un, .un, .un, .un, .un]) : c1 K (lawEnv 15) k := by
  unfold c1 lawEnv
  simp (maxSteps := 10000000) (disch := first | assumption | omega) only [dDef, dRet, dRetL, dSeq, dIfS, dTst, dNotB, dAndB, dOrB, dAndV, dOrV, dNotV, dNeg, dIf, dCB, dCBL, dCons, dNil, dStar, dVar, dC, dCall, dOp, dOpL, dTup, dLst, dL, dSet, dAsg, dPar, dOwn, dExpr, dNx, dFor, dItL, dItT, dProp, dMeth, dMk, dMk0, dRaise, dPart, dNoPart, dSlL, dSlT, dRevL, dgName, dgTup, dgSets, dOwnIx, dOwnLen, dOwnTup, dApp, dSetI, dRel, relE, dItZip, dItTab, dItEnK, dItEn, dIsS, dJoinG, dSplit, dFmt, dJs, dIsT2, dIndex, dCallS, dYes, wipeE, dXf, dIsX, List.map_cons, List.map_nil, List.cons_append, List.nil_append, List.append_nil, List.length_cons, List.length_nil, List.replicate_succ, List.replicate_zero, Nat.reduceAdd, Nat.reduceSub, List.getElem?_cons_zero, List.getElem?_cons_succ, List.set_cons_zero, List.set_cons_succ, Nat.zero_add, Nat.add_zero, Nat.sub_self, x_add, x_sub, x_mulL, x_mulR, x_div, x_mod, x_lt, x_le, x_gt, x_ge, x_eq, x_ne, x_fro, x_step, x_first, x_last, x_on, x_l0, x_l1, x_l2, x_l3, x_l4, x_t0, x_t1, x_t2, x_t3, x_t4, x_intB, x_intI, x_max2, x_min2, x_lenL, x_lenT, x_sz, x_rs, x_rw, x_rf, x_ra, x_rl, x_slot, x_slotD, true_and, and_true, eq_self, decide_eq_true_eq, Bool.not_eq_true', decide_eq_false_iff_not, res_ok, res_er, x_rng1, x_rng1D, x_rng2, x_rng2E, x_rng2D, z_s, z_w, z_f, z_a, z_l, Bool.and_eq_true, if_true, if_false, Bool.false_eq_true, reduceCtorEq, decide_true, decide_false, Bool.not_true, Bool.not_false, Bool.true_eq_false, not_true_eq_false, not_false_eq_true]
  exact y_rule h
theorem s2 {K : PySem.W.Frag} {k : Kn} {r : Ru} (h : ∀ m n : Nat, Mo m → n ≤ 40 → k.nx [.un, .val .vol, .val (rl r), .val (.int m), .val (.int n), .un, .un, .un, .un, .un, .un, .un, .un, .un, .un, .un, .un]) : c2 K [.un, .val .vol, .val (rl r), .un, .un, .un, .un, .un, .un, .un, .un, .un, .un, .un, .un, .un, .un] k := by
  unfold c2
  simp (maxSteps := 10000000) (disch := first | assumption | omega) only [dDef, dRet, dRetL, dSeq, dIfS, dTst, dNotB, dAndB, dOrB, dAndV, dOrV, dNotV, dNeg, dIf, dCB, dCBL, dCons, dNil, dStar, dVar, dC, dCall, dOp, dOpL, dTup, dLst, dL, dSet, dAsg, dPar, dOwn, dExpr, dNx, dFor, dItL, dItT, dProp, dMeth, dMk, dMk0, dRaise, dPart, dNoPart, dSlL, dSlT, dRevL, dgName, dgTup, dgSets, dOwnIx, dOwnLen, dOwnTup, dApp, dSetI, dRel, relE, dItZip, dItTab, dItEnK, dItEn, dIsS, dJoinG, dSplit, dFmt, dJs, dIsT2, dIndex, dCallS, dYes, wipeE, dXf, dIsX, List.map_cons, List.map_nil, List.cons_append, List.nil_append, List.append_nil, List.length_cons, List.length_nil, List.replicate_succ, List.replicate_zero, Nat.reduceAdd, Nat.reduceSub, List.getElem?_cons_zero, List.getElem?_cons_succ, List.set_cons_zero, List.set_cons_succ, Nat.zero_add, Nat.add_zero, Nat.sub_self, x_add, x_sub, x_mulL, x_mulR, x_div, x_mod, x_lt, x_le, x_gt, x_ge, x_eq, x_ne, x_fro, x_step, x_first, x_last, x_on, x_l0, x_l1, x_l2, x_l3, x_l4, x_t0, x_t1, x_t2, x_t3, x_t4, x_intB, x_intI, x_max2, x_min2, x_lenL, x_lenT, x_sz, x_rs, x_rw, x_rf, x_ra, x_rl, x_slot, x_slotD, true_and, and_true, eq_self, decide_eq_true_eq, Bool.not_eq_true', decide_eq_false_iff_not, res_ok, res_er, x_rng1, x_rng1D, x_rng2, x_rng2E, x_rng2D, z_s, z_w, z_f, z_a, z_l, Bool.and_eq_true, if_true, if_false, Bool.false_eq_true, reduceCtorEq, decide_true, decide_false, Bool.not_true, Bool.not_false, Bool.true_eq_false, not_true_eq_false, not_false_eq_true]
  refine next_ok (by decide) (by decide) fun i i0 i1 => ?_
  simp (maxSteps := 10000000) (disch := first | assumption | omega) only [dDef, dRet, dRetL, dSeq, dIfS, dTst, dNotB, dAndB, dOrB, dAndV, dOrV, dNotV, dNeg, dIf, dCB, dCBL, dCons, dNil, dStar, dVar, dC, dCall, dOp, dOpL, dTup, dLst, dL, dSet, dAsg, dPar, dOwn, dExpr, dNx, dFor, dItL, dItT, dProp, dMeth, dMk, dMk0, dRaise, dPart, dNoPart, dSlL, dSlT, dRevL, dgName, dgTup, dgSets, dOwnIx, dOwnLen, dOwnTup, dApp, dSetI, dRel, relE, dItZip, dItTab, dItEnK, dItEn, dIsS, dJoinG, dSplit, dFmt, dJs, dIsT2, dIndex, dCallS, dYes, wipeE, dXf, dIsX, List.map_cons, List.map_nil, List.cons_append, List.nil_append, List.append_nil, List.length_cons, List.length_nil, List.replicate_succ, List.replicate_zero, Nat.reduceAdd, Nat.reduceSub, List.getElem?_cons_zero, List.getElem?_cons_succ, List.set_cons_zero, List.set_cons_succ, Nat.zero_add, Nat.add_zero, Nat.sub_self, x_add, x_sub, x_mulL, x_mulR, x_div, x_mod, x_lt, x_le, x_gt, x_ge, x_eq, x_ne, x_fro, x_step, x_first, x_last, x_on, x_l0, x_l1, x_l2, x_l3, x_l4, x_t0, x_t1, x_t2, x_t3, x_t4, x_intB, x_intI, x_max2, x_min2, x_lenL, x_lenT, x_sz, x_rs, x_rw, x_rf, x_ra, x_rl, x_slot, x_slotD, true_and, and_true, eq_self, decide_eq_true_eq, Bool.not_eq_true', decide_eq_false_iff_not, res_ok, res_er, x_rng1, x_rng1D, x_rng2, x_rng2E, x_rng2D, z_s, z_w, z_f, z_a, z_l, Bool.and_eq_true, if_true, if_false, Bool.false_eq_true, reduceCtorEq, decide_true, decide_false, Bool.not_true, Bool.not_false, Bool.true_eq_false, not_true_eq_false, not_false_eq_true]
  refine next_ok (by decide) (by decide) fun j j0 j1 => ?_
  have := h (2 + i).toNat j.toNat ⟨by omega, by omega⟩ (by omega)
  rw [show (((2 + i).toNat : Nat) : Int) = 2 + i by omega, show ((j.toNat : Nat) : Int) = j by omega] at this
  exact this
theorem s3 {K : PySem.W.Frag} {k : Kn} {r : Ru} {m n : Nat} (hr : r.Ok) (hm : Mo m) (hn : n ≤ 40) (h : k.nx [.un, .val .vol, .val (rl r), .val (.int m), .val (.int n), .val (.lst ((dealtL r m n).map prD)), .un, .un, .un, .un, .un, .un, .un, .un, .un, .un, .un]) : c3 K [.un, .val .vol, .val (rl r), .val (.int m), .val (.int n), .un, .un, .un, .un, .un, .un, .un, .un, .un, .un, .un, .un] k := by
  unfold c3
  simp (maxSteps := 10000000) (disch := first | assumption | omega) only [dDef, dRet, dRetL, dSeq, dIfS, dTst, dNotB, dAndB, dOrB, dAndV, dOrV, dNotV, dNeg, dIf, dCB, dCBL, dCons, dNil, dStar, dVar, dC, dCall, dOp, dOpL, dTup, dLst, dL, dSet, dAsg, dPar, dOwn, dExpr, dNx, dFor, dItL, dItT, dProp, dMeth, dMk, dMk0, dRaise, dPart, dNoPart, dSlL, dSlT, dRevL, dgName, dgTup, dgSets, dOwnIx, dOwnLen, dOwnTup, dApp, dSetI, dRel, relE, dItZip, dItTab, dItEnK, dItEn, dIsS, dJoinG, dSplit, dFmt, dJs, dIsT2, dIndex, dCallS, dYes, wipeE, dXf, dIsX, List.map_cons, List.map_nil, List.cons_append, List.nil_append, List.append_nil, List.length_cons, List.length_nil, List.replicate_succ, List.replicate_zero, Nat.reduceAdd, Nat.reduceSub, List.getElem?_cons_zero, List.getElem?_cons_succ, List.set_cons_zero, List.set_cons_succ, Nat.zero_add, Nat.add_zero, Nat.sub_self, x_add, x_sub, x_mulL, x_mulR, x_div, x_mod, x_lt, x_le, x_gt, x_ge, x_eq, x_ne, x_fro, x_step, x_first, x_last, x_on, x_l0, x_l1, x_l2, x_l3, x_l4, x_t0, x_t1, x_t2, x_t3, x_t4, x_intB, x_intI, x_max2, x_min2, x_lenL, x_lenT, x_sz, x_rs, x_rw, x_rf, x_ra, x_rl, x_slot, x_slotD, true_and, and_true, eq_self, decide_eq_true_eq, Bool.not_eq_true', decide_eq_false_iff_not, res_ok, res_er, x_rng1, x_rng1D, x_rng2, x_rng2E, x_rng2D, z_s, z_w, z_f, z_a, z_l, Bool.and_eq_true, if_true, if_false, Bool.false_eq_true, reduceCtorEq, decide_true, decide_false, Bool.not_true, Bool.not_false, Bool.true_eq_false, not_true_eq_false, not_false_eq_true]
  rw [y_dealt hr hm (by omega)]
  exact h
theorem s4 {K : PySem.W.Frag} {k : Kn} {r : Ru} {m n : Nat} {dl : Slot} (hr : r.Ok) (h : k.nx [.un, .val .vol, .val (rl r), .val (.int m), .val (.int n), dl, .val (rd K r), .un, .un, .un, .un, .un, .un, .un, .un, .un, .un]) : c4 K [.un, .val .vol, .val (rl r), .val (.int m), .val (.int n), dl, .un, .un, .un, .un, .un, .un, .un, .un, .un, .un, .un] k := by
  unfold c4
  simp (maxSteps := 10000000) (disch := first | assumption | omega) only [dDef, dRet, dRetL, dSeq, dIfS, dTst, dNotB, dAndB, dOrB, dAndV, dOrV, dNotV, dNeg, dIf, dCB, dCBL, dCons, dNil, dStar, dVar, dC, dCall, dOp, dOpL, dTup, dLst, dL, dSet, dAsg, dPar, dOwn, dExpr, dNx, dFor, dItL, dItT, dProp, dMeth, dMk, dMk0, dRaise, dPart, dNoPart, dSlL, dSlT, dRevL, dgName, dgTup, dgSets, dOwnIx, dOwnLen, dOwnTup, dApp, dSetI, dRel, relE, dItZip, dItTab, dItEnK, dItEn, dIsS, dJoinG, dSplit, dFmt, dJs, dIsT2, dIndex, dCallS, dYes, wipeE, dXf, dIsX, List.map_cons, List.map_nil, List.cons_append, List.nil_append, List.append_nil, List.length_cons, List.length_nil, List.replicate_succ, List.replicate_zero, Nat.reduceAdd, Nat.reduceSub, List.getElem?_cons_zero, List.getElem?_cons_succ, List.set_cons_zero, List.set_cons_succ, Nat.zero_add, Nat.add_zero, Nat.sub_self, x_add, x_sub, x_mulL, x_mulR, x_div, x_mod, x_lt, x_le, x_gt, x_ge, x_eq, x_ne, x_fro, x_step, x_first, x_last, x_on, x_l0, x_l1, x_l2, x_l3, x_l4, x_t0, x_t1, x_t2, x_t3, x_t4, x_intB, x_intI, x_max2, x_min2, x_lenL, x_lenT, x_sz, x_rs, x_rw, x_rf, x_ra, x_rl, x_slot, x_slotD, true_and, and_true, eq_self, decide_eq_true_eq, Bool.not_eq_true', decide_eq_false_iff_not, res_ok, res_er, x_rng1, x_rng1D, x_rng2, x_rng2E, x_rng2D, z_s, z_w, z_f, z_a, z_l, Bool.and_eq_true, if_true, if_false, Bool.false_eq_true, reduceCtorEq, decide_true, decide_false, Bool.not_true, Bool.not_false, Bool.true_eq_false, not_true_eq_false, not_false_eq_true, y_built]
  exact h
theorem led_new {K : PySem.W.Frag} {r : Ru} {m n : Nat} {g : Dlg} (hr : r.Ok) (hm : Mo m) (hn : n ≤ 1000) (f : Dg.Fresh (aD K) (rd K r) m n g) (e : g.sts = [Dg.zrs m]) : Led K r m n [] 0 g := by
  refine ⟨f.c, f.s, f.m, f.n, ?_, hr, hm, hn, Nat.zero_le _, Nat.zero_le _⟩
  rw [e]
  show [Dg.zrs m] = [stD r m n 0]
  unfold Dg.zrs stD
  rw [rowAt_zero, show ((m : Nat) : Int).toNat = m by omega]
theorem s5 {K : PySem.W.Frag} {k : Kn} {r : Ru} {m n : Nat} {dl : Slot} (hr : r.Ok) (hm : Mo m) (hn : n ≤ 40) (h : ∀ g, Led K r m n [] 0 g → k.nx [.un, .val .vol, .val (rl r), .val (.int m), .val (.int n), dl, .val (rd K r), .dlg g, .un, .un, .un, .un, .un, .un, .un, .un, .un]) : c5 K [.un, .val .vol, .val (rl r), .val (.int m), .val (.int n), dl, .val (rd K r), .un, .un, .un, .un, .un, .un, .un, .un, .un, .un] k := by
  have h1 := hm.lo; have h2 := hm.hi
  unfold c5
  simp (maxSteps := 10000000) (disch := first | assumption | omega) only [dDef, dRet, dRetL, dSeq, dIfS, dTst, dNotB, dAndB, dOrB, dAndV, dOrV, dNotV, dNeg, dIf, dCB, dCBL, dCons, dNil, dStar, dVar, dC, dCall, dOp, dOpL, dTup, dLst, dL, dSet, dAsg, dPar, dOwn, dExpr, dNx, dFor, dItL, dItT, dProp, dMeth, dMk, dMk0, dRaise, dPart, dNoPart, dSlL, dSlT, dRevL, dgName, dgTup, dgSets, dOwnIx, dOwnLen, dOwnTup, dApp, dSetI, dRel, relE, dItZip, dItTab, dItEnK, dItEn, dIsS, dJoinG, dSplit, dFmt, dJs, dIsT2, dIndex, dCallS, dYes, wipeE, dXf, dIsX, List.map_cons, List.map_nil, List.cons_append, List.nil_append, List.append_nil, List.length_cons, List.length_nil, List.replicate_succ, List.replicate_zero, Nat.reduceAdd, Nat.reduceSub, List.getElem?_cons_zero, List.getElem?_cons_succ, List.set_cons_zero, List.set_cons_succ, Nat.zero_add, Nat.add_zero, Nat.sub_self, x_add, x_sub, x_mulL, x_mulR, x_div, x_mod, x_lt, x_le, x_gt, x_ge, x_eq, x_ne, x_fro, x_step, x_first, x_last, x_on, x_l0, x_l1, x_l2, x_l3, x_l4, x_t0, x_t1, x_t2, x_t3, x_t4, x_intB, x_intI, x_max2, x_min2, x_lenL, x_lenT, x_sz, x_rs, x_rw, x_rf, x_ra, x_rl, x_slot, x_slotD, true_and, and_true, eq_self, decide_eq_true_eq, Bool.not_eq_true', decide_eq_false_iff_not, res_ok, res_er, x_rng1, x_rng1D, x_rng2, x_rng2E, x_rng2D, z_s, z_w, z_f, z_a, z_l, Bool.and_eq_true, if_true, if_false, Bool.false_eq_true, reduceCtorEq, decide_true, decide_false, Bool.not_true, Bool.not_false, Bool.true_eq_false, not_true_eq_false, not_false_eq_true, Dg.dNewD, Dg.dNewF]
  refine ⟨_, _, _, rfl, rfl, rfl, ?_⟩
  unfold lookAt
  rw [isIn_i, isIn_i, if_pos (by simp; omega), if_pos (by simp; omega)]
  intro i j ei ej
  cases ei; cases ej
  exact fun g f e => h g (led_new hr hm (by omega) f e)
theorem s6 {K : PySem.W.Frag} {k : Kn} {r : Ru} {m n : Nat} {g : Dlg} (h : k.nx (ev K r m n g [] 0 .un .un .un .un .un .un .un .un)) : c6 K [.un, .val .vol, .val (rl r), .val (.int m), .val (.int n), .val (.lst ((dealtL r m n).map prD)), .val (rd K r), .dlg g, .un, .un, .un, .un, .un, .un, .un, .un, .un] k := by
  unfold c6
  simp (maxSteps := 10000000) (disch := first | assumption | omega) only [dDef, dRet, dRetL, dSeq, dIfS, dTst, dNotB, dAndB, dOrB, dAndV, dOrV, dNotV, dNeg, dIf, dCB, dCBL, dCons, dNil, dStar, dVar, dC, dCall, dOp, dOpL, dTup, dLst, dL, dSet, dAsg, dPar, dOwn, dExpr, dNx, dFor, dItL, dItT, dProp, dMeth, dMk, dMk0, dRaise, dPart, dNoPart, dSlL, dSlT, dRevL, dgName, dgTup, dgSets, dOwnIx, dOwnLen, dOwnTup, dApp, dSetI, dRel, relE, dItZip, dItTab, dItEnK, dItEn, dIsS, dJoinG, dSplit, dFmt, dJs, dIsT2, dIndex, dCallS, dYes, wipeE, dXf, dIsX, List.map_cons, List.map_nil, List.cons_append, List.nil_append, List.append_nil, List.length_cons, List.length_nil, List.replicate_succ, List.replicate_zero, Nat.reduceAdd, Nat.reduceSub, List.getElem?_cons_zero, List.getElem?_cons_succ, List.set_cons_zero, List.set_cons_succ, Nat.zero_add, Nat.add_zero, Nat.sub_self, x_add, x_sub, x_mulL, x_mulR, x_div, x_mod, x_lt, x_le, x_gt, x_ge, x_eq, x_ne, x_fro, x_step, x_first, x_last, x_on, x_l0, x_l1, x_l2, x_l3, x_l4, x_t0, x_t1, x_t2, x_t3, x_t4, x_intB, x_intI, x_max2, x_min2, x_lenL, x_lenT, x_sz, x_rs, x_rw, x_rf, x_ra, x_rl, x_slot, x_slotD, true_and, and_true, eq_self, decide_eq_true_eq, Bool.not_eq_true', decide_eq_false_iff_not, res_ok, res_er, x_rng1, x_rng1D, x_rng2, x_rng2E, x_rng2D, z_s, z_w, z_f, z_a, z_l, Bool.and_eq_true, if_true, if_false, Bool.false_eq_true, reduceCtorEq, decide_true, decide_false, Bool.not_true, Bool.not_false, Bool.true_eq_false, not_true_eq_false, not_false_eq_true]
  exact h
theorem pl_len {past : List Nat} {p : Nat} : ((past ++ [p]).map fun k : Nat => D.int k).length = past.length + 1 := by simp
theorem led_undo {K : PySem.W.Frag} {r : Ru} {m n p q : Nat} {past : List Nat} {g : Dlg} (l : Led K r m n (past ++ [q]) p g) (hq : q ≤ n) : Led K r m n past q (Dg.Dlg.put g g.vs.dropLast g.sts.dropLast) := by
  refine ⟨l.c, l.s, l.gm, l.gn, ?_, l.hr, l.hm, l.hn, hq, by have := l.hl; simp at this; omega⟩
  show g.sts.dropLast = _
  rw [l.st, List.map_append, List.map_cons, List.map_nil, List.dropLast_concat]
theorem led_give {K : PySem.W.Frag} {r : Ru} {m n p i : Nat} {past : List Nat} {g : Dlg} (l : Led K r m n past p g) (hp : p + i ≤ n) (hl : past.length ≤ 900) (v : V) : Led K r m n (past ++ [p]) (p + i) (Dg.Dlg.put g (g.vs ++ [v]) (g.sts ++ [stD r m n (p + i)])) := by
  refine ⟨l.c, l.s, l.gm, l.gn, ?_, l.hr, l.hm, l.hn, hp, by simp; omega⟩
  show g.sts ++ [stD r m n (p + i)] = _
  rw [l.st]
  simp
theorem led_copy {K : PySem.W.Frag} {r : Ru} {m n p : Nat} {past : List Nat} {g g' : Dlg} (l : Led K r m n past p g) (f : Dg.Fresh (aD K) g.src g.m g.n g') (e : g'.sts = g.sts) : Led K r m n past p g' :=
  ⟨f.c, f.s.trans l.s, f.m.trans l.gm, f.n.trans l.gn, e.trans l.st, l.hr, l.hm, l.hn, l.hp, l.hl⟩
theorem y_stands {K : PySem.W.Frag} {r : Ru} {m n p i : Nat} {past : List Nat} {g : Dlg} {env : Env'} {dd nn mm : DE} {Q : D → Prop} {R : DX} (e : env[i]? = some (.dlg g)) (l : Led K r m n past p g) (h1 : ∀ Q1, mm env Q1 R = Q1 (.int m)) (h2 : ∀ Q1, dd env Q1 R = Q1 (.lst ((dealtL r m n).map prD))) (h3 : ∀ Q1, nn env Q1 R = Q1 (.int p)) (h : Q (.bl true)) :
    Dg.dCallR i 3 (FM_l_stands K) (dCons mm (dCons dd (dCons nn dNil))) env Q R := by
  unfold Dg.dCallR
  rw [e]
  show mm env _ R
  rw [h1]
  show dd env _ R
  rw [h2]
  show nn env _ R
  rw [h3]
  exact ⟨rfl, r, m, n, past, p, l, rfl, rfl, h⟩
theorem last_pl {past : List Nat} {p : Nat} : ((past ++ [p]).map fun k : Nat => D.int k)[((past ++ [p]).map fun k : Nat => D.int k).length - 1]? = some (D.int p) := by simp
theorem b_undo {K : PySem.W.Frag} {k : Kn} {r : Ru} {m n p : Nat} {past : List Nat} {g : Dlg} {a b c d e f x y : Slot} {R : DX} (l : Led K r m n past p g) (hle : ∀ q ∈ past, q ≤ n)
    (h : ∀ g' past' p', Led K r m n past' p' g' → (∀ q ∈ past', q ≤ n) → past'.length ≤ past.length + 1 → k.nx (ev K r m n g' past' p' a b c d e f x y)) :
    dSeq (Dg.dIfM (Dg.dOpMB gNe (Dg.dMethM (aD K) 7 0 (FM_Dealing_undo K) dNil) (dOp gGt (dCB gLen (dCons (dVar 8) dNil)) (dC (.int 1)))) (dRet (dC (.bl false))) dNx)
      (dSet 8 (dL (dSlL (dVar 8) dNoPart (dPart (dCB gMax2 (dCons (dC (.int 1)) (dCons (dOp gSub (dCB gLen (dCons (dVar 8) dNil)) (dC (.int 1))) dNil))))))) (ev K r m n g past p a b c d e f x y) k := by
  unfold ev
  have hpl := pl_len (past := past) (p := p)
  simp (maxSteps := 10000000) (disch := first | assumption | omega) only [dDef, dRet, dRetL, dSeq, dIfS, dTst, dNotB, dAndB, dOrB, dAndV, dOrV, dNotV, dNeg, dIf, dCB, dCBL, dCons, dNil, dStar, dVar, dC, dCall, dOp, dOpL, dTup, dLst, dL, dSet, dAsg, dPar, dOwn, dExpr, dNx, dFor, dItL, dItT, dProp, dMeth, dMk, dMk0, dRaise, dPart, dNoPart, dSlL, dSlT, dRevL, dgName, dgTup, dgSets, dOwnIx, dOwnLen, dOwnTup, dApp, dSetI, dRel, relE, dItZip, dItTab, dItEnK, dItEn, dIsS, dJoinG, dSplit, dFmt, dJs, dIsT2, dIndex, dCallS, dYes, wipeE, dXf, dIsX, List.map_cons, List.map_nil, List.cons_append, List.nil_append, List.append_nil, List.length_cons, List.length_nil, List.replicate_succ, List.replicate_zero, Nat.reduceAdd, Nat.reduceSub, List.getElem?_cons_zero, List.getElem?_cons_succ, List.set_cons_zero, List.set_cons_succ, Nat.zero_add, Nat.add_zero, Nat.sub_self, x_add, x_sub, x_mulL, x_mulR, x_div, x_mod, x_lt, x_le, x_gt, x_ge, x_eq, x_ne, x_fro, x_step, x_first, x_last, x_on, x_l0, x_l1, x_l2, x_l3, x_l4, x_t0, x_t1, x_t2, x_t3, x_t4, x_intB, x_intI, x_max2, x_min2, x_lenL, x_lenT, x_sz, x_rs, x_rw, x_rf, x_ra, x_rl, x_slot, x_slotD, true_and, and_true, eq_self, decide_eq_true_eq, Bool.not_eq_true', decide_eq_false_iff_not, res_ok, res_er, x_rng1, x_rng1D, x_rng2, x_rng2E, x_rng2D, z_s, z_w, z_f, z_a, z_l, Bool.and_eq_true, if_true, if_false, Bool.false_eq_true, reduceCtorEq, decide_true, decide_false, Bool.not_true, Bool.not_false, Bool.true_eq_false, not_true_eq_false, not_false_eq_true, Dg.dIfM, Dg.dOpMB, Dg.dMethM, hpl]
  refine ⟨l.c, r, m, n, past, p, l, rfl, ?_⟩
  by_cases z : past = []
  · subst z
    rw [if_pos rfl]
    show gNe (.bl false) (.bl false) _
    rw [x_neS (by rfl)]
    simp (maxSteps := 10000000) (disch := first | assumption | omega) only [dDef, dRet, dRetL, dSeq, dIfS, dTst, dNotB, dAndB, dOrB, dAndV, dOrV, dNotV, dNeg, dIf, dCB, dCBL, dCons, dNil, dStar, dVar, dC, dCall, dOp, dOpL, dTup, dLst, dL, dSet, dAsg, dPar, dOwn, dExpr, dNx, dFor, dItL, dItT, dProp, dMeth, dMk, dMk0, dRaise, dPart, dNoPart, dSlL, dSlT, dRevL, dgName, dgTup, dgSets, dOwnIx, dOwnLen, dOwnTup, dApp, dSetI, dRel, relE, dItZip, dItTab, dItEnK, dItEn, dIsS, dJoinG, dSplit, dFmt, dJs, dIsT2, dIndex, dCallS, dYes, wipeE, dXf, dIsX, List.map_cons, List.map_nil, List.cons_append, List.nil_append, List.append_nil, List.length_cons, List.length_nil, List.replicate_succ, List.replicate_zero, Nat.reduceAdd, Nat.reduceSub, List.getElem?_cons_zero, List.getElem?_cons_succ, List.set_cons_zero, List.set_cons_succ, Nat.zero_add, Nat.add_zero, Nat.sub_self, x_add, x_sub, x_mulL, x_mulR, x_div, x_mod, x_lt, x_le, x_gt, x_ge, x_eq, x_ne, x_fro, x_step, x_first, x_last, x_on, x_l0, x_l1, x_l2, x_l3, x_l4, x_t0, x_t1, x_t2, x_t3, x_t4, x_intB, x_intI, x_max2, x_min2, x_lenL, x_lenT, x_sz, x_rs, x_rw, x_rf, x_ra, x_rl, x_slot, x_slotD, true_and, and_true, eq_self, decide_eq_true_eq, Bool.not_eq_true', decide_eq_false_iff_not, res_ok, res_er, x_rng1, x_rng1D, x_rng2, x_rng2E, x_rng2D, z_s, z_w, z_f, z_a, z_l, Bool.and_eq_true, if_true, if_false, Bool.false_eq_true, reduceCtorEq, decide_true, decide_false, Bool.not_true, Bool.not_false, Bool.true_eq_false, not_true_eq_false, not_false_eq_true]
    exact h g [] p l (by simp) (by simp)
  · rw [if_neg z]
    obtain ⟨past0, q, rfl⟩ : ∃ past0 q, past = past0 ++ [q] := ⟨past.dropLast, past.getLast z, (List.dropLast_concat_getLast z).symm⟩
    rw [show decide ((1 : Int) < ((past0 ++ [q]).length + 1 : Nat)) = true by simp; omega]
    rw [x_neS (by rfl)]
    simp (maxSteps := 10000000) (disch := first | assumption | omega) only [dDef, dRet, dRetL, dSeq, dIfS, dTst, dNotB, dAndB, dOrB, dAndV, dOrV, dNotV, dNeg, dIf, dCB, dCBL, dCons, dNil, dStar, dVar, dC, dCall, dOp, dOpL, dTup, dLst, dL, dSet, dAsg, dPar, dOwn, dExpr, dNx, dFor, dItL, dItT, dProp, dMeth, dMk, dMk0, dRaise, dPart, dNoPart, dSlL, dSlT, dRevL, dgName, dgTup, dgSets, dOwnIx, dOwnLen, dOwnTup, dApp, dSetI, dRel, relE, dItZip, dItTab, dItEnK, dItEn, dIsS, dJoinG, dSplit, dFmt, dJs, dIsT2, dIndex, dCallS, dYes, wipeE, dXf, dIsX, List.map_cons, List.map_nil, List.cons_append, List.nil_append, List.append_nil, List.length_cons, List.length_nil, List.replicate_succ, List.replicate_zero, Nat.reduceAdd, Nat.reduceSub, List.getElem?_cons_zero, List.getElem?_cons_succ, List.set_cons_zero, List.set_cons_succ, Nat.zero_add, Nat.add_zero, Nat.sub_self, x_add, x_sub, x_mulL, x_mulR, x_div, x_mod, x_lt, x_le, x_gt, x_ge, x_eq, x_ne, x_fro, x_step, x_first, x_last, x_on, x_l0, x_l1, x_l2, x_l3, x_l4, x_t0, x_t1, x_t2, x_t3, x_t4, x_intB, x_intI, x_max2, x_min2, x_lenL, x_lenT, x_sz, x_rs, x_rw, x_rf, x_ra, x_rl, x_slot, x_slotD, true_and, and_true, eq_self, decide_eq_true_eq, Bool.not_eq_true', decide_eq_false_iff_not, res_ok, res_er, x_rng1, x_rng1D, x_rng2, x_rng2E, x_rng2D, z_s, z_w, z_f, z_a, z_l, Bool.and_eq_true, if_true, if_false, Bool.false_eq_true, reduceCtorEq, decide_true, decide_false, Bool.not_true, Bool.not_false, Bool.true_eq_false, not_true_eq_false, not_false_eq_true]
    have hq := hle q (by simp)
    have := h _ past0 q (led_undo l hq) (fun z hz => hle z (by simp [hz])) (by simp; omega)
    have e1 : (if (((past0 ++ [q]).length + 1 : Nat) : Int) - 1 > 1 then (((past0 ++ [q]).length + 1 : Nat) : Int) - 1 else 1) = ((past0.length + 1 : Nat) : Int) := by
      simp only [List.length_append, List.length_singleton]
      split <;> omega
    rw [e1, cutD_lo (by simp)]
    have e2 : List.take (past0.length + 1) ((past0 ++ [q] ++ [p]).map fun k : Nat => D.int k) = (past0 ++ [q]).map fun k : Nat => D.int k := by
      rw [← List.map_take, List.take_left' (by simp)]
    rw [e2]
    exact this
theorem cutD_both {t : List D} {a b : Nat} (h : a ≤ b) (hb : b ≤ t.length) : Dl.cutD t (some (a : Int)) (some (b : Int)) = (t.drop a).take (b - a) := by
  unfold Dl.cutD
  have e1 : HT.sIx t.length 0 (some (a : Int)) = a := by simp [HT.sIx]; rw [if_neg (by omega)]; omega
  have e2 : HT.sIx t.length t.length (some (b : Int)) = b := by simp [HT.sIx]; rw [if_neg (by omega)]; omega
  rw [e1, e2]
def tailG (K : PySem.W.Frag) : DG := Dg.dIfM (Dg.dOrBm (Dg.dOpMB gNe (Dg.dCallM 7 1 (FM_l_done K) (dCons (dVar 11) dNil)) (dVar 12)) (Dg.dUpB (dNotB (dTst (Dg.dCallR 10 3 (FM_l_stands K) (dCons (dVar 3) (dCons (dVar 5) (dCons (dVar 13) dNil)))))))) (dRet (dC (.bl false))) dNx
/-- the call is made, the copy stands as before -/
theorem b_tail {K : PySem.W.Frag} {k : Kn} {r : Ru} {m n p p2 : Nat} {past past2 : List Nat} {g g' : Dlg} {many due : D} {a e f x : Slot} (P : List V → List D → Prop) (l' : Led K r m n past p g') (hd : dat 9 due = true)
    (hF : ∀ (Q : D → List V → List D → Prop) (R : Exc → List V → List D → Prop), (∀ vs sts, P vs sts → Q due vs sts) → FM_l_done K g [many] Q R)
    (h : ∀ vs sts, P vs sts → k.nx (ev K r m n (Dg.Dlg.put g vs sts) past2 p2 a (.dlg g') (.val many) (.val due) (.val (.int p)) e f x)) :
    tailG K (ev K r m n g past2 p2 a (.dlg g') (.val many) (.val due) (.val (.int p)) e f x) k := by
  unfold tailG ev
  simp (maxSteps := 10000000) (disch := first | assumption | omega) only [dDef, dRet, dRetL, dSeq, dIfS, dTst, dNotB, dAndB, dOrB, dAndV, dOrV, dNotV, dNeg, dIf, dCB, dCBL, dCons, dNil, dStar, dVar, dC, dCall, dOp, dOpL, dTup, dLst, dL, dSet, dAsg, dPar, dOwn, dExpr, dNx, dFor, dItL, dItT, dProp, dMeth, dMk, dMk0, dRaise, dPart, dNoPart, dSlL, dSlT, dRevL, dgName, dgTup, dgSets, dOwnIx, dOwnLen, dOwnTup, dApp, dSetI, dRel, relE, dItZip, dItTab, dItEnK, dItEn, dIsS, dJoinG, dSplit, dFmt, dJs, dIsT2, dIndex, dCallS, dYes, wipeE, dXf, dIsX, List.map_cons, List.map_nil, List.cons_append, List.nil_append, List.append_nil, List.length_cons, List.length_nil, List.replicate_succ, List.replicate_zero, Nat.reduceAdd, Nat.reduceSub, List.getElem?_cons_zero, List.getElem?_cons_succ, List.set_cons_zero, List.set_cons_succ, Nat.zero_add, Nat.add_zero, Nat.sub_self, x_add, x_sub, x_mulL, x_mulR, x_div, x_mod, x_lt, x_le, x_gt, x_ge, x_eq, x_ne, x_fro, x_step, x_first, x_last, x_on, x_l0, x_l1, x_l2, x_l3, x_l4, x_t0, x_t1, x_t2, x_t3, x_t4, x_intB, x_intI, x_max2, x_min2, x_lenL, x_lenT, x_sz, x_rs, x_rw, x_rf, x_ra, x_rl, x_slot, x_slotD, true_and, and_true, eq_self, decide_eq_true_eq, Bool.not_eq_true', decide_eq_false_iff_not, res_ok, res_er, x_rng1, x_rng1D, x_rng2, x_rng2E, x_rng2D, z_s, z_w, z_f, z_a, z_l, Bool.and_eq_true, if_true, if_false, Bool.false_eq_true, reduceCtorEq, decide_true, decide_false, Bool.not_true, Bool.not_false, Bool.true_eq_false, not_true_eq_false, not_false_eq_true, Dg.dIfM, Dg.dOrBm, Dg.dOpMB, Dg.dCallM, Dg.dUpB]
  refine hF _ _ fun vs sts hv => ?_
  rw [x_neS hd]
  simp (maxSteps := 10000000) (disch := first | assumption | omega) only [dDef, dRet, dRetL, dSeq, dIfS, dTst, dNotB, dAndB, dOrB, dAndV, dOrV, dNotV, dNeg, dIf, dCB, dCBL, dCons, dNil, dStar, dVar, dC, dCall, dOp, dOpL, dTup, dLst, dL, dSet, dAsg, dPar, dOwn, dExpr, dNx, dFor, dItL, dItT, dProp, dMeth, dMk, dMk0, dRaise, dPart, dNoPart, dSlL, dSlT, dRevL, dgName, dgTup, dgSets, dOwnIx, dOwnLen, dOwnTup, dApp, dSetI, dRel, relE, dItZip, dItTab, dItEnK, dItEn, dIsS, dJoinG, dSplit, dFmt, dJs, dIsT2, dIndex, dCallS, dYes, wipeE, dXf, dIsX, List.map_cons, List.map_nil, List.cons_append, List.nil_append, List.append_nil, List.length_cons, List.length_nil, List.replicate_succ, List.replicate_zero, Nat.reduceAdd, Nat.reduceSub, List.getElem?_cons_zero, List.getElem?_cons_succ, List.set_cons_zero, List.set_cons_succ, Nat.zero_add, Nat.add_zero, Nat.sub_self, x_add, x_sub, x_mulL, x_mulR, x_div, x_mod, x_lt, x_le, x_gt, x_ge, x_eq, x_ne, x_fro, x_step, x_first, x_last, x_on, x_l0, x_l1, x_l2, x_l3, x_l4, x_t0, x_t1, x_t2, x_t3, x_t4, x_intB, x_intI, x_max2, x_min2, x_lenL, x_lenT, x_sz, x_rs, x_rw, x_rf, x_ra, x_rl, x_slot, x_slotD, true_and, and_true, eq_self, decide_eq_true_eq, Bool.not_eq_true', decide_eq_false_iff_not, res_ok, res_er, x_rng1, x_rng1D, x_rng2, x_rng2E, x_rng2D, z_s, z_w, z_f, z_a, z_l, Bool.and_eq_true, if_true, if_false, Bool.false_eq_true, reduceCtorEq, decide_true, decide_false, Bool.not_true, Bool.not_false, Bool.true_eq_false, not_true_eq_false, not_false_eq_true]
  refine y_stands (g := g') rfl l' (fun _ => rfl) (fun _ => rfl) (fun _ => rfl) ?_
  exact h vs sts hv
theorem b_give {K : PySem.W.Frag} {k : Kn} {r : Ru} {m n p : Nat} {past : List Nat} {g : Dlg} {a b c d e f x y : Slot} (hn : n ≤ 40) (hl : past.length ≤ 900) (l : Led K r m n past p g) (hle : ∀ q ∈ past, q ≤ n)
    (h : ∀ g' past' p' b' c' d' e' , Led K r m n past' p' g' → (∀ q ∈ past', q ≤ n) → past'.length ≤ past.length + 1 → k.nx (ev K r m n g' past' p' a b' c' d' e' f x y)) :
    dSeq (Dg.dCopy (aD K) 7 10 (G_copy K))
  (dSeq (dSet 11 (dCall 2 Fnext (dCons (dVar 1) (dCons (dOp gIx (dL (dLst (dCons (dC (.int 3)) (dCons (dC (.int 9)) (dCons (dOp gAddU (dVar 4) (dC (.int 2))) dNil))))) (dCall 2 Fnext (dCons (dVar 1) (dCons (dC (.int 3)) dNil)))) dNil))))
  (dSeq (dSet 12 (dIf (dTst (dOp gLt (dVar 11) (dC (.int 1)))) (dC (.str "number")) (dC (.str "done"))))
  (dSeq (dSet 13 (dOp gIx (dVar 8) (dNeg (dC (.int 1)))))
  (dSeq (dIfS (dAndB (dTst (dOp gGt (dVar 11) (dC (.int 0)))) (dTst (dOp gLe (dOp gAddU (dVar 13) (dVar 11)) (dVar 4)))) (dSeq (dSet 12 (dL (dLc (dItL (dL (dSlL (dVar 5) (dPart (dVar 13)) (dPart (dOp gAddU (dVar 13) (dVar 11)))))) [14, 15] (dgTup [14, 15]) dYes (dVar 15))))
  (dSet 8 (dOp gAddU (dVar 8) (dL (dLst (dCons (dOp gAddU (dVar 13) (dVar 11)) dNil)))))) dNx)
  (tailG K))))) (ev K r m n g past p a b c d e f x y) k := by
  refine seqP (fun z => ∃ g', Led K r m n past p g' ∧ z = ev K r m n g past p a (.dlg g') c d e f x y) (fun N hN => ?_) ?_
  · unfold Dg.dCopy ev
    exact ⟨l.c, ⟨l.c, r, m, n, past, p, l⟩, fun g' fr _ es => hN _ ⟨g', led_copy l fr es, rfl⟩⟩
  rintro z ⟨g', l', rfl⟩
  refine seqP (fun z => ∃ j : Nat, j ≤ 41 ∧ z = ev K r m n g past p a (.dlg g') (.val (.int j)) d e f x y) (fun N hN => ?_) ?_
  · unfold ev
    simp (maxSteps := 10000000) (disch := first | assumption | omega) only [dDef, dRet, dRetL, dSeq, dIfS, dTst, dNotB, dAndB, dOrB, dAndV, dOrV, dNotV, dNeg, dIf, dCB, dCBL, dCons, dNil, dStar, dVar, dC, dCall, dOp, dOpL, dTup, dLst, dL, dSet, dAsg, dPar, dOwn, dExpr, dNx, dFor, dItL, dItT, dProp, dMeth, dMk, dMk0, dRaise, dPart, dNoPart, dSlL, dSlT, dRevL, dgName, dgTup, dgSets, dOwnIx, dOwnLen, dOwnTup, dApp, dSetI, dRel, relE, dItZip, dItTab, dItEnK, dItEn, dIsS, dJoinG, dSplit, dFmt, dJs, dIsT2, dIndex, dCallS, dYes, wipeE, dXf, dIsX, List.map_cons, List.map_nil, List.cons_append, List.nil_append, List.append_nil, List.length_cons, List.length_nil, List.replicate_succ, List.replicate_zero, Nat.reduceAdd, Nat.reduceSub, List.getElem?_cons_zero, List.getElem?_cons_succ, List.set_cons_zero, List.set_cons_succ, Nat.zero_add, Nat.add_zero, Nat.sub_self, x_add, x_sub, x_mulL, x_mulR, x_div, x_mod, x_lt, x_le, x_gt, x_ge, x_eq, x_ne, x_fro, x_step, x_first, x_last, x_on, x_l0, x_l1, x_l2, x_l3, x_l4, x_t0, x_t1, x_t2, x_t3, x_t4, x_intB, x_intI, x_max2, x_min2, x_lenL, x_lenT, x_sz, x_rs, x_rw, x_rf, x_ra, x_rl, x_slot, x_slotD, true_and, and_true, eq_self, decide_eq_true_eq, Bool.not_eq_true', decide_eq_false_iff_not, res_ok, res_er, x_rng1, x_rng1D, x_rng2, x_rng2E, x_rng2D, z_s, z_w, z_f, z_a, z_l, Bool.and_eq_true, if_true, if_false, Bool.false_eq_true, reduceCtorEq, decide_true, decide_false, Bool.not_true, Bool.not_false, Bool.true_eq_false, not_true_eq_false, not_false_eq_true]
    refine y_pick (xs := [.int 3, .int 9, .int ((n : Int) + 2)]) (by decide) (show (3 : Int) ≤ ((3 : Nat) : Int) by decide) (by decide) fun z hz => ?_
    have hz' : ∃ t : Nat, z = .int t ∧ 0 < t ∧ t ≤ 42 := by
      simp only [List.mem_cons, List.not_mem_nil, or_false] at hz
      rcases hz with rfl | rfl | rfl
      · exact ⟨3, rfl, by omega, by omega⟩
      · exact ⟨9, rfl, by omega, by omega⟩
      · exact ⟨n + 2, by rw [Int.natCast_add]; rfl, by omega, by omega⟩
    obtain ⟨t, rfl, t0, t1⟩ := hz'
    refine next_ok (by omega) (by omega) fun i i0 i1 => ?_
    obtain ⟨j, rfl⟩ := Int.eq_ofNat_of_zero_le i0
    exact hN _ ⟨j, by omega, rfl⟩
  rintro z ⟨j, hj, rfl⟩
  refine seqE (ev K r m n g past p a (.dlg g') (.val (.int j)) (.val (if j < 1 then .str "number" else .str "done")) e f x y) (fun N hN => ?_) ?_
  · unfold ev at hN ⊢
    simp (maxSteps := 10000000) (disch := first | assumption | omega) only [dDef, dRet, dRetL, dSeq, dIfS, dTst, dNotB, dAndB, dOrB, dAndV, dOrV, dNotV, dNeg, dIf, dCB, dCBL, dCons, dNil, dStar, dVar, dC, dCall, dOp, dOpL, dTup, dLst, dL, dSet, dAsg, dPar, dOwn, dExpr, dNx, dFor, dItL, dItT, dProp, dMeth, dMk, dMk0, dRaise, dPart, dNoPart, dSlL, dSlT, dRevL, dgName, dgTup, dgSets, dOwnIx, dOwnLen, dOwnTup, dApp, dSetI, dRel, relE, dItZip, dItTab, dItEnK, dItEn, dIsS, dJoinG, dSplit, dFmt, dJs, dIsT2, dIndex, dCallS, dYes, wipeE, dXf, dIsX, List.map_cons, List.map_nil, List.cons_append, List.nil_append, List.append_nil, List.length_cons, List.length_nil, List.replicate_succ, List.replicate_zero, Nat.reduceAdd, Nat.reduceSub, List.getElem?_cons_zero, List.getElem?_cons_succ, List.set_cons_zero, List.set_cons_succ, Nat.zero_add, Nat.add_zero, Nat.sub_self, x_add, x_sub, x_mulL, x_mulR, x_div, x_mod, x_lt, x_le, x_gt, x_ge, x_eq, x_ne, x_fro, x_step, x_first, x_last, x_on, x_l0, x_l1, x_l2, x_l3, x_l4, x_t0, x_t1, x_t2, x_t3, x_t4, x_intB, x_intI, x_max2, x_min2, x_lenL, x_lenT, x_sz, x_rs, x_rw, x_rf, x_ra, x_rl, x_slot, x_slotD, true_and, and_true, eq_self, decide_eq_true_eq, Bool.not_eq_true', decide_eq_false_iff_not, res_ok, res_er, x_rng1, x_rng1D, x_rng2, x_rng2E, x_rng2D, z_s, z_w, z_f, z_a, z_l, Bool.and_eq_true, if_true, if_false, Bool.false_eq_true, reduceCtorEq, decide_true, decide_false, Bool.not_true, Bool.not_false, Bool.true_eq_false, not_true_eq_false, not_false_eq_true]
    by_cases hc : j < 1
    · rw [if_pos hc] at hN
      rw [if_pos (by omega)]
      exact hN
    · rw [if_neg hc] at hN
      rw [if_neg (by omega)]
      exact hN
  refine seqE (ev K r m n g past p a (.dlg g') (.val (.int j)) (.val (if j < 1 then .str "number" else .str "done")) (.val (.int p)) f x y) (fun N hN => ?_) ?_
  · unfold ev at hN ⊢
    simp (maxSteps := 10000000) (disch := first | assumption | omega) only [dDef, dRet, dRetL, dSeq, dIfS, dTst, dNotB, dAndB, dOrB, dAndV, dOrV, dNotV, dNeg, dIf, dCB, dCBL, dCons, dNil, dStar, dVar, dC, dCall, dOp, dOpL, dTup, dLst, dL, dSet, dAsg, dPar, dOwn, dExpr, dNx, dFor, dItL, dItT, dProp, dMeth, dMk, dMk0, dRaise, dPart, dNoPart, dSlL, dSlT, dRevL, dgName, dgTup, dgSets, dOwnIx, dOwnLen, dOwnTup, dApp, dSetI, dRel, relE, dItZip, dItTab, dItEnK, dItEn, dIsS, dJoinG, dSplit, dFmt, dJs, dIsT2, dIndex, dCallS, dYes, wipeE, dXf, dIsX, List.map_cons, List.map_nil, List.cons_append, List.nil_append, List.append_nil, List.length_cons, List.length_nil, List.replicate_succ, List.replicate_zero, Nat.reduceAdd, Nat.reduceSub, List.getElem?_cons_zero, List.getElem?_cons_succ, List.set_cons_zero, List.set_cons_succ, Nat.zero_add, Nat.add_zero, Nat.sub_self, x_add, x_sub, x_mulL, x_mulR, x_div, x_mod, x_lt, x_le, x_gt, x_ge, x_eq, x_ne, x_fro, x_step, x_first, x_last, x_on, x_l0, x_l1, x_l2, x_l3, x_l4, x_t0, x_t1, x_t2, x_t3, x_t4, x_intB, x_intI, x_max2, x_min2, x_lenL, x_lenT, x_sz, x_rs, x_rw, x_rf, x_ra, x_rl, x_slot, x_slotD, true_and, and_true, eq_self, decide_eq_true_eq, Bool.not_eq_true', decide_eq_false_iff_not, res_ok, res_er, x_rng1, x_rng1D, x_rng2, x_rng2E, x_rng2D, z_s, z_w, z_f, z_a, z_l, Bool.and_eq_true, if_true, if_false, Bool.false_eq_true, reduceCtorEq, decide_true, decide_false, Bool.not_true, Bool.not_false, Bool.true_eq_false, not_true_eq_false, not_false_eq_true]
    rw [gIx_last last_pl]
    exact hN
  by_cases h0 : j < 1
  · have : j = 0 := by omega
    subst this
    refine seqE (ev K r m n g past p a (.dlg g') (.val (.int (0 : Nat))) (.val (.str "number")) (.val (.int p)) f x y) (fun N hN => ?_) ?_
    · unfold ev at hN ⊢
      rw [if_pos h0]
      simp (maxSteps := 10000000) (disch := first | assumption | omega) only [dDef, dRet, dRetL, dSeq, dIfS, dTst, dNotB, dAndB, dOrB, dAndV, dOrV, dNotV, dNeg, dIf, dCB, dCBL, dCons, dNil, dStar, dVar, dC, dCall, dOp, dOpL, dTup, dLst, dL, dSet, dAsg, dPar, dOwn, dExpr, dNx, dFor, dItL, dItT, dProp, dMeth, dMk, dMk0, dRaise, dPart, dNoPart, dSlL, dSlT, dRevL, dgName, dgTup, dgSets, dOwnIx, dOwnLen, dOwnTup, dApp, dSetI, dRel, relE, dItZip, dItTab, dItEnK, dItEn, dIsS, dJoinG, dSplit, dFmt, dJs, dIsT2, dIndex, dCallS, dYes, wipeE, dXf, dIsX, List.map_cons, List.map_nil, List.cons_append, List.nil_append, List.append_nil, List.length_cons, List.length_nil, List.replicate_succ, List.replicate_zero, Nat.reduceAdd, Nat.reduceSub, List.getElem?_cons_zero, List.getElem?_cons_succ, List.set_cons_zero, List.set_cons_succ, Nat.zero_add, Nat.add_zero, Nat.sub_self, x_add, x_sub, x_mulL, x_mulR, x_div, x_mod, x_lt, x_le, x_gt, x_ge, x_eq, x_ne, x_fro, x_step, x_first, x_last, x_on, x_l0, x_l1, x_l2, x_l3, x_l4, x_t0, x_t1, x_t2, x_t3, x_t4, x_intB, x_intI, x_max2, x_min2, x_lenL, x_lenT, x_sz, x_rs, x_rw, x_rf, x_ra, x_rl, x_slot, x_slotD, true_and, and_true, eq_self, decide_eq_true_eq, Bool.not_eq_true', decide_eq_false_iff_not, res_ok, res_er, x_rng1, x_rng1D, x_rng2, x_rng2E, x_rng2D, z_s, z_w, z_f, z_a, z_l, Bool.and_eq_true, if_true, if_false, Bool.false_eq_true, reduceCtorEq, decide_true, decide_false, Bool.not_true, Bool.not_false, Bool.true_eq_false, not_true_eq_false, not_false_eq_true]
      exact hN
    refine b_tail (past2 := past) (p2 := p) (fun vs sts => vs = g.vs ∧ sts = g.sts) l' (by decide +kernel) (fun Q R hQ => ⟨r, m, n, past, p, l, .inl ⟨_, rfl, rfl, by rfl, hQ _ _ ⟨rfl, rfl⟩⟩⟩) fun vs sts hv => ?_
    obtain ⟨rfl, rfl⟩ := hv
    exact h g past p _ _ _ _ l hle (by omega)
  · rw [if_neg h0]
    by_cases h1 : p + j ≤ n
    · refine seqE (ev K r m n g (past ++ [p]) (p + j) a (.dlg g') (.val (.int j)) (.val (il (persons r m n p j))) (.val (.int p)) f x y) (fun N hN => ?_) ?_
      · unfold ev at hN ⊢
        simp (maxSteps := 10000000) (disch := first | assumption | omega) only [dDef, dRet, dRetL, dSeq, dIfS, dTst, dNotB, dAndB, dOrB, dAndV, dOrV, dNotV, dNeg, dIf, dCB, dCBL, dCons, dNil, dStar, dVar, dC, dCall, dOp, dOpL, dTup, dLst, dL, dSet, dAsg, dPar, dOwn, dExpr, dNx, dFor, dItL, dItT, dProp, dMeth, dMk, dMk0, dRaise, dPart, dNoPart, dSlL, dSlT, dRevL, dgName, dgTup, dgSets, dOwnIx, dOwnLen, dOwnTup, dApp, dSetI, dRel, relE, dItZip, dItTab, dItEnK, dItEn, dIsS, dJoinG, dSplit, dFmt, dJs, dIsT2, dIndex, dCallS, dYes, wipeE, dXf, dIsX, List.map_cons, List.map_nil, List.cons_append, List.nil_append, List.append_nil, List.length_cons, List.length_nil, List.replicate_succ, List.replicate_zero, Nat.reduceAdd, Nat.reduceSub, List.getElem?_cons_zero, List.getElem?_cons_succ, List.set_cons_zero, List.set_cons_succ, Nat.zero_add, Nat.add_zero, Nat.sub_self, x_add, x_sub, x_mulL, x_mulR, x_div, x_mod, x_lt, x_le, x_gt, x_ge, x_eq, x_ne, x_fro, x_step, x_first, x_last, x_on, x_l0, x_l1, x_l2, x_l3, x_l4, x_t0, x_t1, x_t2, x_t3, x_t4, x_intB, x_intI, x_max2, x_min2, x_lenL, x_lenT, x_sz, x_rs, x_rw, x_rf, x_ra, x_rl, x_slot, x_slotD, true_and, and_true, eq_self, decide_eq_true_eq, Bool.not_eq_true', decide_eq_false_iff_not, res_ok, res_er, x_rng1, x_rng1D, x_rng2, x_rng2E, x_rng2D, z_s, z_w, z_f, z_a, z_l, Bool.and_eq_true, if_true, if_false, Bool.false_eq_true, reduceCtorEq, decide_true, decide_false, Bool.not_true, Bool.not_false, Bool.true_eq_false, not_true_eq_false, not_false_eq_true]
        rw [if_pos (by omega), if_pos (by omega)]
        simp (maxSteps := 10000000) (disch := first | assumption | omega) only [dDef, dRet, dRetL, dSeq, dIfS, dTst, dNotB, dAndB, dOrB, dAndV, dOrV, dNotV, dNeg, dIf, dCB, dCBL, dCons, dNil, dStar, dVar, dC, dCall, dOp, dOpL, dTup, dLst, dL, dSet, dAsg, dPar, dOwn, dExpr, dNx, dFor, dItL, dItT, dProp, dMeth, dMk, dMk0, dRaise, dPart, dNoPart, dSlL, dSlT, dRevL, dgName, dgTup, dgSets, dOwnIx, dOwnLen, dOwnTup, dApp, dSetI, dRel, relE, dItZip, dItTab, dItEnK, dItEn, dIsS, dJoinG, dSplit, dFmt, dJs, dIsT2, dIndex, dCallS, dYes, wipeE, dXf, dIsX, List.map_cons, List.map_nil, List.cons_append, List.nil_append, List.append_nil, List.length_cons, List.length_nil, List.replicate_succ, List.replicate_zero, Nat.reduceAdd, Nat.reduceSub, List.getElem?_cons_zero, List.getElem?_cons_succ, List.set_cons_zero, List.set_cons_succ, Nat.zero_add, Nat.add_zero, Nat.sub_self, x_add, x_sub, x_mulL, x_mulR, x_div, x_mod, x_lt, x_le, x_gt, x_ge, x_eq, x_ne, x_fro, x_step, x_first, x_last, x_on, x_l0, x_l1, x_l2, x_l3, x_l4, x_t0, x_t1, x_t2, x_t3, x_t4, x_intB, x_intI, x_max2, x_min2, x_lenL, x_lenT, x_sz, x_rs, x_rw, x_rf, x_ra, x_rl, x_slot, x_slotD, true_and, and_true, eq_self, decide_eq_true_eq, Bool.not_eq_true', decide_eq_false_iff_not, res_ok, res_er, x_rng1, x_rng1D, x_rng2, x_rng2E, x_rng2D, z_s, z_w, z_f, z_a, z_l, Bool.and_eq_true, if_true, if_false, Bool.false_eq_true, reduceCtorEq, decide_true, decide_false, Bool.not_true, Bool.not_false, Bool.true_eq_false, not_true_eq_false, not_false_eq_true, dLc]
        have e1 : cutD ((dealtL r m n).map prD) (some (p : Int)) (some ((p : Int) + j)) = ((upto j).map fun k => (thingAt r n (p + k), personOf r m n (p + k))).map prD := by
          rw [show (p : Int) + j = ((p + j : Nat) : Int) by omega, cutD_both (Nat.le_add_right p j) (by rw [List.length_map, dealt_len]; exact h1), Nat.add_sub_cancel_left, ← List.map_drop, ← List.map_take]
          congr 1
          unfold dealtL
          rw [← List.map_drop, ← List.map_take]
          have e5 : n = p + (j + (n - p - j)) := by omega
          have e6 : List.take j (List.drop p (upto n)) = (upto j).map fun k => (p : Int) + k := by
            rw [e5, upto_add, List.drop_left' (upto_length p), upto_add, List.map_append, List.take_left' (by rw [List.length_map, upto_length])]
          rw [e6, List.map_map]
          rfl
        rw [e1]
        refine lc_map (xs := (upto j).map fun k => (thingAt r n (p + k), personOf r m n (p + k))) prD (fun z => .int z.2) rfl (Nat.le_trans (m := 1000) (by rw [List.length_map, upto_length]; omega) (by decide)) (fun z hz Q1 q => ?_) ?_
        · unfold prD
          simp (maxSteps := 10000000) (disch := first | assumption | omega) only [dDef, dRet, dRetL, dSeq, dIfS, dTst, dNotB, dAndB, dOrB, dAndV, dOrV, dNotV, dNeg, dIf, dCB, dCBL, dCons, dNil, dStar, dVar, dC, dCall, dOp, dOpL, dTup, dLst, dL, dSet, dAsg, dPar, dOwn, dExpr, dNx, dFor, dItL, dItT, dProp, dMeth, dMk, dMk0, dRaise, dPart, dNoPart, dSlL, dSlT, dRevL, dgName, dgTup, dgSets, dOwnIx, dOwnLen, dOwnTup, dApp, dSetI, dRel, relE, dItZip, dItTab, dItEnK, dItEn, dIsS, dJoinG, dSplit, dFmt, dJs, dIsT2, dIndex, dCallS, dYes, wipeE, dXf, dIsX, List.map_cons, List.map_nil, List.cons_append, List.nil_append, List.append_nil, List.length_cons, List.length_nil, List.replicate_succ, List.replicate_zero, Nat.reduceAdd, Nat.reduceSub, List.getElem?_cons_zero, List.getElem?_cons_succ, List.set_cons_zero, List.set_cons_succ, Nat.zero_add, Nat.add_zero, Nat.sub_self, x_add, x_sub, x_mulL, x_mulR, x_div, x_mod, x_lt, x_le, x_gt, x_ge, x_eq, x_ne, x_fro, x_step, x_first, x_last, x_on, x_l0, x_l1, x_l2, x_l3, x_l4, x_t0, x_t1, x_t2, x_t3, x_t4, x_intB, x_intI, x_max2, x_min2, x_lenL, x_lenT, x_sz, x_rs, x_rw, x_rf, x_ra, x_rl, x_slot, x_slotD, true_and, and_true, eq_self, decide_eq_true_eq, Bool.not_eq_true', decide_eq_false_iff_not, res_ok, res_er, x_rng1, x_rng1D, x_rng2, x_rng2E, x_rng2D, z_s, z_w, z_f, z_a, z_l, Bool.and_eq_true, if_true, if_false, Bool.false_eq_true, reduceCtorEq, decide_true, decide_false, Bool.not_true, Bool.not_false, Bool.true_eq_false, not_true_eq_false, not_false_eq_true]
          exact q
        · rw [x_addL (Nat.le_trans (m := 1000) (by simp; omega) (by decide))]
          have e2 : ((upto j).map fun k => (thingAt r n (p + k), personOf r m n (p + k))).map (fun z => D.int z.2) = (persons r m n p j).map .int := by
            unfold persons
            rw [List.map_map, List.map_map]
            rfl
          have e3 : ((past ++ [p]).map fun k : Nat => D.int k) ++ [D.int ((p : Int) + j)] = ((past ++ [p]) ++ [p + j]).map fun k : Nat => D.int k := by
            rw [List.map_append (l₁ := past ++ [p])]
            simp
          rw [e2, e3]
          exact hN
      refine b_tail (past2 := past ++ [p]) (p2 := p + j) (fun vs sts => ∃ v, vs = g.vs ++ [v] ∧ sts = g.sts ++ [stD r m n (p + j)]) l' dat_il (fun Q R hQ => ⟨r, m, n, past, p, l, .inr (.inr ⟨j, rfl, by omega, h1, fun v => hQ _ _ ⟨v, rfl, rfl⟩⟩)⟩) fun vs sts hv => ?_
      obtain ⟨v, rfl, rfl⟩ := hv
      refine h _ (past ++ [p]) (p + j) _ _ _ _ (led_give l h1 hl v) (fun q hq => ?_) (by simp)
      rcases List.mem_append.mp hq with hq | hq
      · exact hle q hq
      · have : q = p := by simpa using hq
        subst this
        exact l.hp
    · refine seqE (ev K r m n g past p a (.dlg g') (.val (.int j)) (.val (.str "done")) (.val (.int p)) f x y) (fun N hN => ?_) ?_
      · unfold ev at hN ⊢
        simp (maxSteps := 10000000) (disch := first | assumption | omega) only [dDef, dRet, dRetL, dSeq, dIfS, dTst, dNotB, dAndB, dOrB, dAndV, dOrV, dNotV, dNeg, dIf, dCB, dCBL, dCons, dNil, dStar, dVar, dC, dCall, dOp, dOpL, dTup, dLst, dL, dSet, dAsg, dPar, dOwn, dExpr, dNx, dFor, dItL, dItT, dProp, dMeth, dMk, dMk0, dRaise, dPart, dNoPart, dSlL, dSlT, dRevL, dgName, dgTup, dgSets, dOwnIx, dOwnLen, dOwnTup, dApp, dSetI, dRel, relE, dItZip, dItTab, dItEnK, dItEn, dIsS, dJoinG, dSplit, dFmt, dJs, dIsT2, dIndex, dCallS, dYes, wipeE, dXf, dIsX, List.map_cons, List.map_nil, List.cons_append, List.nil_append, List.append_nil, List.length_cons, List.length_nil, List.replicate_succ, List.replicate_zero, Nat.reduceAdd, Nat.reduceSub, List.getElem?_cons_zero, List.getElem?_cons_succ, List.set_cons_zero, List.set_cons_succ, Nat.zero_add, Nat.add_zero, Nat.sub_self, x_add, x_sub, x_mulL, x_mulR, x_div, x_mod, x_lt, x_le, x_gt, x_ge, x_eq, x_ne, x_fro, x_step, x_first, x_last, x_on, x_l0, x_l1, x_l2, x_l3, x_l4, x_t0, x_t1, x_t2, x_t3, x_t4, x_intB, x_intI, x_max2, x_min2, x_lenL, x_lenT, x_sz, x_rs, x_rw, x_rf, x_ra, x_rl, x_slot, x_slotD, true_and, and_true, eq_self, decide_eq_true_eq, Bool.not_eq_true', decide_eq_false_iff_not, res_ok, res_er, x_rng1, x_rng1D, x_rng2, x_rng2E, x_rng2D, z_s, z_w, z_f, z_a, z_l, Bool.and_eq_true, if_true, if_false, Bool.false_eq_true, reduceCtorEq, decide_true, decide_false, Bool.not_true, Bool.not_false, Bool.true_eq_false, not_true_eq_false, not_false_eq_true]
        rw [if_pos (by omega), if_neg (by omega)]
        exact hN
      refine b_tail (past2 := past) (p2 := p) (fun vs sts => vs = g.vs ∧ sts = g.sts) l' (by decide +kernel) (fun Q R hQ => ⟨r, m, n, past, p, l, .inr (.inl ⟨j, rfl, by omega, by omega, hQ _ _ ⟨rfl, rfl⟩⟩)⟩) fun vs sts hv => ?_
      obtain ⟨rfl, rfl⟩ := hv
      exact h g past p _ _ _ _ l hle (by omega)
theorem if_draw {k : Kn} {env : Env'} {g1 g2 : DG} (he : env[1]? = some (.val .vol)) (h : ∀ i : Int, (i = 0 → g1 env k) ∧ (i ≠ 0 → g2 env k)) : dIfS (dTst (dOp gEq (dCall 2 Fnext (dCons (dVar 1) (dCons (dC (.int 5)) dNil))) (dC (.int 0)))) g1 g2 env k := by
  simp (maxSteps := 10000000) (disch := first | assumption | omega) only [dDef, dRet, dRetL, dSeq, dIfS, dTst, dNotB, dAndB, dOrB, dAndV, dOrV, dNotV, dNeg, dIf, dCB, dCBL, dCons, dNil, dStar, dVar, dC, dCall, dOp, dOpL, dTup, dLst, dL, dSet, dAsg, dPar, dOwn, dExpr, dNx, dFor, dItL, dItT, dProp, dMeth, dMk, dMk0, dRaise, dPart, dNoPart, dSlL, dSlT, dRevL, dgName, dgTup, dgSets, dOwnIx, dOwnLen, dOwnTup, dApp, dSetI, dRel, relE, dItZip, dItTab, dItEnK, dItEn, dIsS, dJoinG, dSplit, dFmt, dJs, dIsT2, dIndex, dCallS, dYes, wipeE, dXf, dIsX, List.map_cons, List.map_nil, List.cons_append, List.nil_append, List.append_nil, List.length_cons, List.length_nil, List.replicate_succ, List.replicate_zero, Nat.reduceAdd, Nat.reduceSub, List.getElem?_cons_zero, List.getElem?_cons_succ, List.set_cons_zero, List.set_cons_succ, Nat.zero_add, Nat.add_zero, Nat.sub_self, x_add, x_sub, x_mulL, x_mulR, x_div, x_mod, x_lt, x_le, x_gt, x_ge, x_eq, x_ne, x_fro, x_step, x_first, x_last, x_on, x_l0, x_l1, x_l2, x_l3, x_l4, x_t0, x_t1, x_t2, x_t3, x_t4, x_intB, x_intI, x_max2, x_min2, x_lenL, x_lenT, x_sz, x_rs, x_rw, x_rf, x_ra, x_rl, x_slot, x_slotD, true_and, and_true, eq_self, decide_eq_true_eq, Bool.not_eq_true', decide_eq_false_iff_not, res_ok, res_er, x_rng1, x_rng1D, x_rng2, x_rng2E, x_rng2D, z_s, z_w, z_f, z_a, z_l, Bool.and_eq_true, if_true, if_false, Bool.false_eq_true, reduceCtorEq, decide_true, decide_false, Bool.not_true, Bool.not_false, Bool.true_eq_false, not_true_eq_false, not_false_eq_true, he]
  refine next_ok (by decide) (by decide) fun i i0 i1 => ?_
  rw [x_eq]
  show if decide (i = 0) = true then _ else _
  by_cases hi : i = 0
  · rw [if_pos (by simpa using hi)]
    exact (h i).1 hi
  · rw [if_neg (by simpa using hi)]
    exact (h i).2 hi
theorem for_draw {k : Kn} {env : Env'} {gt : DTg} {gb : DG} (he : env[1]? = some (.val .vol)) (h : ∀ i : Int, 0 ≤ i → i < 13 → dForL gt gb ((upto i.toNat).map .int) env k) : dFor (dRng1 (dCons (dCall 2 Fnext (dCons (dVar 1) (dCons (dC (.int 13)) dNil))) dNil)) gt gb env k := by
  simp (maxSteps := 10000000) (disch := first | assumption | omega) only [dDef, dRet, dRetL, dSeq, dIfS, dTst, dNotB, dAndB, dOrB, dAndV, dOrV, dNotV, dNeg, dIf, dCB, dCBL, dCons, dNil, dStar, dVar, dC, dCall, dOp, dOpL, dTup, dLst, dL, dSet, dAsg, dPar, dOwn, dExpr, dNx, dFor, dItL, dItT, dProp, dMeth, dMk, dMk0, dRaise, dPart, dNoPart, dSlL, dSlT, dRevL, dgName, dgTup, dgSets, dOwnIx, dOwnLen, dOwnTup, dApp, dSetI, dRel, relE, dItZip, dItTab, dItEnK, dItEn, dIsS, dJoinG, dSplit, dFmt, dJs, dIsT2, dIndex, dCallS, dYes, wipeE, dXf, dIsX, List.map_cons, List.map_nil, List.cons_append, List.nil_append, List.append_nil, List.length_cons, List.length_nil, List.replicate_succ, List.replicate_zero, Nat.reduceAdd, Nat.reduceSub, List.getElem?_cons_zero, List.getElem?_cons_succ, List.set_cons_zero, List.set_cons_succ, Nat.zero_add, Nat.add_zero, Nat.sub_self, x_add, x_sub, x_mulL, x_mulR, x_div, x_mod, x_lt, x_le, x_gt, x_ge, x_eq, x_ne, x_fro, x_step, x_first, x_last, x_on, x_l0, x_l1, x_l2, x_l3, x_l4, x_t0, x_t1, x_t2, x_t3, x_t4, x_intB, x_intI, x_max2, x_min2, x_lenL, x_lenT, x_sz, x_rs, x_rw, x_rf, x_ra, x_rl, x_slot, x_slotD, true_and, and_true, eq_self, decide_eq_true_eq, Bool.not_eq_true', decide_eq_false_iff_not, res_ok, res_er, x_rng1, x_rng1D, x_rng2, x_rng2E, x_rng2D, z_s, z_w, z_f, z_a, z_l, Bool.and_eq_true, if_true, if_false, Bool.false_eq_true, reduceCtorEq, decide_true, decide_false, Bool.not_true, Bool.not_false, Bool.true_eq_false, not_true_eq_false, not_false_eq_true, he]
  refine next_ok (by decide) (by decide) fun i i0 i1 => ?_
  rw [x_rng1D (by omega) (by omega)]
  exact h i i0 i1
theorem b_one {K : PySem.W.Frag} {k : Kn} {r : Ru} {m n p : Nat} {past : List Nat} {g : Dlg} {a b c d e f x y : Slot} (hn : n ≤ 40) (hl : past.length ≤ 900) (l : Led K r m n past p g) (hle : ∀ q ∈ past, q ≤ n)
    (h : ∀ g' past' p' b' c' d' e' , Led K r m n past' p' g' → (∀ q ∈ past', q ≤ n) → past'.length ≤ past.length + 1 → k.nx (ev K r m n g' past' p' a b' c' d' e' f x y)) :
    c7_1 K (ev K r m n g past p a b c d e f x y) k := by
  unfold c7_1
  exact if_draw rfl fun i => ⟨fun _ => b_undo (R := FX) l hle fun g' past' p' l' hle' hl' => h g' past' p' _ _ _ _ l' hle' hl', fun _ => b_give hn hl l hle h⟩
theorem b_two {K : PySem.W.Frag} {k : Kn} {r : Ru} {m n p : Nat} {past : List Nat} {g : Dlg} {a b c d e f x y : Slot} (l : Led K r m n past p g) (hl : past.length ≤ 900) (h : k.nx (ev K r m n g past p a b c d e f x y)) : c7_2 K (ev K r m n g past p a b c d e f x y) k := by
  have hpl := pl_len (past := past) (p := p)
  unfold c7_2
  simp only [dIfS, dOrB, dNotB, dTst]
  refine y_stands (g := g) (r := r) (m := m) (n := n) (p := p) rfl l (fun _ => rfl) (fun _ => rfl) (fun Q1 => ?_) ?_
  · show gIx (.lst ((past ++ [p]).map fun k : Nat => D.int k)) (.int (-1)) Q1 = _
    rw [gIx_last last_pl]
  · unfold ev
    simp (maxSteps := 10000000) (disch := first | assumption | omega) only [dDef, dRet, dRetL, dSeq, dIfS, dTst, dNotB, dAndB, dOrB, dAndV, dOrV, dNotV, dNeg, dIf, dCB, dCBL, dCons, dNil, dStar, dVar, dC, dCall, dOp, dOpL, dTup, dLst, dL, dSet, dAsg, dPar, dOwn, dExpr, dNx, dFor, dItL, dItT, dProp, dMeth, dMk, dMk0, dRaise, dPart, dNoPart, dSlL, dSlT, dRevL, dgName, dgTup, dgSets, dOwnIx, dOwnLen, dOwnTup, dApp, dSetI, dRel, relE, dItZip, dItTab, dItEnK, dItEn, dIsS, dJoinG, dSplit, dFmt, dJs, dIsT2, dIndex, dCallS, dYes, wipeE, dXf, dIsX, List.map_cons, List.map_nil, List.cons_append, List.nil_append, List.append_nil, List.length_cons, List.length_nil, List.replicate_succ, List.replicate_zero, Nat.reduceAdd, Nat.reduceSub, List.getElem?_cons_zero, List.getElem?_cons_succ, List.set_cons_zero, List.set_cons_succ, Nat.zero_add, Nat.add_zero, Nat.sub_self, x_add, x_sub, x_mulL, x_mulR, x_div, x_mod, x_lt, x_le, x_gt, x_ge, x_eq, x_ne, x_fro, x_step, x_first, x_last, x_on, x_l0, x_l1, x_l2, x_l3, x_l4, x_t0, x_t1, x_t2, x_t3, x_t4, x_intB, x_intI, x_max2, x_min2, x_lenL, x_lenT, x_sz, x_rs, x_rw, x_rf, x_ra, x_rl, x_slot, x_slotD, true_and, and_true, eq_self, decide_eq_true_eq, Bool.not_eq_true', decide_eq_false_iff_not, res_ok, res_er, x_rng1, x_rng1D, x_rng2, x_rng2E, x_rng2D, z_s, z_w, z_f, z_a, z_l, Bool.and_eq_true, if_true, if_false, Bool.false_eq_true, reduceCtorEq, decide_true, decide_false, Bool.not_true, Bool.not_false, Bool.true_eq_false, not_true_eq_false, not_false_eq_true, Dg.dLenR, hpl]
    refine ⟨l.c, r, m, n, past, p, l, rfl, rfl, past.length, rfl, by rw [sizeLine_eq]; omega, ?_⟩
    rw [show (((past.length + 1 : Nat) : Int) - 1) = (past.length : Int) by omega, x_neS (by rfl)]
    simp (maxSteps := 10000000) (disch := first | assumption | omega) only [dDef, dRet, dRetL, dSeq, dIfS, dTst, dNotB, dAndB, dOrB, dAndV, dOrV, dNotV, dNeg, dIf, dCB, dCBL, dCons, dNil, dStar, dVar, dC, dCall, dOp, dOpL, dTup, dLst, dL, dSet, dAsg, dPar, dOwn, dExpr, dNx, dFor, dItL, dItT, dProp, dMeth, dMk, dMk0, dRaise, dPart, dNoPart, dSlL, dSlT, dRevL, dgName, dgTup, dgSets, dOwnIx, dOwnLen, dOwnTup, dApp, dSetI, dRel, relE, dItZip, dItTab, dItEnK, dItEn, dIsS, dJoinG, dSplit, dFmt, dJs, dIsT2, dIndex, dCallS, dYes, wipeE, dXf, dIsX, List.map_cons, List.map_nil, List.cons_append, List.nil_append, List.append_nil, List.length_cons, List.length_nil, List.replicate_succ, List.replicate_zero, Nat.reduceAdd, Nat.reduceSub, List.getElem?_cons_zero, List.getElem?_cons_succ, List.set_cons_zero, List.set_cons_succ, Nat.zero_add, Nat.add_zero, Nat.sub_self, x_add, x_sub, x_mulL, x_mulR, x_div, x_mod, x_lt, x_le, x_gt, x_ge, x_eq, x_ne, x_fro, x_step, x_first, x_last, x_on, x_l0, x_l1, x_l2, x_l3, x_l4, x_t0, x_t1, x_t2, x_t3, x_t4, x_intB, x_intI, x_max2, x_min2, x_lenL, x_lenT, x_sz, x_rs, x_rw, x_rf, x_ra, x_rl, x_slot, x_slotD, true_and, and_true, eq_self, decide_eq_true_eq, Bool.not_eq_true', decide_eq_false_iff_not, res_ok, res_er, x_rng1, x_rng1D, x_rng2, x_rng2E, x_rng2D, z_s, z_w, z_f, z_a, z_l, Bool.and_eq_true, if_true, if_false, Bool.false_eq_true, reduceCtorEq, decide_true, decide_false, Bool.not_true, Bool.not_false, Bool.true_eq_false, not_true_eq_false, not_false_eq_true]
    exact h
theorem s7 {K : PySem.W.Frag} {k : Kn} {r : Ru} {m n : Nat} {g : Dlg} {a b c d e f x y : Slot} (hn : n ≤ 40) (l : Led K r m n [] 0 g) (h : ∀ g' past p a b c d e, Led K r m n past p g' → k.nx (ev K r m n g' past p a b c d e f x y)) : c7 K (ev K r m n g [] 0 a b c d e f x y) k := by
  rw [c7_body]
  refine for_draw rfl fun i i0 i1 => ?_
  refine for_list D.int (upto i.toNat) (fun pre z => ∃ g' past p a b c d e, Led K r m n past p g' ∧ (∀ q ∈ past, q ≤ n) ∧ past.length ≤ pre.length ∧ z = ev K r m n g' past p a b c d e f x y) rfl ⟨g, [], 0, a, b, c, d, e, l, by simp, by simp, rfl⟩ ?_ ?_
  · rintro pre t post hall z N ⟨g', past, p, a, b, c, d, e, l', hle, hlen, rfl⟩ hN
    have hlt : pre.length < 13 := by
      have : (upto i.toNat).length = pre.length + (post.length + 1) := by rw [hall]; simp
      rw [upto_length] at this
      omega
    show dSeq (c7_1 K) (c7_2 K) (ev K r m n g' past p (.val (.int t)) b c d e f x y) _
    refine b_one hn (by omega) l' hle fun g2 past2 p2 b2 c2 d2 e2 l2 hle2 hlen2 => ?_
    refine b_two l2 (by omega) ?_
    exact hN _ ⟨g2, past2, p2, _, b2, c2, d2, e2, l2, hle2, by rw [List.length_append, List.length_singleton]; omega, rfl⟩
  · rintro z ⟨g', past, p, a, b, c, d, e, l', _, _, rfl⟩
    exact h g' past p a b c d e l'
def odd5 : List D := [.int 0, .int (-1), .bl true, .non, .str "1"]
theorem odd5_ok : ∀ d ∈ odd5, isD d = true ∧ isInt d 1 = false := by
  have h : (odd5.all fun d => isD d && !isInt d 1) = true := by decide +kernel
  intro d hd
  have := List.all_eq_true.mp h d hd
  simpa using this
theorem s8 {K : PySem.W.Frag} {k : Kn} {r : Ru} {m n p : Nat} {past : List Nat} {g : Dlg} {a b c d e f x y : Slot} (l : Led K r m n past p g) (h : k.nx (ev K r m n g past p a b c d e f x y)) : c8 K (ev K r m n g past p a b c d e f x y) k := by
  unfold c8 ev
  simp (maxSteps := 10000000) (disch := first | assumption | omega) only [dDef, dRet, dRetL, dSeq, dIfS, dTst, dNotB, dAndB, dOrB, dAndV, dOrV, dNotV, dNeg, dIf, dCB, dCBL, dCons, dNil, dStar, dVar, dC, dCall, dOp, dOpL, dTup, dLst, dL, dSet, dAsg, dPar, dOwn, dExpr, dNx, dFor, dItL, dItT, dProp, dMeth, dMk, dMk0, dRaise, dPart, dNoPart, dSlL, dSlT, dRevL, dgName, dgTup, dgSets, dOwnIx, dOwnLen, dOwnTup, dApp, dSetI, dRel, relE, dItZip, dItTab, dItEnK, dItEn, dIsS, dJoinG, dSplit, dFmt, dJs, dIsT2, dIndex, dCallS, dYes, wipeE, dXf, dIsX, List.map_cons, List.map_nil, List.cons_append, List.nil_append, List.append_nil, List.length_cons, List.length_nil, List.replicate_succ, List.replicate_zero, Nat.reduceAdd, Nat.reduceSub, List.getElem?_cons_zero, List.getElem?_cons_succ, List.set_cons_zero, List.set_cons_succ, Nat.zero_add, Nat.add_zero, Nat.sub_self, x_add, x_sub, x_mulL, x_mulR, x_div, x_mod, x_lt, x_le, x_gt, x_ge, x_eq, x_ne, x_fro, x_step, x_first, x_last, x_on, x_l0, x_l1, x_l2, x_l3, x_l4, x_t0, x_t1, x_t2, x_t3, x_t4, x_intB, x_intI, x_max2, x_min2, x_lenL, x_lenT, x_sz, x_rs, x_rw, x_rf, x_ra, x_rl, x_slot, x_slotD, true_and, and_true, eq_self, decide_eq_true_eq, Bool.not_eq_true', decide_eq_false_iff_not, res_ok, res_er, x_rng1, x_rng1D, x_rng2, x_rng2E, x_rng2D, z_s, z_w, z_f, z_a, z_l, Bool.and_eq_true, if_true, if_false, Bool.false_eq_true, reduceCtorEq, decide_true, decide_false, Bool.not_true, Bool.not_false, Bool.true_eq_false, not_true_eq_false, not_false_eq_true, dLc]
  refine lc_map (xs := odd5) id (fun _ => .str "number") rfl (len_le (by decide)) (fun z hz Q1 q => ?_) ?_
  · obtain ⟨z1, z2⟩ := odd5_ok z hz
    unfold dgName Dg.dCallR
    simp (maxSteps := 10000000) (disch := first | assumption | omega) only [dDef, dRet, dRetL, dSeq, dIfS, dTst, dNotB, dAndB, dOrB, dAndV, dOrV, dNotV, dNeg, dIf, dCB, dCBL, dCons, dNil, dStar, dVar, dC, dCall, dOp, dOpL, dTup, dLst, dL, dSet, dAsg, dPar, dOwn, dExpr, dNx, dFor, dItL, dItT, dProp, dMeth, dMk, dMk0, dRaise, dPart, dNoPart, dSlL, dSlT, dRevL, dgName, dgTup, dgSets, dOwnIx, dOwnLen, dOwnTup, dApp, dSetI, dRel, relE, dItZip, dItTab, dItEnK, dItEn, dIsS, dJoinG, dSplit, dFmt, dJs, dIsT2, dIndex, dCallS, dYes, wipeE, dXf, dIsX, List.map_cons, List.map_nil, List.cons_append, List.nil_append, List.append_nil, List.length_cons, List.length_nil, List.replicate_succ, List.replicate_zero, Nat.reduceAdd, Nat.reduceSub, List.getElem?_cons_zero, List.getElem?_cons_succ, List.set_cons_zero, List.set_cons_succ, Nat.zero_add, Nat.add_zero, Nat.sub_self, x_add, x_sub, x_mulL, x_mulR, x_div, x_mod, x_lt, x_le, x_gt, x_ge, x_eq, x_ne, x_fro, x_step, x_first, x_last, x_on, x_l0, x_l1, x_l2, x_l3, x_l4, x_t0, x_t1, x_t2, x_t3, x_t4, x_intB, x_intI, x_max2, x_min2, x_lenL, x_lenT, x_sz, x_rs, x_rw, x_rf, x_ra, x_rl, x_slot, x_slotD, true_and, and_true, eq_self, decide_eq_true_eq, Bool.not_eq_true', decide_eq_false_iff_not, res_ok, res_er, x_rng1, x_rng1D, x_rng2, x_rng2E, x_rng2D, z_s, z_w, z_f, z_a, z_l, Bool.and_eq_true, if_true, if_false, Bool.false_eq_true, reduceCtorEq, decide_true, decide_false, Bool.not_true, Bool.not_false, Bool.true_eq_false, not_true_eq_false, not_false_eq_true]
    exact ⟨r, m, n, past, p, l, .inl ⟨z, rfl, z1, z2, rfl, q⟩⟩
  · refine ⟨by decide, by decide, by decide, ?_⟩
    have e : (List.replicate (5 : Int).toNat [D.str "number"]).flatten = odd5.map fun x => D.str "number" := rfl
    rw [e]
    dsimp only
    rw [x_neS (by decide +kernel)]
    exact h
def oddP : List D := [.int 1, .int 13, .bl true, .non]
theorem oddP_ok : ∀ d ∈ oddP, isD d = true ∧ isIn d 2 12 = false := by
  have h : (oddP.all fun d => isD d && !isIn d 2 12) = true := by decide +kernel
  intro d hd
  have := List.all_eq_true.mp h d hd
  simpa using this
def oddT : List D := [.int (-1), .int 1001, .bl true, .non]
theorem oddT_ok : ∀ d ∈ oddT, isD d = true ∧ isIn d 0 1000 = false := by
  have h : (oddT.all fun d => isD d && !isIn d 0 1000) = true := by decide +kernel
  intro d hd
  have := List.all_eq_true.mp h d hd
  simpa using this
theorem s9 {K : PySem.W.Frag} {k : Kn} {r : Ru} {m n p : Nat} {past : List Nat} {g : Dlg} {a b c d e f x y : Slot} (h : k.nx (ev K r m n g past p a b c d e f x y)) : c9 K (ev K r m n g past p a b c d e f x y) k := by
  unfold c9 ev
  simp (maxSteps := 10000000) (disch := first | assumption | omega) only [dDef, dRet, dRetL, dSeq, dIfS, dTst, dNotB, dAndB, dOrB, dAndV, dOrV, dNotV, dNeg, dIf, dCB, dCBL, dCons, dNil, dStar, dVar, dC, dCall, dOp, dOpL, dTup, dLst, dL, dSet, dAsg, dPar, dOwn, dExpr, dNx, dFor, dItL, dItT, dProp, dMeth, dMk, dMk0, dRaise, dPart, dNoPart, dSlL, dSlT, dRevL, dgName, dgTup, dgSets, dOwnIx, dOwnLen, dOwnTup, dApp, dSetI, dRel, relE, dItZip, dItTab, dItEnK, dItEn, dIsS, dJoinG, dSplit, dFmt, dJs, dIsT2, dIndex, dCallS, dYes, wipeE, dXf, dIsX, List.map_cons, List.map_nil, List.cons_append, List.nil_append, List.append_nil, List.length_cons, List.length_nil, List.replicate_succ, List.replicate_zero, Nat.reduceAdd, Nat.reduceSub, List.getElem?_cons_zero, List.getElem?_cons_succ, List.set_cons_zero, List.set_cons_succ, Nat.zero_add, Nat.add_zero, Nat.sub_self, x_add, x_sub, x_mulL, x_mulR, x_div, x_mod, x_lt, x_le, x_gt, x_ge, x_eq, x_ne, x_fro, x_step, x_first, x_last, x_on, x_l0, x_l1, x_l2, x_l3, x_l4, x_t0, x_t1, x_t2, x_t3, x_t4, x_intB, x_intI, x_max2, x_min2, x_lenL, x_lenT, x_sz, x_rs, x_rw, x_rf, x_ra, x_rl, x_slot, x_slotD, true_and, and_true, eq_self, decide_eq_true_eq, Bool.not_eq_true', decide_eq_false_iff_not, res_ok, res_er, x_rng1, x_rng1D, x_rng2, x_rng2E, x_rng2D, z_s, z_w, z_f, z_a, z_l, Bool.and_eq_true, if_true, if_false, Bool.false_eq_true, reduceCtorEq, decide_true, decide_false, Bool.not_true, Bool.not_false, Bool.true_eq_false, not_true_eq_false, not_false_eq_true]
  refine y_pick (xs := oddP) (by decide) (by decide) (by decide) fun z hz => ?_
  obtain ⟨z1, z2⟩ := oddP_ok z hz
  refine .inl ⟨_, _, _, rfl, z1, rfl, z2, ?_⟩
  dsimp only
  rw [x_neS (by decide +kernel)]
  simp (maxSteps := 10000000) (disch := first | assumption | omega) only [dDef, dRet, dRetL, dSeq, dIfS, dTst, dNotB, dAndB, dOrB, dAndV, dOrV, dNotV, dNeg, dIf, dCB, dCBL, dCons, dNil, dStar, dVar, dC, dCall, dOp, dOpL, dTup, dLst, dL, dSet, dAsg, dPar, dOwn, dExpr, dNx, dFor, dItL, dItT, dProp, dMeth, dMk, dMk0, dRaise, dPart, dNoPart, dSlL, dSlT, dRevL, dgName, dgTup, dgSets, dOwnIx, dOwnLen, dOwnTup, dApp, dSetI, dRel, relE, dItZip, dItTab, dItEnK, dItEn, dIsS, dJoinG, dSplit, dFmt, dJs, dIsT2, dIndex, dCallS, dYes, wipeE, dXf, dIsX, List.map_cons, List.map_nil, List.cons_append, List.nil_append, List.append_nil, List.length_cons, List.length_nil, List.replicate_succ, List.replicate_zero, Nat.reduceAdd, Nat.reduceSub, List.getElem?_cons_zero, List.getElem?_cons_succ, List.set_cons_zero, List.set_cons_succ, Nat.zero_add, Nat.add_zero, Nat.sub_self, x_add, x_sub, x_mulL, x_mulR, x_div, x_mod, x_lt, x_le, x_gt, x_ge, x_eq, x_ne, x_fro, x_step, x_first, x_last, x_on, x_l0, x_l1, x_l2, x_l3, x_l4, x_t0, x_t1, x_t2, x_t3, x_t4, x_intB, x_intI, x_max2, x_min2, x_lenL, x_lenT, x_sz, x_rs, x_rw, x_rf, x_ra, x_rl, x_slot, x_slotD, true_and, and_true, eq_self, decide_eq_true_eq, Bool.not_eq_true', decide_eq_false_iff_not, res_ok, res_er, x_rng1, x_rng1D, x_rng2, x_rng2E, x_rng2D, z_s, z_w, z_f, z_a, z_l, Bool.and_eq_true, if_true, if_false, Bool.false_eq_true, reduceCtorEq, decide_true, decide_false, Bool.not_true, Bool.not_false, Bool.true_eq_false, not_true_eq_false, not_false_eq_true]
  exact h
theorem s10 {K : PySem.W.Frag} {k : Kn} {r : Ru} {m n p : Nat} {past : List Nat} {g : Dlg} {a b c d e f x y : Slot} (hm : Mo m) (h : k.rt (ev K r m n g past p a b c d e f x y) (.bl true)) : c10 K (ev K r m n g past p a b c d e f x y) k := by
  unfold c10 ev
  simp (maxSteps := 10000000) (disch := first | assumption | omega) only [dDef, dRet, dRetL, dSeq, dIfS, dTst, dNotB, dAndB, dOrB, dAndV, dOrV, dNotV, dNeg, dIf, dCB, dCBL, dCons, dNil, dStar, dVar, dC, dCall, dOp, dOpL, dTup, dLst, dL, dSet, dAsg, dPar, dOwn, dExpr, dNx, dFor, dItL, dItT, dProp, dMeth, dMk, dMk0, dRaise, dPart, dNoPart, dSlL, dSlT, dRevL, dgName, dgTup, dgSets, dOwnIx, dOwnLen, dOwnTup, dApp, dSetI, dRel, relE, dItZip, dItTab, dItEnK, dItEn, dIsS, dJoinG, dSplit, dFmt, dJs, dIsT2, dIndex, dCallS, dYes, wipeE, dXf, dIsX, List.map_cons, List.map_nil, List.cons_append, List.nil_append, List.append_nil, List.length_cons, List.length_nil, List.replicate_succ, List.replicate_zero, Nat.reduceAdd, Nat.reduceSub, List.getElem?_cons_zero, List.getElem?_cons_succ, List.set_cons_zero, List.set_cons_succ, Nat.zero_add, Nat.add_zero, Nat.sub_self, x_add, x_sub, x_mulL, x_mulR, x_div, x_mod, x_lt, x_le, x_gt, x_ge, x_eq, x_ne, x_fro, x_step, x_first, x_last, x_on, x_l0, x_l1, x_l2, x_l3, x_l4, x_t0, x_t1, x_t2, x_t3, x_t4, x_intB, x_intI, x_max2, x_min2, x_lenL, x_lenT, x_sz, x_rs, x_rw, x_rf, x_ra, x_rl, x_slot, x_slotD, true_and, and_true, eq_self, decide_eq_true_eq, Bool.not_eq_true', decide_eq_false_iff_not, res_ok, res_er, x_rng1, x_rng1D, x_rng2, x_rng2E, x_rng2D, z_s, z_w, z_f, z_a, z_l, Bool.and_eq_true, if_true, if_false, Bool.false_eq_true, reduceCtorEq, decide_true, decide_false, Bool.not_true, Bool.not_false, Bool.true_eq_false, not_true_eq_false, not_false_eq_true]
  refine y_pick (xs := oddT) (by decide) (by decide) (by decide) fun z hz => ?_
  obtain ⟨z1, z2⟩ := oddT_ok z hz
  refine .inr ⟨_, _, _, rfl, hm, z1, z2, ?_⟩
  dsimp only
  rw [x_eqS (by decide +kernel)]
  exact h
theorem law_ok {K : PySem.W.Frag} : g_law K (lawEnv 15) lawK := by
  unfold g_law
  refine seq' (s1 (K := K) fun r hr => ?_)
  refine seq' (s2 (K := K) fun m n hm hn => ?_)
  refine seq' (s3 (K := K) hr hm hn ?_)
  refine seq' (s4 (K := K) hr ?_)
  refine seq' (s5 (K := K) hr hm hn fun g l => ?_)
  refine seq' (s6 (K := K) ?_)
  refine seq' (s7 (K := K) hn l fun g' past p a b c d e l' => ?_)
  refine seq' (s8 (K := K) l' ?_)
  refine seq' (s9 (K := K) ?_)
  exact s10 hm rfl
end K10

set_option maxHeartbeats 4000000
namespace K10
open PySem PySem.Spec PyProof.Rows L2 Dl Dv Dk Gx Pr
def top (i : Nat) : Stmt := PySem.Challenge.pw_dealtround_k10_whole_dealings.main.body.getD i (.Pass ⟨0, 0, 0, 0⟩)
def mem (s : Stmt) (j : Nat) : Stmt := match s with
  | .ClassDef (body := b) .. => b.getD j (.Pass ⟨0, 0, 0, 0⟩)
  | _ => .Pass ⟨0, 0, 0, 0⟩
abbrev FnP (K : PySem.W.Frag) (x q : Str) (st : Stmt) (f : Addr) (fd : FuncData) : Prop := FunD K x q (defArgs st) (defBody st) (defScope st) [] [] f fd
structure Mg (K : PySem.W.Frag) (mg : Str → Option Value) : Prop where
  b_bool : mg "bool" = none
  b_int : mg "int" = none
  b_isinstance : mg "isinstance" = none
  b_len : mg "len" = none
  b_list : mg "list" = none
  b_max : mg "max" = none
  b_range : mg "range" = none
  b_str : mg "str" = none
  b_sum : mg "sum" = none
  b_tuple : mg "tuple" = none
  b_zip : mg "zip" = none
  c_Done : mg "Done" = some (.ref (He.ga K "Done"))
  c_InvalidNumber : mg "InvalidNumber" = some (.ref (He.ga K "InvalidNumber"))
  c_InvalidPeople : mg "InvalidPeople" = some (.ref (He.ga K "InvalidPeople"))
  c_InvalidThings : mg "InvalidThings" = some (.ref (He.ga K "InvalidThings"))
  c_LEAST_PEOPLE : ∃ t, mg "LEAST_PEOPLE" = some (.int 2 t)
  c_MOST_LED : ∃ t, mg "MOST_LED" = some (.int 1000 t)
  c_MOST_PEOPLE : ∃ t, mg "MOST_PEOPLE" = some (.int 12 t)
  c_POINTS : mg "POINTS" = some (.ref (aP K))
  c_Rule : mg "Rule" = some (.ref (aR K))
section
variable {P : Program} {w : World} {K : PySem.W.Frag} {mg : Str → Option Value} {base : Heap}
theorem sc_InvalidPointU_initU : FnScope ["self", "point"] ["self", "point"] (defScope (mem (top 3) 0)) := ⟨rfl, rfl, rfl, by decide +kernel, rfl, by decide +kernel, by decide +kernel⟩
theorem ok_InvalidPointU_initU {f : Addr} {fd : FuncData} (FD : FnP K "__init__" "InvalidPoint.__init__" (mem (top 3) 0) f fd) (T : OexC K (He.ga K "InvalidPoint")) (hno0 : PySem.W.findIn K (.ref (He.ga K "InvalidPoint")) "point" = some none) : FnOk P w K mg base (L2.CX P w) 1 f fd ["self", "point"] (spX (He.ga K "InvalidPoint") ["point"]) :=
  initX1 FD sc_InvalidPointU_initU T hno0 fun cdv A outer s H E => ps_ost (pe 0) (pe 1)
theorem sc_is_integer : FnScope ["value", "least"] ["value", "least"] (defScope (top 15)) := ⟨rfl, rfl, rfl, by decide +kernel, rfl, by decide +kernel, by decide +kernel⟩
theorem ok_is_integer {f : Addr} {fd : FuncData} (FD : FnP K "is_integer" "is_integer" (top 15) f fd) (M : Mg K mg) : FnOk P w K mg base (L2.CX P w) 1 f fd ["value", "least"] (spD K 2 (dDef 2 g_is_integer)) :=
  Dh.okD FD sc_is_integer fun cdv A outer s H E c => have hN := sc_is_integer.nd; (dss_one (ds_ret (pd_and (bIsi "int" M.b_isinstance (pda_cons (pv 0) (pda_cons (pT "int" M.b_int) pda_nil))) (pd_and (pd_not (bIsi "bool" M.b_isinstance (pda_cons (pv 0) (pda_cons (pT "bool" M.b_bool) pda_nil)))) (pd_one (cGe (pv 0) (pv 1)))))))
theorem sc_is_within : FnScope ["value", "least", "most"] ["value", "least", "most"] (defScope (top 16)) := ⟨rfl, rfl, rfl, by decide +kernel, rfl, by decide +kernel, by decide +kernel⟩
theorem ok_is_within {f : Addr} {fd : FuncData} (FD : FnP K "is_within" "is_within" (top 16) f fd) (M : Mg K mg) (C_is_integer : Cal P w K mg base 1 "is_integer" 2 F_is_integer) : FnOk P w K mg base (L2.CX P w) 2 f fd ["value", "least", "most"] (spD K 3 (dDef 3 g_is_within)) :=
  Dh.okD FD sc_is_within fun cdv A outer s H E c => have hN := sc_is_within.nd; (dss_one (ds_ret (pd_and (call c C_is_integer (pda_cons (pv 0) (pda_cons (pv 1) pda_nil))) (pd_one (cLe (pv 0) (pv 2))))))
theorem sc_is_one_of : FnScope ["value", "some"] ["value", "some"] (defScope (top 17)) := ⟨rfl, rfl, rfl, by decide +kernel, rfl, by decide +kernel, by decide +kernel⟩
theorem ok_is_one_of {f : Addr} {fd : FuncData} (FD : FnP K "is_one_of" "is_one_of" (top 17) f fd) (M : Mg K mg) (C_is_integer : Cal P w K mg base 1 "is_integer" 2 F_is_integer) : FnOk P w K mg base (L2.CX P w) 2 f fd ["value", "some"] (spD K 2 (dDef 2 g_is_one_of)) :=
  Dh.okD FD sc_is_one_of fun cdv A outer s H E c => have hN := sc_is_one_of.nd; (dss_cons (ds_if (pdb_val (bIsi "str" M.b_isinstance (pda_cons (pv 0) (pda_cons (pT "str" M.b_str) pda_nil)))) (dss_one (ds_ret (cIn (pv 0) (pv 1)))) dss_nil)
  (dss_one (ds_ret (pd_and (call c C_is_integer (pda_cons (pv 0) (pda_cons pd_int pda_nil))) (pd_one (cIn (pv 0) (pv 1)))))))
theorem sc_RuleU_initU : FnScope ["self", "size", "way", "first", "aside", "later", "found", "point", "own"] ["self", "size", "way", "first", "aside", "later"] (defScope (mem (top 18) 1)) := ⟨rfl, rfl, rfl, by decide +kernel, rfl, by decide +kernel, by decide +kernel⟩
theorem ok_Rule_init {f : Addr} {fd : FuncData} (FD : FnP K "__init__" "Rule.__init__" (mem (top 18) 1) f fd) (M : Mg K mg) (C_is_one_of : Cal P w K mg base 2 "is_one_of" 2 F_is_one_of) {nT : Nat} (T_POINTS : KTab K w (aP K) ks_POINTS nT) (TV_POINTS : TabV K w (aP K) kvs_POINTS)
    (RC : RuC K) {qR : Addr} (RCS : SlX.Slot1 K (aR K) "row" qR 0) (XI_InvalidPoint : XI P w K mg base 1 "InvalidPoint" (He.ga K "InvalidPoint") ["point"]) : FnOk P w K mg base (L2.CX P w) 3 f fd ["self", "size", "way", "first", "aside", "later"] (spI K (aR K) 5 (F_Rule K)) :=
  initOk (s1 := (defBody (mem (top 18) 1)).getD 0 (.Pass ⟨0, 0, 0, 0⟩)) (s2 := (defBody (mem (top 18) 1)).getD 1 (.Pass ⟨0, 0, 0, 0⟩)) (s3 := (defBody (mem (top 18) 1)).getD 2 (.Pass ⟨0, 0, 0, 0⟩)) FD sc_RuleU_initU rfl RC.sc RCS (fun cdv A outer s H E c => have hN := sc_RuleU_initU.nd; ⟨sSet 6 (pd_tup (pda_cons (pv 1) (pda_cons (pv 2) (pda_cons (pv 3) (pda_cons (pv 4) (pda_cons (pv 5) pda_nil)))))),
    sFor c (pdi_tabZ T_POINTS rfl M.b_zip (pda_cons (pR M.c_POINTS) (pda_cons (pv 6) pda_nil))) (pg_tup c.hc (pgs_cons (gN 7) (pgs_cons (gN 8) pgs_nil))) (tg_tup (is := [7, 8])) (dss_one (ds_if (pdb_not (pdb_val (call c C_is_one_of (pda_cons (pv 8) (pda_cons (pd_tabIx TV_POINTS (pR M.c_POINTS) (pv 7)) pda_nil))))) (dss_one (sRaise c (XI.mk' XI_InvalidPoint (c.hr.mono (by decide)) (pda_cons (pv 7) pda_nil)))) dss_nil)),
    SlX.ps_sl (pe 0) (pe 6)⟩) (init_F K)
theorem sc_Rule_size : FnScope ["self"] ["self"] (defScope (mem (top 18) 2)) := ⟨rfl, rfl, rfl, by decide +kernel, rfl, by decide +kernel, by decide +kernel⟩
theorem ok_Rule_size {f : Addr} {fd : FuncData} (FD : FnP K "size" "Rule.size" (mem (top 18) 2) f fd) (M : Mg K mg) (RC : RuC K) {qR : Addr} (RCS : SlX.Slot1 K (aR K) "row" qR 0) : FnOk P w K mg base (L2.CX P w) 1 f fd ["self"] (spD K 1 (dDef 1 (g_prop K 0))) :=
  Dh.okD FD sc_Rule_size fun cdv A outer s H E c => have hN := sc_Rule_size.nd; (dss_one (ds_ret (pd_ix (pd_slot (pv 0) RC.sc RCS) pd_int)))
theorem sc_Rule_way : FnScope ["self"] ["self"] (defScope (mem (top 18) 3)) := ⟨rfl, rfl, rfl, by decide +kernel, rfl, by decide +kernel, by decide +kernel⟩
theorem ok_Rule_way {f : Addr} {fd : FuncData} (FD : FnP K "way" "Rule.way" (mem (top 18) 3) f fd) (M : Mg K mg) (RC : RuC K) {qR : Addr} (RCS : SlX.Slot1 K (aR K) "row" qR 0) : FnOk P w K mg base (L2.CX P w) 1 f fd ["self"] (spD K 1 (dDef 1 (g_prop K 1))) :=
  Dh.okD FD sc_Rule_way fun cdv A outer s H E c => have hN := sc_Rule_way.nd; (dss_one (ds_ret (pd_ix (pd_slot (pv 0) RC.sc RCS) pd_int)))
theorem sc_Rule_first : FnScope ["self"] ["self"] (defScope (mem (top 18) 4)) := ⟨rfl, rfl, rfl, by decide +kernel, rfl, by decide +kernel, by decide +kernel⟩
theorem ok_Rule_first {f : Addr} {fd : FuncData} (FD : FnP K "first" "Rule.first" (mem (top 18) 4) f fd) (M : Mg K mg) (RC : RuC K) {qR : Addr} (RCS : SlX.Slot1 K (aR K) "row" qR 0) : FnOk P w K mg base (L2.CX P w) 1 f fd ["self"] (spD K 1 (dDef 1 (g_prop K 2))) :=
  Dh.okD FD sc_Rule_first fun cdv A outer s H E c => have hN := sc_Rule_first.nd; (dss_one (ds_ret (pd_ix (pd_slot (pv 0) RC.sc RCS) pd_int)))
theorem sc_Rule_aside : FnScope ["self"] ["self"] (defScope (mem (top 18) 5)) := ⟨rfl, rfl, rfl, by decide +kernel, rfl, by decide +kernel, by decide +kernel⟩
theorem ok_Rule_aside {f : Addr} {fd : FuncData} (FD : FnP K "aside" "Rule.aside" (mem (top 18) 5) f fd) (M : Mg K mg) (RC : RuC K) {qR : Addr} (RCS : SlX.Slot1 K (aR K) "row" qR 0) : FnOk P w K mg base (L2.CX P w) 1 f fd ["self"] (spD K 1 (dDef 1 (g_prop K 3))) :=
  Dh.okD FD sc_Rule_aside fun cdv A outer s H E c => have hN := sc_Rule_aside.nd; (dss_one (ds_ret (pd_ix (pd_slot (pv 0) RC.sc RCS) pd_int)))
theorem sc_Rule_later : FnScope ["self"] ["self"] (defScope (mem (top 18) 6)) := ⟨rfl, rfl, rfl, by decide +kernel, rfl, by decide +kernel, by decide +kernel⟩
theorem ok_Rule_later {f : Addr} {fd : FuncData} (FD : FnP K "later" "Rule.later" (mem (top 18) 6) f fd) (M : Mg K mg) (RC : RuC K) {qR : Addr} (RCS : SlX.Slot1 K (aR K) "row" qR 0) : FnOk P w K mg base (L2.CX P w) 1 f fd ["self"] (spD K 1 (dDef 1 (g_prop K 4))) :=
  Dh.okD FD sc_Rule_later fun cdv A outer s H E c => have hN := sc_Rule_later.nd; (dss_one (ds_ret (pd_ix (pd_slot (pv 0) RC.sc RCS) pd_int)))
theorem sc_RuleU_eqU : FnScope ["self", "other"] ["self", "other"] (defScope (mem (top 18) 8)) := ⟨rfl, rfl, rfl, by decide +kernel, rfl, by decide +kernel, by decide +kernel⟩
theorem ok_RuleU_eqU {f : Addr} {fd : FuncData} (FD : FnP K "__eq__" "Rule.__eq__" (mem (top 18) 8) f fd) (M : Mg K mg) (RC : RuC K) {qR : Addr} (RCS : SlX.Slot1 K (aR K) "row" qR 0) : FnOk P w K mg base (L2.CX P w) 1 f fd ["self", "other"] (spD K 2 (dDef 2 (g_eq K))) :=
  Dh.okD FD sc_RuleU_eqU fun cdv A outer s H E c => have hN := sc_RuleU_eqU.nd; (dss_one (ds_ret (pd_and (bIsC M.b_isinstance (pda_cons (pv 1) (pda_cons (pR M.c_Rule) pda_nil))) (pd_one (cEq c (pd_slot (pv 0) RC.sc RCS) (pd_slot (pv 1) RC.sc RCS))))))
theorem sc_look_at : FnScope ["m", "n", "most"] ["m", "n", "most"] (defScope (top 22)) := ⟨rfl, rfl, rfl, by decide +kernel, rfl, by decide +kernel, by decide +kernel⟩
theorem ok_look_at {f : Addr} {fd : FuncData} (FD : FnP K "look_at" "look_at" (top 22) f fd) (M : Mg K mg) (C_is_within : Cal P w K mg base 2 "is_within" 3 F_is_within) (X_InvalidPeople : X0 K mg "InvalidPeople" (He.ga K "InvalidPeople")) (X_InvalidThings : X0 K mg "InvalidThings" (He.ga K "InvalidThings")) : FnOk P w K mg base (L2.CX P w) 3 f fd ["m", "n", "most"] (spD K 3 (dDef 3 (g_look_at K))) :=
  Dh.okD FD sc_look_at fun cdv A outer s H E c => have hN := sc_look_at.nd; (dss_cons (ds_if (pdb_not (pdb_val (call c C_is_within (pda_cons (pv 0) (pda_cons (pG M.c_LEAST_PEOPLE) (pda_cons (pG M.c_MOST_PEOPLE) pda_nil)))))) (dss_one (sRaise c X_InvalidPeople.mk')) dss_nil)
  (dss_one (ds_if (pdb_not (pdb_val (call c C_is_within (pda_cons (pv 1) (pda_cons pd_int (pda_cons (pv 2) pda_nil)))))) (dss_one (sRaise c X_InvalidThings.mk')) dss_nil)))
theorem sc_person_at : FnScope ["rule", "m", "turn", "turns", "place"] ["rule", "m", "turn"] (defScope (top 23)) := ⟨rfl, rfl, rfl, by decide +kernel, rfl, by decide +kernel, by decide +kernel⟩
theorem ok_person_at {f : Addr} {fd : FuncData} (FD : FnP K "person_at" "person_at" (top 23) f fd) (M : Mg K mg) (RC : RuC K) {qR : Addr} (RCS : SlX.Slot1 K (aR K) "row" qR 0) : FnOk P w K mg base (L2.CX P w) 1 f fd ["rule", "m", "turn"] (spD K 3 (dDef 5 (g_person_at K))) :=
  Dh.okD FD sc_person_at fun cdv A outer s H E c => have hN := sc_person_at.nd; (dss_cons (ds_par (i := 3) (j := 4) c.hc hN rfl rfl (by decide) rfl rfl (pda_cons (oDiv (pv 2) (pv 1)) (pda_cons (oMod (pv 2) (pv 1)) pda_nil)) rfl)
  (dss_cons (ds_if (pdb_w (pdw_and (tEq c (pd_ix (pd_slot (pv 0) RC.sc RCS) pd_int) pd_str) (pdw_and1 (tEq c (oMod (pv 3) pd_int) pd_int)))) (dss_one (sSet 4 (oSub (oSub (pv 1) pd_int) (pv 4)))) dss_nil)
  (dss_cons (ds_if (tEq c (pd_ix (pd_slot (pv 0) RC.sc RCS) pd_int) pd_str) (dss_one (sSet 4 (oMod (pd_add (pv 4) (pv 3)) (pv 1)))) dss_nil)
  (dss_one (ds_ret (pd_if (tEq c (pd_ix (pd_slot (pv 0) RC.sc RCS) pd_int) pd_str) (pv 4) (oSub (oSub (pv 1) pd_int) (pv 4))))))))
theorem sc_counts_of : FnScope ["rule", "n", "many", "main", "begin"] ["rule", "n"] (defScope (top 24)) := ⟨rfl, rfl, rfl, by decide +kernel, rfl, by decide +kernel, by decide +kernel⟩
theorem ok_counts_of {f : Addr} {fd : FuncData} (FD : FnP K "counts_of" "counts_of" (top 24) f fd) (M : Mg K mg) (RC : RuC K) {qR : Addr} (RCS : SlX.Slot1 K (aR K) "row" qR 0) : FnOk P w K mg base (L2.CX P w) 1 f fd ["rule", "n"] (spD K 2 (dDef 5 (g_counts_of K))) :=
  Dh.okD FD sc_counts_of fun cdv A outer s H E c => have hN := sc_counts_of.nd; (dss_cons (sSet 2 (pd_if (tGt (pd_ix (pd_slot (pv 0) RC.sc RCS) pd_int) pd_int) (oDiv (pv 1) (pd_ix (pd_slot (pv 0) RC.sc RCS) pd_int)) pd_int))
  (dss_cons (sSet 3 (oSub (pv 1) (pv 2)))
  (dss_cons (sSet 4 (pd_if (tEq c (pd_ix (pd_slot (pv 0) RC.sc RCS) pd_int) pd_str) (pd_neg (oDiv (pd_neg (pv 3)) (pd_ix (pd_slot (pv 0) RC.sc RCS) pd_int))) pd_int))
  (dss_one (ds_ret (pd_tup (pda_cons (pv 3) (pda_cons (pv 2) (pda_cons (pv 4) pda_nil)))))))))
theorem sc_thing_at : FnScope ["rule", "n", "spot", "main", "aside"] ["rule", "n", "spot"] (defScope (top 25)) := ⟨rfl, rfl, rfl, by decide +kernel, rfl, by decide +kernel, by decide +kernel⟩
theorem ok_thing_at {f : Addr} {fd : FuncData} (FD : FnP K "thing_at" "thing_at" (top 25) f fd) (M : Mg K mg) (C_counts_of : Cal P w K mg base 1 "counts_of" 2 (F_counts_of K)) (RC : RuC K) {qR : Addr} (RCS : SlX.Slot1 K (aR K) "row" qR 0) : FnOk P w K mg base (L2.CX P w) 2 f fd ["rule", "n", "spot"] (spD K 3 (dDef 5 (g_thing_at K))) :=
  Dh.okD FD sc_thing_at fun cdv A outer s H E c => have hN := sc_thing_at.nd; (dss_cons (sSet 3 (pd_ix (call c C_counts_of (pda_cons (pv 0) (pda_cons (pv 1) pda_nil))) pd_int))
  (dss_cons (sSet 4 (pd_ix (pd_slot (pv 0) RC.sc RCS) pd_int))
  (dss_cons (ds_if (tGe (pv 2) (pv 3)) (dss_one (ds_ret (oSub (oMul (pd_add (oSub (pv 2) (pv 3)) pd_int) (pv 4)) pd_int))) dss_nil)
  (dss_one (ds_ret (pd_if (tGt (pv 4) pd_int) (pd_add (pv 2) (oDiv (pv 2) (oSub (pv 4) pd_int))) (pv 2)))))))
theorem sc_person_of : FnScope ["rule", "m", "n", "spot", "main", "many", "begin", "turn"] ["rule", "m", "n", "spot"] (defScope (top 26)) := ⟨rfl, rfl, rfl, by decide +kernel, rfl, by decide +kernel, by decide +kernel⟩
theorem ok_person_of {f : Addr} {fd : FuncData} (FD : FnP K "person_of" "person_of" (top 26) f fd) (M : Mg K mg) (C_counts_of : Cal P w K mg base 1 "counts_of" 2 (F_counts_of K)) (C_person_at : Cal P w K mg base 1 "person_at" 3 (F_person_at K)) (RC : RuC K) {qR : Addr} (RCS : SlX.Slot1 K (aR K) "row" qR 0) : FnOk P w K mg base (L2.CX P w) 2 f fd ["rule", "m", "n", "spot"] (spD K 4 (dDef 8 (g_person_of K))) :=
  Dh.okD FD sc_person_of fun cdv A outer s H E c => have hN := sc_person_of.nd; (dss_cons (ds_asg (call c C_counts_of (pda_cons (pv 0) (pda_cons (pv 2) pda_nil))) (pg_tup c.hc (pgs_cons (gN 4) (pgs_cons (gN 5) (pgs_cons (gN 6) pgs_nil)))) (tg_tup (is := [4, 5, 6])))
  (dss_cons (sSet 7 (pd_if (tLt (pv 3) (pv 4)) (oDiv (pv 3) (pd_ix (pd_slot (pv 0) RC.sc RCS) pd_int)) (pd_add (pv 6) (oDiv (oSub (pv 3) (pv 4)) (pd_ix (pd_slot (pv 0) RC.sc RCS) pd_int)))))
  (dss_one (ds_ret (call c C_person_at (pda_cons (pv 0) (pda_cons (pv 1) (pda_cons (pv 7) pda_nil))))))))
theorem sc_DealingU_initU : FnScope ["self", "rule", "m", "n"] ["self", "rule", "m", "n"] (defScope (mem (top 29) 0)) := ⟨rfl, rfl, rfl, by decide +kernel, rfl, by decide +kernel, by decide +kernel⟩
theorem ok_DealingU_initU {f : Addr} {fd : FuncData} (FD : FnP K "__init__" "Dealing.__init__" (mem (top 29) 0) f fd) (M : Mg K mg) (C_look_at : Cal P w K mg base 3 "look_at" 3 (F_look_at K)) (DC : Dg.DlC K (aD K)) : FnOk P w K mg base (L2.CX P w) 4 f fd ["self", "rule", "m", "n"] (Dg.spDI K (aD K) (F_Dealing K)) :=
  Dg.initD (s1 := (defBody (mem (top 29) 0)).getD 0 (.Pass ⟨0, 0, 0, 0⟩)) (s2 := (defBody (mem (top 29) 0)).getD 1 (.Pass ⟨0, 0, 0, 0⟩)) (s3 := (defBody (mem (top 29) 0)).getD 2 (.Pass ⟨0, 0, 0, 0⟩)) (s4 := (defBody (mem (top 29) 0)).getD 3 (.Pass ⟨0, 0, 0, 0⟩)) (s5 := (defBody (mem (top 29) 0)).getD 4 (.Pass ⟨0, 0, 0, 0⟩)) (f1 := f1_Dealing K) FD sc_DealingU_initU rfl rfl DC (fun cdv A outer s H E c => have hN := sc_DealingU_initU.nd;
    ⟨ps_expr (call c C_look_at (pda_cons (pv 2) (pda_cons (pv 3) (pda_cons (pG M.c_MOST_LED) pda_nil)))), ps_fld (pe 0) (pe 1) rfl, ps_fld (pe 0) (pe 2) rfl, ps_fld (pe 0) (pe 3) rfl, ps_fld (pe 0) (pdl_lst (pda_cons (pd_op op_repT opd_repT (pd_tup (pda_cons pd_int pda_nil)) (pv 2)) pda_nil)) rfl⟩) (init_Dealing K)
theorem sc_Dealing_lots : FnScope ["self"] ["self"] (defScope (mem (top 29) 1)) := ⟨rfl, rfl, rfl, by decide +kernel, rfl, by decide +kernel, by decide +kernel⟩
theorem ok_Dealing_lots {f : Addr} {fd : FuncData} (FD : FnP K "lots" "Dealing.lots" (mem (top 29) 1) f fd) (M : Mg K mg) (DC : Dg.DlC K (aD K)) : FnOk P w K mg base (L2.CX P w) 1 f fd ["self"] (Dg.spM K 0 (Dg.dDefM 1 (g_Dealing_lots K))) :=
  Dg.okM FD sc_Dealing_lots rfl fun cdv A outer s H E c => have hN := sc_Dealing_lots.nd; (dss_one (ds_ret (Dg.pd_dIx DC (pe 0) (pd_neg pd_int))))
theorem sc_Dealing_left : FnScope ["self"] ["self"] (defScope (mem (top 29) 2)) := ⟨rfl, rfl, rfl, by decide +kernel, rfl, by decide +kernel, by decide +kernel⟩
theorem ok_Dealing_left {f : Addr} {fd : FuncData} (FD : FnP K "left" "Dealing.left" (mem (top 29) 2) f fd) (M : Mg K mg) (DC : Dg.DlC K (aD K)) : FnOk P w K mg base (L2.CX P w) 1 f fd ["self"] (Dg.spM K 0 (Dg.dDefM 1 (g_Dealing_left K))) :=
  Dg.okM FD sc_Dealing_left rfl fun cdv A outer s H E c => have hN := sc_Dealing_left.nd; (dss_one (ds_ret (oSub (Dg.pd_dF (j := 2) DC (by decide) (pe 0)) (bSumT c M.b_sum (pda_cons (Dg.pd_dIx DC (pe 0) (pd_neg pd_int)) pda_nil)))))
theorem sc_Dealing_coming : FnScope ["self"] ["self"] (defScope (mem (top 29) 3)) := ⟨rfl, rfl, rfl, by decide +kernel, rfl, by decide +kernel, by decide +kernel⟩
theorem ok_Dealing_coming {f : Addr} {fd : FuncData} (FD : FnP K "coming" "Dealing.coming" (mem (top 29) 3) f fd) (M : Mg K mg) (C_next_of : Dg.CalM P w K mg base 3 "next_of" 0 (FM_next_of K)) : FnOk P w K mg base (L2.CX P w) 4 f fd ["self"] (Dg.spM K 0 (Dg.dDefM 1 (g_Dealing_coming K))) :=
  Dg.okM FD sc_Dealing_coming rfl fun cdv A outer s H E c => have hN := sc_Dealing_coming.nd; (dss_one (ds_ret (Dg.pd_callR c C_next_of (pe 0) pda_nil)))
theorem sc_DealingU_lenU : FnScope ["self"] ["self"] (defScope (mem (top 29) 4)) := ⟨rfl, rfl, rfl, by decide +kernel, rfl, by decide +kernel, by decide +kernel⟩
theorem ok_DealingU_lenU {f : Addr} {fd : FuncData} (FD : FnP K "__len__" "Dealing.__len__" (mem (top 29) 4) f fd) (M : Mg K mg) (DC : Dg.DlC K (aD K)) : FnOk P w K mg base (L2.CX P w) 1 f fd ["self"] (Dg.spM K 0 (Dg.dDefM 1 (g_DealingU_lenU K))) :=
  Dg.okM FD sc_DealingU_lenU rfl fun cdv A outer s H E c => have hN := sc_DealingU_lenU.nd; (dss_one (ds_ret (bLen M.b_len (PDL.pd (Dg.pdl_dSl DC (pe 0) (pdo_some pd_int) pdo_none)))))
theorem sc_Dealing_give : FnScope ["self", "many", "done", "spots", "found", "spot", "row", "person"] ["self", "many"] (defScope (mem (top 29) 5)) := ⟨rfl, rfl, rfl, by decide +kernel, rfl, by decide +kernel, by decide +kernel⟩
theorem ok_Dealing_give {f : Addr} {fd : FuncData} (FD : FnP K "give" "Dealing.give" (mem (top 29) 5) f fd) (M : Mg K mg) (C_is_integer : Cal P w K mg base 1 "is_integer" 2 F_is_integer) (C_person_of : Cal P w K mg base 2 "person_of" 4 (F_person_of K)) (DC : Dg.DlC K (aD K)) (X_Done : X0 K mg "Done" (He.ga K "Done")) (X_InvalidNumber : X0 K mg "InvalidNumber" (He.ga K "InvalidNumber")) : FnOk P w K mg base (L2.CX P w) 3 f fd ["self", "many"] (Dg.spM K 1 (Dg.dDefM 8 (g_Dealing_give K))) :=
  Dg.okM FD sc_Dealing_give rfl fun cdv A outer s H E c => have hN := sc_Dealing_give.nd; (dss_cons (ds_if (pdb_not (pdb_val (call c C_is_integer (pda_cons (pv 1) (pda_cons pd_int pda_nil))))) (dss_one (sRaise c X_InvalidNumber.mk')) dss_nil)
  (dss_cons (sSet 2 (bSumT c M.b_sum (pda_cons (Dg.pd_dIx DC (pe 0) (pd_neg pd_int)) pda_nil)))
  (dss_cons (ds_if (tGt (pd_add (pv 2) (pv 1)) (Dg.pd_dF (j := 2) DC (by decide) (pe 0))) (dss_one (sRaise c X_Done.mk')) dss_nil)
  (dss_cons (sSet 3 (PDL.pd (bListR2 c M.b_list M.b_range (pv 2) (pd_add (pv 2) (pv 1)))))
  (dss_cons (ds_setLc (i := 4) c.hc hN rfl rfl rfl (iList (pv 3)) (own := [("spot", 5)]) (blkOk (by kernel_rfl)) tg_name (by decide) (fun _ _ _ _ _ => (gN 5)) (fun _ _ _ _ _ => pdts_nil) (fun _ _ _ _ _ => (call c.blk C_person_of (pda_cons (Dg.pd_dF (j := 0) DC (by decide) (pe 0)) (pda_cons (Dg.pd_dF (j := 1) DC (by decide) (pe 0)) (pda_cons (Dg.pd_dF (j := 2) DC (by decide) (pe 0)) (pda_cons (pv 5) pda_nil)))))))
  (dss_cons (sOwn 6 (bListOf M.b_list (Dg.pd_dIx DC (pe 0) (pd_neg pd_int))))
  (dss_cons (sFor c (iList (pv 4)) (gN 7) tg_name (dss_one (Dg.ds_augI (pe 6) (pv 7) pd_int)))
  (dss_cons (Dg.ds_dApp DC (pe 0) (pd_ownTup (pe 6) rfl M.b_tuple))
  (dss_one (ds_ret (pv 4)))))))))))
theorem sc_Dealing_undo : FnScope ["self"] ["self"] (defScope (mem (top 29) 6)) := ⟨rfl, rfl, rfl, by decide +kernel, rfl, by decide +kernel, by decide +kernel⟩
theorem ok_Dealing_undo {f : Addr} {fd : FuncData} (FD : FnP K "undo" "Dealing.undo" (mem (top 29) 6) f fd) (M : Mg K mg) (DC : Dg.DlC K (aD K)) : FnOk P w K mg base (L2.CX P w) 1 f fd ["self"] (Dg.spM K 0 (Dg.dDefM 1 (g_Dealing_undo K))) :=
  Dg.okM FD sc_Dealing_undo rfl fun cdv A outer s H E c => have hN := sc_Dealing_undo.nd; (dss_cons (ds_if (tEq c (Dg.pd_dLen DC (pe 0) M.b_len) pd_int) (dss_one (ds_ret pd_bl)) dss_nil)
  (dss_cons (Dg.ds_dPop DC (pe 0))
  (dss_one (ds_ret pd_bl))))
theorem sc_Dealing_copy : FnScope ["self", "found"] ["self"] (defScope (mem (top 29) 7)) := ⟨rfl, rfl, rfl, by decide +kernel, rfl, by decide +kernel, by decide +kernel⟩
theorem ok_Dealing_copy {f : Addr} {fd : FuncData} (FD : FnP K "copy" "Dealing.copy" (mem (top 29) 7) f fd) (M : Mg K mg) (C_Dealing : Dg.MkD P w K mg base 4 "Dealing" (aD K) (F_Dealing K)) (DC : Dg.DlC K (aD K)) : FnOk P w K mg base (L2.CX P w) 6 f fd ["self"] (Dg.spC K (G_copy K)) :=
  Dg.copyOk (s1 := (defBody (mem (top 29) 7)).getD 0 (.Pass ⟨0, 0, 0, 0⟩)) (s2 := (defBody (mem (top 29) 7)).getD 1 (.Pass ⟨0, 0, 0, 0⟩)) (s3 := (defBody (mem (top 29) 7)).getD 2 (.Pass ⟨0, 0, 0, 0⟩)) FD sc_Dealing_copy rfl rfl DC (fun cdv A outer s H E c => have hN := sc_Dealing_copy.nd;
    ⟨ps_set (i := 1) hN rfl (.inl rfl) (Dg.pdn_make c C_Dealing (pda_cons (Dg.pd_dF (j := 0) DC (by decide) (pe 0)) (pda_cons (Dg.pd_dF (j := 1) DC (by decide) (pe 0)) (pda_cons (Dg.pd_dF (j := 2) DC (by decide) (pe 0)) pda_nil)))), ps_fld (pe 1) (pe_callTy call_list_of rfl M.b_list (by kernel_rfl) (pa_cons (pe_fld (pe 0) rfl) pa_nil)) rfl, ps_ret (pe 1)⟩) (fun g h => h.1) (copy_Dealing K)
theorem sc_next_of : FnScope ["dealing", "done", "thing"] ["dealing"] (defScope (top 30)) := ⟨rfl, rfl, rfl, by decide +kernel, rfl, by decide +kernel, by decide +kernel⟩
theorem ok_next_of {f : Addr} {fd : FuncData} (FD : FnP K "next_of" "next_of" (top 30) f fd) (M : Mg K mg) (C_thing_at : Cal P w K mg base 2 "thing_at" 3 (F_thing_at K)) (C_person_of : Cal P w K mg base 2 "person_of" 4 (F_person_of K)) (DC : Dg.DlC K (aD K)) : FnOk P w K mg base (L2.CX P w) 3 f fd ["dealing"] (Dg.spM K 0 (Dg.dDefM 3 (g_next_of K))) :=
  Dg.okM FD sc_next_of rfl fun cdv A outer s H E c => have hN := sc_next_of.nd; (dss_cons (sSet 1 (bSumT c M.b_sum (pda_cons (Dg.pd_dIx DC (pe 0) (pd_neg pd_int)) pda_nil)))
  (dss_cons (ds_if (tEq c (pv 1) (Dg.pd_dF (j := 2) DC (by decide) (pe 0))) (dss_one (ds_ret pd_non)) dss_nil)
  (dss_cons (sSet 2 (call c C_thing_at (pda_cons (Dg.pd_dF (j := 0) DC (by decide) (pe 0)) (pda_cons (Dg.pd_dF (j := 2) DC (by decide) (pe 0)) (pda_cons (pv 1) pda_nil)))))
  (dss_one (ds_ret (pd_tup (pda_cons (pv 2) (pda_cons (call c C_person_of (pda_cons (Dg.pd_dF (j := 0) DC (by decide) (pe 0)) (pda_cons (Dg.pd_dF (j := 1) DC (by decide) (pe 0)) (pda_cons (Dg.pd_dF (j := 2) DC (by decide) (pe 0)) (pda_cons (pv 1) pda_nil))))) pda_nil))))))))
theorem sc_l_mix : FnScope ["_law_script", "_law_seed", "_law_state", "_law_cell"] ["_law_script", "_law_seed"] (defScope (top 32)) := ⟨rfl, rfl, rfl, by decide +kernel, rfl, by decide +kernel, by decide +kernel⟩
theorem ok_l_mix {f : Addr} {fd : FuncData} (FD : FnP K "_law_mix" "_law_mix" (top 32) f fd) (M : Mg K mg) : FnOk P w K mg base (L2.CX P w) 1 f fd ["_law_script", "_law_seed"] (spMix K) :=
  FD.ok sc_l_mix (fun vs H Q E h => by obtain ⟨a, s, ns, rfl, _⟩ := h; rfl) fun cdv A outer s H vs Q E hr h => ⟨t_mix K, pss_cons (ps_set sc_l_mix.nd rfl (.inl rfl) (pe 1)) (pss_cons (ps_for (passes_of rfl) rfl (pi_list (pe 0)) (gN 3 (hN := sc_l_mix.nd))
    (pss_one (ps_set (i := 2) sc_l_mix.nd rfl (.inl rfl) (pe_op op_mod (pe_callTy call_int1 rfl M.b_int (by kernel_rfl) (pa_cons (pe_op op_add (pe_op op_add (pe_op op_mul (pe 2) pe_int) (pe_op op_mod (pe_callTy call_int1 rfl M.b_int (by kernel_rfl) (pa_cons (pe 3) pa_nil)) pe_int)) pe_int) pa_nil)) pe_int))))
    (pss_one (ps_ret (pe_lst (pa_cons (pe 2) (pa_cons (pe_callTy call_list_of rfl M.b_list (by kernel_rfl) (pa_cons (pe 0) pa_nil)) (pa_cons pe_int (pa_cons pe_int pa_nil)))))))), pure_mix vs H Q E h⟩
theorem sc_l_next : FnScope ["_law_h", "_law_bound", "_law_cell"] ["_law_h", "_law_bound"] (defScope (top 33)) := ⟨rfl, rfl, rfl, by decide +kernel, rfl, by decide +kernel, by decide +kernel⟩
theorem ok_l_next {f : Addr} {fd : FuncData} (FD : FnP K "_law_next" "_law_next" (top 33) f fd) (M : Mg K mg) : FnOk P w K mg base (L2.CX P w) 1 f fd ["_law_h", "_law_bound"] (spD K 2 Fnext) :=
  FD.ok sc_l_next (fun vs H Q E h => h.1) fun cdv A outer s H vs Q E hr h => ⟨t_next K, pss_cons (ps_set (i := 2) sc_l_next.nd rfl (.inl rfl) (px (pe_op op_cat (px (pe 0) pe_int) (pe_lst (pa_cons pe_int pa_nil))) (pe_op op_mod (pe_callTy call_int1 rfl M.b_int (by kernel_rfl) (pa_cons (px (pe 0) pe_int) pa_nil)) (pe_callB (call_max2 rfl) rfl M.b_max (by kernel_rfl) (pa_cons pe_int (pa_cons (pe_callB call_len rfl M.b_len boot_len (pa_cons (px (pe 0) pe_int) pa_nil)) pa_nil))))))
      (pss_cons (ps_if (pt_cmpR op_ge (pe 2) (pe_op op_pow pe_int pe_int) (nomark _))
        (pss_cons (ps_asg (pe_op op_fdivW (pe 2) (pe 1)) (pg_sub (px (pe 0) pe_int) (pe_op op_mod (pe_callTy call_int1 rfl M.b_int (by kernel_rfl) (pa_cons (px (pe 0) pe_int) pa_nil)) (pe_callB call_len rfl M.b_len boot_len (pa_cons (px (pe 0) pe_int) pa_nil))) set_list))
          (pss_one (ps_ret (pe_op op_mod (pe_callTy call_int1 rfl M.b_int (by kernel_rfl) (pa_cons (pe 2) pa_nil)) (pe 1))))) pss_nil)
      (pss_cons (ps_asg (pe_op op_mod (pe_callTy call_int1 rfl M.b_int (by kernel_rfl) (pa_cons (pe_op op_add (pe_op op_add (pe_op op_mul (px (pe 0) pe_int) pe_int) (pe_op op_mul (pe 2) pe_int)) pe_int) pa_nil)) pe_int) (pg_sub (pe 0) pe_int set_list))
      (pss_cons (ps_asg (pe_op op_add (px (pe 0) pe_int) pe_int) (pg_sub (pe 0) pe_int set_list))
        (pss_one (ps_ret (pe_op op_mod (pe_callTy call_int1 rfl M.b_int (by kernel_rfl) (pa_cons (pe_op op_fdiv (px (pe 0) pe_int) pe_int) pa_nil)) (pe 1))))))), pure_next vs H Q E h⟩
theorem sc_l_rule : FnScope ["_law_h", "_law_found"] ["_law_h"] (defScope (top 34)) := ⟨rfl, rfl, rfl, by decide +kernel, rfl, by decide +kernel, by decide +kernel⟩
theorem ok_l_rule {f : Addr} {fd : FuncData} (FD : FnP K "_law_rule" "_law_rule" (top 34) f fd) (M : Mg K mg) (C_l_next : Cal P w K mg base 1 "_law_next" 2 Fnext) : FnOk P w K mg base (L2.CX P w) 2 f fd ["_law_h"] (Dh.spL K 1 (Dh.dDefL 2 g_l_rule)) :=
  Dh.okL FD sc_l_rule fun cdv A outer s H E c => have hN := sc_l_rule.nd; (dss_cons (sSet 1 (PDL.pd (pdl_lst (pda_cons (pd_add pd_int (call c C_l_next (pda_cons (pv 0) (pda_cons pd_int pda_nil)))) (pda_cons (pd_ix (PDL.pd (pdl_lst (pda_cons pd_str (pda_cons pd_str (pda_cons pd_str pda_nil))))) (call c C_l_next (pda_cons (pv 0) (pda_cons pd_int pda_nil)))) (pda_cons (pd_ix (PDL.pd (pdl_lst (pda_cons pd_str (pda_cons pd_str pda_nil)))) (call c C_l_next (pda_cons (pv 0) (pda_cons pd_int pda_nil)))) pda_nil))))))
  (dss_one (ds_retL (pdl_op op_cat opd_catL (pv 1) (PDL.pd (pdl_lst (pda_cons (pd_ix (PDL.pd (pdl_lst (pda_cons pd_int (pda_cons pd_int (pda_cons pd_int (pda_cons pd_int pda_nil)))))) (call c C_l_next (pda_cons (pv 0) (pda_cons pd_int pda_nil)))) (pda_cons (pd_ix (PDL.pd (pdl_lst (pda_cons pd_str (pda_cons pd_str pda_nil)))) (call c C_l_next (pda_cons (pv 0) (pda_cons pd_int pda_nil)))) pda_nil))))))))
theorem sc_l_built : FnScope ["_law_t"] ["_law_t"] (defScope (top 35)) := ⟨rfl, rfl, rfl, by decide +kernel, rfl, by decide +kernel, by decide +kernel⟩
theorem ok_l_built {f : Addr} {fd : FuncData} (FD : FnP K "_law_built" "_law_built" (top 35) f fd) (M : Mg K mg) (C_Rule : MkC P w K mg base 3 "Rule" (aR K) 5 (F_Rule K)) : FnOk P w K mg base (L2.CX P w) 5 f fd ["_law_t"] (spD K 1 (dDef 1 (g_l_built K))) :=
  Dh.okD FD sc_l_built fun cdv A outer s H E c => have hN := sc_l_built.nd; (dss_one (ds_ret (pd_make C_Rule (c.hr.mono (by decide)) rfl c.tk (pda_cons (pd_ix (pv 0) pd_int) (pda_cons (pd_ix (pv 0) pd_int) (pda_cons (pd_ix (pv 0) pd_int) (pda_cons (pd_ix (pv 0) pd_int) (pda_cons (pd_ix (pv 0) pd_int) pda_nil))))))))
theorem sc_l_rest : FnScope ["_law_number", "_law_by"] ["_law_number", "_law_by"] (defScope (top 36)) := ⟨rfl, rfl, rfl, by decide +kernel, rfl, by decide +kernel, by decide +kernel⟩
theorem ok_l_rest {f : Addr} {fd : FuncData} (FD : FnP K "_law_rest" "_law_rest" (top 36) f fd) (M : Mg K mg) : FnOk P w K mg base (L2.CX P w) 1 f fd ["_law_number", "_law_by"] (spD K 2 (dDef 2 (g_l_rest K))) :=
  Dh.okD FD sc_l_rest fun cdv A outer s H E c => have hN := sc_l_rest.nd; (dss_one (ds_ret (oSub (pv 0) (oMul (oDiv (pv 0) (pv 1)) (pv 1)))))
theorem sc_l_turns : FnScope ["_law_t", "_law_m", "_law_many", "_law_found", "_law_j", "_law_row", "_law_k", "_law_person"] ["_law_t", "_law_m", "_law_many"] (defScope (top 37)) := ⟨rfl, rfl, rfl, by decide +kernel, rfl, by decide +kernel, by decide +kernel⟩
theorem ok_l_turns {f : Addr} {fd : FuncData} (FD : FnP K "_law_turns" "_law_turns" (top 37) f fd) (M : Mg K mg) (C_l_rest : Cal P w K mg base 1 "_law_rest" 2 (F_l_rest K)) : FnOk P w K mg base (L2.CX P w) 2 f fd ["_law_t", "_law_m", "_law_many"] (spD K 3 (dDef 8 (g_l_turns K))) :=
  Dh.okD FD sc_l_turns fun cdv A outer s H E c => have hN := sc_l_turns.nd; (dss_cons (sSet 3 (PDL.pd (pdl_lst pda_nil)))
  (dss_cons (sSet 4 pd_int)
  (dss_cons (ds_while c.hp (tLt (bLen M.b_len (pv 3)) (pv 2)) (dss_cons (sSet 5 (PDL.pd (bListR1 c M.b_list M.b_range (pv 1))))
  (dss_cons (ds_if (pdb_w (pdw_and (tEq c (pd_ix (pv 0) pd_int) pd_str) (pdw_and1 (tEq c (call c C_l_rest (pda_cons (pv 4) (pda_cons pd_int pda_nil))) pd_int)))) (dss_one (sSet 5 (PDL.pd (pdl_rev (pv 5))))) dss_nil)
  (dss_cons (ds_if (tEq c (pd_ix (pv 0) pd_int) pd_str) (dss_cons (sSet 6 (call c C_l_rest (pda_cons (pv 4) (pda_cons (pv 1) pda_nil))))
  (dss_one (sSet 5 (pd_add (PDL.pd (pdl_slice (pv 5) (pdo_some (pv 6)) pdo_none)) (PDL.pd (pdl_slice (pv 5) pdo_none (pdo_some (pv 6)))))))) dss_nil)
  (dss_cons (ds_if (tEq c (pd_ix (pv 0) pd_int) pd_str) (dss_one (ds_setLc (i := 5) c.hc hN rfl rfl rfl (iList (pv 5)) (own := [("_law_person", 7)]) (blkOk (by kernel_rfl)) tg_name (by decide) (fun _ _ _ _ _ => (gN 7)) (fun _ _ _ _ _ => pdts_nil) (fun _ _ _ _ _ => (oSub (oSub (pv 1) pd_int) (pv 7))))) dss_nil)
  (dss_cons (sSet 3 (pd_add (pv 3) (pv 5)))
  (dss_one (sSet 4 (pd_add (pv 4) pd_int)))))))))
  (dss_one (ds_ret (pv 3))))))
theorem sc_l_dealt : FnScope ["_law_t", "_law_m", "_law_n", "_law_one", "_law_k", "_law_two", "_law_turns_here", "_law_found", "_law_begin"] ["_law_t", "_law_m", "_law_n"] (defScope (top 38)) := ⟨rfl, rfl, rfl, by decide +kernel, rfl, by decide +kernel, by decide +kernel⟩
theorem ok_l_dealt {f : Addr} {fd : FuncData} (FD : FnP K "_law_dealt" "_law_dealt" (top 38) f fd) (M : Mg K mg) (C_l_rest : Cal P w K mg base 1 "_law_rest" 2 (F_l_rest K)) (C_l_turns : Cal P w K mg base 2 "_law_turns" 3 (F_l_turns K)) : FnOk P w K mg base (L2.CX P w) 3 f fd ["_law_t", "_law_m", "_law_n"] (spD K 3 (dDef 9 (g_l_dealt K))) :=
  Dh.okD FD sc_l_dealt fun cdv A outer s H E c => have hN := sc_l_dealt.nd; (dss_cons (sSet 3 (PDL.pd (pdl_lc c.hc hN (iR1 M.b_range (pv 2)) (own := [("_law_k", 4)]) (blkOk (by kernel_rfl)) tg_name (by decide) (fun _ _ _ _ _ => (gN 4)) (fun _ _ _ _ _ => (pdts_one (pdb_w (pdw_or (tEq c.blk (pd_ix (pv 0) pd_int) pd_int) (pdw_or1 (tGt (call c.blk C_l_rest (pda_cons (pd_add (pv 4) pd_int) (pda_cons (pd_ix (pv 0) pd_int) pda_nil))) pd_int)))))) (fun _ _ _ _ _ => (pv 4)))))
  (dss_cons (sSet 5 (PDL.pd (pdl_lc c.hc hN (iR1 M.b_range (pv 2)) (own := [("_law_k", 4)]) (blkOk (by kernel_rfl)) tg_name (by decide) (fun _ _ _ _ _ => (gN 4)) (fun _ _ _ _ _ => (pdts_one (pdb_w (pdw_and (tGt (pd_ix (pv 0) pd_int) pd_int) (pdw_and1 (tEq c.blk (call c.blk C_l_rest (pda_cons (pd_add (pv 4) pd_int) (pda_cons (bMax2 c.blk M.b_max (pda_cons (pd_ix (pv 0) pd_int) (pda_cons pd_int pda_nil))) pda_nil))) pd_int)))))) (fun _ _ _ _ _ => (pv 4)))))
  (dss_cons (sSet 6 (call c C_l_turns (pda_cons (pv 0) (pda_cons (pv 1) (pda_cons (pd_add (oMul pd_int (pv 2)) pd_int) pda_nil)))))
  (dss_cons (ds_setLc (i := 7) c.hc hN rfl rfl rfl (iR1 M.b_range (bLen M.b_len (pv 3))) (own := [("_law_k", 4)]) (blkOk (by kernel_rfl)) tg_name (by decide) (fun _ _ _ _ _ => (gN 4)) (fun _ _ _ _ _ => pdts_nil) (fun _ _ _ _ _ => (pd_tup (pda_cons (pd_ix (pv 3) (pv 4)) (pda_cons (pd_ix (pv 6) (oDiv (pv 4) (pd_ix (pv 0) pd_int))) pda_nil)))))
  (dss_cons (sSet 8 (pd_if (tEq c (pd_ix (pv 0) pd_int) pd_str) (oDiv (oSub (pd_add (bLen M.b_len (pv 3)) (pd_ix (pv 0) pd_int)) pd_int) (pd_ix (pv 0) pd_int)) pd_int))
  (dss_one (ds_ret (pd_add (pv 7) (PDL.pd (pdl_lc c.hc hN (iR1 M.b_range (bLen M.b_len (pv 5))) (own := [("_law_k", 4)]) (blkOk (by kernel_rfl)) tg_name (by decide) (fun _ _ _ _ _ => (gN 4)) (fun _ _ _ _ _ => pdts_nil) (fun _ _ _ _ _ => (pd_tup (pda_cons (pd_ix (pv 5) (pv 4)) (pda_cons (pd_ix (pv 6) (pd_add (pv 8) (oDiv (pv 4) (pd_ix (pv 0) pd_int)))) pda_nil))))))))))))))
theorem sc_l_lots : FnScope ["_law_t", "_law_m", "_law_n", "_law_found", "_law_thing", "_law_person"] ["_law_t", "_law_m", "_law_n"] (defScope (top 39)) := ⟨rfl, rfl, rfl, by decide +kernel, rfl, by decide +kernel, by decide +kernel⟩
theorem ok_l_lots {f : Addr} {fd : FuncData} (FD : FnP K "_law_lots" "_law_lots" (top 39) f fd) (M : Mg K mg) (C_l_dealt : Cal P w K mg base 3 "_law_dealt" 3 (F_l_dealt K)) : FnOk P w K mg base (L2.CX P w) 4 f fd ["_law_t", "_law_m", "_law_n"] (spD K 3 (dDef 6 (g_l_lots K))) :=
  Dh.okD FD sc_l_lots fun cdv A outer s H E c => have hN := sc_l_lots.nd; (dss_cons (sOwn 3 (oMulL (PDL.pd (pdl_lst (pda_cons pd_int pda_nil))) (pv 1)))
  (dss_cons (sFor c (iList (call c C_l_dealt (pda_cons (pv 0) (pda_cons (pv 1) (pda_cons (pv 2) pda_nil))))) (pg_tup c.hc (pgs_cons (gN 4) (pgs_cons (gN 5) pgs_nil))) (tg_tup (is := [4, 5])) (dss_one (ds_setI (i := 3) (pe 3) (pd_add (pd_ownIx (pe 3) (pv 5)) pd_int) (pv 5))))
  (dss_rel (i := 3) (dss_one (ds_ret (pv 3))))))
theorem sc_l_done : FnScope ["_law_dealing", "_law_many", "_law_told"] ["_law_dealing", "_law_many"] (defScope (top 40)) := ⟨rfl, rfl, rfl, by decide +kernel, rfl, by decide +kernel, by decide +kernel⟩
theorem ok_l_done {f : Addr} {fd : FuncData} (FD : FnP K "_law_done" "_law_done" (top 40) f fd) (M : Mg K mg) (C_Dealing_give : Dg.MeM P w K mg base 3 (aD K) "give" 1 (FM_Dealing_give K)) : FnOk P w K mg base (L2.CX P w) 4 f fd ["_law_dealing", "_law_many"] (Dg.spM K 1 (Dg.dDefM 3 (g_l_done K))) :=
  Dg.okM FD sc_l_done rfl fun cdv A outer s H E c => have hN := sc_l_done.nd; (dss_cons (sSet 2 pd_non)
  (dss_cons (ds_try rfl rfl hN c.tk (fun W' pn xe tk hp => (dss_one (Dg.ds_setM (i := 2) (Dg.pm_meth (c.tr tk hp) C_Dealing_give (pe 0) (pda_cons (pv 1) pda_nil))))) (HdsD.cons (nmOf M.c_InvalidNumber) (fun a oe cls d pn hz hf => (dss_one (sSet 2 pd_str))) (HdsD.cons (nmOf M.c_Done) (fun a oe cls d pn hz hf => (dss_one (sSet 2 pd_str))) HdsD.nil)))
  (dss_one (ds_ret (pv 2)))))
theorem sc_l_opened : FnScope ["_law_rule_here", "_law_m", "_law_n", "_law_told"] ["_law_rule_here", "_law_m", "_law_n"] (defScope (top 41)) := ⟨rfl, rfl, rfl, by decide +kernel, rfl, by decide +kernel, by decide +kernel⟩
theorem ok_l_opened {f : Addr} {fd : FuncData} (FD : FnP K "_law_opened" "_law_opened" (top 41) f fd) (M : Mg K mg) (C_Dealing : Dg.MkD P w K mg base 4 "Dealing" (aD K) (F_Dealing K)) : FnOk P w K mg base (L2.CX P w) 6 f fd ["_law_rule_here", "_law_m", "_law_n"] (spD K 3 (dDef 4 (g_l_opened K))) :=
  Dh.okD FD sc_l_opened fun cdv A outer s H E c => have hN := sc_l_opened.nd; (dss_cons (sSet 3 pd_non)
  (dss_cons (ds_try rfl rfl hN c.tk (fun W' pn xe tk hp => (dss_one (ds_expr (Dg.pd_newX (Dg.pdn_make (c.tr tk hp) C_Dealing (pda_cons (pv 0) (pda_cons (pv 1) (pda_cons (pv 2) pda_nil)))))))) (HdsD.cons (nmOf M.c_InvalidPeople) (fun a oe cls d pn hz hf => (dss_one (sSet 3 pd_str))) (HdsD.cons (nmOf M.c_InvalidThings) (fun a oe cls d pn hz hf => (dss_one (sSet 3 pd_str))) HdsD.nil)))
  (dss_one (ds_ret (pv 3)))))
theorem sc_l_stands : FnScope ["_law_dealing", "_law_m", "_law_dealt_here", "_law_many", "_law_row", "_law_thing", "_law_person"] ["_law_dealing", "_law_m", "_law_dealt_here", "_law_many"] (defScope (top 42)) := ⟨rfl, rfl, rfl, by decide +kernel, rfl, by decide +kernel, by decide +kernel⟩
theorem ok_l_stands {f : Addr} {fd : FuncData} (FD : FnP K "_law_stands" "_law_stands" (top 42) f fd) (M : Mg K mg) (C_Dealing_lots : Dg.PrM P w K mg base 1 (aD K) "lots" (FM_Dealing_lots K)) (C_Dealing_left : Dg.PrM P w K mg base 1 (aD K) "left" (FM_Dealing_left K)) (C_Dealing_coming : Dg.PrM P w K mg base 4 (aD K) "coming" (FM_Dealing_coming K)) : FnOk P w K mg base (L2.CX P w) 6 f fd ["_law_dealing", "_law_m", "_law_dealt_here", "_law_many"] (Dg.spM K 3 (Dg.dDefM 7 (g_l_stands K))) :=
  Dg.okM FD sc_l_stands rfl fun cdv A outer s H E c => have hN := sc_l_stands.nd; (dss_cons (sOwn 4 (oMulL (PDL.pd (pdl_lst (pda_cons pd_int pda_nil))) (pv 1)))
  (dss_cons (sFor c (iList (PDL.pd (pdl_slice (pv 2) pdo_none (pdo_some (pv 3))))) (pg_tup c.hc (pgs_cons (gN 5) (pgs_cons (gN 6) pgs_nil))) (tg_tup (is := [5, 6])) (dss_one (ds_setI (i := 4) (pe 4) (pd_add (pd_ownIx (pe 4) (pv 6)) pd_int) (pv 6))))
  (dss_cons (ds_if (pdb_w (pdw_or (tNe c (Dg.pd_propR c C_Dealing_lots (pe 0)) (pd_ownTup (pe 4) rfl M.b_tuple)) (pdw_or1 (tNe c (Dg.pd_propR c C_Dealing_left (pe 0)) (oSub (bLen M.b_len (pv 2)) (pv 3)))))) (dss_one (ds_ret pd_bl)) dss_nil)
  (dss_one (ds_ret (cEq c (Dg.pd_propR c C_Dealing_coming (pe 0)) (pd_if (tLt (pv 3) (bLen M.b_len (pv 2))) (pd_ix (pv 2) (pv 3)) pd_non)))))))
end
end K10

set_option maxHeartbeats 4000000
namespace K10
open PySem PySem.Spec PyProof.Rows L2 Dl Dv Dk Gx Pr
section
variable {P : Program} {w : World} {K : PySem.W.Frag} {mg : Str → Option Value} {base : Heap}
theorem sc_law : FnScope ["_law_script", "_law_h", "_law_t", "_law_m", "_law_n", "_law_dealt_here", "_law_rule_here", "_law_dealing", "_law_past", "_law_turn", "_law_other", "_law_many", "_law_due", "_law_now", "_law_thing", "_law_person", "_law_odd"] ["_law_script"] (defScope (top 43)) := ⟨rfl, rfl, rfl, by decide +kernel, rfl, by decide +kernel, by decide +kernel⟩
theorem ok_law {f : Addr} {fd : FuncData} (FD : FnP K "law" "law" (top 43) f fd) (M : Mg K mg)  {fm : Addr} {fdm : FuncData} (FM : FnOk P w K mg base (L2.CX P w) 1 fm fdm ["_law_script", "_law_seed"] (spMix K)) (gm : mg "_law_mix" = some (.ref fm)) (km : PySem.W.keepIn K (.ref fm) = true) (bm : Binds K fdm ["_law_script", "_law_seed"] [])  (C_l_rule : Dh.CalL P w K mg base 2 "_law_rule" 1 F_l_rule) (C_l_next : Cal P w K mg base 1 "_law_next" 2 Fnext) (C_l_dealt : Cal P w K mg base 3 "_law_dealt" 3 (F_l_dealt K)) (C_l_built : Cal P w K mg base 5 "_law_built" 1 (F_l_built K)) (C_Dealing : Dg.MkD P w K mg base 4 "Dealing" (aD K) (F_Dealing K)) (C_Dealing_undo : Dg.MeM P w K mg base 1 (aD K) "undo" 0 (FM_Dealing_undo K)) (C_Dealing_copy : Dg.CpM P w K mg base 6 (aD K) "copy" (G_copy K)) (C_l_done : Dg.CalM P w K mg base 4 "_law_done" 1 (FM_l_done K)) (C_l_stands : Dg.CalM P w K mg base 6 "_law_stands" 3 (FM_l_stands K)) (C_DealingU_lenU : Dg.MeM P w K mg base 1 (aD K) "__len__" 0 (FM_DealingU_lenU K)) (C_l_opened : Cal P w K mg base 6 "_law_opened" 3 (F_l_opened K)) : FnOk P w K mg base (L2.CX P w) 7 f fd ["_law_script"] (spLaw K) :=
  lawOk (k := 6) (seed := 10) FD sc_law (fun cdv A outer s H E c => have hN := sc_law.nd; ⟨ps_asg (pe_callS FM (c.hr.mono (by decide)) rfl gm km bm (fun σ => passAt c.tk σ) (pa_cons (pe 0) (pa_cons pe_int pa_nil))) (gN 1), (dss_cons (sSet 2 (call c C_l_rule.cal (pda_cons (pv 1) pda_nil)))
  (dss_cons (ds_par (i := 3) (j := 4) c.hc hN rfl rfl (by decide) rfl rfl (pda_cons (pd_add pd_int (call c C_l_next (pda_cons (pv 1) (pda_cons pd_int pda_nil)))) (pda_cons (call c C_l_next (pda_cons (pv 1) (pda_cons pd_int pda_nil))) pda_nil)) rfl)
  (dss_cons (sSet 5 (call c C_l_dealt (pda_cons (pv 2) (pda_cons (pv 3) (pda_cons (pv 4) pda_nil)))))
  (dss_cons (sSet 6 (call c C_l_built (pda_cons (pv 2) pda_nil)))
  (dss_cons (Dg.ds_newD (i := 7) (Dg.pdn_make c C_Dealing (pda_cons (pv 6) (pda_cons (pv 3) (pda_cons (pv 4) pda_nil)))))
  (dss_cons (sSet 8 (PDL.pd (pdl_lst (pda_cons pd_int pda_nil))))
  (dss_cons (sFor c (iR1 M.b_range (call c C_l_next (pda_cons (pv 1) (pda_cons pd_int pda_nil)))) (gN 9) tg_name (dss_cons (ds_if (tEq c (call c C_l_next (pda_cons (pv 1) (pda_cons pd_int pda_nil))) pd_int) (dss_cons (Dg.ds_ifM (Dg.pmb_cmp (op_neD c.hr.units) opd_ne (Dg.pm_meth0 c C_Dealing_undo (pe 7)) (cGt (bLen M.b_len (pv 8)) pd_int) (nomark _)) (dss_one (ds_ret pd_bl)) dss_nil)
  (dss_one (sSet 8 (PDL.pd (pdl_slice (pv 8) pdo_none (pdo_some (bMax2 c M.b_max (pda_cons pd_int (pda_cons (oSub (bLen M.b_len (pv 8)) pd_int) pda_nil))))))))) (dss_cons (Dg.ds_copy (i := 7) (j := 10) c C_Dealing_copy (pe 7))
  (dss_cons (sSet 11 (call c C_l_next (pda_cons (pv 1) (pda_cons (pd_ix (PDL.pd (pdl_lst (pda_cons pd_int (pda_cons pd_int (pda_cons (pd_add (pv 4) pd_int) pda_nil))))) (call c C_l_next (pda_cons (pv 1) (pda_cons pd_int pda_nil)))) pda_nil))))
  (dss_cons (sSet 12 (pd_if (tLt (pv 11) pd_int) pd_str pd_str))
  (dss_cons (sSet 13 (pd_ix (pv 8) (pd_neg pd_int)))
  (dss_cons (ds_if (pdb_w (pdw_and (tGt (pv 11) pd_int) (pdw_and1 (tLe (pd_add (pv 13) (pv 11)) (pv 4))))) (dss_cons (ds_setLc (i := 12) c.hc hN rfl rfl rfl (iList (PDL.pd (pdl_slice (pv 5) (pdo_some (pv 13)) (pdo_some (pd_add (pv 13) (pv 11)))))) (own := [("_law_thing", 14), ("_law_person", 15)]) (blkOk (by kernel_rfl)) (tg_tup (is := [14, 15])) (by decide) (fun _ _ _ _ _ => (pg_tup c.blk.hc (pgs_cons (gN 14) (pgs_cons (gN 15) pgs_nil)))) (fun _ _ _ _ _ => pdts_nil) (fun _ _ _ _ _ => (pv 15)))
  (dss_one (sSet 8 (pd_add (pv 8) (PDL.pd (pdl_lst (pda_cons (pd_add (pv 13) (pv 11)) pda_nil))))))) dss_nil)
  (dss_one (Dg.ds_ifM (Dg.pmb_w (Dg.pwm_or (Dg.pmb_cmp (op_neD c.hr.units) opd_ne (Dg.pm_call c C_l_done (pe 7) (pda_cons (pv 11) pda_nil)) (pv 12) (nomark _)) (Dg.pwm_or1 (Dg.pmb_up (pdb_not (pdb_val (Dg.pd_callR c C_l_stands (pe 10) (pda_cons (pv 3) (pda_cons (pv 5) (pda_cons (pv 13) pda_nil)))))))))) (dss_one (ds_ret pd_bl)) dss_nil))))))))
  (dss_one (ds_if (pdb_w (pdw_or (pdb_not (pdb_val (Dg.pd_callR c C_l_stands (pe 7) (pda_cons (pv 3) (pda_cons (pv 5) (pda_cons (pd_ix (pv 8) (pd_neg pd_int)) pda_nil)))))) (pdw_or1 (tNe c (Dg.pd_lenR c C_DealingU_lenU M.b_len (pe 7)) (oSub (bLen M.b_len (pv 8)) pd_int))))) (dss_one (ds_ret pd_bl)) dss_nil))))
  (dss_cons (ds_if (tNe c (PDL.pd (pdl_lc c.hc hN (iList (PDL.pd (pdl_lst (pda_cons pd_int (pda_cons (pd_neg pd_int) (pda_cons pd_bl (pda_cons pd_non (pda_cons pd_str pda_nil)))))))) (own := [("_law_odd", 16)]) (blkOk (by kernel_rfl)) tg_name (by decide) (fun _ _ _ _ _ => (gN 16)) (fun _ _ _ _ _ => pdts_nil) (fun _ _ _ _ _ => (Dg.pd_callR c.blk C_l_done (pe 7) (pda_cons (pv 16) pda_nil))))) (PDL.pd (oMulL (PDL.pd (pdl_lst (pda_cons pd_str pda_nil))) pd_int))) (dss_one (ds_ret pd_bl)) dss_nil)
  (dss_cons (ds_if (tNe c (call c C_l_opened (pda_cons (pv 6) (pda_cons (pd_ix (PDL.pd (pdl_lst (pda_cons pd_int (pda_cons pd_int (pda_cons pd_bl (pda_cons pd_non pda_nil)))))) (call c C_l_next (pda_cons (pv 1) (pda_cons pd_int pda_nil)))) (pda_cons pd_non pda_nil)))) pd_str) (dss_one (ds_ret pd_bl)) dss_nil)
  (dss_one (ds_ret (cEq c (call c C_l_opened (pda_cons (pv 6) (pda_cons (pv 3) (pda_cons (pd_ix (PDL.pd (pdl_lst (pda_cons (pd_neg pd_int) (pda_cons pd_int (pda_cons pd_bl (pda_cons pd_non pda_nil)))))) (call c C_l_next (pda_cons (pv 1) (pda_cons pd_int pda_nil)))) pda_nil)))) pd_str))))))))))))⟩) law_ok
end
end K10

set_option maxHeartbeats 0
namespace K10
open PySem PySem.Spec PyProof.Rows L2 Dl Dv Dk Gx Pr
def dY0 : Dh.DefY := ⟨fun K => He.ma K (He.ga K "InvalidPoint") "__init__", "__init__", "InvalidPoint.__init__", defArgs (mem (top 3) 0), defBody (mem (top 3) 0), defScope (mem (top 3) 0)⟩
def dY1 : Dh.DefY := ⟨fun K => He.ga K "is_integer", "is_integer", "is_integer", defArgs (top 15), defBody (top 15), defScope (top 15)⟩
def dY2 : Dh.DefY := ⟨fun K => He.ga K "is_within", "is_within", "is_within", defArgs (top 16), defBody (top 16), defScope (top 16)⟩
def dY3 : Dh.DefY := ⟨fun K => He.ga K "is_one_of", "is_one_of", "is_one_of", defArgs (top 17), defBody (top 17), defScope (top 17)⟩
def dY4 : Dh.DefY := ⟨fun K => He.ma K (He.ga K "Rule") "__init__", "__init__", "Rule.__init__", defArgs (mem (top 18) 1), defBody (mem (top 18) 1), defScope (mem (top 18) 1)⟩
def dY5 : Dh.DefY := ⟨fun K => Hd.gAd K (He.ga K "Rule") "size", "size", "Rule.size", defArgs (mem (top 18) 2), defBody (mem (top 18) 2), defScope (mem (top 18) 2)⟩
def dY6 : Dh.DefY := ⟨fun K => Hd.gAd K (He.ga K "Rule") "way", "way", "Rule.way", defArgs (mem (top 18) 3), defBody (mem (top 18) 3), defScope (mem (top 18) 3)⟩
def dY7 : Dh.DefY := ⟨fun K => Hd.gAd K (He.ga K "Rule") "first", "first", "Rule.first", defArgs (mem (top 18) 4), defBody (mem (top 18) 4), defScope (mem (top 18) 4)⟩
def dY8 : Dh.DefY := ⟨fun K => Hd.gAd K (He.ga K "Rule") "aside", "aside", "Rule.aside", defArgs (mem (top 18) 5), defBody (mem (top 18) 5), defScope (mem (top 18) 5)⟩
def dY9 : Dh.DefY := ⟨fun K => Hd.gAd K (He.ga K "Rule") "later", "later", "Rule.later", defArgs (mem (top 18) 6), defBody (mem (top 18) 6), defScope (mem (top 18) 6)⟩
def dY10 : Dh.DefY := ⟨fun K => He.ma K (He.ga K "Rule") "__eq__", "__eq__", "Rule.__eq__", defArgs (mem (top 18) 8), defBody (mem (top 18) 8), defScope (mem (top 18) 8)⟩
def dY11 : Dh.DefY := ⟨fun K => He.ga K "look_at", "look_at", "look_at", defArgs (top 22), defBody (top 22), defScope (top 22)⟩
def dY12 : Dh.DefY := ⟨fun K => He.ga K "person_at", "person_at", "person_at", defArgs (top 23), defBody (top 23), defScope (top 23)⟩
def dY13 : Dh.DefY := ⟨fun K => He.ga K "counts_of", "counts_of", "counts_of", defArgs (top 24), defBody (top 24), defScope (top 24)⟩
def dY14 : Dh.DefY := ⟨fun K => He.ga K "thing_at", "thing_at", "thing_at", defArgs (top 25), defBody (top 25), defScope (top 25)⟩
def dY15 : Dh.DefY := ⟨fun K => He.ga K "person_of", "person_of", "person_of", defArgs (top 26), defBody (top 26), defScope (top 26)⟩
def dY16 : Dh.DefY := ⟨fun K => He.ma K (He.ga K "Dealing") "__init__", "__init__", "Dealing.__init__", defArgs (mem (top 29) 0), defBody (mem (top 29) 0), defScope (mem (top 29) 0)⟩
def dY17 : Dh.DefY := ⟨fun K => Hd.gAd K (He.ga K "Dealing") "lots", "lots", "Dealing.lots", defArgs (mem (top 29) 1), defBody (mem (top 29) 1), defScope (mem (top 29) 1)⟩
def dY18 : Dh.DefY := ⟨fun K => Hd.gAd K (He.ga K "Dealing") "left", "left", "Dealing.left", defArgs (mem (top 29) 2), defBody (mem (top 29) 2), defScope (mem (top 29) 2)⟩
def dY19 : Dh.DefY := ⟨fun K => He.ga K "next_of", "next_of", "next_of", defArgs (top 30), defBody (top 30), defScope (top 30)⟩
def dY20 : Dh.DefY := ⟨fun K => Hd.gAd K (He.ga K "Dealing") "coming", "coming", "Dealing.coming", defArgs (mem (top 29) 3), defBody (mem (top 29) 3), defScope (mem (top 29) 3)⟩
def dY21 : Dh.DefY := ⟨fun K => He.ma K (He.ga K "Dealing") "__len__", "__len__", "Dealing.__len__", defArgs (mem (top 29) 4), defBody (mem (top 29) 4), defScope (mem (top 29) 4)⟩
def dY22 : Dh.DefY := ⟨fun K => He.ma K (He.ga K "Dealing") "give", "give", "Dealing.give", defArgs (mem (top 29) 5), defBody (mem (top 29) 5), defScope (mem (top 29) 5)⟩
def dY23 : Dh.DefY := ⟨fun K => He.ma K (He.ga K "Dealing") "undo", "undo", "Dealing.undo", defArgs (mem (top 29) 6), defBody (mem (top 29) 6), defScope (mem (top 29) 6)⟩
def dY24 : Dh.DefY := ⟨fun K => He.ma K (He.ga K "Dealing") "copy", "copy", "Dealing.copy", defArgs (mem (top 29) 7), defBody (mem (top 29) 7), defScope (mem (top 29) 7)⟩
def dY25 : Dh.DefY := ⟨fun K => He.ga K "_law_mix", "_law_mix", "_law_mix", defArgs (top 32), defBody (top 32), defScope (top 32)⟩
def dY26 : Dh.DefY := ⟨fun K => He.ga K "_law_next", "_law_next", "_law_next", defArgs (top 33), defBody (top 33), defScope (top 33)⟩
def dY27 : Dh.DefY := ⟨fun K => He.ga K "_law_rule", "_law_rule", "_law_rule", defArgs (top 34), defBody (top 34), defScope (top 34)⟩
def dY28 : Dh.DefY := ⟨fun K => He.ga K "_law_built", "_law_built", "_law_built", defArgs (top 35), defBody (top 35), defScope (top 35)⟩
def dY29 : Dh.DefY := ⟨fun K => He.ga K "_law_rest", "_law_rest", "_law_rest", defArgs (top 36), defBody (top 36), defScope (top 36)⟩
def dY30 : Dh.DefY := ⟨fun K => He.ga K "_law_turns", "_law_turns", "_law_turns", defArgs (top 37), defBody (top 37), defScope (top 37)⟩
def dY31 : Dh.DefY := ⟨fun K => He.ga K "_law_dealt", "_law_dealt", "_law_dealt", defArgs (top 38), defBody (top 38), defScope (top 38)⟩
def dY32 : Dh.DefY := ⟨fun K => He.ga K "_law_lots", "_law_lots", "_law_lots", defArgs (top 39), defBody (top 39), defScope (top 39)⟩
def dY33 : Dh.DefY := ⟨fun K => He.ga K "_law_done", "_law_done", "_law_done", defArgs (top 40), defBody (top 40), defScope (top 40)⟩
def dY34 : Dh.DefY := ⟨fun K => He.ga K "_law_opened", "_law_opened", "_law_opened", defArgs (top 41), defBody (top 41), defScope (top 41)⟩
def dY35 : Dh.DefY := ⟨fun K => He.ga K "_law_stands", "_law_stands", "_law_stands", defArgs (top 42), defBody (top 42), defScope (top 42)⟩
def dY36 : Dh.DefY := ⟨fun K => He.ga K "law", "law", "law", defArgs (top 43), defBody (top 43), defScope (top 43)⟩
def fnY : List Dh.DefY := [dY0, dY1, dY2, dY3, dY4, dY5, dY6, dY7, dY8, dY9, dY10, dY11, dY12, dY13, dY14, dY15, dY16, dY17, dY18, dY19, dY20, dY21, dY22, dY23, dY24, dY25, dY26, dY27, dY28, dY29, dY30, dY31, dY32, dY33, dY34, dY35, dY36]
def fxs : List Hd.Fx := [.fa (.free "bool"), .fa (.free "int"), .fa (.free "isinstance"), .fa (.free "len"), .fa (.free "list"), .fa (.free "max"), .fa (.free "range"), .fa (.free "str"), .fa (.free "sum"), .fa (.free "tuple"), .fa (.free "zip"), .fa (.glo "Done"), .fa (.glo "InvalidNumber"), .fa (.glo "InvalidPeople"), .fa (.glo "InvalidThings"), .fa (.int "LEAST_PEOPLE" 2), .fa (.int "MOST_LED" 1000), .fa (.int "MOST_PEOPLE" 12), .fa (.glo "POINTS"), .fa (.glo "Rule"), .fa (.cls "Dealing"), .fa (.noat "Dealing" "source"), .fa (.noat "Dealing" "people"), .fa (.noat "Dealing" "whole"), .fa (.noat "Dealing" "states"), .scls "Rule", .slot "Rule" "row" 0, .kit "Rule", .tabv kvs_POINTS, .fa (.exm "InvalidNumber" "InvalidNumber" true), .fa (.exm "Done" "InvalidNumber" false), .fa (.exm "Done" "Done" true), .fa (.exm "InvalidPeople" "InvalidPeople" true), .fa (.exm "InvalidThings" "InvalidPeople" false), .fa (.exm "InvalidThings" "InvalidThings" true), .oex "InvalidPoint", .fa (.noat "InvalidPoint" "point"), .fa (.glo "InvalidPoint"), .xf "InvalidPoint", .fa (.glo "is_integer"), .fa (.glo "is_within"), .fa (.glo "is_one_of"), .fa (.mkr "Rule"), .prop "Rule" "size", .prop "Rule" "way", .prop "Rule" "first", .prop "Rule" "aside", .prop "Rule" "later", .eq "Rule", .fa (.exc "InvalidPeople"), .fa (.exc "InvalidThings"), .fa (.glo "look_at"), .fa (.glo "person_at"), .fa (.glo "counts_of"), .fa (.glo "thing_at"), .fa (.glo "person_of"), .fa (.mkr "Dealing"), .fa (.glo "Dealing"), .prop "Dealing" "lots", .prop "Dealing" "left", .fa (.glo "next_of"), .prop "Dealing" "coming", .fa (.meth "Dealing" "__len__"), .fa (.exc "Done"), .fa (.exc "InvalidNumber"), .fa (.meth "Dealing" "give"), .fa (.meth "Dealing" "undo"), .fa (.meth "Dealing" "copy"), .fa (.glo "_law_next"), .fa (.glo "_law_rule"), .fa (.glo "_law_built"), .fa (.glo "_law_rest"), .fa (.glo "_law_turns"), .fa (.glo "_law_dealt"), .fa (.glo "_law_lots"), .fa (.glo "_law_done"), .fa (.glo "_law_opened"), .fa (.glo "_law_stands"), .fa (.glo "_law_mix"), .fa (.glo "law")]
def tabs : List He.Tab := [(fun K => aP K, ks_POINTS)]
abbrev RR : PySem.W.OpenRow := PySem.W.OpenLaw.row PySem.Challenge.rw_dealtround_k10_whole_dealings
abbrev hk : PySem.W.Hook := Dh.hookY 6 fnY tabs (Hd.exAll fxs)
def ob (s : PySem.W.SharedT) : Dh.AlY := Dh.obsY 6 fnY tabs (Hd.exAll fxs) (HandSHeadRun.getT s)
theorem ob_eq (s : PySem.W.SharedT) : ob s = hk.obs s.abs := Dh.obsY_eq (HandSHeadRun.getT_eq s)
def namesA : List Str := ["_wall", "DealError", "InvalidPoint", "InvalidPeople", "InvalidThings", "InvalidNumber", "Done", "SIZES", "WAYS", "FIRSTS", "ASIDES", "LATERS", "POINTS", "is_integer", "is_within", "is_one_of", "Rule", "LEAST_PEOPLE", "MOST_PEOPLE", "look_at", "person_at", "counts_of", "thing_at", "person_of", "MOST_LED", "Dealing", "next_of", "_law_mix", "_law_next", "_law_rule"]
def namesB : List Str := ["_law_built", "_law_rest", "_law_turns", "_law_dealt", "_law_lots", "_law_done", "_law_opened", "_law_stands"]
def namesC : List Str := []
def namesL : List Str := namesA ++ (namesB ++ namesC)
theorem run_false (w : World) : HandSHeadRun.RunEq RR (PySem.W.view RR.prog [43]) hk ob 20000 namesL (w.withFollow "special-get-raises" false) := by
  intro os
  kernel_rfl
theorem run_true (w : World) : HandSHeadRun.RunEq RR (PySem.W.view RR.prog [43]) hk ob 20000 namesL (w.withFollow "special-get-raises" true) := by
  intro os
  kernel_rfl
theorem run (w : World) : HandSHeadRun.RunEq RR (PySem.W.view RR.prog [43]) hk ob 20000 namesL w := PySem.W.byRow2 "special-get-raises" (P := fun w => HandSHeadRun.RunEq RR (PySem.W.view RR.prog [43]) hk ob 20000 namesL w) run_false run_true w
section
variable {P : Program} {w : World} {K : PySem.W.Frag} {mg : Str → Option Value} {h : Heap}
theorem facts {fa : Addr} (X : K.In h) (G : h.Ns mainGlobals mg) (hfa : mg ("law" : Str) = some (.ref fa)) (c : Dh.SaysY fnY tabs (Hd.exAll fxs) w K) :
    ∃ fd : FuncData, (∀ (s : Shared) (v : Value), BindsTo s fd ⟨[v], []⟩ [("_law_script", v)]) ∧ ∀ base : Heap, K.In base → base.Ns mainGlobals mg → FnOk P w K mg base (L2.CX P w) 7 fa fd ["_law_script"] (spLaw K) := by
  have e := c.more
  have gL : mg "law" = some (.ref (He.ga K "law")) := (He.glo_ok X G (Hd.ex_ix e 79 (f := .fa (.glo "law"))))
  obtain rfl : He.ga K "law" = fa := Value.ref.inj (Option.some.inj (gL.symm.trans hfa))
  obtain ⟨fd36, F36⟩ := c.def_ 36 (d := dY36)
  refine ⟨fd36, fun s v => (FunD.bindsA (ps := ["_law_script"]) F36 fun _ _ _ _ _ _ us hl => match us, hl with | [_], _ => rfl) s [v] rfl, fun base _ _ => ?_⟩
  have M : Mg K mg := { b_bool := He.free_ok X G (Hd.ex_ix e 0 (f := .fa (.free "bool"))), b_int := He.free_ok X G (Hd.ex_ix e 1 (f := .fa (.free "int"))), b_isinstance := He.free_ok X G (Hd.ex_ix e 2 (f := .fa (.free "isinstance"))), b_len := He.free_ok X G (Hd.ex_ix e 3 (f := .fa (.free "len"))), b_list := He.free_ok X G (Hd.ex_ix e 4 (f := .fa (.free "list"))), b_max := He.free_ok X G (Hd.ex_ix e 5 (f := .fa (.free "max"))), b_range := He.free_ok X G (Hd.ex_ix e 6 (f := .fa (.free "range"))), b_str := He.free_ok X G (Hd.ex_ix e 7 (f := .fa (.free "str"))), b_sum := He.free_ok X G (Hd.ex_ix e 8 (f := .fa (.free "sum"))), b_tuple := He.free_ok X G (Hd.ex_ix e 9 (f := .fa (.free "tuple"))), b_zip := He.free_ok X G (Hd.ex_ix e 10 (f := .fa (.free "zip"))), c_Done := (He.glo_ok X G (Hd.ex_ix e 11 (f := .fa (.glo "Done")))), c_InvalidNumber := (He.glo_ok X G (Hd.ex_ix e 12 (f := .fa (.glo "InvalidNumber")))), c_InvalidPeople := (He.glo_ok X G (Hd.ex_ix e 13 (f := .fa (.glo "InvalidPeople")))), c_InvalidThings := (He.glo_ok X G (Hd.ex_ix e 14 (f := .fa (.glo "InvalidThings")))), c_LEAST_PEOPLE := He.int_ok X G (Hd.ex_ix e 15 (f := .fa (.int "LEAST_PEOPLE" 2))), c_MOST_LED := He.int_ok X G (Hd.ex_ix e 16 (f := .fa (.int "MOST_LED" 1000))), c_MOST_PEOPLE := He.int_ok X G (Hd.ex_ix e 17 (f := .fa (.int "MOST_PEOPLE" 12))), c_POINTS := (He.glo_ok X G (Hd.ex_ix e 18 (f := .fa (.glo "POINTS")))), c_Rule := (He.glo_ok X G (Hd.ex_ix e 19 (f := .fa (.glo "Rule")))) }
  have DCL := He.cls_ok (Hd.ex_ix e 20 (f := .fa (.cls "Dealing")))
  have DC : Dg.DlC K (aD K) := ⟨DCL, He.noat_ok (Hd.ex_ix e 21 (f := .fa (.noat "Dealing" "source"))), He.noat_ok (Hd.ex_ix e 22 (f := .fa (.noat "Dealing" "people"))), He.noat_ok (Hd.ex_ix e 23 (f := .fa (.noat "Dealing" "whole"))), He.noat_ok (Hd.ex_ix e 24 (f := .fa (.noat "Dealing" "states")))⟩
  have RC : RuC K := Hd.ruc_ok (Hd.ex_ix e 25 (f := .scls "Rule")) (Hd.ex_ix e 26 (f := .slot "Rule" "row" 0)) (Hd.ex_ix e 27 (f := .kit "Rule"))
  have RCS := Hd.slot_ok (Hd.ex_ix e 26 (f := .slot "Rule" "row" 0))
  have D0 := c.tab 0 (t := (fun K => aP K, ks_POINTS))
  obtain ⟨nT, T_POINTS⟩ := Dk.ktab_of D0 (by decide)
  have TV_POINTS : TabV K w (aP K) kvs_POINTS := Hd.tabv_ok (Hd.ex_ix e 28 (f := .tabv kvs_POINTS)) (by rw [names_eq]; exact D0) (by decide)
  have EC : ErC K := ⟨He.exm_ok (Hd.ex_ix e 29 (f := .fa (.exm "InvalidNumber" "InvalidNumber" true))), He.exm_ok (Hd.ex_ix e 30 (f := .fa (.exm "Done" "InvalidNumber" false))), He.exm_ok (Hd.ex_ix e 31 (f := .fa (.exm "Done" "Done" true))), He.exm_ok (Hd.ex_ix e 32 (f := .fa (.exm "InvalidPeople" "InvalidPeople" true))), He.exm_ok (Hd.ex_ix e 33 (f := .fa (.exm "InvalidThings" "InvalidPeople" false))), He.exm_ok (Hd.ex_ix e 34 (f := .fa (.exm "InvalidThings" "InvalidThings" true)))⟩
  obtain ⟨fd0, F0⟩ := c.def_ 0 (d := dY0)
  have B0 : Binds K fd0 ["self", "point"] [] := F0.bindsN fun _ _ _ _ _ _ us hl => match us, hl with | [_, _], _ => rfl
  have O0 := ok_InvalidPointU_initU (P := P) (w := w) (mg := mg) (base := base) F0 (Hd.oexc_ok (Hd.ex_ix e 35 (f := .oex "InvalidPoint"))) (He.noat_ok (Hd.ex_ix e 36 (f := .fa (.noat "InvalidPoint" "point"))))
  have XI_InvalidPoint := Hd.oex_ok (Hd.ex_ix e 35 (f := .oex "InvalidPoint")) O0 B0 (He.glo_ok X G (Hd.ex_ix e 37 (f := .fa (.glo "InvalidPoint"))))
  have XF_InvalidPoint : XfC K (He.ga K "InvalidPoint") := Hd.xf_ok (Hd.ex_ix e 38 (f := .xf "InvalidPoint"))
  have NOAT_InvalidPoint_point : PySem.W.findIn K (.ref (He.ga K "InvalidPoint")) "point" = some none := He.noat_ok (Hd.ex_ix e 36 (f := .fa (.noat "InvalidPoint" "point")))
  obtain ⟨fd1, F1⟩ := c.def_ 1 (d := dY1)
  have B1 : Binds K fd1 ["value", "least"] [] := F1.bindsN fun _ _ _ _ _ _ us hl => match us, hl with | [_, _], _ => rfl
  have O1 := ok_is_integer (P := P) (w := w) (base := base) F1 M 
  have C_is_integer : Cal P w K mg base 1 "is_integer" 2 F_is_integer := Hd.cal_ok O1 (fun ds Q R h => law_is_integer ds Q R h) (He.glo_ok X G (Hd.ex_ix e 39 (f := .fa (.glo "is_integer")))) F1.kp B1
  obtain ⟨fd2, F2⟩ := c.def_ 2 (d := dY2)
  have B2 : Binds K fd2 ["value", "least", "most"] [] := F2.bindsN fun _ _ _ _ _ _ us hl => match us, hl with | [_, _, _], _ => rfl
  have O2 := ok_is_within (P := P) (w := w) (base := base) F2 M C_is_integer
  have C_is_within : Cal P w K mg base 2 "is_within" 3 F_is_within := Hd.cal_ok O2 (fun ds Q R h => law_is_within ds Q R h) (He.glo_ok X G (Hd.ex_ix e 40 (f := .fa (.glo "is_within")))) F2.kp B2
  obtain ⟨fd3, F3⟩ := c.def_ 3 (d := dY3)
  have B3 : Binds K fd3 ["value", "some"] [] := F3.bindsN fun _ _ _ _ _ _ us hl => match us, hl with | [_, _], _ => rfl
  have O3 := ok_is_one_of (P := P) (w := w) (base := base) F3 M C_is_integer
  have C_is_one_of : Cal P w K mg base 2 "is_one_of" 2 F_is_one_of := Hd.cal_ok O3 (fun ds Q R h => law_is_one_of ds Q R h) (He.glo_ok X G (Hd.ex_ix e 41 (f := .fa (.glo "is_one_of")))) F3.kp B3
  obtain ⟨fd4, F4⟩ := c.def_ 4 (d := dY4)
  have B4 : Binds K fd4 ["self", "size", "way", "first", "aside", "later"] [] := F4.bindsN fun _ _ _ _ _ _ us hl => match us, hl with | [_, _, _, _, _, _], _ => rfl
  have O4 := ok_Rule_init (P := P) (w := w) (base := base) F4 M C_is_one_of T_POINTS TV_POINTS RC RCS XI_InvalidPoint
  have C_Rule := Hd.mkc_ok (Hd.ex_ix e 42 (f := .fa (.mkr "Rule"))) O4 B4 (He.glo_ok X G (Hd.ex_ix e 19 (f := .fa (.glo "Rule"))))
  obtain ⟨fd5, F5⟩ := c.def_ 5 (d := dY5)
  have B5 : Binds K fd5 ["self"] [] := F5.bindsN fun _ _ _ _ _ _ us hl => match us, hl with | [_], _ => rfl
  have O5 := ok_Rule_size (P := P) (w := w) (base := base) F5 M RC RCS
  have C_Rule_size : PrC P w K mg base 1 (aR K) "size" (F_prop K 0) := Hd.prop_ok (Hd.ex_ix e 43 (f := .prop "Rule" "size")) RC.sc O5 (fun ds Q R h => law_prop K 0 ds Q R h) B5
  obtain ⟨fd6, F6⟩ := c.def_ 6 (d := dY6)
  have B6 : Binds K fd6 ["self"] [] := F6.bindsN fun _ _ _ _ _ _ us hl => match us, hl with | [_], _ => rfl
  have O6 := ok_Rule_way (P := P) (w := w) (base := base) F6 M RC RCS
  have C_Rule_way : PrC P w K mg base 1 (aR K) "way" (F_prop K 1) := Hd.prop_ok (Hd.ex_ix e 44 (f := .prop "Rule" "way")) RC.sc O6 (fun ds Q R h => law_prop K 1 ds Q R h) B6
  obtain ⟨fd7, F7⟩ := c.def_ 7 (d := dY7)
  have B7 : Binds K fd7 ["self"] [] := F7.bindsN fun _ _ _ _ _ _ us hl => match us, hl with | [_], _ => rfl
  have O7 := ok_Rule_first (P := P) (w := w) (base := base) F7 M RC RCS
  have C_Rule_first : PrC P w K mg base 1 (aR K) "first" (F_prop K 2) := Hd.prop_ok (Hd.ex_ix e 45 (f := .prop "Rule" "first")) RC.sc O7 (fun ds Q R h => law_prop K 2 ds Q R h) B7
  obtain ⟨fd8, F8⟩ := c.def_ 8 (d := dY8)
  have B8 : Binds K fd8 ["self"] [] := F8.bindsN fun _ _ _ _ _ _ us hl => match us, hl with | [_], _ => rfl
  have O8 := ok_Rule_aside (P := P) (w := w) (base := base) F8 M RC RCS
  have C_Rule_aside : PrC P w K mg base 1 (aR K) "aside" (F_prop K 3) := Hd.prop_ok (Hd.ex_ix e 46 (f := .prop "Rule" "aside")) RC.sc O8 (fun ds Q R h => law_prop K 3 ds Q R h) B8
  obtain ⟨fd9, F9⟩ := c.def_ 9 (d := dY9)
  have B9 : Binds K fd9 ["self"] [] := F9.bindsN fun _ _ _ _ _ _ us hl => match us, hl with | [_], _ => rfl
  have O9 := ok_Rule_later (P := P) (w := w) (base := base) F9 M RC RCS
  have C_Rule_later : PrC P w K mg base 1 (aR K) "later" (F_prop K 4) := Hd.prop_ok (Hd.ex_ix e 47 (f := .prop "Rule" "later")) RC.sc O9 (fun ds Q R h => law_prop K 4 ds Q R h) B9
  obtain ⟨fd10, F10⟩ := c.def_ 10 (d := dY10)
  have B10 : Binds K fd10 ["self", "other"] [] := F10.bindsN fun _ _ _ _ _ _ us hl => match us, hl with | [_, _], _ => rfl
  have O10 := ok_RuleU_eqU (P := P) (w := w) (base := base) F10 M RC RCS
  have C_eq : EqC P w K mg base 1 (aR K) (F_eq K) := Hd.eq_ok (Hd.ex_ix e 48 (f := .eq "Rule")) O10 (fun ds Q R h => law_eq K ds Q R h) B10
  obtain ⟨fd11, F11⟩ := c.def_ 11 (d := dY11)
  have B11 : Binds K fd11 ["m", "n", "most"] [] := F11.bindsN fun _ _ _ _ _ _ us hl => match us, hl with | [_, _, _], _ => rfl
  have X_InvalidPeople : X0 K mg "InvalidPeople" (He.ga K "InvalidPeople") := Hd.x0_ok (Hd.ex_ix e 49 (f := .fa (.exc "InvalidPeople"))) (He.glo_ok X G (Hd.ex_ix e 13 (f := .fa (.glo "InvalidPeople"))))
  have X_InvalidThings : X0 K mg "InvalidThings" (He.ga K "InvalidThings") := Hd.x0_ok (Hd.ex_ix e 50 (f := .fa (.exc "InvalidThings"))) (He.glo_ok X G (Hd.ex_ix e 14 (f := .fa (.glo "InvalidThings"))))
  have O11 := ok_look_at (P := P) (w := w) (base := base) F11 M C_is_within X_InvalidPeople X_InvalidThings
  have C_look_at : Cal P w K mg base 3 "look_at" 3 (F_look_at K) := Hd.cal_ok O11 (fun ds Q R h => law_look_at K ds Q R h) (He.glo_ok X G (Hd.ex_ix e 51 (f := .fa (.glo "look_at")))) F11.kp B11
  obtain ⟨fd12, F12⟩ := c.def_ 12 (d := dY12)
  have B12 : Binds K fd12 ["rule", "m", "turn"] [] := F12.bindsN fun _ _ _ _ _ _ us hl => match us, hl with | [_, _, _], _ => rfl
  have O12 := ok_person_at (P := P) (w := w) (base := base) F12 M RC RCS
  have C_person_at : Cal P w K mg base 1 "person_at" 3 (F_person_at K) := Hd.cal_ok O12 (fun ds Q R h => law_person_at K ds Q R h) (He.glo_ok X G (Hd.ex_ix e 52 (f := .fa (.glo "person_at")))) F12.kp B12
  obtain ⟨fd13, F13⟩ := c.def_ 13 (d := dY13)
  have B13 : Binds K fd13 ["rule", "n"] [] := F13.bindsN fun _ _ _ _ _ _ us hl => match us, hl with | [_, _], _ => rfl
  have O13 := ok_counts_of (P := P) (w := w) (base := base) F13 M RC RCS
  have C_counts_of : Cal P w K mg base 1 "counts_of" 2 (F_counts_of K) := Hd.cal_ok O13 (fun ds Q R h => law_counts_of K ds Q R h) (He.glo_ok X G (Hd.ex_ix e 53 (f := .fa (.glo "counts_of")))) F13.kp B13
  obtain ⟨fd14, F14⟩ := c.def_ 14 (d := dY14)
  have B14 : Binds K fd14 ["rule", "n", "spot"] [] := F14.bindsN fun _ _ _ _ _ _ us hl => match us, hl with | [_, _, _], _ => rfl
  have O14 := ok_thing_at (P := P) (w := w) (base := base) F14 M C_counts_of RC RCS
  have C_thing_at : Cal P w K mg base 2 "thing_at" 3 (F_thing_at K) := Hd.cal_ok O14 (fun ds Q R h => law_thing_at K ds Q R h) (He.glo_ok X G (Hd.ex_ix e 54 (f := .fa (.glo "thing_at")))) F14.kp B14
  obtain ⟨fd15, F15⟩ := c.def_ 15 (d := dY15)
  have B15 : Binds K fd15 ["rule", "m", "n", "spot"] [] := F15.bindsN fun _ _ _ _ _ _ us hl => match us, hl with | [_, _, _, _], _ => rfl
  have O15 := ok_person_of (P := P) (w := w) (base := base) F15 M C_counts_of C_person_at RC RCS
  have C_person_of : Cal P w K mg base 2 "person_of" 4 (F_person_of K) := Hd.cal_ok O15 (fun ds Q R h => law_person_of K ds Q R h) (He.glo_ok X G (Hd.ex_ix e 55 (f := .fa (.glo "person_of")))) F15.kp B15
  obtain ⟨fd16, F16⟩ := c.def_ 16 (d := dY16)
  have B16 : Binds K fd16 ["self", "rule", "m", "n"] [] := F16.bindsN fun _ _ _ _ _ _ us hl => match us, hl with | [_, _, _, _], _ => rfl
  have O16 := ok_DealingU_initU (P := P) (w := w) (base := base) F16 M C_look_at DC
  have C_Dealing : Dg.MkD P w K mg base 4 "Dealing" (aD K) (F_Dealing K) := Dg.mkd_ok (Hd.ex_ix e 56 (f := .fa (.mkr "Dealing"))) O16 B16 (He.glo_ok X G (Hd.ex_ix e 57 (f := .fa (.glo "Dealing"))))
  obtain ⟨fd17, F17⟩ := c.def_ 17 (d := dY17)
  have B17 : Binds K fd17 ["self"] [] := F17.bindsN fun _ _ _ _ _ _ us hl => match us, hl with | [_], _ => rfl
  have O17 := ok_Dealing_lots (P := P) (w := w) (base := base) F17 M DC
  have C_Dealing_lots : Dg.PrM P w K mg base 1 (aD K) "lots" (FM_Dealing_lots K) := Dg.prm_ok (Hd.ex_ix e 58 (f := .prop "Dealing" "lots")) DCL O17 (fun g ds Q R h => law_Dealing_lots K g ds Q R h) B17
  obtain ⟨fd18, F18⟩ := c.def_ 18 (d := dY18)
  have B18 : Binds K fd18 ["self"] [] := F18.bindsN fun _ _ _ _ _ _ us hl => match us, hl with | [_], _ => rfl
  have O18 := ok_Dealing_left (P := P) (w := w) (base := base) F18 M DC
  have C_Dealing_left : Dg.PrM P w K mg base 1 (aD K) "left" (FM_Dealing_left K) := Dg.prm_ok (Hd.ex_ix e 59 (f := .prop "Dealing" "left")) DCL O18 (fun g ds Q R h => law_Dealing_left K g ds Q R h) B18
  obtain ⟨fd19, F19⟩ := c.def_ 19 (d := dY19)
  have B19 : Binds K fd19 ["dealing"] [] := F19.bindsN fun _ _ _ _ _ _ us hl => match us, hl with | [_], _ => rfl
  have O19 := ok_next_of (P := P) (w := w) (base := base) F19 M C_thing_at C_person_of DC
  have C_next_of : Dg.CalM P w K mg base 3 "next_of" 0 (FM_next_of K) := Dg.calm_ok O19 (fun g ds Q R h => law_next_of K g ds Q R h) (He.glo_ok X G (Hd.ex_ix e 60 (f := .fa (.glo "next_of")))) F19.kp B19
  obtain ⟨fd20, F20⟩ := c.def_ 20 (d := dY20)
  have B20 : Binds K fd20 ["self"] [] := F20.bindsN fun _ _ _ _ _ _ us hl => match us, hl with | [_], _ => rfl
  have O20 := ok_Dealing_coming (P := P) (w := w) (base := base) F20 M C_next_of
  have C_Dealing_coming : Dg.PrM P w K mg base 4 (aD K) "coming" (FM_Dealing_coming K) := Dg.prm_ok (Hd.ex_ix e 61 (f := .prop "Dealing" "coming")) DCL O20 (fun g ds Q R h => law_Dealing_coming K g ds Q R h) B20
  obtain ⟨fd21, F21⟩ := c.def_ 21 (d := dY21)
  have B21 : Binds K fd21 ["self"] [] := F21.bindsN fun _ _ _ _ _ _ us hl => match us, hl with | [_], _ => rfl
  have O21 := ok_DealingU_lenU (P := P) (w := w) (base := base) F21 M DC
  have C_DealingU_lenU : Dg.MeM P w K mg base 1 (aD K) "__len__" 0 (FM_DealingU_lenU K) := Dg.mem_ok (Hd.ex_ix e 62 (f := .fa (.meth "Dealing" "__len__"))) DCL O21 (fun g ds Q R h => law_DealingU_lenU K g ds Q R h) B21
  obtain ⟨fd22, F22⟩ := c.def_ 22 (d := dY22)
  have B22 : Binds K fd22 ["self", "many"] [] := F22.bindsN fun _ _ _ _ _ _ us hl => match us, hl with | [_, _], _ => rfl
  have X_Done : X0 K mg "Done" (He.ga K "Done") := Hd.x0_ok (Hd.ex_ix e 63 (f := .fa (.exc "Done"))) (He.glo_ok X G (Hd.ex_ix e 11 (f := .fa (.glo "Done"))))
  have X_InvalidNumber : X0 K mg "InvalidNumber" (He.ga K "InvalidNumber") := Hd.x0_ok (Hd.ex_ix e 64 (f := .fa (.exc "InvalidNumber"))) (He.glo_ok X G (Hd.ex_ix e 12 (f := .fa (.glo "InvalidNumber"))))
  have O22 := ok_Dealing_give (P := P) (w := w) (base := base) F22 M C_is_integer C_person_of DC X_Done X_InvalidNumber
  have C_Dealing_give : Dg.MeM P w K mg base 3 (aD K) "give" 1 (FM_Dealing_give K) := Dg.mem_ok (Hd.ex_ix e 65 (f := .fa (.meth "Dealing" "give"))) DCL O22 (fun g ds Q R h => law_Dealing_give K g ds Q R h) B22
  obtain ⟨fd23, F23⟩ := c.def_ 23 (d := dY23)
  have B23 : Binds K fd23 ["self"] [] := F23.bindsN fun _ _ _ _ _ _ us hl => match us, hl with | [_], _ => rfl
  have O23 := ok_Dealing_undo (P := P) (w := w) (base := base) F23 M DC
  have C_Dealing_undo : Dg.MeM P w K mg base 1 (aD K) "undo" 0 (FM_Dealing_undo K) := Dg.mem_ok (Hd.ex_ix e 66 (f := .fa (.meth "Dealing" "undo"))) DCL O23 (fun g ds Q R h => law_Dealing_undo K g ds Q R h) B23
  obtain ⟨fd24, F24⟩ := c.def_ 24 (d := dY24)
  have B24 : Binds K fd24 ["self"] [] := F24.bindsN fun _ _ _ _ _ _ us hl => match us, hl with | [_], _ => rfl
  have O24 := ok_Dealing_copy (P := P) (w := w) (base := base) F24 M C_Dealing DC
  have C_Dealing_copy : Dg.CpM P w K mg base 6 (aD K) "copy" (G_copy K) := Dg.cp_ok (Hd.ex_ix e 67 (f := .fa (.meth "Dealing" "copy"))) DCL O24 B24
  obtain ⟨fd25, F25⟩ := c.def_ 25 (d := dY25)
  have B25 : Binds K fd25 ["_law_script", "_law_seed"] [] := F25.bindsN fun _ _ _ _ _ _ us hl => match us, hl with | [_, _], _ => rfl
  have O25 := ok_l_mix (P := P) (w := w) (base := base) F25 M
  obtain ⟨fd26, F26⟩ := c.def_ 26 (d := dY26)
  have B26 : Binds K fd26 ["_law_h", "_law_bound"] [] := F26.bindsN fun _ _ _ _ _ _ us hl => match us, hl with | [_, _], _ => rfl
  have O26 := ok_l_next (P := P) (w := w) (base := base) F26 M
  have C_l_next : Cal P w K mg base 1 "_law_next" 2 Fnext := Hd.cal_ok O26 (fun ds Q R h => h) (He.glo_ok X G (Hd.ex_ix e 68 (f := .fa (.glo "_law_next")))) F26.kp B26
  obtain ⟨fd27, F27⟩ := c.def_ 27 (d := dY27)
  have B27 : Binds K fd27 ["_law_h"] [] := F27.bindsN fun _ _ _ _ _ _ us hl => match us, hl with | [_], _ => rfl
  have O27 := ok_l_rule (P := P) (w := w) (base := base) F27 M C_l_next
  have C_l_rule : Dh.CalL P w K mg base 2 "_law_rule" 1 F_l_rule := Hd.calL_ok O27 (fun ds Q R h => law_l_rule ds Q R h) (He.glo_ok X G (Hd.ex_ix e 69 (f := .fa (.glo "_law_rule")))) F27.kp B27
  obtain ⟨fd28, F28⟩ := c.def_ 28 (d := dY28)
  have B28 : Binds K fd28 ["_law_t"] [] := F28.bindsN fun _ _ _ _ _ _ us hl => match us, hl with | [_], _ => rfl
  have O28 := ok_l_built (P := P) (w := w) (base := base) F28 M C_Rule
  have C_l_built : Cal P w K mg base 5 "_law_built" 1 (F_l_built K) := Hd.cal_ok O28 (fun ds Q R h => law_l_built K ds Q R h) (He.glo_ok X G (Hd.ex_ix e 70 (f := .fa (.glo "_law_built")))) F28.kp B28
  obtain ⟨fd29, F29⟩ := c.def_ 29 (d := dY29)
  have B29 : Binds K fd29 ["_law_number", "_law_by"] [] := F29.bindsN fun _ _ _ _ _ _ us hl => match us, hl with | [_, _], _ => rfl
  have O29 := ok_l_rest (P := P) (w := w) (base := base) F29 M 
  have C_l_rest : Cal P w K mg base 1 "_law_rest" 2 (F_l_rest K) := Hd.cal_ok O29 (fun ds Q R h => law_l_rest K ds Q R h) (He.glo_ok X G (Hd.ex_ix e 71 (f := .fa (.glo "_law_rest")))) F29.kp B29
  obtain ⟨fd30, F30⟩ := c.def_ 30 (d := dY30)
  have B30 : Binds K fd30 ["_law_t", "_law_m", "_law_many"] [] := F30.bindsN fun _ _ _ _ _ _ us hl => match us, hl with | [_, _, _], _ => rfl
  have O30 := ok_l_turns (P := P) (w := w) (base := base) F30 M C_l_rest
  have C_l_turns : Cal P w K mg base 2 "_law_turns" 3 (F_l_turns K) := Hd.cal_ok O30 (fun ds Q R h => law_l_turns K ds Q R h) (He.glo_ok X G (Hd.ex_ix e 72 (f := .fa (.glo "_law_turns")))) F30.kp B30
  obtain ⟨fd31, F31⟩ := c.def_ 31 (d := dY31)
  have B31 : Binds K fd31 ["_law_t", "_law_m", "_law_n"] [] := F31.bindsN fun _ _ _ _ _ _ us hl => match us, hl with | [_, _, _], _ => rfl
  have O31 := ok_l_dealt (P := P) (w := w) (base := base) F31 M C_l_rest C_l_turns
  have C_l_dealt : Cal P w K mg base 3 "_law_dealt" 3 (F_l_dealt K) := Hd.cal_ok O31 (fun ds Q R h => law_l_dealt K ds Q R h) (He.glo_ok X G (Hd.ex_ix e 73 (f := .fa (.glo "_law_dealt")))) F31.kp B31
  obtain ⟨fd32, F32⟩ := c.def_ 32 (d := dY32)
  have B32 : Binds K fd32 ["_law_t", "_law_m", "_law_n"] [] := F32.bindsN fun _ _ _ _ _ _ us hl => match us, hl with | [_, _, _], _ => rfl
  have O32 := ok_l_lots (P := P) (w := w) (base := base) F32 M C_l_dealt
  have C_l_lots : Cal P w K mg base 4 "_law_lots" 3 (F_l_lots K) := Hd.cal_ok O32 (fun ds Q R h => law_l_lots K ds Q R h) (He.glo_ok X G (Hd.ex_ix e 74 (f := .fa (.glo "_law_lots")))) F32.kp B32
  obtain ⟨fd33, F33⟩ := c.def_ 33 (d := dY33)
  have B33 : Binds K fd33 ["_law_dealing", "_law_many"] [] := F33.bindsN fun _ _ _ _ _ _ us hl => match us, hl with | [_, _], _ => rfl
  have O33 := ok_l_done (P := P) (w := w) (base := base) F33 M C_Dealing_give
  have C_l_done : Dg.CalM P w K mg base 4 "_law_done" 1 (FM_l_done K) := Dg.calm_ok O33 (fun g ds Q R h => law_l_done K g ds Q R ⟨EC, h⟩) (He.glo_ok X G (Hd.ex_ix e 75 (f := .fa (.glo "_law_done")))) F33.kp B33
  obtain ⟨fd34, F34⟩ := c.def_ 34 (d := dY34)
  have B34 : Binds K fd34 ["_law_rule_here", "_law_m", "_law_n"] [] := F34.bindsN fun _ _ _ _ _ _ us hl => match us, hl with | [_, _, _], _ => rfl
  have O34 := ok_l_opened (P := P) (w := w) (base := base) F34 M C_Dealing
  have C_l_opened : Cal P w K mg base 6 "_law_opened" 3 (F_l_opened K) := Hd.cal_ok O34 (fun ds Q R h => law_l_opened K ds Q R ⟨EC, h⟩) (He.glo_ok X G (Hd.ex_ix e 76 (f := .fa (.glo "_law_opened")))) F34.kp B34
  obtain ⟨fd35, F35⟩ := c.def_ 35 (d := dY35)
  have B35 : Binds K fd35 ["_law_dealing", "_law_m", "_law_dealt_here", "_law_many"] [] := F35.bindsN fun _ _ _ _ _ _ us hl => match us, hl with | [_, _, _, _], _ => rfl
  have O35 := ok_l_stands (P := P) (w := w) (base := base) F35 M C_Dealing_lots C_Dealing_left C_Dealing_coming
  have C_l_stands : Dg.CalM P w K mg base 6 "_law_stands" 3 (FM_l_stands K) := Dg.calm_ok O35 (fun g ds Q R h => law_l_stands K g ds Q R h) (He.glo_ok X G (Hd.ex_ix e 77 (f := .fa (.glo "_law_stands")))) F35.kp B35
  have O36 := ok_law (P := P) (w := w) (base := base) F36 M  O25 (He.glo_ok X G (Hd.ex_ix e 78 (f := .fa (.glo "_law_mix")))) F25.kp B25 C_l_rule C_l_next C_l_dealt C_l_built C_Dealing C_Dealing_undo C_Dealing_copy C_l_done C_l_stands C_DealingU_lenU C_l_opened
  exact O36
end
end K10
open PySem PySem.W PySem.Calls PyProof.Rows
theorem PySem.Challenge.cw_dealtround_k10_whole_dealings_holds : PySem.Challenge.rw_dealtround_k10_whole_dealings.Holds := by
  w_on; o_law
  refine HandSHeadRun.head_any (r := OpenLaw.row PySem.Challenge.rw_dealtround_k10_whole_dealings) (q := view (OpenLaw.row PySem.Challenge.rw_dealtround_k10_whole_dealings).prog [43]) (H := K10.hk) (ob := K10.ob) (M := 20000) (loose := K10.namesL) (d := HandSHeadRun.topDef (OpenLaw.row PySem.Challenge.rw_dealtround_k10_whole_dealings).prog 43) (kwd := []) K10.ob_eq
    (by kernel_rfl) (fun s => by kernel_rfl) K10.run (by kernel_rfl) (by kernel_rfl) (by kernel_rfl) (by rfl) (by first | assumption | decide +kernel) (by decide +kernel) ⟨rfl, rfl, rfl, rfl, rfl, by decide +kernel⟩ ?hw ?hc
  case hw => w_witness2
  case hc =>
    refine Dh.walk_ofY (l := PySem.Challenge.rw_dealtround_k10_whole_dealings) (n := 63) (k := 7) (x := "_law_script") (CX := fun w => L2.CX (PySem.Challenge.rw_dealtround_k10_whole_dealings).prog w) rfl (by decide) (by kernel_rfl) ⟨rfl, by decide, by decide⟩ ?F (fun _ _ _ _ _ ⟨_, _, _, _, _, _, _, _, _, _, _, _, z⟩ => z.elim)
    intro w mg fa h Y G hmg0
    obtain ⟨K, KX, c⟩ := Y
    have hmg : mg ("law" : PySem.Str) = some (.ref fa) := by
      have e : (HandSHeadRun.topDef (OpenLaw.row PySem.Challenge.rw_dealtround_k10_whole_dealings).prog 43).name = ("law" : PySem.Str) := by kernel_rfl
      rw [← e]
      exact hmg0
    obtain ⟨fd, hb, hF⟩ := K10.facts (P := (PySem.Challenge.rw_dealtround_k10_whole_dealings).prog) (w := w) KX G hmg c
    exact ⟨K, fd, Dv.spLaw K, KX, hb, fun H a ns hl hbits _ hS => ⟨a, ns, rfl, hS, hl, fun x hx => Hd.bits_lt (hbits x hx), fun _ => rfl⟩, hF⟩
