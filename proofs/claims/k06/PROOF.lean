import PyProof.Rows.All
import Wide.All
import OpenK.AllK
import Wide.FinOn
import KE.KStateDown
import HandS.Head0
import HandS.Head1
import HandS.Head2
import HandS.ForMost
import HandS.ForExc
import HandS.TryMany
import HandS.Slots
import HandS.SlotsOwn
import HandS.IsInst
import HandS.Star
import HandS.TupAny
import HandS.TupMul
import HandS.Style
import HandS.Conv
import HandS.Wide
import HandS.SortInts
import HandS.RaiseMore
import HandS.FStr
import HandS.CallLocal
import HandS.ExcOwn
import HandS.ExcInit
import HandS.ExcField
import HandS.ExcIs
import HandS.Zip
import HandS.HeadHook3
import KE.KDictIter
import PyProof.EnumMake
import HandS.NoneIn
import HandS.Text
import HandS.Small
import HandS.HeadEnd
import HandS.HeadHook1
import HandS.HeadHook2
import HandS.HeadHook4
import HandS.EndBits
import HandS.Defaults
import HandS.GenOver
import PyProof.GenComp
import PyProof.GenRules
import HandS.GenCall
import HandS.GenList
import HandS.List
import PySem.Challenge.RW_dealtround_k06_whole_needless_points
set_option Elab.async false
set_option linter.all false
set_option maxRecDepth 100000
set_option maxHeartbeats 1000000
/-! The tree layer: values as trees, readings as predicate transformers over trees. -/
namespace Dl
open PySem PySem.Spec PyProof.Rows L2

/-- a value as a tree -/
inductive D where
  | non
  | bl (b : Bool)
  | int (i : Int)
  | str (x : Str)
  | tup (ds : List D)
  | lst (ds : List D)
  | obj (C : Addr) (ds : List D)
  | raw (v : V)
  | vol

/-- a raised own exception: its class, its fields (none: a class without own __init__) -/
structure Exc where
  cls : Addr
  fs : Option (List (Str × D))

mutual
/-- the value stands for the tree, in the heap G -/
inductive Rep (K : PySem.W.Frag) (vl : Option (Addr × Addr)) (G : Hp) : V → D → Prop
  | non : Rep K vl G .non .non
  | bl (b : Bool) : Rep K vl G (.bl b) (.bl b)
  | int (i : Int) : Rep K vl G (.int i) (.int i)
  | str (x : Str) : Rep K vl G (.str x) (.str x)
  | tup (a : Addr) (vs : List V) (ds : List D) (h : SqT K G a vs) (r : Reps K vl G vs ds) : Rep K vl G (.ref a) (.tup ds)
  | lst (a : Addr) (vs : List V) (ds : List D) (h : G a = some (.lst vs)) (r : Reps K vl G vs ds) : Rep K vl G (.ref a) (.lst ds)
  | obj (a C dx : Addr) (vs : List V) (ds : List D) (h : SlX.Slt G a C dx (vs.map some)) (r : Reps K vl G vs ds) : Rep K vl G (.ref a) (.obj C ds)
  | raw (v : V) : Rep K vl G v (.raw v)
  | vol (h c : Addr) (e : vl = some (h, c)) : Rep K vl G (.ref h) .vol
inductive Reps (K : PySem.W.Frag) (vl : Option (Addr × Addr)) (G : Hp) : List V → List D → Prop
  | nil : Reps K vl G [] []
  | cons (v : V) (d : D) (vs : List V) (ds : List D) (h : Rep K vl G v d) (r : Reps K vl G vs ds) : Reps K vl G (v :: vs) (d :: ds)
end

/-- all that G tracks, G' tracks the same -/
def Le (G G' : Hp) : Prop := ∀ a o, G a = some o → G' a = some o
theorem Le.refl (G : Hp) : Le G G := fun _ _ h => h
theorem Le.trans {G G1 G2 : Hp} (a : Le G G1) (b : Le G1 G2) : Le G G2 := fun x o h => b x o (a x o h)
theorem Le.rd {G G' : Hp} {a : Addr} {u : HO} (e : Le G G') (h : Rd G a u) : Rd G' a u := by
  rcases h with h | ⟨o, h⟩
  · exact Or.inl (e a _ h)
  · exact Or.inr ⟨o, e a _ h⟩
theorem Le.sql {K : PySem.W.Frag} {G G' : Hp} {a : Addr} {xs : List V} (e : Le G G') (h : SqL K G a xs) : SqL K G' a xs := by
  rcases h with h | h
  · exact Or.inl (e.rd h)
  · exact Or.inr h
theorem Le.sqt {K : PySem.W.Frag} {G G' : Hp} {a : Addr} {xs : List V} (e : Le G G') (h : SqT K G a xs) : SqT K G' a xs := by
  rcases h with h | h
  · exact Or.inl (e.rd h)
  · exact Or.inr h
theorem Le.slt {G G' : Hp} {a C dx : Addr} {vs : List (Option V)} (e : Le G G') (h : SlX.Slt G a C dx vs) : SlX.Slt G' a C dx vs := by
  rcases h with ⟨h1, h2⟩ | ⟨h1, h2⟩
  · exact Or.inl ⟨e _ _ h1, h2⟩
  · exact Or.inr ⟨e _ _ h1, e _ _ h2⟩

section
variable {K : PySem.W.Frag} {vl : Option (Addr × Addr)} {G G' : Hp}
mutual
theorem Rep.mono (e : Le G G') : ∀ {v : V} {d : D}, Rep K vl G v d → Rep K vl G' v d
  | _, _, .non => .non
  | _, _, .bl b => .bl b
  | _, _, .int i => .int i
  | _, _, .str x => .str x
  | _, _, .tup a vs ds h r => .tup a vs ds (e.sqt h) (Reps.mono e r)
  | _, _, .lst a vs ds h r => .lst a vs ds (e _ _ h) (Reps.mono e r)
  | _, _, .obj a C dx vs ds h r => .obj a C dx vs ds (e.slt h) (Reps.mono e r)
  | _, _, .raw v => .raw v
  | _, _, .vol h c q => .vol h c q
theorem Reps.mono (e : Le G G') : ∀ {vs : List V} {ds : List D}, Reps K vl G vs ds → Reps K vl G' vs ds
  | _, _, .nil => .nil
  | _, _, .cons v d vs ds h r => .cons v d vs ds (Rep.mono e h) (Reps.mono e r)
end
theorem Reps.length : ∀ {vs : List V} {ds : List D}, Reps K vl G vs ds → vs.length = ds.length
  | _, _, .nil => rfl
  | _, _, .cons _ _ _ _ _ r => congrArg (· + 1) (Reps.length r)
theorem Reps.get : ∀ {vs : List V} {ds : List D} {i : Nat} {d : D}, Reps K vl G vs ds → ds[i]? = some d → ∃ v, vs[i]? = some v ∧ Rep K vl G v d
  | _, _, _, _, .nil, e => by simp at e
  | _, _, 0, _, .cons v _ _ _ h _, e => by simp at e; subst e; exact ⟨v, rfl, h⟩
  | _, _, i + 1, _, .cons _ _ _ _ _ r, e => by
    obtain ⟨v, h1, h2⟩ := Reps.get (i := i) r (by simpa using e)
    exact ⟨v, by simpa using h1, h2⟩
theorem Reps.getV : ∀ {vs : List V} {ds : List D} {i : Nat} {v : V}, Reps K vl G vs ds → vs[i]? = some v → ∃ d, ds[i]? = some d ∧ Rep K vl G v d
  | _, _, _, _, .nil, e => by simp at e
  | _, _, 0, _, .cons _ d _ _ h _, e => by simp at e; subst e; exact ⟨d, rfl, h⟩
  | _, _, i + 1, _, .cons _ _ _ _ _ r, e => by
    obtain ⟨d, h1, h2⟩ := Reps.getV (i := i) r (by simpa using e)
    exact ⟨d, by simpa using h1, h2⟩
theorem Reps.append : ∀ {vs ws : List V} {ds es : List D}, Reps K vl G vs ds → Reps K vl G ws es → Reps K vl G (vs ++ ws) (ds ++ es)
  | _, _, _, _, .nil, s => s
  | _, _, _, _, .cons v d vs ds h r, s => .cons v d _ _ h (Reps.append r s)
theorem Reps.take : ∀ {vs : List V} {ds : List D} (n : Nat), Reps K vl G vs ds → Reps K vl G (vs.take n) (ds.take n)
  | _, _, 0, _ => .nil
  | _, _, _ + 1, .nil => .nil
  | _, _, n + 1, .cons v d _ _ h r => .cons v d _ _ h (Reps.take n r)
theorem Reps.drop : ∀ {vs : List V} {ds : List D} (n : Nat), Reps K vl G vs ds → Reps K vl G (vs.drop n) (ds.drop n)
  | _, _, 0, r => r
  | _, _, _ + 1, .nil => .nil
  | _, _, n + 1, .cons _ _ _ _ _ r => Reps.drop n r
theorem Reps.reverse : ∀ {vs : List V} {ds : List D}, Reps K vl G vs ds → Reps K vl G vs.reverse ds.reverse
  | _, _, .nil => .nil
  | _, _, .cons v d vs ds h r => by
    rw [List.reverse_cons, List.reverse_cons]
    exact Reps.append (Reps.reverse r) (.cons v d _ _ h .nil)
theorem Reps.set : ∀ {vs : List V} {ds : List D} {v : V} {d : D} (i : Nat), Reps K vl G vs ds → Rep K vl G v d → Reps K vl G (vs.set i v) (ds.set i d)
  | _, _, _, _, _, .nil, _ => .nil
  | _, _, _, _, 0, .cons _ _ _ _ _ r, h => .cons _ _ _ _ h r
  | _, _, _, _, i + 1, .cons v d _ _ h r, q => .cons v d _ _ h (Reps.set i r q)
theorem Reps.one {v : V} {d : D} (h : Rep K vl G v d) : Reps K vl G [v] [d] := .cons v d _ _ h .nil
theorem Reps.ints : ∀ (ns : List Int), Reps K vl G (ns.map V.int) (ns.map D.int)
  | [] => .nil
  | n :: r => .cons _ _ _ _ (.int n) (Reps.ints r)
theorem Reps.ofInts : ∀ {vs : List V} {ns : List Int}, Reps K vl G vs (ns.map D.int) → vs = ns.map V.int
  | _, [], .nil => rfl
  | _, n :: r, .cons _ _ _ _ (.int _) q => by rw [Reps.ofInts q]; rfl
end

/-- what is kept apart: lists that the def owns (they change), the draws' state -/
structure Zn where
  own : List (Addr × List V)
  vol : Option (Addr × Addr)
def Zn.vs (Z : Zn) : List Addr := match Z.vol with
  | none => []
  | some (h, c) => [h, c]
def Zn.msk (Z : Zn) : List Addr := Z.own.map (·.1) ++ Z.vs
def mask (Z : Zn) (H : Hp) : Hp := fun a => if a ∈ Z.msk then none else H a
/-- the draws' state -/
def Vol (H : Hp) (h c : Addr) : Prop := ∃ (s i : Int) (cs : List Int), H h = some (.lst [.int s, .ref c, .int i, .int 14]) ∧ H c = some (.lst (cs.map V.int)) ∧ cs.length ≤ 63 ∧ ∀ x ∈ cs, x.natAbs < 2 ^ 1048576
structure Good (Z : Zn) (H : Hp) : Prop where
  own : ∀ a vs, (a, vs) ∈ Z.own → H a = some (.lst vs)
  vol : ∀ h c, Z.vol = some (h, c) → Vol H h c
  nd : Z.msk.Nodup

theorem mask_le (Z : Zn) (H : Hp) : Le (mask Z H) H := fun a o h => by
  unfold mask at h
  split at h
  · cases h
  · exact h
theorem mask_of {Z : Zn} {H : Hp} {a : Addr} (h : a ∉ Z.msk) : mask Z H a = H a := if_neg h
theorem mask_in {Z : Zn} {H : Hp} {a : Addr} (h : a ∈ Z.msk) : mask Z H a = none := if_pos h
/-- what is kept apart is there -/
theorem Good.there {Z : Zn} {H : Hp} (g : Good Z H) {a : Addr} (h : a ∈ Z.msk) : ∃ o, H a = some o := by
  rcases List.mem_append.mp h with h | h
  · obtain ⟨p, hp, rfl⟩ := List.mem_map.mp h
    exact ⟨_, g.own p.1 p.2 hp⟩
  · unfold Zn.vs at h
    cases e : Z.vol with
    | none => rw [e] at h; cases h
    | some p =>
      obtain ⟨x, c⟩ := p
      rw [e] at h
      obtain ⟨s, i, cs, h1, h2, _⟩ := g.vol x c e
      rcases List.mem_cons.mp h with q | q
      · exact ⟨_, by rw [q]; exact h1⟩
      · have q' : a = c := by simpa using q
        exact ⟨_, by rw [q']; exact h2⟩
/-- fresh to the whole is fresh to what is apart -/
theorem Good.fresh {Z : Zn} {H : Hp} (g : Good Z H) {p : Addr} (h : H p = none) : p ∉ Z.msk := fun hm => by
  obtain ⟨o, e⟩ := g.there hm
  rw [h] at e
  cases e

/-- the state goes on -/
structure Step (Z : Zn) (H H' : Hp) : Prop where
  le : Le (mask Z H) (mask Z H')
  good : Good Z H'
theorem Step.refl {Z : Zn} {H : Hp} (g : Good Z H) : Step Z H H := ⟨Le.refl _, g⟩
theorem Step.trans {Z : Zn} {H H1 H2 : Hp} (a : Step Z H H1) (b : Step Z H1 H2) : Step Z H H2 := ⟨a.le.trans b.le, b.good⟩
/-- a new object -/
theorem Step.new {Z : Zn} {H : Hp} (g : Good Z H) {p : Addr} (o : HO) (h : H p = none) : Step Z H (upd H p o) := by
  have hp := g.fresh h
  refine ⟨fun a u e => ?_, ⟨fun a vs q => ?_, fun x c q => ?_, g.nd⟩⟩
  · have e2 := mask_le Z H a u e
    have hm : a ∉ Z.msk := fun hm => by rw [mask_in hm] at e; cases e
    rw [mask_of hm, upd_ne (ne_of_none e2 h)]
    exact e2
  · have e := g.own a vs q
    rw [upd_ne (ne_of_none e h)]
    exact e
  · obtain ⟨s, i, cs, h1, h2, h3⟩ := g.vol x c q
    exact ⟨s, i, cs, by rw [upd_ne (ne_of_none h1 h)]; exact h1, by rw [upd_ne (ne_of_none h2 h)]; exact h2, h3⟩
theorem mask_new {Z : Zn} {H : Hp} (g : Good Z H) {p : Addr} {o : HO} (h : H p = none) : mask Z (upd H p o) p = some o := by
  rw [mask_of (g.fresh h), upd_same]

abbrev RepZ (K : PySem.W.Frag) (Z : Zn) (H : Hp) : V → D → Prop := Rep K Z.vol (mask Z H)
abbrev RepsZ (K : PySem.W.Frag) (Z : Zn) (H : Hp) : List V → List D → Prop := Reps K Z.vol (mask Z H)
theorem RepZ.step {K : PySem.W.Frag} {Z : Zn} {H H' : Hp} {v : V} {d : D} (r : RepZ K Z H v d) (s : Step Z H H') : RepZ K Z H' v d := Rep.mono s.le r
theorem RepsZ.step {K : PySem.W.Frag} {Z : Zn} {H H' : Hp} {v : List V} {d : List D} (r : RepsZ K Z H v d) (s : Step Z H H') : RepsZ K Z H' v d := Reps.mono s.le r
theorem Step.sql {K : PySem.W.Frag} {Z : Zn} {H H' : Hp} {a : Addr} {xs : List V} (s : Step Z H H') (h : SqL K (mask Z H) a xs) : SqL K (mask Z H') a xs := s.le.sql h
theorem unm_l {K : PySem.W.Frag} {Z : Zn} {H : Hp} {a : Addr} {xs : List V} (h : SqL K (mask Z H) a xs) : SqL K H a xs := (mask_le Z H).sql h
theorem unm_t {K : PySem.W.Frag} {Z : Zn} {H : Hp} {a : Addr} {xs : List V} (h : SqT K (mask Z H) a xs) : SqT K H a xs := (mask_le Z H).sqt h
theorem new_tup {K : PySem.W.Frag} {Z : Zn} {H : Hp} (g : Good Z H) {p : Addr} {vs : List V} {ds : List D} (h : H p = none) (r : RepsZ K Z H vs ds) : RepZ K Z (upd H p (.tup vs)) (.ref p) (.tup ds) :=
  .tup p vs ds (SqT.of (mask_new g h)) (r.step (Step.new g _ h))
theorem new_lst {K : PySem.W.Frag} {Z : Zn} {H : Hp} (g : Good Z H) {p : Addr} {vs : List V} {ds : List D} (h : H p = none) (r : RepsZ K Z H vs ds) : RepZ K Z (upd H p (.lst vs)) (.ref p) (.lst ds) :=
  .lst p vs ds (mask_new g h) (r.step (Step.new g _ h))

/-- an exception stands for its data -/
def RepX (K : PySem.W.Frag) (Z : Zn) (H : Hp) (cls : Value) (d : Option Addr) (x : Exc) : Prop :=
  cls = .ref x.cls ∧ match x.fs with
    | none => d = none
    | some l => ∃ dd vs, d = some dd ∧ mask Z H dd = some (.xd vs) ∧ vs.map (·.1) = l.map (·.1) ∧ RepsZ K Z H (vs.map (·.2)) (l.map (·.2))

theorem RepX.step {K : PySem.W.Frag} {Z : Zn} {H H' : Hp} {cls : Value} {d : Option Addr} {x : Exc} (h : RepX K Z H cls d x) (s : Step Z H H') : RepX K Z H' cls d x := by
  obtain ⟨e, h⟩ := h
  refine ⟨e, ?_⟩
  cases q : x.fs with
  | none => rw [q] at h; exact h
  | some l =>
    rw [q] at h
    obtain ⟨dd, vs, h1, h2, h3, h4⟩ := h
    exact ⟨dd, vs, h1, s.le _ _ h2, h3, h4.step s⟩
theorem RepX.le {K : PySem.W.Frag} {Z Z' : Zn} {H H' : Hp} {cls : Value} {d : Option Addr} {x : Exc} (h : RepX K Z H cls d x) (le : Le (mask Z H) (mask Z' H')) (ev : Z'.vol = Z.vol) : RepX K Z' H' cls d x := by
  obtain ⟨e, h⟩ := h
  refine ⟨e, ?_⟩
  cases q : x.fs with
  | none => rw [q] at h; exact h
  | some l =>
    rw [q] at h
    obtain ⟨dd, vs, h1, h2, h3, h4⟩ := h
    exact ⟨dd, vs, h1, le _ _ h2, h3, by show Reps K Z'.vol _ _ _; rw [ev]; exact Reps.mono le h4⟩
/-- a caught exception: where it is, its class, its dict, its data -/
structure ExcV where
  a : Addr
  cls : Value
  d : Option Addr
  x : Exc
/-- a slot of the frame -/
inductive Slot where
  | un
  | val (d : D)
  | own (ds : List D)
  | exc (e : ExcV)
abbrev Env' := List Slot
abbrev Own := List (Nat × Addr × List V)
def SlotOk (K : PySem.W.Frag) (Z : Zn) (O : Own) (H : Hp) (i : Nat) (v : Option V) : Slot → Prop
  | .un => True
  | .val d => ∃ x, v = some x ∧ RepZ K Z H x d
  | .own ds => ∃ a vs, v = some (.ref a) ∧ (i, a, vs) ∈ O ∧ RepsZ K Z H vs ds
  | .exc e => v = some (.ref e.a) ∧ RepX K Z H e.cls e.d e.x
structure RepE (K : PySem.W.Frag) (Z : Zn) (O : Own) (H : Hp) (σ : L2.St) (env : Env') : Prop where
  len : σ.length = env.length
  at_ : ∀ (i : Nat) (s : Slot), env[i]? = some s → ∃ v, σ[i]? = some v ∧ SlotOk K Z O H i v s
  sub : ∀ i a vs, (i, a, vs) ∈ O → (a, vs) ∈ Z.own
theorem SlotOk.mono {K : PySem.W.Frag} {Z : Zn} {O : Own} {H H' : Hp} {i : Nat} {v : Option V} {s : Slot} (h : SlotOk K Z O H i v s) (e : Step Z H H') : SlotOk K Z O H' i v s := by
  cases s with
  | un => trivial
  | val d => obtain ⟨x, h1, h2⟩ := h; exact ⟨x, h1, h2.step e⟩
  | own ds => obtain ⟨a, vs, h1, h2, h3⟩ := h; exact ⟨a, vs, h1, h2, h3.step e⟩
  | exc x => exact ⟨h.1, h.2.step e⟩
theorem RepE.step {K : PySem.W.Frag} {Z : Zn} {O : Own} {H H' : Hp} {σ : L2.St} {env : Env'} (h : RepE K Z O H σ env) (e : Step Z H H') : RepE K Z O H' σ env :=
  ⟨h.len, fun i s q => let ⟨v, h1, h2⟩ := h.at_ i s q; ⟨v, h1, h2.mono e⟩, h.sub⟩
theorem RepE.val {K : PySem.W.Frag} {Z : Zn} {O : Own} {H : Hp} {σ : L2.St} {env : Env'} (h : RepE K Z O H σ env) {i : Nat} {d : D} (e : env[i]? = some (.val d)) : ∃ x, σ[i]? = some (some x) ∧ RepZ K Z H x d := by
  obtain ⟨v, h1, x, rfl, h2⟩ := h.at_ i _ e
  exact ⟨x, h1, h2⟩

/-! ### readings over trees -/
abbrev DX := Exc → Prop
abbrev DE := Env' → (D → Prop) → DX → Prop
abbrev DA := Env' → (List D → Prop) → DX → Prop
abbrev DB := Env' → (Bool → Prop) → DX → Prop

/-- the state at an expression: what is apart, what is owned, the slots -/
structure At (K : PySem.W.Frag) (Z : Zn) (O : Own) (H : Hp) (σ : L2.St) (env : Env') : Prop where
  good : Good Z H
  env : RepE K Z O H σ env
theorem At.step {K : PySem.W.Frag} {Z : Zn} {O : Own} {H H' : Hp} {σ : L2.St} {env : Env'} (a : At K Z O H σ env) (e : Step Z H H') : At K Z O H' σ env := ⟨e.good, a.env.step e⟩

/-- an exception is wished for -/
def Xk (K : PySem.W.Frag) (Z : Zn) (H : Hp) (σ : L2.St) (R : DX) (W : WX) : Prop := ∀ x, R x → ∀ cls d H', Step Z H H' → RepX K Z H' cls d x → W cls d σ H'
theorem Xk.step {K : PySem.W.Frag} {Z : Zn} {H H1 : Hp} {σ : L2.St} {R : DX} {W : WX} (h : Xk K Z H σ R W) (e : Step Z H H1) : Xk K Z H1 σ R W := fun x q cls d H' s r => h x q cls d H' (e.trans s) r

def DT (K : PySem.W.Frag) (f : DE) (W : WX) : TE := fun σ H Q => ∃ Z O env, ∃ (Q0 : D → Prop) (R0 : DX), At K Z O H σ env ∧ f env Q0 R0 ∧ Xk K Z H σ R0 W ∧ ∀ d, Q0 d → ∀ v H', Step Z H H' → RepZ K Z H' v d → Q v H'
def DTA (K : PySem.W.Frag) (f : DA) (W : WX) : TA := fun σ H Q => ∃ Z O env, ∃ (Q0 : List D → Prop) (R0 : DX), At K Z O H σ env ∧ f env Q0 R0 ∧ Xk K Z H σ R0 W ∧ ∀ ds, Q0 ds → ∀ vs H', Step Z H H' → RepsZ K Z H' vs ds → Q vs H'
def DTB (K : PySem.W.Frag) (f : DB) (W : WX) : TT := fun σ H Q => ∃ Z O env, ∃ (Q0 : Bool → Prop) (R0 : DX), At K Z O H σ env ∧ f env Q0 R0 ∧ Xk K Z H σ R0 W ∧ ∀ b, Q0 b → ∀ H', Step Z H H' → Q b H'

/-- use of a part's reading -/
theorem DT.mk {K : PySem.W.Frag} {f : DE} {W : WX} {Z : Zn} {O : Own} {H : Hp} {σ : L2.St} {env : Env'} {Q0 : D → Prop} {R0 : DX} {Q : VK} (a : At K Z O H σ env) (hf : f env Q0 R0) (x : Xk K Z H σ R0 W) (q : ∀ d, Q0 d → ∀ v H', Step Z H H' → RepZ K Z H' v d → Q v H') : DT K f W σ H Q :=
  ⟨Z, O, env, Q0, R0, a, hf, x, q⟩
theorem DTA.mk {K : PySem.W.Frag} {f : DA} {W : WX} {Z : Zn} {O : Own} {H : Hp} {σ : L2.St} {env : Env'} {Q0 : List D → Prop} {R0 : DX} {Q : List V → Hp → Prop} (a : At K Z O H σ env) (hf : f env Q0 R0) (x : Xk K Z H σ R0 W) (q : ∀ d, Q0 d → ∀ v H', Step Z H H' → RepsZ K Z H' v d → Q v H') : DTA K f W σ H Q :=
  ⟨Z, O, env, Q0, R0, a, hf, x, q⟩
theorem DTB.mk {K : PySem.W.Frag} {f : DB} {W : WX} {Z : Zn} {O : Own} {H : Hp} {σ : L2.St} {env : Env'} {Q0 : Bool → Prop} {R0 : DX} {Q : Bool → Hp → Prop} (a : At K Z O H σ env) (hf : f env Q0 R0) (x : Xk K Z H σ R0 W) (q : ∀ d, Q0 d → ∀ H', Step Z H H' → Q d H') : DTB K f W σ H Q :=
  ⟨Z, O, env, Q0, R0, a, hf, x, q⟩

theorem PE.imp {X : Cx} {e : Expr} {t t' : TE} (h : L2.PE X e t) (i : ∀ σ H Q, t' σ H Q → t σ H Q) : L2.PE X e t' := ⟨fun pins s σ H Q I q => h.run pins s σ H Q I (i σ H Q q)⟩
theorem PT.imp {X : Cx} {e : Expr} {t t' : TT} (h : L2.PT X e t) (i : ∀ σ H Q, t' σ H Q → t σ H Q) : L2.PT X e t' := ⟨fun pins s σ H Q I q => h.run pins s σ H Q I (i σ H Q q)⟩
theorem PW.imp {X : Cx} {e : Expr} {t t' : TT} (h : L2.PW X e t) (i : ∀ σ H Q, t' σ H Q → t σ H Q) : L2.PW X e t' := ⟨fun w pins s σ H Q I q => h.run w pins s σ H Q I (i σ H Q q)⟩
theorem PA.imp {X : Cx} {e : List Expr} {t t' : TA} (h : L2.PA X e t) (i : ∀ σ H Q, t' σ H Q → t σ H Q) : L2.PA X e t' := ⟨fun p pins s σ H Q I q => h.run p pins s σ H Q I (i σ H Q q)⟩
theorem PS.imp {X : Cx} {e : Stmt} {t t' : TS} (h : L2.PS X e t) (i : ∀ D σ H, t' D σ H → t D σ H) : L2.PS X e t' := ⟨fun pins s σ H Q I q => h.run pins s σ H Q I (i Q σ H q)⟩
theorem PSs.imp {X : Cx} {e : List Stmt} {t t' : TS} (h : L2.PSs X e t) (i : ∀ D σ H, t' D σ H → t D σ H) : L2.PSs X e t' := ⟨fun pins s σ H Q I q => h.run pins s σ H Q I (i Q σ H q)⟩
theorem PG.imp {X : Cx} {e : Expr} {t t' : TG} (h : L2.PG X e t) (i : ∀ v σ H Q, t' v σ H Q → t v σ H Q) : L2.PG X e t' := ⟨fun pins s σ H v u Q I r q => h.run pins s σ H v u Q I r (i v σ H Q q)⟩

abbrev PD (X : Cx) (W : WX) (e : Expr) (f : DE) : Prop := L2.PE X e (DT X.K f W)
abbrev PDA (X : Cx) (W : WX) (es : List Expr) (f : DA) : Prop := L2.PA X es (DTA X.K f W)
abbrev PDB (X : Cx) (W : WX) (e : Expr) (f : DB) : Prop := L2.PT X e (DTB X.K f W)

section
variable {X : Cx} {W : WX} {a b : Expr} {pos : Pos} {fa fb : DE}
/-! ### names, constants -/
def dVar (i : Nat) : DE := fun env Q _ => match env[i]? with
  | some (.val d) => Q d
  | _ => False
theorem pd_var {i : Nat} {x : Str} (h : L2.PE X (.Name x pos) (tVar i)) : PD X W (.Name x pos) (dVar i) := PE.imp h fun σ H Q ⟨Z, O, env, Q0, R0, a, hf, _, q⟩ => by
  unfold dVar at hf
  cases e : env[i]? with
  | none => rw [e] at hf; cases hf
  | some s =>
    rw [e] at hf
    cases s with
    | val d =>
      obtain ⟨v, h1, h2⟩ := a.env.val e
      exact ⟨v, h1, q d hf v H (Step.refl a.good) h2⟩
    | un => cases hf
    | own _ => cases hf
    | exc _ => cases hf
def dC (d : D) : DE := fun _ Q _ => Q d
theorem pd_c {e : Expr} {v : V} {d : D} (h : L2.PE X e (tC v)) (r : ∀ vl G, Rep X.K vl G v d) : PD X W e (dC d) := PE.imp h fun σ H Q ⟨Z, O, env, Q0, R0, a, hf, _, q⟩ => q d hf v H (Step.refl a.good) (r _ _)
theorem pd_int {i : Int} {j : Nat} : PD X W (.Constant (.int i) j pos) (dC (.int i)) := pd_c pe_int fun _ _ => .int i
theorem pd_bl {i : Bool} {j : Nat} : PD X W (.Constant (.bool i) j pos) (dC (.bl i)) := pd_c pe_bl fun _ _ => .bl i
theorem pd_str {i : Str} {j : Nat} : PD X W (.Constant (.str i) j pos) (dC (.str i)) := pd_c pe_str fun _ _ => .str i
theorem pd_non {j : Nat} : PD X W (.Constant .none j pos) (dC .non) := pd_c pe_non fun _ _ => .non

/-! ### two operands -/
/-- an operation on trees: what it gives of two trees -/
abbrev D2 := D → D → (D → Prop) → Prop
def dOp (r : D2) (fa fb : DE) : DE := fun env Q R => fa env (fun x => fb env (fun y => r x y Q) R) R
/-- the operation by values does what it does by trees -/
def OpD (K : PySem.W.Frag) (r : R2) (g : D2) : Prop := ∀ Z H x y dx dy (Q0 : D → Prop) (Q : VK), Good Z H → RepZ K Z H x dx → RepZ K Z H y dy → g dx dy Q0 → (∀ d, Q0 d → ∀ v H', Step Z H H' → RepZ K Z H' v d → Q v H') → r x y H Q
/-- evaluation of two operands -/
theorem two_ev {K : PySem.W.Frag} {r : R2} {g : D2} (hr : OpD K r g) : ∀ σ H Q, DT K (dOp g fa fb) W σ H Q → tOp r (DT K fa W) (DT K fb W) σ H Q := fun σ H Q ⟨Z, O, env, Q0, R0, a, hf, x, q⟩ => by
  refine DT.mk a hf x fun d1 h1 v1 H1 s1 r1 => ?_
  refine DT.mk (a.step s1) h1 (x.step s1) fun d2 h2 v2 H2 s2 r2 => ?_
  exact hr Z H2 v1 v2 d1 d2 Q0 Q s2.good (r1.step s2) r2 h2 fun d hd v H' s' rv => q d hd v H' ((s1.trans s2).trans s') rv
theorem pd_op {op : Operator} {r : R2} {g : D2} (ho : OpR X (binaryOp op) r) (hr : OpD X.K r g) (ha : PD X W a fa) (hb : PD X W b fb) : PD X W (.BinOp a op b pos) (dOp g fa fb) := PE.imp (pe_op ho ha hb) (two_ev hr)
theorem pd_cmp {op : CmpOp} {r : R2} {g : D2} (ho : OpR X (compareOp op) r) (hr : OpD X.K r g) (ha : PD X W a fa) (hb : PD X W b fb) (hm : behindInMarks op b = false) : PD X W (.Compare a [op] [b] pos) (dOp g fa fb) := PE.imp (pe_cmpR ho ha hb hm) (two_ev hr)
end
end Dl

set_option maxHeartbeats 1000000
/-! The tree layer: operators, comparisons, built-ins, displays, subscripts, slices. -/
namespace Dl
open PySem PySem.Spec PyProof.Rows L2

/-! ### operators on ints -/
def gI (C : Int → Int → Prop) (h : Int → Int → D) : D2 := fun x y Q => match x, y with
  | .int i, .int j => C i j ∧ Q (h i j)
  | _, _ => False
def gI0 (h : Int → Int → D) : D2 := fun x y Q => match x, y with
  | .int i, .int j => Q (h i j)
  | _, _ => False
section
variable {K : PySem.W.Frag}
theorem opd_I {C : Int → Int → Prop} {g : Int → Int → Int} : OpD K (rI C fun i j => .int (g i j)) (gI C fun i j => .int (g i j)) := fun Z H x y dx dy Q0 Q gd rx ry hg q => by
  cases dx <;> cases dy <;> first | exact False.elim hg | skip
  cases rx; cases ry
  exact ⟨_, _, rfl, rfl, hg.1, q _ hg.2 _ H (Step.refl gd) (.int _)⟩
theorem opd_I0 {g : Int → Int → Int} : OpD K (rI0 fun i j => .int (g i j)) (gI0 fun i j => .int (g i j)) := fun Z H x y dx dy Q0 Q gd rx ry hg q => by
  cases dx <;> cases dy <;> first | exact False.elim hg | skip
  cases rx; cases ry
  exact ⟨_, _, rfl, rfl, q _ hg _ H (Step.refl gd) (.int _)⟩
theorem opd_B0 {g : Int → Int → Bool} : OpD K (rI0 fun i j => .bl (g i j)) (gI0 fun i j => .bl (g i j)) := fun Z H x y dx dy Q0 Q gd rx ry hg q => by
  cases dx <;> cases dy <;> first | exact False.elim hg | skip
  cases rx; cases ry
  exact ⟨_, _, rfl, rfl, q _ hg _ H (Step.refl gd) (.bl _)⟩
end
abbrev gAdd : D2 := gI0 fun i j => .int (i + j)
abbrev gSub : D2 := gI0 fun i j => .int (i - j)
abbrev gMul : D2 := gI CMul fun i j => .int (i * j)
abbrev gDiv : D2 := gI CDiv fun i j => .int (i / j)
abbrev gMod : D2 := gI (fun _ j => 0 < j) fun i j => .int (i % j)
abbrev gPow : D2 := gI CPow fun i j => .int (i ^ j.toNat)
abbrev gMulW : D2 := gI CMulW fun i j => .int (i * j)
abbrev gDivW : D2 := gI CDivW fun i j => .int (i / j)
abbrev gLt : D2 := gI0 fun i j => .bl (decide (i < j))
abbrev gLe : D2 := gI0 fun i j => .bl (decide (i ≤ j))
abbrev gGt : D2 := gI0 fun i j => .bl (decide (j < i))
abbrev gGe : D2 := gI0 fun i j => .bl (decide (j ≤ i))

/-! ### equality -/
mutual
def py : D → PyData
  | .non => .none
  | .bl b => .bool b
  | .int i => .int i
  | .str x => .str x
  | .tup ds => .tuple (pys ds)
  | .lst ds => .list (pys ds)
  | .obj _ _ => .none
  | .raw _ => .none
  | .vol => .none
def pys : List D → List PyData
  | [] => []
  | d :: ds => py d :: pys ds
end
mutual
/-- data of at most this depth -/
def dat : Nat → D → Bool
  | _, .non => true
  | _, .bl _ => true
  | _, .int _ => true
  | _, .str x => PyData.strOk x
  | 0, .tup _ => false
  | n + 1, .tup ds => dats n ds
  | 0, .lst _ => false
  | n + 1, .lst ds => dats n ds
  | _, .obj _ _ => false
  | _, .raw _ => false
  | _, .vol => false
def dats : Nat → List D → Bool
  | _, [] => true
  | n, d :: ds => dat n d && dats n ds
end
section
variable {K : PySem.W.Frag} {vl : Option (Addr × Addr)} {G : Hp}
mutual
theorem Rep.dp : ∀ {n : Nat} {v : V} {d : D}, Rep K vl G v d → dat n d = true → Dp K G v (py d)
  | _, _, _, .non, _ => .non
  | _, _, _, .bl b, _ => .bl b
  | _, _, _, .int b, _ => .int b
  | _, _, _, .str b, _ => .str b
  | 0, _, _, .tup a vs ds h r, e => by simp [dat] at e
  | n + 1, _, _, .tup a vs ds h r, e => .tup h (Reps.dp r (by simpa [dat] using e))
  | 0, _, _, .lst a vs ds h r, e => by simp [dat] at e
  | n + 1, _, _, .lst a vs ds h r, e => .lst (SqL.of h) (Reps.dp r (by simpa [dat] using e))
  | n, _, _, .obj _ _ _ _ _ _ _, e => by simp [dat] at e
  | n, _, _, .raw _, e => by simp [dat] at e
  | n, _, _, .vol _ _ _, e => by simp [dat] at e
theorem Reps.dp : ∀ {n : Nat} {vs : List V} {ds : List D}, Reps K vl G vs ds → dats n ds = true → DpAll K G vs (pys ds)
  | _, _, _, .nil, _ => .nil
  | n, _, _, .cons v d vs ds h r, e => by
    simp only [dats, Bool.and_eq_true] at e
    exact .cons (Rep.dp h e.1) (Reps.dp r e.2)
end
end
mutual
theorem dat_shape : ∀ (n : Nat) (d : D), dat n d = true → (py d).canLay0 = true ∧ (py d).depth ≤ n
  | n, .non, _ => ⟨by simp [py, PyData.canLay0], by simp [py, PyData.depth]⟩
  | n, .bl _, _ => ⟨by simp [py, PyData.canLay0], by simp [py, PyData.depth]⟩
  | n, .int _, _ => ⟨by simp [py, PyData.canLay0], by simp [py, PyData.depth]⟩
  | n, .str x, e => ⟨by simp [py, PyData.canLay0]; simpa [dat] using e, by simp [py, PyData.depth]⟩
  | 0, .tup ds, e => by simp [dat] at e
  | n + 1, .tup ds, e => by
    obtain ⟨h1, h2⟩ := dats_shape n ds (by simpa [dat] using e)
    exact ⟨by simpa [py, PyData.canLay0] using h1, by simp only [py, PyData.depth]; omega⟩
  | 0, .lst ds, e => by simp [dat] at e
  | n + 1, .lst ds, e => by
    obtain ⟨h1, h2⟩ := dats_shape n ds (by simpa [dat] using e)
    exact ⟨by simpa [py, PyData.canLay0] using h1, by simp only [py, PyData.depth]; omega⟩
  | n, .obj _ _, e => by simp [dat] at e
  | n, .raw _, e => by simp [dat] at e
  | n, .vol, e => by simp [dat] at e
theorem dats_shape : ∀ (n : Nat) (ds : List D), dats n ds = true → PyData.canLayAll0 (pys ds) = true ∧ PyData.depthAll (pys ds) ≤ n
  | n, [], _ => ⟨by simp [pys, PyData.canLayAll0], by simp [pys, PyData.depthAll]⟩
  | n, d :: ds, e => by
    simp only [dats, Bool.and_eq_true] at e
    obtain ⟨h1, h2⟩ := dat_shape n d e.1
    obtain ⟨h3, h4⟩ := dats_shape n ds e.2
    exact ⟨by simp [pys, PyData.canLayAll0, h1, h3], by simp only [pys, PyData.depthAll]; omega⟩
end
theorem dat_shaped {n : Nat} {d : D} (h : dat n d = true) (hn : n ≤ 64) : SeqAt.shaped (py d) = true := by
  obtain ⟨h1, h2⟩ := dat_shape n d h
  unfold SeqAt.shaped
  rw [h1, decide_eq_true (by omega)]
  rfl
/-- Python's == on trees -/
def deq (x y : D) : Bool := PyData.eqv (py x) (py y)
def gEq : D2 := fun x y Q => dat 9 x = true ∧ dat 9 y = true ∧ Q (.bl (deq x y))
def gNe : D2 := fun x y Q => dat 9 x = true ∧ dat 9 y = true ∧ Q (.bl (!deq x y))
theorem Dp.le {K : PySem.W.Frag} {G G' : Hp} (e : Le G G') : ∀ {v : V} {d : PyData}, Dp K G v d → Dp K G' v d := by
  intro v d h
  refine Dp.rec (K := K) (H := G) (motive_1 := fun v d _ => Dp K G' v d) (motive_2 := fun vs ds _ => DpAll K G' vs ds) .non .bl .int .str (fun h _ r => .lst (e.sql h) r) (fun h _ r => .tup (e.sqt h) r) .nil (fun _ _ a b => .cons a b) h
section
variable {K : PySem.W.Frag}
theorem opd_eq : OpD K (rEqD K) gEq := fun Z H x y dx dy Q0 Q gd rx ry hg q =>
  ⟨py dx, py dy, Dp.le (mask_le Z H) (rx.dp hg.1), Dp.le (mask_le Z H) (ry.dp hg.2.1), dat_shaped hg.1 (by decide), dat_shaped hg.2.1 (by decide), q _ hg.2.2 _ H (Step.refl gd) (.bl _)⟩
theorem opd_ne : OpD K (rNeD K) gNe := fun Z H x y dx dy Q0 Q gd rx ry hg q =>
  ⟨py dx, py dy, Dp.le (mask_le Z H) (rx.dp hg.1), Dp.le (mask_le Z H) (ry.dp hg.2.1), dat_shaped hg.1 (by decide), dat_shaped hg.2.1 (by decide), q _ hg.2.2 _ H (Step.refl gd) (.bl _)⟩
def isNon : D → Bool
  | .non => true
  | _ => false
/-- is None: of anything but an opaque value -/
def gIsN : D2 := fun x y Q => match x, y with
  | .raw _, _ => False
  | x, .non => Q (.bl (isNon x))
  | _, _ => False
def gNotN : D2 := fun x y Q => match x, y with
  | .raw _, _ => False
  | x, .non => Q (.bl (!isNon x))
  | _, _ => False
theorem isNon_rep {vl : Option (Addr × Addr)} {G : Hp} {v : V} {d : D} (r : Rep K vl G v d) (h : ∀ v, d ≠ .raw v) : decide (v = .non) = isNon d := by
  cases r <;> first | rfl | exact absurd rfl (h _)
theorem opd_isN : OpD K (fun x y H Q => y = .non ∧ Q (.bl (decide (x = .non))) H) gIsN := fun Z H x y dx dy Q0 Q gd rx ry hg q => by
  have hx : ∀ v, dx ≠ .raw v := fun v e => by subst e; exact hg
  have hy : dy = .non := by cases dx <;> cases dy <;> first | rfl | exact False.elim hg
  subst hy
  cases ry
  refine ⟨rfl, ?_⟩
  rw [isNon_rep rx hx]
  have hg' : Q0 (.bl (isNon dx)) := by cases dx <;> first | exact hg | exact False.elim hg
  exact q _ hg' _ H (Step.refl gd) (.bl _)
theorem opd_notN : OpD K (fun x y H Q => y = .non ∧ Q (.bl (!decide (x = .non))) H) gNotN := fun Z H x y dx dy Q0 Q gd rx ry hg q => by
  have hx : ∀ v, dx ≠ .raw v := fun v e => by subst e; exact hg
  have hy : dy = .non := by cases dx <;> cases dy <;> first | rfl | exact False.elim hg
  subst hy
  cases ry
  refine ⟨rfl, ?_⟩
  rw [isNon_rep rx hx]
  have hg' : Q0 (.bl (!isNon dx)) := by cases dx <;> first | exact hg | exact False.elim hg
  exact q _ hg' _ H (Step.refl gd) (.bl _)
/-! ### in a list or tuple of flat things -/
def toV : D → Option V
  | .non => some .non
  | .bl b => some (.bl b)
  | .int i => some (.int i)
  | .str x => some (.str x)
  | _ => none
def toVs : List D → Option (List V)
  | [] => some []
  | d :: ds => match toV d, toVs ds with
    | some v, some vs => some (v :: vs)
    | _, _ => none
theorem toV_rep {vl : Option (Addr × Addr)} {G : Hp} {v w : V} {d : D} (r : Rep K vl G v d) (h : toV d = some w) : v = w ∧ flatV w = true := by
  cases r <;> simp [toV] at h <;> subst h <;> exact ⟨rfl, rfl⟩
theorem toVs_rep {vl : Option (Addr × Addr)} {G : Hp} : ∀ {vs ws : List V} {ds : List D}, Reps K vl G vs ds → toVs ds = some ws → vs = ws ∧ ws.all flatV = true
  | _, ws, _, .nil, h => by simp [toVs] at h; subst h; exact ⟨rfl, rfl⟩
  | _, ws, _, .cons v d vs ds hr r, h => by
    unfold toVs at h
    split at h
    · rename_i a b e1 e2
      cases h
      obtain ⟨h1, h2⟩ := toV_rep hr e1
      obtain ⟨h3, h4⟩ := toVs_rep r e2
      subst h1 h3
      exact ⟨rfl, by simp [h2, h4]⟩
    · cases h
def seqOf : D → Option (List D)
  | .tup ds => some ds
  | .lst ds => some ds
  | _ => none
def gIn (neg : Bool) : D2 := fun x y Q => ∃ v ds vs, toV x = some v ∧ seqOf y = some ds ∧ toVs ds = some vs ∧ Q (.bl (if neg then !inV v vs else inV v vs))
theorem seq_rep {Z : Zn} {H : Hp} {v : V} {d : D} {ds : List D} (r : RepZ K Z H v d) (h : seqOf d = some ds) : ∃ a vs, v = .ref a ∧ (SqL K H a vs ∨ SqT K H a vs) ∧ RepsZ K Z H vs ds := by
  cases r <;> simp [seqOf] at h
  · subst h; exact ⟨_, _, rfl, .inr (unm_t (by assumption)), by assumption⟩
  · subst h; exact ⟨_, _, rfl, .inl (unm_l (SqL.of (by assumption))), by assumption⟩
theorem opd_in {neg : Bool} : OpD K (rIn K neg) (gIn neg) := fun Z H x y dx dy Q0 Q gd rx ry hg q => by
  obtain ⟨v, ds, vs, h1, h2, h3, h4⟩ := hg
  obtain ⟨a, ws, rfl, hs, rs⟩ := seq_rep ry h2
  obtain ⟨rfl, fx⟩ := toV_rep rx h1
  obtain ⟨rfl, fs⟩ := toVs_rep rs h3
  exact ⟨a, ws, rfl, hs, fx, fs, q _ h4 _ H (Step.refl gd) (.bl _)⟩
/-! ### a subscript -/
def gIx : D2 := fun x y Q => match x, y with
  | .lst ds, .int i => ∃ d, atI ds i = some d ∧ Q d
  | .tup ds, .int i => ∃ d, atI ds i = some d ∧ Q d
  | _, _ => False
theorem atI_rep {vl : Option (Addr × Addr)} {G : Hp} {vs : List V} {ds : List D} {i : Int} {d : D} (r : Reps K vl G vs ds) (h : atI ds i = some d) : ∃ v, atI vs i = some v ∧ Rep K vl G v d := by
  unfold atI at h ⊢
  rw [r.length]
  cases e : ixN ds.length i with
  | none => rw [e] at h; cases h
  | some j =>
    rw [e] at h
    exact r.get h
theorem opd_ix : OpD K (rIx K) gIx := fun Z H x y dx dy Q0 Q gd rx ry hg q => by
  cases dx <;> cases dy <;> first | exact False.elim hg | skip
  · cases ry
    cases rx with
    | tup a vs ds h r =>
      obtain ⟨d, h1, h2⟩ := hg
      obtain ⟨v, h3, h4⟩ := atI_rep r h1
      exact Or.inr (Or.inl ⟨a, vs, _, v, rfl, rfl, unm_t h, h3, q d h2 v H (Step.refl gd) h4⟩)
  · cases ry
    cases rx with
    | lst a vs ds h r =>
      obtain ⟨d, h1, h2⟩ := hg
      obtain ⟨v, h3, h4⟩ := atI_rep r h1
      exact Or.inl ⟨a, vs, _, v, rfl, rfl, unm_l (SqL.of h), h3, q d h2 v H (Step.refl gd) h4⟩
/-! ### tuple + tuple, tuple * int -/
def gCatT : D2 := fun x y Q => match x, y with
  | .tup xs, .tup ys => xs.length + ys.length ≤ sizeLine ∧ Q (.tup (xs ++ ys))
  | _, _ => False
theorem opd_catT : OpD K (rCatA K) gCatT := fun Z H x y dx dy Q0 Q gd rx ry hg q => by
  cases dx <;> cases dy <;> first | exact False.elim hg | skip
  cases rx with
  | tup a vs ds h r =>
    cases ry with
    | tup b ws es h' r' =>
      obtain ⟨h1, h2⟩ := hg
      refine ⟨a, b, vs, ws, rfl, rfl, unm_t h, unm_t h', by rw [r.length, r'.length]; exact h1, fun e => ?_, fun _ e => ?_, fun _ _ p hp => ?_⟩
      · refine q _ h2 _ H (Step.refl gd) ?_
        subst e
        cases r
        exact .tup b _ _ h' r'
      · refine q _ h2 _ H (Step.refl gd) ?_
        subst e
        cases r'
        rw [List.append_nil]
        exact .tup a _ _ h r
      · exact q _ h2 _ _ (Step.new gd _ hp) (new_tup gd hp (r.append r'))
def gRepT : D2 := fun x y Q => match x, y with
  | .tup xs, .int k => xs ≠ [] ∧ 2 ≤ k ∧ k ≤ 1000 ∧ xs.length ≤ 1000 ∧ Q (.tup (List.replicate k.toNat xs).flatten)
  | _, _ => False
theorem Reps.rep {vl : Option (Addr × Addr)} {G : Hp} {vs : List V} {ds : List D} (r : Reps K vl G vs ds) : ∀ n, Reps K vl G (List.replicate n vs).flatten (List.replicate n ds).flatten
  | 0 => .nil
  | n + 1 => by
    rw [List.replicate_succ, List.replicate_succ, List.flatten_cons, List.flatten_cons]
    exact r.append (Reps.rep r n)
theorem opd_repT : OpD K (rRepT K) gRepT := fun Z H x y dx dy Q0 Q gd rx ry hg q => by
  cases dx <;> cases dy <;> first | exact False.elim hg | skip
  cases ry
  cases rx with
  | tup a vs ds h r =>
    obtain ⟨h1, h2, h3, h4, h5⟩ := hg
    exact ⟨a, _, vs, rfl, rfl, unm_t h, (fun e => by subst e; cases r; exact h1 rfl), h2, h3, by rw [r.length]; exact h4, fun p hp => q _ h5 _ _ (Step.new gd _ hp) (new_tup gd hp (r.rep _))⟩
end

/-! ### unary -/
def dNeg (f : DE) : DE := fun env Q R => f env (fun d => match d with
  | .int i => Q (.int (-i))
  | _ => False) R
section
variable {X : Cx} {W : WX} {a b c : Expr} {es : List Expr} {pos : Pos} {fa fb fc : DE} {fs : DA}
theorem pd_neg (ha : PD X W a fa) : PD X W (.UnaryOp .USub a pos) (dNeg fa) := PE.imp (pe_un un_neg ha) fun σ H Q ⟨Z, O, env, Q0, R0, at_, hf, x, q⟩ => by
  refine DT.mk at_ hf x fun d h v H1 s r => ?_
  cases d <;> first | exact False.elim h | skip
  cases r
  exact ⟨_, rfl, q _ h _ H1 s (.int _)⟩

/-! ### tests -/
def dTst (f : DE) : DB := fun env Q R => f env (fun d => match d with
  | .bl b => Q b
  | _ => False) R
theorem tst_ev {t : TE} {f : DE} (h : ∀ σ H Q, DT X.K f W σ H Q → t σ H Q) : ∀ σ H Q, DTB X.K (dTst f) W σ H Q → tTest t σ H Q := fun σ H Q ⟨Z, O, env, Q0, R0, at_, hf, x, q⟩ =>
  h σ H _ (DT.mk at_ hf x fun d hd v H1 s r => by
    cases d <;> first | exact False.elim hd | skip
    cases r
    exact ⟨_, rfl, q _ hd H1 s⟩)
theorem pdb_val {e : Expr} {f : DE} (h : PD X W e f) (he : ∀ whole, isTrue e X.env whole = (do let v ← whole; standAt e.pos; holding [v] (truthy v)) := by intro _; rfl) : PDB X W e (dTst f) :=
  PT.imp (pt_val h he) (tst_ev (t := DT X.K f W) fun _ _ _ z => z)
theorem pdb_cmp {op : CmpOp} {r : R2} {g : D2} (ho : OpR X (compareOp op) r) (hr : OpD X.K r g) (ha : PD X W a fa) (hb : PD X W b fb) (hm : behindInMarks op b = false) : PDB X W (.Compare a [op] [b] pos) (dTst (dOp g fa fb)) :=
  PT.imp (pt_cmpR ho ha hb hm) (tst_ev (two_ev hr))
/-- a op b op' c -/
def dChain (g g' : D2) (fa fb fc : DE) : DE := fun env Q R => fa env (fun x => fb env (fun y => g x y fun z => match z with
  | .bl k => if k = true then fc env (fun w => g' y w Q) R else Q (.bl false)
  | _ => False) R) R
theorem chain_ev {r r' : R2} {g g' : D2} (hr : OpD X.K r g) (hr' : OpD X.K r' g') : ∀ σ H Q, DT X.K (dChain g g' fa fb fc) W σ H Q → tChain r r' (DT X.K fa W) (DT X.K fb W) (DT X.K fc W) σ H Q := fun σ H Q ⟨Z, O, env, Q0, R0, a, hf, x, q⟩ => by
  refine DT.mk a hf x fun d1 h1 v1 H1 s1 r1 => ?_
  refine DT.mk (a.step s1) h1 (x.step s1) fun d2 h2 v2 H2 s2 r2 => ?_
  refine hr Z H2 v1 v2 d1 d2 _ _ s2.good (r1.step s2) r2 h2 fun d hd v H3 s3 rv => ?_
  cases d <;> first | exact False.elim hd | skip
  rename_i k
  cases rv
  refine ⟨k, rfl, ?_⟩
  have s13 := (s1.trans s2).trans s3
  cases k with
  | false => exact q _ hd _ H3 s13 (.bl _)
  | true =>
    have hd : fc env (fun w => g' d2 w Q0) R0 := hd
    rw [if_pos rfl]
    refine DT.mk (a.step s13) hd (x.step s13) fun d4 h4 v4 H4 s4 r4 => ?_
    exact hr' Z H4 v2 v4 d2 d4 Q0 Q s4.good ((r2.step s3).step s4) r4 h4 fun d hd v H' s' rv => q d hd v H' ((s13.trans s4).trans s') rv
theorem pd_chain {op op' : CmpOp} {r r' : R2} {g g' : D2} (ho : OpR X (compareOp op) r) (hr : OpD X.K r g) (ho' : OpR X (compareOp op') r') (hr' : OpD X.K r' g') (ha : PD X W a fa) (hb : PD X W b fb) (hc : PD X W c fc)
    (hm : lastMarks [op, op'] [b, c] = false := by with_unfolding_all rfl) : PD X W (.Compare a [op, op'] [b, c] pos) (dChain g g' fa fb fc) := PE.imp (pe_chain ho ho' ha hb hc hm) (chain_ev hr hr')
theorem pdb_chain {op op' : CmpOp} {r r' : R2} {g g' : D2} (ho : OpR X (compareOp op) r) (hr : OpD X.K r g) (ho' : OpR X (compareOp op') r') (hr' : OpD X.K r' g') (ha : PD X W a fa) (hb : PD X W b fb) (hc : PD X W c fc)
    (hm : lastMarks [op, op'] [b, c] = false := by with_unfolding_all rfl) : PDB X W (.Compare a [op, op'] [b, c] pos) (dTst (dChain g g' fa fb fc)) := PT.imp (pt_chain ho ho' ha hb hc hm) (tst_ev (chain_ev hr hr'))
def dNotB (f : DB) : DB := fun env Q R => f env (fun b => Q (!b)) R
theorem pdb_not {f : DB} (h : PDB X W a f) : PDB X W (.UnaryOp .Not a pos) (dNotB f) := PT.imp (pt_not h) fun σ H Q ⟨Z, O, env, Q0, R0, at_, hf, x, q⟩ => DTB.mk at_ hf x fun b hb H1 s => q _ hb H1 s
abbrev PDW (X : Cx) (W : WX) (e : Expr) (f : DB) : Prop := L2.PW X e (DTB X.K f W)
def dAndB (f g : DB) : DB := fun env Q R => f env (fun b => if b = true then g env Q R else Q false) R
def dOrB (f g : DB) : DB := fun env Q R => f env (fun b => if b = true then Q true else g env Q R) R
theorem pdw_and1 {f : DB} (h : PDB X W a f) : PDW X W (.BoolOp .And [a] pos) f := pw_and1 h
theorem pdw_or1 {f : DB} (h : PDB X W a f) : PDW X W (.BoolOp .Or [a] pos) f := pw_or1 h
theorem pdw_and {f g : DB} {rest : List Expr} (h : PDB X W a f) (h2 : PDW X W (.BoolOp .And (b :: rest) pos) g) : PDW X W (.BoolOp .And (a :: b :: rest) pos) (dAndB f g) := PW.imp (pw_and h h2) fun σ H Q ⟨Z, O, env, Q0, R0, at_, hf, x, q⟩ =>
  DTB.mk at_ hf x fun k hk H1 s => by
    cases k with
    | true => rw [if_pos rfl] at hk ⊢; exact DTB.mk (at_.step s) hk (x.step s) fun b hb H2 s2 => q b hb H2 (s.trans s2)
    | false => rw [if_neg Bool.false_ne_true] at hk ⊢; exact q _ hk H1 s
theorem pdw_or {f g : DB} {rest : List Expr} (h : PDB X W a f) (h2 : PDW X W (.BoolOp .Or (b :: rest) pos) g) : PDW X W (.BoolOp .Or (a :: b :: rest) pos) (dOrB f g) := PW.imp (pw_or h h2) fun σ H Q ⟨Z, O, env, Q0, R0, at_, hf, x, q⟩ =>
  DTB.mk at_ hf x fun k hk H1 s => by
    cases k with
    | false => rw [if_neg Bool.false_ne_true] at hk ⊢; exact DTB.mk (at_.step s) hk (x.step s) fun b hb H2 s2 => q b hb H2 (s.trans s2)
    | true => rw [if_pos rfl] at hk ⊢; exact q _ hk H1 s
theorem pdb_w {f : DB} (h : PDW X W a f) : PDB X W a f := h.pt
/-! and, or, not as values (bools but the last) -/
def dAndV (f g : DE) : DE := fun env Q R => f env (fun d => match d with
  | .bl b => if b = true then g env Q R else Q (.bl false)
  | _ => False) R
def dOrV (f g : DE) : DE := fun env Q R => f env (fun d => match d with
  | .bl b => if b = true then Q (.bl true) else g env Q R
  | _ => False) R
def dNotV (f : DE) : DE := fun env Q R => f env (fun d => match d with
  | .bl b => Q (.bl (!b))
  | _ => False) R
theorem pd_one {op : BoolOp} (h : PD X W a fa) : PD X W (.BoolOp op [a] pos) fa := pe_one h
theorem pd_and {rest : List Expr} (h : PD X W a fa) (h2 : PD X W (.BoolOp .And (b :: rest) pos) fb) : PD X W (.BoolOp .And (a :: b :: rest) pos) (dAndV fa fb) := PE.imp (pe_and h h2) fun σ H Q ⟨Z, O, env, Q0, R0, at_, hf, x, q⟩ =>
  DT.mk at_ hf x fun d hd v H1 s r => by
    cases d <;> first | exact False.elim hd | skip
    rename_i k
    cases r
    refine ⟨k, rfl, ?_⟩
    cases k with
    | true => dsimp only at hd; rw [if_pos rfl] at hd ⊢; exact DT.mk (at_.step s) hd (x.step s) fun d hd v H2 s2 r => q d hd v H2 (s.trans s2) r
    | false => dsimp only at hd; rw [if_neg Bool.false_ne_true] at hd ⊢; exact q _ hd _ H1 s (.bl _)
theorem pd_or {rest : List Expr} (h : PD X W a fa) (h2 : PD X W (.BoolOp .Or (b :: rest) pos) fb) : PD X W (.BoolOp .Or (a :: b :: rest) pos) (dOrV fa fb) := PE.imp (pe_or h h2) fun σ H Q ⟨Z, O, env, Q0, R0, at_, hf, x, q⟩ =>
  DT.mk at_ hf x fun d hd v H1 s r => by
    cases d <;> first | exact False.elim hd | skip
    rename_i k
    cases r
    refine ⟨k, rfl, ?_⟩
    cases k with
    | false => dsimp only at hd; rw [if_neg Bool.false_ne_true] at hd ⊢; exact DT.mk (at_.step s) hd (x.step s) fun d hd v H2 s2 r => q d hd v H2 (s.trans s2) r
    | true => dsimp only at hd; rw [if_pos rfl] at hd ⊢; exact q _ hd _ H1 s (.bl _)
theorem pd_not (h : PD X W a fa) : PD X W (.UnaryOp .Not a pos) (dNotV fa) := PE.imp (pe_not h) fun σ H Q ⟨Z, O, env, Q0, R0, at_, hf, x, q⟩ =>
  DT.mk at_ hf x fun d hd v H1 s r => by
    cases d <;> first | exact False.elim hd | skip
    cases r
    exact ⟨_, rfl, q _ hd _ H1 s (.bl _)⟩
def dIf (t : DB) (f g : DE) : DE := fun env Q R => t env (fun b => if b = true then f env Q R else g env Q R) R
theorem pd_if {t : DB} (ht : PDB X W c t) (ha : PD X W a fa) (hb : PD X W b fb) : PD X W (.IfExp c a b pos) (dIf t fa fb) := PE.imp (pe_ifExp ht ha hb) fun σ H Q ⟨Z, O, env, Q0, R0, at_, hf, x, q⟩ =>
  DTB.mk at_ hf x fun k hk H1 s => by
    cases k with
    | true => rw [if_pos rfl] at hk ⊢; exact DT.mk (at_.step s) hk (x.step s) fun d hd v H2 s2 r => q d hd v H2 (s.trans s2) r
    | false => rw [if_neg Bool.false_ne_true] at hk ⊢; exact DT.mk (at_.step s) hk (x.step s) fun d hd v H2 s2 r => q d hd v H2 (s.trans s2) r

/-! ### argument lists -/
def dNil : DA := fun _ Q _ => Q []
def dCons (f : DE) (g : DA) : DA := fun env Q R => f env (fun d => g env (fun ds => Q (d :: ds)) R) R
def dStar (f : DE) (g : DA) : DA := fun env Q R => f env (fun d => ∃ xs, seqOf d = some xs ∧ g env (fun ds => Q (xs ++ ds)) R) R
theorem pda_nil : PDA X W [] dNil := PA.imp pa_nil fun σ H Q ⟨Z, O, env, Q0, R0, at_, hf, x, q⟩ => q _ hf _ H (Step.refl at_.good) .nil
theorem pda_cons (h : PD X W a fa) (r : PDA X W es fs) (hs : starEach (a :: es) X.env = (false, eval a X.env) :: starEach es X.env := by rfl) : PDA X W (a :: es) (dCons fa fs) := PA.imp (pa_cons h r hs) fun σ H Q ⟨Z, O, env, Q0, R0, at_, hf, x, q⟩ =>
  DT.mk at_ hf x fun d hd v H1 s rv => DTA.mk (at_.step s) hd (x.step s) fun ds hds vs H2 s2 rs => q _ hds _ H2 (s.trans s2) (.cons _ _ _ _ (rv.step s2) rs)
theorem pda_star {p : Pos} (h : PD X W a fa) (r : PDA X W es fs) (hs : starEach (.Starred a p :: es) X.env = (true, eval a X.env) :: starEach es X.env := by rfl) : PDA X W (.Starred a p :: es) (dStar fa fs) := PA.imp (StX.pa_star h r hs) fun σ H Q ⟨Z, O, env, Q0, R0, at_, hf, x, q⟩ =>
  DT.mk at_ hf x fun d hd v H1 s rv => by
    obtain ⟨xs, e, hd⟩ := hd
    obtain ⟨a, vs, rfl, hsq, rs⟩ := seq_rep rv e
    exact ⟨a, vs, rfl, hsq.symm, DTA.mk (at_.step s) hd (x.step s) fun ds hds ws H2 s2 r2 => q _ hds _ H2 (s.trans s2) ((rs.step s2).append r2)⟩

/-! ### new lists, new tuples -/
/-- a new list (its address is known to nobody) -/
def DTL (K : PySem.W.Frag) (f : DA) (W : WX) : TE := fun σ H Q => ∃ Z O env, ∃ (Q0 : List D → Prop) (R0 : DX), At K Z O H σ env ∧ f env Q0 R0 ∧ Xk K Z H σ R0 W ∧
  ∀ ds, Q0 ds → ∀ p vs H1, Step Z H H1 → H1 p = none → RepsZ K Z H1 vs ds → Q (.ref p) (upd H1 p (.lst vs))
abbrev PDL (X : Cx) (W : WX) (e : Expr) (f : DA) : Prop := L2.PE X e (DTL X.K f W)
def dL (f : DA) : DE := fun env Q R => f env (fun ds => Q (.lst ds)) R
theorem PDL.pd {e : Expr} {f : DA} (h : PDL X W e f) : PD X W e (dL f) := PE.imp h fun σ H Q ⟨Z, O, env, Q0, R0, at_, hf, x, q⟩ =>
  ⟨Z, O, env, _, R0, at_, hf, x, fun ds hds p vs H1 s hp r => q _ hds _ _ (s.trans (Step.new s.good _ hp)) (new_lst s.good hp r)⟩
def dLst (f : DA) : DA := fun env Q R => f env (fun ds => ds.length ≤ sizeLine ∧ Q ds) R
theorem pdl_lst (h : PDA X W es fs) : PDL X W (.List es pos) (dLst fs) := PE.imp (pe_lst h) fun σ H Q ⟨Z, O, env, Q0, R0, at_, hf, x, q⟩ =>
  DTA.mk at_ hf x fun ds hds vs H1 s r => ⟨by rw [r.length]; exact hds.1, fun p hp => q _ hds.2 _ _ H1 s hp r⟩
def dTup (f : DA) : DE := fun env Q R => f env (fun ds => ds.length ≤ sizeLine ∧ Q (.tup ds)) R
theorem pd_tup {k : Nat} (h : PDA X W es fs) : PD X W (.Tuple es k pos) (dTup fs) := PE.imp (pe_tup h) fun σ H Q ⟨Z, O, env, Q0, R0, at_, hf, x, q⟩ =>
  DTA.mk at_ hf x fun ds hds vs H1 s r => ⟨by rw [r.length]; exact hds.1, fun p hp => q _ hds.2 _ _ (s.trans (Step.new s.good _ hp)) (new_tup s.good hp r)⟩
/-- list + list, list * int: new lists -/
abbrev D2L := D → D → (List D → Prop) → Prop
def dOpL (r : D2L) (fa fb : DE) : DA := fun env Q R => fa env (fun x => fb env (fun y => r x y Q) R) R
def OpDL (K : PySem.W.Frag) (r : R2) (g : D2L) : Prop := ∀ Z H x y dx dy (Q0 : List D → Prop) (Q : VK), Good Z H → RepZ K Z H x dx → RepZ K Z H y dy → g dx dy Q0 → (∀ ds, Q0 ds → ∀ p vs H1, Step Z H H1 → H1 p = none → RepsZ K Z H1 vs ds → Q (.ref p) (upd H1 p (.lst vs))) → r x y H Q
theorem pdl_op {op : Operator} {r : R2} {g : D2L} (ho : OpR X (binaryOp op) r) (hr : OpDL X.K r g) (ha : PD X W a fa) (hb : PD X W b fb) : PDL X W (.BinOp a op b pos) (dOpL g fa fb) := PE.imp (pe_op ho ha hb) fun σ H Q ⟨Z, O, env, Q0, R0, at_, hf, x, q⟩ => by
  refine DT.mk at_ hf x fun d1 h1 v1 H1 s1 r1 => ?_
  refine DT.mk (at_.step s1) h1 (x.step s1) fun d2 h2 v2 H2 s2 r2 => ?_
  exact hr Z H2 v1 v2 d1 d2 Q0 Q s2.good (r1.step s2) r2 h2 fun ds hd p vs H' s' hp rv => q ds hd p vs H' ((s1.trans s2).trans s') hp rv
end
section
variable {K : PySem.W.Frag}
theorem rep_lst {Z : Zn} {H : Hp} {v : V} {ds : List D} (r : RepZ K Z H v (.lst ds)) : ∃ a vs, v = .ref a ∧ H a = some (.lst vs) ∧ mask Z H a = some (.lst vs) ∧ RepsZ K Z H vs ds := by
  cases r with
  | lst a vs ds h r => exact ⟨a, vs, rfl, mask_le Z H _ _ h, h, r⟩
def gCatL : D2L := fun x y Q => match x, y with
  | .lst xs, .lst ys => xs.length + ys.length ≤ sizeLine ∧ Q (xs ++ ys)
  | _, _ => False
theorem opd_catL : OpDL K rCat gCatL := fun Z H x y dx dy Q0 Q gd rx ry hg q => by
  cases dx <;> cases dy <;> first | exact False.elim hg | skip
  obtain ⟨a, vs, rfl, h1, _, r⟩ := rep_lst rx
  obtain ⟨b, ws, rfl, h2, _, r'⟩ := rep_lst ry
  exact ⟨a, b, vs, ws, rfl, rfl, h1, h2, by rw [r.length, r'.length]; exact hg.1, fun p hp => q _ hg.2 p _ H (Step.refl gd) hp (r.append r')⟩
def gRepL : D2L := fun x y Q => match x, y with
  | .lst xs, .int k => -(2 ^ 63) ≤ k ∧ k < 2 ^ 63 ∧ xs.length * k.toNat ≤ sizeLine ∧ Q (List.replicate k.toNat xs).flatten
  | _, _ => False
theorem opd_repL : OpDL K rRep gRepL := fun Z H x y dx dy Q0 Q gd rx ry hg q => by
  cases dx <;> cases dy <;> first | exact False.elim hg | skip
  obtain ⟨a, vs, rfl, h1, _, r⟩ := rep_lst rx
  cases ry
  exact ⟨a, _, vs, rfl, rfl, h1, hg.1, hg.2.1, by rw [r.length]; exact hg.2.2.1, fun p hp => q _ hg.2.2.2 p _ H (Step.refl gd) hp (r.rep _)⟩
end
end Dl

set_option maxHeartbeats 1000000
/-! The tree layer: calls of built-ins, slices, slots, calls of defs. -/
namespace Dl
open PySem PySem.Spec PyProof.Rows L2

/-! ### built-ins by values -/
abbrev DC1 := List D → (D → Prop) → Prop
def CallD (K : PySem.W.Frag) (r : List V → Hp → VK → Prop) (g : DC1) : Prop := ∀ Z H vs ds (Q0 : D → Prop) (Q : VK), Good Z H → RepsZ K Z H vs ds → g ds Q0 → (∀ d, Q0 d → ∀ v H', Step Z H H' → RepZ K Z H' v d → Q v H') → r vs H Q
def dCB (g : DC1) (fs : DA) : DE := fun env Q R => fs env (fun ds => g ds Q) R
abbrev DCL1 := List D → (List D → Prop) → Prop
def CallDL (K : PySem.W.Frag) (r : List V → Hp → VK → Prop) (g : DCL1) : Prop := ∀ Z H vs ds (Q0 : List D → Prop) (Q : VK), Good Z H → RepsZ K Z H vs ds → g ds Q0 → (∀ ds, Q0 ds → ∀ p vs H1, Step Z H H1 → H1 p = none → RepsZ K Z H1 vs ds → Q (.ref p) (upd H1 p (.lst vs))) → r vs H Q
def dCBL (g : DCL1) (fs : DA) : DA := fun env Q R => fs env (fun ds => g ds Q) R
theorem Reps.inv1 {K : PySem.W.Frag} {vl : Option (Addr × Addr)} {G : Hp} {vs : List V} {d : D} (r : Reps K vl G vs [d]) : ∃ v, vs = [v] ∧ Rep K vl G v d := by
  cases r with
  | cons v d vs ds h r => cases r; exact ⟨v, rfl, h⟩
theorem Reps.inv2 {K : PySem.W.Frag} {vl : Option (Addr × Addr)} {G : Hp} {vs : List V} {d e : D} (r : Reps K vl G vs [d, e]) : ∃ v w, vs = [v, w] ∧ Rep K vl G v d ∧ Rep K vl G w e := by
  cases r with
  | cons v d vs ds h r =>
    obtain ⟨w, rfl, h2⟩ := r.inv1
    exact ⟨v, w, rfl, h, h2⟩
section
variable {K : PySem.W.Frag}
def gLen : DC1 := fun ds Q => match ds with
  | [.str z] => z.length ≤ sizeLine ∧ Q (.int z.length)
  | [d] => ∃ xs, seqOf d = some xs ∧ Q (.int xs.length)
  | _ => False
theorem cd_len : CallD K (fun xs H Q => ∃ x n, xs = [x] ∧ LenV K x H n ∧ Q (.int n) H) gLen := fun Z H vs ds Q0 Q gd r hg q => by
  match ds, hg with
  | [.str z], hg =>
    obtain ⟨v, rfl, h⟩ := r.inv1
    cases h
    exact ⟨_, z.length, rfl, ⟨hg.1, rfl⟩, q _ hg.2 _ H (Step.refl gd) (.int _)⟩
  | [.tup xs], hg =>
    obtain ⟨v, rfl, h⟩ := r.inv1
    obtain ⟨ys, e, hg⟩ := hg
    obtain ⟨a, ws, rfl, hs, rs⟩ := seq_rep h e
    refine ⟨_, ws.length, rfl, ?_, q _ (by rw [rs.length]; exact hg) _ H (Step.refl gd) (.int _)⟩
    rcases hs with hs | hs
    · exact .inl ⟨ws, hs, rfl⟩
    · exact .inr ⟨ws, hs, rfl⟩
  | [.lst xs], hg =>
    obtain ⟨v, rfl, h⟩ := r.inv1
    obtain ⟨ys, e, hg⟩ := hg
    obtain ⟨a, ws, rfl, hs, rs⟩ := seq_rep h e
    refine ⟨_, ws.length, rfl, ?_, q _ (by rw [rs.length]; exact hg) _ H (Step.refl gd) (.int _)⟩
    rcases hs with hs | hs
    · exact .inl ⟨ws, hs, rfl⟩
    · exact .inr ⟨ws, hs, rfl⟩
  | [.non], hg => obtain ⟨_, e, _⟩ := hg; cases e
  | [.bl _], hg => obtain ⟨_, e, _⟩ := hg; cases e
  | [.int _], hg => obtain ⟨_, e, _⟩ := hg; cases e
  | [.obj _ _], hg => obtain ⟨_, e, _⟩ := hg; cases e
  | [.raw _], hg => obtain ⟨_, e, _⟩ := hg; cases e
  | [.vol], hg => obtain ⟨_, e, _⟩ := hg; cases e
  | [], hg => exact hg.elim
  | _ :: _ :: _, hg => exact False.elim (by revert hg; unfold gLen; split <;> simp_all)
def gInt : DC1 := fun ds Q => match ds with
  | [.int i] => Q (.int i)
  | [.bl k] => Q (.int (if k then 1 else 0))
  | _ => False
theorem cd_int : CallD K (fun xs H Q => (∃ i, xs = [.int i] ∧ Q (.int i) H) ∨ ∃ k, xs = [.bl k] ∧ Q (.int (if k then 1 else 0)) H) gInt := fun Z H vs ds Q0 Q gd r hg q => by
  unfold gInt at hg
  split at hg
  · obtain ⟨v, rfl, h⟩ := r.inv1
    cases h
    exact .inl ⟨_, rfl, q _ hg _ H (Step.refl gd) (.int _)⟩
  · obtain ⟨v, rfl, h⟩ := r.inv1
    cases h
    exact .inr ⟨_, rfl, q _ hg _ H (Step.refl gd) (.int _)⟩
  · exact hg.elim
def gMax2 : DC1 := fun ds Q => match ds with
  | [.int i, .int j] => Q (.int (if j > i then j else i))
  | _ => False
theorem cd_max2 : CallD K (fun xs H Q => ∃ i j, xs = [.int i, .int j] ∧ Q (.int (if j > i then j else i)) H) gMax2 := fun Z H vs ds Q0 Q gd r hg q => by
  unfold gMax2 at hg
  split at hg
  · obtain ⟨v, w, rfl, h, h2⟩ := r.inv2
    cases h; cases h2
    exact ⟨_, _, rfl, q _ hg _ H (Step.refl gd) (.int _)⟩
  · exact hg.elim
def gMin2 : DC1 := fun ds Q => match ds with
  | [.int i, .int j] => Q (.int (if j < i then j else i))
  | _ => False
theorem cd_min2 : CallD K (fun xs H Q => ∃ i j, xs = [.int i, .int j] ∧ Q (.int (if j < i then j else i)) H) gMin2 := fun Z H vs ds Q0 Q gd r hg q => by
  unfold gMin2 at hg
  split at hg
  · obtain ⟨v, w, rfl, h, h2⟩ := r.inv2
    cases h; cases h2
    exact ⟨_, _, rfl, q _ hg _ H (Step.refl gd) (.int _)⟩
  · exact hg.elim
/-- a list of ints -/
theorem ints_rep {Z : Zn} {H : Hp} {v : V} {ns : List Int} (r : RepZ K Z H v (.lst (ns.map .int))) : ∃ a, v = .ref a ∧ SqL K H a (ns.map V.int) := by
  obtain ⟨a, vs, rfl, h1, _, r⟩ := rep_lst r
  rw [r.ofInts] at h1
  exact ⟨a, rfl, SqL.of h1⟩
def gMaxL : DC1 := fun ds Q => ∃ ns : List Int, ds = [.lst (ns.map .int)] ∧ 0 < ns.length ∧ ∀ m ∈ ns, (∀ y ∈ ns, y ≤ m) → Q (.int m)
theorem cd_maxL : CallD K (rMax K) gMaxL := fun Z H vs ds Q0 Q gd r hg q => by
  obtain ⟨ns, rfl, h0, hg⟩ := hg
  obtain ⟨v, rfl, h⟩ := r.inv1
  obtain ⟨a, rfl, hs⟩ := ints_rep h
  exact ⟨a, ns, rfl, hs, h0, fun m hm hle => q _ (hg m hm hle) _ H (Step.refl gd) (.int _)⟩
def gMinL : DC1 := fun ds Q => ∃ ns : List Int, ds = [.lst (ns.map .int)] ∧ 0 < ns.length ∧ ∀ m ∈ ns, (∀ y ∈ ns, m ≤ y) → Q (.int m)
theorem cd_minL : CallD K (rMin K) gMinL := fun Z H vs ds Q0 Q gd r hg q => by
  obtain ⟨ns, rfl, h0, hg⟩ := hg
  obtain ⟨v, rfl, h⟩ := r.inv1
  obtain ⟨a, rfl, hs⟩ := ints_rep h
  exact ⟨a, ns, rfl, hs, h0, fun m hm hle => q _ (hg m hm hle) _ H (Step.refl gd) (.int _)⟩
def gSumL : DC1 := fun ds Q => ∃ ns : List Int, ds = [.lst (ns.map .int)] ∧ Q (.int ns.sum)
theorem cd_sumL : CallD K (rSum K) gSumL := fun Z H vs ds Q0 Q gd r hg q => by
  obtain ⟨ns, rfl, hg⟩ := hg
  obtain ⟨v, rfl, h⟩ := r.inv1
  obtain ⟨a, rfl, hs⟩ := ints_rep h
  exact ⟨a, ns, rfl, hs, q _ hg _ H (Step.refl gd) (.int _)⟩
theorem Reps.ofBls {vl : Option (Addr × Addr)} {G : Hp} : ∀ {vs : List V} {ns : List Bool}, Reps K vl G vs (ns.map D.bl) → vs = ns.map V.bl
  | _, [], .nil => rfl
  | _, n :: r, .cons _ _ _ _ (.bl _) q => by rw [Reps.ofBls q]; rfl
def gAll : DC1 := fun ds Q => ∃ bs : List Bool, ds = [.lst (bs.map .bl)] ∧ Q (.bl (bs.all id))
theorem cd_all : CallD K (rAll K) gAll := fun Z H vs ds Q0 Q gd r hg q => by
  obtain ⟨ns, rfl, hg⟩ := hg
  obtain ⟨v, rfl, h⟩ := r.inv1
  obtain ⟨a, vs, rfl, h1, _, r⟩ := rep_lst h
  rw [r.ofBls] at h1
  exact ⟨a, ns, rfl, SqL.of h1, q _ hg _ H (Step.refl gd) (.bl _)⟩
def gStr : DC1 := fun ds Q => match ds with
  | [.int i] => i.natAbs.log2 < 1920 ∧ Q (.str (toString i))
  | [.str x] => Q (.str x)
  | _ => False
theorem cd_str : CallD K (fun xs H Q => (∃ i, xs = [V.int i] ∧ i.natAbs.log2 < 1920 ∧ Q (.str (toString i)) H) ∨ ∃ a, xs = [V.str a] ∧ Q (.str a) H) gStr := fun Z H vs ds Q0 Q gd r hg q => by
  unfold gStr at hg
  split at hg
  · obtain ⟨v, rfl, h⟩ := r.inv1
    cases h
    exact .inl ⟨_, rfl, hg.1, q _ hg.2 _ H (Step.refl gd) (.str _)⟩
  · obtain ⟨v, rfl, h⟩ := r.inv1
    cases h
    exact .inr ⟨_, rfl, q _ hg _ H (Step.refl gd) (.str _)⟩
  · exact hg.elim
/-- list(x) of a list or a tuple -/
def gListOf : DCL1 := fun ds Q => match ds with
  | [d] => ∃ xs, seqOf d = some xs ∧ Q xs
  | _ => False
theorem cdl_list : CallDL K (fun xs H Q => ∃ p ys, xs = [.ref p] ∧ (SqL K H p ys ∨ SqT K H p ys) ∧ ∀ l, H l = none → Q (.ref l) (upd H l (.lst ys))) gListOf := fun Z H vs ds Q0 Q gd r hg q => by
  unfold gListOf at hg
  split at hg
  · obtain ⟨v, rfl, h⟩ := r.inv1
    obtain ⟨ys, e, hg⟩ := hg
    obtain ⟨a, ws, rfl, hs, rs⟩ := seq_rep h e
    exact ⟨a, ws, rfl, hs, fun l hl => q _ hg l ws H (Step.refl gd) hl rs⟩
  · exact hg.elim
/-- tuple(x) of a list or a tuple -/
def gTupleOf : DC1 := fun ds Q => match ds with
  | [.lst xs] => Q (.tup xs)
  | [.tup xs] => Q (.tup xs)
  | _ => False
theorem cd_tuple : CallD K (fun xs H Q => ∃ p ys, xs = [.ref p] ∧ ((SqL K H p ys ∧ ∀ l, H l = none → Q (.ref l) (upd H l (.tup ys))) ∨ (SqT K H p ys ∧ Q (.ref p) H))) gTupleOf := fun Z H vs ds Q0 Q gd r hg q => by
  unfold gTupleOf at hg
  split at hg
  · obtain ⟨v, rfl, h⟩ := r.inv1
    obtain ⟨a, ws, rfl, h1, _, rs⟩ := rep_lst h
    exact ⟨a, ws, rfl, .inl ⟨SqL.of h1, fun l hl => q _ hg _ _ (Step.new gd _ hl) (new_tup gd hl rs)⟩⟩
  · obtain ⟨v, rfl, h⟩ := r.inv1
    cases h with
    | tup a vs ds h r => exact ⟨a, vs, rfl, .inr ⟨unm_t h, q _ hg _ H (Step.refl gd) (.tup a vs _ h r)⟩⟩
  · exact hg.elim
/-! isinstance: of a tree whose type is told, and a built-in class -/
def dty : D → Option String
  | .non => some "NoneType"
  | .bl _ => some "bool"
  | .int _ => some "int"
  | .str _ => some "str"
  | .tup _ => some "tuple"
  | .lst _ => some "list"
  | _ => none
theorem dty_rep {Z : Zn} {H : Hp} {v : V} {d : D} {t : String} (r : RepZ K Z H v d) (h : dty d = some t) : TyX K H v (.type t) := by
  cases r <;> simp [dty] at h <;> subst h
  · exact .base .non
  · exact .base (.bl _)
  · exact .base (.int _)
  · exact .base (.str _)
  · rename_i a vs ds hs _
    have hs := unm_t hs
    rcases hs with (hs | ⟨o, hs⟩) | ⟨o, its, n, hk, hc, _⟩
    · exact .base (.tup hs)
    · exact .fTuple hs
    · exact .kTuple hk hc
  · exact .base (.lst (mask_le _ _ _ _ (by assumption)))
def gIsi : DC1 := fun ds Q => match ds with
  | [d, .raw (.ty T)] => ∃ t b, dty d = some t ∧ kitB t T = some b ∧ Q (.bl b)
  | _ => False
theorem cd_isi : CallD K (rIsi K) gIsi := fun Z H vs ds Q0 Q gd r hg q => by
  unfold gIsi at hg
  split at hg
  · obtain ⟨v, w, rfl, h, h2⟩ := r.inv2
    obtain ⟨t, b, h3, h4, h5⟩ := hg
    cases h2
    exact ⟨v, _, _, _, b, rfl, .ty _, dty_rep h h3, kit_ty h4, q _ h5 _ H (Step.refl gd) (.bl _)⟩
  · exact hg.elim
end

section
variable {X : Cx} {W : WX} {e : Expr} {es : List Expr} {pos p : Pos} {fs : DA} {x : Str}
theorem pd_callB {id : String} {r : List V → Hp → VK → Prop} {g : DC1} (hc : CallR X (.builtin id) r) (hr : CallD X.K r g) (hg : Gl X x) (hm : X.mg x = none) (hv : bootBuiltins x = some (.builtin id)) (ha : PDA X W (e :: es) fs)
    (hn : x ≠ "__name__" := by decide) (hdb : (x == ("__debug__" : Str)) = false := by decide) (hs : starEach (e :: es) X.env = (false, eval e X.env) :: starEach es X.env := by rfl) (hpl : (backTo pos (starEach es X.env)).any (·.1) = false := by rfl) : PD X W (.Call (.Name x p) (e :: es) [] pos) (dCB g fs) :=
  PE.imp (pe_callB hc hg hm hv ha hn hdb hs hpl) fun σ H Q ⟨Z, O, env, Q0, R0, at_, hf, xk, q⟩ =>
    DTA.mk at_ hf xk fun ds hds vs H1 s r => hr Z H1 vs ds Q0 Q s.good r hds fun d hd v H2 s2 rv => q d hd v H2 (s.trans s2) rv
theorem pd_callTy {T : String} {r : List V → Hp → VK → Prop} {g : DC1} (hc : CallR X (.type T) r) (hr : CallD X.K r g) (hg : Gl X x) (hm : X.mg x = none) (hv : bootBuiltins x = some (.type T)) (ha : PDA X W (e :: es) fs)
    (hn : x ≠ "__name__" := by decide) (hdb : (x == ("__debug__" : Str)) = false := by decide) (hs : starEach (e :: es) X.env = (false, eval e X.env) :: starEach es X.env := by rfl) (hpl : (backTo pos (starEach es X.env)).any (·.1) = false := by rfl) : PD X W (.Call (.Name x p) (e :: es) [] pos) (dCB g fs) :=
  PE.imp (pe_callTy hc hg hm hv ha hn hdb hs hpl) fun σ H Q ⟨Z, O, env, Q0, R0, at_, hf, xk, q⟩ =>
    DTA.mk at_ hf xk fun ds hds vs H1 s r => hr Z H1 vs ds Q0 Q s.good r hds fun d hd v H2 s2 rv => q d hd v H2 (s.trans s2) rv
theorem pdl_callTy {T : String} {r : List V → Hp → VK → Prop} {g : DCL1} (hc : CallR X (.type T) r) (hr : CallDL X.K r g) (hg : Gl X x) (hm : X.mg x = none) (hv : bootBuiltins x = some (.type T)) (ha : PDA X W (e :: es) fs)
    (hn : x ≠ "__name__" := by decide) (hdb : (x == ("__debug__" : Str)) = false := by decide) (hs : starEach (e :: es) X.env = (false, eval e X.env) :: starEach es X.env := by rfl) (hpl : (backTo pos (starEach es X.env)).any (·.1) = false := by rfl) : PDL X W (.Call (.Name x p) (e :: es) [] pos) (dCBL g fs) :=
  PE.imp (pe_callTy hc hg hm hv ha hn hdb hs hpl) fun σ H Q ⟨Z, O, env, Q0, R0, at_, hf, xk, q⟩ =>
    DTA.mk at_ hf xk fun ds hds vs H1 s r => hr Z H1 vs ds Q0 Q s.good r hds fun d hd p v H2 s2 hp rv => q d hd p v H2 (s.trans s2) hp rv
theorem pdl_callB {T : String} {r : List V → Hp → VK → Prop} {g : DCL1} (hc : CallR X (.builtin T) r) (hr : CallDL X.K r g) (hg : Gl X x) (hm : X.mg x = none) (hv : bootBuiltins x = some (.builtin T)) (ha : PDA X W (e :: es) fs)
    (hn : x ≠ "__name__" := by decide) (hdb : (x == ("__debug__" : Str)) = false := by decide) (hs : starEach (e :: es) X.env = (false, eval e X.env) :: starEach es X.env := by rfl) (hpl : (backTo pos (starEach es X.env)).any (·.1) = false := by rfl) : PDL X W (.Call (.Name x p) (e :: es) [] pos) (dCBL g fs) :=
  PE.imp (pe_callB hc hg hm hv ha hn hdb hs hpl) fun σ H Q ⟨Z, O, env, Q0, R0, at_, hf, xk, q⟩ =>
    DTA.mk at_ hf xk fun ds hds vs H1 s r => hr Z H1 vs ds Q0 Q s.good r hds fun d hd p v H2 s2 hp rv => q d hd p v H2 (s.trans s2) hp rv
/-- a built-in class's name as a value; a global constant -/
theorem pd_ty {T : String} (hg : Gl X x) (hm : X.mg x = none) (hv : bootBuiltins x = some (.type T)) (hn : x ≠ "__name__" := by decide) (hdb : (x == ("__debug__" : Str)) = false := by decide) : PD X W (.Name x p) (dC (.raw (.ty T))) :=
  pd_c (pe_bltn hg hm hv (v := .ty T) rfl hn hdb) fun _ _ => .raw _
theorem pd_glob {v : V} {u : Value} {d : D} (hg : Gl X x) (hm : X.mg x = some u) (r : RelV v u) (rd : ∀ vl G, Rep X.K vl G v d) (hdb : (x == ("__debug__" : Str)) = false := by decide) : PD X W (.Name x p) (dC d) :=
  pd_c (pe_glob hg hm r hdb) rd

/-! ### subscripts, slices -/
theorem pd_ix {a b : Expr} {fa fb : DE} (ha : PD X W a fa) (hb : PD X W b fb) (hs : PlainIx b := by exact fun _ _ => rfl) : PD X W (.Subscript a b pos) (dOp gIx fa fb) := PE.imp (pe_ix ix_seq ha hb hs) (two_ev opd_ix)
abbrev DO := Env' → (Option Int → Prop) → DX → Prop
def dPart (f : DE) : DO := fun env Q R => f env (fun d => match d with
  | .int i => Q (some i)
  | _ => False) R
def dNoPart : DO := fun _ Q _ => Q none
def DTO (K : PySem.W.Frag) (f : DO) (W : WX) : TO := fun σ H Q => ∃ Z O env, ∃ (Q0 : Option Int → Prop) (R0 : DX), At K Z O H σ env ∧ f env Q0 R0 ∧ Xk K Z H σ R0 W ∧ ∀ o, Q0 o → ∀ H', Step Z H H' → Q o H'
theorem PO.imp {X : Cx} {e : Option Expr} {t t' : TO} (h : L2.PO X e t) (i : ∀ σ H Q, t' σ H Q → t σ H Q) : L2.PO X e t' := ⟨fun pins s σ H Q I q => h.run pins s σ H Q I (i σ H Q q)⟩
abbrev PDO (X : Cx) (W : WX) (e : Option Expr) (f : DO) : Prop := L2.PO X e (DTO X.K f W)
theorem pdo_none : PDO X W none dNoPart := PO.imp po_none fun σ H Q ⟨Z, O, env, Q0, R0, at_, hf, x, q⟩ => q _ hf H (Step.refl at_.good)
theorem pdo_some {a : Expr} {fa : DE} (h : PD X W a fa) : PDO X W (some a) (dPart fa) := PO.imp (po_some h) fun σ H Q ⟨Z, O, env, Q0, R0, at_, hf, x, q⟩ =>
  DT.mk at_ hf x fun d hd v H1 s r => by
    cases d <;> first | exact False.elim hd | skip
    cases r
    exact ⟨_, rfl, q _ hd H1 s⟩
def cutD (xs : List D) (lo hi : Option Int) : List D := (xs.drop (HT.sIx xs.length 0 lo)).take (HT.sIx xs.length xs.length hi - HT.sIx xs.length 0 lo)
theorem cut_rep {K : PySem.W.Frag} {vl : Option (Addr × Addr)} {G : Hp} {vs : List V} {ds : List D} (r : Reps K vl G vs ds) (lo hi : Option Int) : Reps K vl G (cutV vs lo hi) (cutD ds lo hi) := by
  unfold cutV cutD
  rw [r.length]
  exact (r.drop _).take _
def dSlL (f : DE) (lo hi : DO) : DA := fun env Q R => f env (fun d => lo env (fun i => hi env (fun j => match d with
  | .lst xs => Q (cutD xs i j)
  | _ => False) R) R) R
theorem pdl_slice {a : Expr} {fa : DE} {lo hi : Option Expr} {fl fh : DO} {p2 : Pos} (ha : PD X W a fa) (hl : PDO X W lo fl) (hh : PDO X W hi fh) : PDL X W (.Subscript a (.Slice lo hi none p2) pos) (dSlL fa fl fh) := PE.imp (pe_slice sl_list ha hl hh) fun σ H Q ⟨Z, O, env, Q0, R0, at_, hf, x, q⟩ =>
  DT.mk at_ hf x fun d hd v H1 s1 r1 => by
    refine ⟨Z, O, env, _, R0, at_.step s1, hd, x.step s1, fun i hi H2 s2 => ?_⟩
    refine ⟨Z, O, env, _, R0, at_.step (s1.trans s2), hi, x.step (s1.trans s2), fun j hj H3 s3 => ?_⟩
    cases d <;> first | exact False.elim hj | skip
    obtain ⟨a, vs, rfl, h1, _, r⟩ := rep_lst ((r1.step s2).step s3)
    exact ⟨a, vs, rfl, SqL.of h1, fun p hp => q _ hj p _ H3 ((s1.trans s2).trans s3) hp (cut_rep r i j)⟩
def dSlT (f : DE) (lo hi : DO) : DE := fun env Q R => f env (fun d => lo env (fun i => hi env (fun j => match d with
  | .tup xs => Q (.tup (cutD xs i j))
  | _ => False) R) R) R
theorem pd_sliceT {a : Expr} {fa : DE} {lo hi : Option Expr} {fl fh : DO} {p2 : Pos} (ha : PD X W a fa) (hl : PDO X W lo fl) (hh : PDO X W hi fh) : PD X W (.Subscript a (.Slice lo hi none p2) pos) (dSlT fa fl fh) := PE.imp (pe_slice sl_tupA ha hl hh) fun σ H Q ⟨Z, O, env, Q0, R0, at_, hf, x, q⟩ =>
  DT.mk at_ hf x fun d hd v H1 s1 r1 => by
    refine ⟨Z, O, env, _, R0, at_.step s1, hd, x.step s1, fun i hi H2 s2 => ?_⟩
    refine ⟨Z, O, env, _, R0, at_.step (s1.trans s2), hi, x.step (s1.trans s2), fun j hj H3 s3 => ?_⟩
    cases d <;> first | exact False.elim hj | skip
    rename_i es
    have s13 := (s1.trans s2).trans s3
    have r3 := (r1.step s2).step s3
    have hj : Q0 (.tup (cutD es i j)) := hj
    cases r3 with
    | tup a vs ds h r =>
      refine ⟨a, vs, rfl, unm_t h, fun hw => q _ hj _ H3 s13 ?_, fun hw p hp => q _ hj _ _ (s13.trans (Step.new s3.good _ hp)) (new_tup s3.good hp (cut_rep r i j))⟩
      have e : cutD es i j = es := by
        unfold cutD
        rw [← r.length, hw.1, hw.2, List.drop_zero, Nat.sub_zero, r.length, List.take_length]
      rw [e]
      exact .tup a vs _ h r
/-- xs[::-1] -/
def dRevL (f : DE) : DA := fun env Q R => f env (fun d => match d with
  | .lst xs => Q xs.reverse
  | _ => False) R
theorem pdl_rev {a : Expr} {fa : DE} {k : Nat} {p1 p2 p3 : Pos} (ha : PD X W a fa) : PDL X W (.Subscript a (.Slice none none (some (.UnaryOp .USub (.Constant (.int 1) k p1) p2)) p3) pos) (dRevL fa) := PE.imp (pe_revL ha) fun σ H Q ⟨Z, O, env, Q0, R0, at_, hf, x, q⟩ =>
  DT.mk at_ hf x fun d hd v H1 s r => by
    cases d <;> first | exact False.elim hd | skip
    obtain ⟨a, vs, rfl, h1, _, r⟩ := rep_lst r
    exact ⟨a, vs, rfl, SqL.of h1, fun p hp => q _ hd p _ H1 s hp r.reverse⟩

/-! ### a slot of an instance -/
def dSlot (C : Addr) (i : Nat) (f : DE) : DE := fun env Q R => f env (fun d => match d with
  | .obj C' ds => C' = C ∧ ∃ y, ds[i]? = some y ∧ Q y
  | _ => False) R
theorem pd_slot {a : Expr} {fa : DE} {f : Str} {C q : Addr} {i : Nat} (ha : PD X W a fa) (hc : SlX.SCls X.K C) (hs : SlX.Slot1 X.K C f q i) (hb : attributeBase a f X.env (eval a X.env) = eval a X.env := by rfl) : PD X W (.Attribute a f pos) (dSlot C i fa) := PE.imp (SlX.pe_sl ha hb) fun σ H Q ⟨Z, O, env, Q0, R0, at_, hf, x, qq⟩ =>
  DT.mk at_ hf x fun d hd v H1 s r => by
    cases d <;> first | exact False.elim hd | skip
    obtain ⟨ec, y, hy, hd⟩ := hd
    subst ec
    cases r with
    | obj a _ dx vs ds h r =>
      obtain ⟨u, hu, ru⟩ := r.get hy
      exact ⟨a, _, dx, q, vs.map some, i, u, rfl, (mask_le Z H1).slt h, hc, hs, by rw [List.getElem?_map, hu]; rfl, qq _ hd _ H1 s ru⟩
end

/-! ### promises of defs -/
abbrev DF := List D → (D → Prop) → DX → Prop
def spD (K : PySem.W.Frag) (n : Nat) (F : DF) : Sp := fun vs H Q E => vs.length = n ∧ ∃ Z ds, ∃ (Q0 : D → Prop) (R0 : DX), Good Z H ∧ RepsZ K Z H vs ds ∧ F ds Q0 R0 ∧
  (∀ x, R0 x → ∀ cls d H', Step Z H H' → RepX K Z H' cls d x → E cls d H') ∧ ∀ d, Q0 d → ∀ v H', Step Z H H' → RepZ K Z H' v d → Q v H'
theorem spD_imp {K : PySem.W.Frag} {n : Nat} {F G : DF} (h : ∀ ds Q R, G ds Q R → F ds Q R) : ∀ vs H Q E, spD K n G vs H Q E → spD K n F vs H Q E := fun vs H Q E ⟨hl, Z, ds, Q0, R0, a, b, c, d⟩ => ⟨hl, Z, ds, Q0, R0, a, b, h _ _ _ c, d⟩
/-- a def that is called by its global name -/
structure Cal (P : Program) (w : World) (K : PySem.W.Frag) (mg : Str → Option Value) (base : Heap) (k : Nat) (x : Str) (n : Nat) (F : DF) : Prop where
  ex : ∃ f fd ps, FnOk P w K mg base (L2.CX P w) k f fd ps (spD K n F) ∧ mg x = some (.ref f) ∧ PySem.W.keepIn K (.ref f) = true ∧ Binds K fd ps []
theorem Cal.imp {P : Program} {w : World} {K : PySem.W.Frag} {mg : Str → Option Value} {base : Heap} {k : Nat} {x : Str} {n : Nat} {F G : DF} (c : Cal P w K mg base k x n F) (h : ∀ ds Q R, G ds Q R → F ds Q R) : Cal P w K mg base k x n G := by
  obtain ⟨f, fd, ps, a, b⟩ := c.ex
  exact ⟨f, fd, ps, a.imp (spD_imp h), b⟩
def dCall (n : Nat) (F : DF) (fs : DA) : DE := fun env Q R => fs env (fun ds => ds.length = n ∧ F ds Q R) R
section
variable {X : Cx} {W : WX} {e : Expr} {es : List Expr} {pos p : Pos} {fs : DA} {x : Str} {k j n : Nat} {F : DF}
theorem pd_call (c : Cal X.prog X.w X.K X.mg X.base k x n F) (hr : Room j X.A) (hk : k ≤ j) (hg : Gl X x) (tk : Takes X W) (ha : PDA X W (e :: es) fs) 
    (hdb : (x == ("__debug__" : Str)) = false := by decide) (he : starEach (e :: es) X.env = (false, eval e X.env) :: starEach es X.env := by rfl) (hpl : (backTo pos (starEach es X.env)).any (·.1) = false := by rfl) :
    PD X W (.Call (.Name x p) (e :: es) [] pos) (dCall n F fs) := by
  obtain ⟨f, fd, ps, FO, hm, hkp, hb⟩ := c.ex
  exact PE.imp (pe_callS FO (hr.mono hk) hg hm hkp hb (fun σ => passAt tk σ) ha hdb he hpl) fun σ H Q ⟨Z, O, env, Q0, R0, at_, hf, xk, q⟩ =>
    DTA.mk at_ hf xk fun ds hds vs H1 s r => ⟨by rw [r.length]; exact hds.1, Z, ds, Q0, R0, s.good, r, hds.2, fun y hy cls d H2 s2 rx => xk y hy cls d H2 (s.trans s2) rx, fun d hd v H2 s2 rv => q d hd v H2 (s.trans s2) rv⟩
end
end Dl

set_option maxHeartbeats 1000000
/-! The tree layer: what is walked, targets, statements, loops, comprehensions. -/
namespace Dl
open PySem PySem.Spec PyProof.Rows L2

/-! ### what is walked -/
structure ItR (K : PySem.W.Frag) (vl : Option (Addr × Addr)) (J : It) (G : Hp) (ds : List D) : Prop where
  go : ∀ (Z : Zn) (H : Hp), Z.vol = vl → Le G (mask Z H) → Good Z H → ∀ (i : Nat) (d : D), ds[i]? = some d → J.go i H ∧ ∀ x H2, J.yld i H x H2 → Step Z H H2 ∧ RepZ K Z H2 x d
  stop : ∀ (Z : Zn) (H : Hp), Z.vol = vl → Le G (mask Z H) → Good Z H → ∀ (i : Nat), ds[i]? = none → J.stop i H
theorem ItR.mono {K : PySem.W.Frag} {vl : Option (Addr × Addr)} {J : It} {G G' : Hp} {ds : List D} (r : ItR K vl J G ds) (e : Le G G') : ItR K vl J G' ds := ⟨fun Z H a b c => r.go Z H a (e.trans b) c, fun Z H a b c => r.stop Z H a (e.trans b) c⟩
def DTI (K : PySem.W.Frag) (f : DA) (W : WX) : TI := fun σ H R => ∃ Z O env, ∃ (Q0 : List D → Prop) (R0 : DX), At K Z O H σ env ∧ f env Q0 R0 ∧ Xk K Z H σ R0 W ∧ ∀ ds, Q0 ds → ∀ J H', Step Z H H' → ItR K Z.vol J (mask Z H') ds → R J H'
theorem PI.imp {X : Cx} {tg e : Expr} {t t' : TI} (h : L2.PI X tg e t) (i : ∀ σ H Q, t' σ H Q → t σ H Q) : L2.PI X tg e t' := ⟨fun pins s σ H Q I q => h.run pins s σ H Q I (i σ H Q q)⟩
abbrev PDI (X : Cx) (W : WX) (tg e : Expr) (f : DA) : Prop := L2.PI X tg e (DTI X.K f W)
section
variable {K : PySem.W.Frag}
theorem itr_list {vl : Option (Addr × Addr)} {G : Hp} {a : Addr} {vs : List V} {ds : List D} (h : G a = some (.lst vs)) (r : Reps K vl G vs ds) : ItR K vl (Itl K a) G ds where
  go := fun Z H e le gd i d hd => by
    obtain ⟨v, hv, rv⟩ := r.get hd
    have hs : SqL K H a vs := SqL.of (mask_le Z H _ _ (le _ _ h))
    refine ⟨⟨vs, v, hs, hv⟩, fun x H2 y => ?_⟩
    obtain ⟨rfl, y⟩ := y
    have e2 := y vs hs
    rw [hv] at e2
    cases e2
    subst e
    exact ⟨Step.refl gd, Rep.mono le rv⟩
  stop := fun Z H e le gd i hd => ⟨vs, SqL.of (mask_le Z H _ _ (le _ _ h)), by rw [r.length]; exact List.getElem?_eq_none_iff.mp hd⟩
theorem itr_tup {vl : Option (Addr × Addr)} {G : Hp} {a : Addr} {vs : List V} {ds : List D} (h : SqT K G a vs) (r : Reps K vl G vs ds) : ItR K vl (Itt K a) G ds where
  go := fun Z H e le gd i d hd => by
    obtain ⟨v, hv, rv⟩ := r.get hd
    have hs : SqT K H a vs := (mask_le Z H).sqt (le.sqt h)
    refine ⟨⟨vs, v, hs, hv⟩, fun x H2 y => ?_⟩
    obtain ⟨rfl, y⟩ := y
    have e2 := y vs hs
    rw [hv] at e2
    cases e2
    subst e
    exact ⟨Step.refl gd, Rep.mono le rv⟩
  stop := fun Z H e le gd i hd => ⟨vs, (mask_le Z H).sqt (le.sqt h), by rw [r.length]; exact List.getElem?_eq_none_iff.mp hd⟩
/-- lo, lo + 1, .. -/
def rng (lo : Int) (n : Nat) : List D := (List.range n).map fun k => .int (lo + (k : Nat))
theorem rng_get {lo : Int} {n i : Nat} : (rng lo n)[i]? = if i < n then some (.int (lo + (i : Nat))) else none := by
  unfold rng
  rw [List.getElem?_map]
  by_cases h : i < n
  · rw [List.getElem?_range h, if_pos h]; rfl
  · rw [List.getElem?_eq_none (by rw [List.length_range]; omega), if_neg h]; rfl
theorem rng_length {lo : Int} {n : Nat} : (rng lo n).length = n := by unfold rng; rw [List.length_map, List.length_range]
theorem itr_range {vl : Option (Addr × Addr)} {G : Hp} {lo : Int} {n : Nat} : ItR K vl (Itr lo n) G (rng lo n) where
  go := fun Z H e le gd i d hd => by
    rw [rng_get] at hd
    split at hd
    · rename_i hi
      cases hd
      refine ⟨hi, fun x H2 y => ?_⟩
      obtain ⟨rfl, rfl⟩ := y
      exact ⟨Step.refl gd, .int _⟩
    · cases hd
  stop := fun Z H e le gd i hd => by
    rw [rng_get] at hd
    split at hd
    · cases hd
    · rename_i hi
      exact Nat.le_of_not_lt hi
end
def dItL (f : DE) : DA := fun env Q R => f env (fun d => match d with
  | .lst xs => Q xs
  | _ => False) R
def dItT (f : DE) : DA := fun env Q R => f env (fun d => match d with
  | .tup xs => Q xs
  | _ => False) R
def dRng1 (f : DA) : DA := fun env Q R => f env (fun ds => match ds with
  | [.int j] => -(2 ^ 62) ≤ j ∧ j < 2 ^ 62 ∧ Q (rng 0 j.toNat)
  | _ => False) R
def dRng2 (f : DA) : DA := fun env Q R => f env (fun ds => match ds with
  | [.int i, .int j] => (-(2 ^ 62) ≤ i ∧ i < 2 ^ 62 ∧ -(2 ^ 62) ≤ j ∧ j < 2 ^ 62) ∧ Q (rng i (j - i).toNat)
  | _ => False) R
section
variable {X : Cx} {W : WX} {tg e a b : Expr} {pos p : Pos} {fe : DE} {fs : DA}
theorem pdi_list (h : PD X W e fe) : PDI X W tg e (dItL fe) := PI.imp (pi_list h) fun σ H Q ⟨Z, O, env, Q0, R0, at_, hf, x, q⟩ =>
  DT.mk at_ hf x fun d hd v H1 s r => by
    cases d <;> first | exact False.elim hd | skip
    obtain ⟨a, vs, rfl, h1, h2, r⟩ := rep_lst r
    exact ⟨a, rfl, ⟨vs, SqL.of h1⟩, q _ hd _ H1 s (itr_list h2 r)⟩
theorem pdi_tup (h : PD X W e fe) : PDI X W tg e (dItT fe) := PI.imp (pi_tup h) fun σ H Q ⟨Z, O, env, Q0, R0, at_, hf, x, q⟩ =>
  DT.mk at_ hf x fun d hd v H1 s r => by
    cases d <;> first | exact False.elim hd | skip
    cases r with
    | tup a vs ds h r => exact ⟨a, rfl, ⟨vs, unm_t h⟩, q _ hd _ H1 s (itr_tup h r)⟩
theorem pdi_range1 (hg : Gl X "range") (hm : X.mg "range" = none) (ha : PDA X W [a] fs) (hs : starEach [a] X.env = [(false, eval a X.env)] := by rfl) : PDI X W tg (.Call (.Name "range" p) [a] [] pos) (dRng1 fs) := PI.imp (pi_range1 hg hm ha hs) fun σ H Q ⟨Z, O, env, Q0, R0, at_, hf, x, q⟩ =>
  DTA.mk at_ hf x fun ds hd vs H1 s r => by
    split at hd
    · obtain ⟨v, rfl, h⟩ := r.inv1
      cases h
      exact ⟨_, rfl, hd.1, hd.2.1, q _ hd.2.2 _ H1 s itr_range⟩
    · exact hd.elim
theorem pdi_range2 (hg : Gl X "range") (hm : X.mg "range" = none) (ha : PDA X W [a, b] fs) (hs : starEach [a, b] X.env = [(false, eval a X.env), (false, eval b X.env)] := by rfl) (hs2 : starEach [b] X.env = [(false, eval b X.env)] := by rfl) : PDI X W tg (.Call (.Name "range" p) [a, b] [] pos) (dRng2 fs) :=
  PI.imp (pi_range2 hg hm ha hs hs2) fun σ H Q ⟨Z, O, env, Q0, R0, at_, hf, x, q⟩ =>
  DTA.mk at_ hf x fun ds hd vs H1 s r => by
    split at hd
    · obtain ⟨v, w, rfl, h, h2⟩ := r.inv2
      cases h; cases h2
      exact ⟨_, _, rfl, hd.1, q _ hd.2 _ H1 s itr_range⟩
    · exact hd.elim
end

/-! ### targets -/
abbrev DTg := D → Env' → (Env' → Prop) → Prop
/-- names set: the slots ws alone change -/
def TgOk (K : PySem.W.Frag) (g : TG) (gt : DTg) (ws : List Nat) : Prop := ∀ (Z : Zn) (O : Own) (H : Hp) (σ : L2.St) (env : Env') (v : V) (d : D) (Q : L2.St → Hp → Prop) (Q0 : Env' → Prop), At K Z O H σ env → RepZ K Z H v d → gt d env Q0 →
  (∀ env', Q0 env' → ∀ σ', At K Z O H σ' env' → (∀ us : List Nat, (∀ i ∈ ws, i ∈ us) → wipe σ' us = wipe σ us) → Q σ' H) → g v σ H Q
theorem wipe_set {σ : L2.St} {i : Nat} {x : Option V} : ∀ {us : List Nat}, i ∈ us → wipe (σ.set i x) us = wipe σ us
  | [], h => by simp at h
  | u :: us, h => by
    unfold wipe
    by_cases hu : i ∈ us
    · rw [wipe_set hu]
    · have e : i = u := by
        rcases List.mem_cons.mp h with h | h
        · exact h
        · exact absurd h hu
      subst e
      have hh : ∀ vs : List Nat, i ∉ vs → wipe (σ.set i x) vs = (wipe σ vs).set i x := by
        intro vs
        induction vs with
        | nil => intro _; rfl
        | cons w ws ih =>
          intro hn
          simp only [List.mem_cons, not_or] at hn
          unfold wipe
          rw [ih hn.2, List.set_comm _ _ (fun q => hn.1 q)]
      rw [hh us hu, List.set_set]
theorem RepE.set {K : PySem.W.Frag} {Z : Zn} {O : Own} {H : Hp} {σ : L2.St} {env : Env'} (h : RepE K Z O H σ env) {v : V} {d : D} (r : RepZ K Z H v d) (i : Nat) : RepE K Z O H (σ.set i (some v)) (env.set i (.val d)) := by
  refine ⟨by rw [List.length_set, List.length_set]; exact h.len, fun j s e => ?_, h.sub⟩
  by_cases hj : i = j
  · subst hj
    by_cases hi : i < env.length
    · rw [List.getElem?_set_self hi] at e
      cases e
      exact ⟨some v, List.getElem?_set_self (by rw [h.len]; exact hi), v, rfl, r⟩
    · rw [List.getElem?_eq_none (by rw [List.length_set]; omega)] at e
      cases e
  · rw [List.getElem?_set_ne hj] at e ⊢
    exact h.at_ j s e
theorem At.set {K : PySem.W.Frag} {Z : Zn} {O : Own} {H : Hp} {σ : L2.St} {env : Env'} (h : At K Z O H σ env) {v : V} {d : D} (r : RepZ K Z H v d) (i : Nat) : At K Z O H (σ.set i (some v)) (env.set i (.val d)) := ⟨h.good, h.env.set r i⟩
def dgName (i : Nat) : DTg := fun d env Q => Q (env.set i (.val d))
theorem tg_name {K : PySem.W.Frag} {i : Nat} : TgOk K (gName i) (dgName i) [i] := fun Z O H σ env v d Q Q0 a r h q => q _ h _ (a.set r i) fun us hu => wipe_set (hu i (by simp))
def dgSets : List Nat → List D → Env' → (Env' → Prop) → Prop
  | [], [], env, Q => Q env
  | i :: is, d :: ds, env, Q => dgSets is ds (env.set i (.val d)) Q
  | _, _, _, _ => False
def dgTup (is : List Nat) : DTg := fun d env Q => match d with
  | .tup ds => dgSets is ds env Q
  | _ => False
def gNames : List Nat → TGs
  | [] => gNil
  | i :: is => gCons (gName i) (gNames is)
theorem sets_ok {K : PySem.W.Frag} {Z : Zn} {O : Own} {H : Hp} {Q : L2.St → Hp → Prop} {Q0 : Env' → Prop} {σ0 : L2.St} {ws : List Nat} (q : ∀ env', Q0 env' → ∀ σ', At K Z O H σ' env' → (∀ us : List Nat, (∀ i ∈ ws, i ∈ us) → wipe σ' us = wipe σ0 us) → Q σ' H) :
    ∀ (is : List Nat) (vs : List V) (ds : List D) (σ : L2.St) (env : Env'), (∀ i ∈ is, i ∈ ws) → At K Z O H σ env → RepsZ K Z H vs ds → (∀ us : List Nat, (∀ i ∈ ws, i ∈ us) → wipe σ us = wipe σ0 us) → dgSets is ds env Q0 → gNames is vs σ H Q
  | [], _, [], σ, env, _, a, .nil, hw, h => ⟨rfl, q _ h _ a hw⟩
  | i :: is, _, _ :: _, σ, env, hi, a, .cons v d vs ds rv r, hw, h =>
    ⟨v, vs, rfl, sets_ok q is vs ds _ _ (fun j hj => hi j (List.mem_cons_of_mem _ hj)) (a.set rv i) r (fun us hu => (wipe_set (hu i (hi i List.mem_cons_self))).trans (hw us hu)) h⟩
  | [], _, _ :: _, σ, env, _, a, r, hw, h => False.elim h
  | i :: is, _, [], σ, env, _, a, r, hw, h => False.elim h
theorem sets_len {Q : Env' → Prop} : ∀ (is : List Nat) (ds : List D) (env : Env'), dgSets is ds env Q → is.length = ds.length
  | [], [], _, _ => rfl
  | i :: is, d :: ds, env, h => by
    have := sets_len is ds _ h
    simp only [List.length_cons]
    omega
  | [], _ :: _, _, h => False.elim h
  | _ :: _, [], _, h => False.elim h
theorem tg_tup {K : PySem.W.Frag} {is : List Nat} {n : Nat} (hn : is.length = n := by rfl) : TgOk K (gTup K n (gNames is)) (dgTup is) is := fun Z O H σ env v d Q Q0 a r h q => by
  cases d <;> first | exact False.elim h | skip
  have h : dgSets is _ env Q0 := h
  cases r with
  | tup b vs ds hs r =>
    have hl : is.length = vs.length := (sets_len _ _ _ h).trans r.length.symm
    refine ⟨b, vs, rfl, unm_t hs, by rw [← hl]; exact hn, ?_⟩
    exact sets_ok q is vs _ σ env (fun _ z => z) a r (fun _ _ => rfl) h

/-! ### statements -/
structure Kn where
  nx : Env' → Prop
  rt : D → Prop
  rtL : List D → Prop
  bk : Env' → Prop
  ct : Env' → Prop
  xc : Exc → Env' → Prop
abbrev DG := Env' → Kn → Prop
def Zn.add (Z : Zn) (O : Own) : Zn := ⟨O.map (fun q => (q.2.1, q.2.2)) ++ Z.own, Z.vol⟩
abbrev StAt (K : PySem.W.Frag) (Z : Zn) (O : Own) (H : Hp) (σ : L2.St) (env : Env') : Prop := At K (Z.add O) O H σ env
abbrev Lt (Z : Zn) (O : Own) (H : Hp) (O' : Own) (H' : Hp) : Prop := Le (mask (Z.add O) H) (mask (Z.add O') H')
structure KOk (K : PySem.W.Frag) (Z : Zn) (O : Own) (H : Hp) (k : Kn) (D : Ends) (W : WX) : Prop where
  nx : ∀ env', k.nx env' → ∀ O' σ' H', Lt Z O H O' H' → StAt K Z O' H' σ' env' → D.nx σ' H'
  rt : ∀ d, k.rt d → ∀ O' v H', Lt Z O H O' H' → Good (Z.add O') H' → RepZ K (Z.add O') H' v d → D.rt v H'
  rtL : ∀ ds, k.rtL ds → ∀ O' p vs H', Lt Z O H O' H' → Good (Z.add O') H' → H' p = none → RepsZ K (Z.add O') H' vs ds → D.rt (.ref p) (upd H' p (.lst vs))
  bk : ∀ env', k.bk env' → ∀ O' σ' H', Lt Z O H O' H' → StAt K Z O' H' σ' env' → D.bk σ' H'
  ct : ∀ env', k.ct env' → ∀ O' σ' H', Lt Z O H O' H' → StAt K Z O' H' σ' env' → D.ct σ' H'
  xc : ∀ x env', k.xc x env' → ∀ O' cls d σ' H', Lt Z O H O' H' → StAt K Z O' H' σ' env' → RepX K (Z.add O') H' cls d x → W cls d σ' H'
theorem KOk.step {K : PySem.W.Frag} {Z : Zn} {O O1 : Own} {H H1 : Hp} {k : Kn} {D : Ends} {W : WX} (h : KOk K Z O H k D W) (e : Lt Z O H O1 H1) : KOk K Z O1 H1 k D W :=
  ⟨fun env' a O' σ' H' b => h.nx env' a O' σ' H' (e.trans b), fun d a O' v H' b => h.rt d a O' v H' (e.trans b), fun ds a O' p vs H' b => h.rtL ds a O' p vs H' (e.trans b), fun env' a O' σ' H' b => h.bk env' a O' σ' H' (e.trans b), fun env' a O' σ' H' b => h.ct env' a O' σ' H' (e.trans b), fun x env' a O' cls d σ' H' b => h.xc x env' a O' cls d σ' H' (e.trans b)⟩
theorem KOk.xk {K : PySem.W.Frag} {Z : Zn} {O : Own} {H : Hp} {σ : L2.St} {env : Env'} {k : Kn} {D : Ends} {W : WX} (h : KOk K Z O H k D W) (a : StAt K Z O H σ env) : Xk K (Z.add O) H σ (fun x => k.xc x env) W := fun x hx cls d H' s r => h.xc x env hx O cls d σ H' s.le (a.step s) r
def DS (K : PySem.W.Frag) (g : DG) (W : WX) : TS := fun D σ H => ∃ Z O env k, StAt K Z O H σ env ∧ g env k ∧ KOk K Z O H k D W
abbrev PDS (X : Cx) (W : WX) (st : Stmt) (g : DG) : Prop := L2.PS X st (DS X.K g W)
abbrev PDSs (X : Cx) (W : WX) (st : List Stmt) (g : DG) : Prop := L2.PSs X st (DS X.K g W)
def dNx : DG := fun env k => k.nx env
def dSeq (g1 g2 : DG) : DG := fun env k => g1 env { k with nx := fun e => g2 e k }
section
variable {X : Cx} {W : WX} {st : Stmt} {rest : List Stmt} {g g2 : DG} {pos pos' : Pos} {e a b : Expr} {fe : DE} {fs : DA}
theorem dss_nil : PDSs X W [] dNx := PSs.imp pss_nil fun D σ H ⟨Z, O, env, k, a, h, ko⟩ => ko.nx _ h O σ H (Le.refl _) a
theorem dss_cons (h1 : PDS X W st g) (h2 : PDSs X W rest g2) : PDSs X W (st :: rest) (dSeq g g2) := PSs.imp (pss_cons h1 h2) fun D σ H ⟨Z, O, env, k, a, h, ko⟩ =>
  ⟨Z, O, env, _, a, h, ⟨fun env' q O' σ' H' l s => ⟨Z, O', env', k, s, q, ko.step l⟩, ko.rt, ko.rtL, ko.bk, ko.ct, ko.xc⟩⟩
theorem dss_one (h1 : PDS X W st g) : PDSs X W [st] g := pss_one h1
/-- what the proof never comes to -/
def dNever : DG := fun _ _ => False
theorem ds_never : PDS X W st dNever := PS.imp ps_never fun D σ H ⟨Z, O, env, k, a, h, ko⟩ => h
theorem dss_never : PDSs X W rest dNever := PSs.imp pss_never fun D σ H ⟨Z, O, env, k, a, h, ko⟩ => h
theorem ds_pass : PDS X W (.Pass pos) dNx := PS.imp ps_pass fun D σ H ⟨Z, O, env, k, a, h, ko⟩ => ko.nx _ h O σ H (Le.refl _) a
theorem ds_doc {x : Str} {j : Nat} : PDS X W (.Expr (.Constant (.str x) j pos) pos') dNx := PS.imp ps_doc fun D σ H ⟨Z, O, env, k, a, h, ko⟩ => ko.nx _ h O σ H (Le.refl _) a
def dSet (i : Nat) (f : DE) : DG := fun env k => f env (fun d => k.nx (env.set i (.val d))) (fun x => k.xc x env)
theorem ds_set {i : Nat} {x : Str} (hN : X.N.Nodup) (hi : X.N[i]? = some x) (hx : Loc X.env.scope x) (he : PD X W e fe) (hs : swapsWith e (some (.Name x pos')) pos.line X.env = pure false := by rfl) (hf : X.fn x = true ∨ X.env.scope.names.lookup x = some .local := by first | exact .inl rfl | exact .inr rfl | assumption) :
    PDS X W (.Assign [.Name x pos'] e pos) (dSet i fe) := PS.imp (ps_set hN hi hx he hs hf) fun D σ H ⟨Z, O, env, k, a, h, ko⟩ =>
  DT.mk a h (ko.xk a) fun d hd v H1 s r => ko.nx _ hd O _ H1 s.le ((a.step s).set r i)
def dAsg (f : DE) (gt : DTg) : DG := fun env k => f env (fun d => gt d env k.nx) (fun x => k.xc x env)
theorem ds_asg {tg : Expr} {t : TG} {gt : DTg} {ws : List Nat} (he : PD X W e fe) (hg : L2.PG X tg t) (ht : TgOk X.K t gt ws) (hs : swapsWithSole [tg] e pos.line X.env = pure false := by rfl) (hw : swappedStores [tg] e X.env = pure none := by rfl)
    (h1 : (assignEach [tg] X.env).map (·.2) = [assign tg X.env] := by rfl) : PDS X W (.Assign [tg] e pos) (dAsg fe gt) := PS.imp (ps_asg he hg hs hw h1) fun D σ H ⟨Z, O, env, k, a, h, ko⟩ =>
  DT.mk a h (ko.xk a) fun d hd v H1 s r => ht _ O H1 σ env v d D.nx k.nx (a.step s) r hd fun env' hn σ' a' _ => ko.nx env' hn O σ' H1 s.le a'
/-- a, b = e, e' -/
def dPar (i j : Nat) (f : DA) : DG := fun env k => f env (fun ds => match ds with
  | [d, e] => k.nx ((env.set i (.val d)).set j (.val e))
  | _ => False) (fun x => k.xc x env)
theorem ds_par {i j : Nat} {x y : Str} {px py pt pt2 : Pos} {kt k2 : Nat} (hc : X.calm = true) (hN : X.N.Nodup) (hi : X.N[i]? = some x) (hj : X.N[j]? = some y) (hij : i ≠ j)
    (hx : X.env.scope.names.lookup x = some .local) (hy : X.env.scope.names.lookup y = some .local) (ha : PDA X W [a, b] fs)
    (hw : swappedStores [.Tuple [.Name x px, .Name y py] kt pt] (.Tuple [a, b] k2 pt2) X.env = pure (some [x, y]))
    (hs : swapsWithSole [.Tuple [.Name x px, .Name y py] kt pt] (.Tuple [a, b] k2 pt2) pos.line X.env = pure false := by rfl) :
    PDS X W (.Assign [.Tuple [.Name x px, .Name y py] kt pt] (.Tuple [a, b] k2 pt2) pos) (dPar i j fs) := PS.imp (ps_par hc hN hi hj hij hx hy ha hw hs) fun D σ H ⟨Z, O, env, k, a, h, ko⟩ =>
  DTA.mk a h (ko.xk a) fun ds hd vs H1 s r => by
    split at hd
    · obtain ⟨v, w, rfl, h1, h2⟩ := r.inv2
      exact ⟨v, w, rfl, ko.nx _ hd O _ H1 s.le (((a.step s).set h1 i).set h2 j)⟩
    · exact hd.elim
def dExpr (f : DE) : DG := fun env k => f env (fun _ => k.nx env) (fun x => k.xc x env)
theorem ds_expr (he : PD X W e fe) (hs : swapsWith e none pos.line X.env = pure false := by rfl) : PDS X W (.Expr e pos) (dExpr fe) := PS.imp (ps_expr he hs) fun D σ H ⟨Z, O, env, k, a, h, ko⟩ =>
  DT.mk a h (ko.xk a) fun d hd v H1 s r => ko.nx _ hd O _ H1 s.le (a.step s)
def dRet (f : DE) : DG := fun env k => f env k.rt (fun x => k.xc x env)
theorem ds_ret (he : PD X W e fe) : PDS X W (.Return (some e) pos) (dRet fe) := PS.imp (ps_ret he) fun D σ H ⟨Z, O, env, k, a, h, ko⟩ =>
  DT.mk a h (ko.xk a) fun d hd v H1 s r => ko.rt _ hd O _ H1 s.le s.good r
/-- a new list is returned -/
def dRetL (f : DA) : DG := fun env k => f env k.rtL (fun x => k.xc x env)
theorem ds_retL {fl : DA} (he : PDL X W e fl) : PDS X W (.Return (some e) pos) (dRetL fl) := PS.imp (ps_ret he) fun D σ H ⟨Z, O, env, k, a, h, ko⟩ =>
  ⟨_, O, env, _, _, a, h, ko.xk a, fun ds hd p vs H1 s hp r => ko.rtL _ hd O p vs H1 s.le s.good hp r⟩
def dIfS (t : DB) (g1 g2 : DG) : DG := fun env k => t env (fun b => if b = true then g1 env k else g2 env k) (fun x => k.xc x env)
theorem ds_if {c : Expr} {t : DB} {xs ys : List Stmt} (hc : PDB X W c t) (h1 : PDSs X W xs g) (h2 : PDSs X W ys g2) : PDS X W (.If c xs ys pos) (dIfS t g g2) := PS.imp (ps_if hc h1 h2) fun D σ H ⟨Z, O, env, k, a, h, ko⟩ =>
  DTB.mk a h (ko.xk a) fun q hq H1 s => by
    cases q with
    | true => rw [if_pos rfl] at hq ⊢; exact ⟨Z, O, env, k, a.step s, hq, ko.step s.le⟩
    | false => rw [if_neg Bool.false_ne_true] at hq ⊢; exact ⟨Z, O, env, k, a.step s, hq, ko.step s.le⟩

/-! ### for, while -/
def dForL (gt : DTg) (gb : DG) : List D → Env' → Kn → Prop
  | [], env, k => k.nx env
  | d :: ds, env, k => gt d env fun e1 => gb e1 { k with nx := fun e => dForL gt gb ds e k, ct := fun e => dForL gt gb ds e k, bk := k.nx }
def dFor (fi : DA) (gt : DTg) (gb : DG) : DG := fun env k => fi env (fun ds => dForL gt gb ds env k) (fun x => k.xc x env)
theorem add_vol (Z : Zn) (O : Own) : (Z.add O).vol = Z.vol := rfl
theorem for_ev {K : PySem.W.Frag} {t : TG} {gt : DTg} {ws : List Nat} {gb : DG} (ht : TgOk K t gt ws) {D : Ends} {σ : L2.St} {H1 : Hp} {Z : Zn} {O : Own} {env : Env'} {k : Kn} {ds : List Dl.D} {J : It} (a : StAt K Z O H1 σ env) (h : dForL gt gb ds env k) (ko : KOk K Z O H1 k D W) (it : ItR K Z.vol J (mask (Z.add O) H1) ds) :
    ∃ Wv : Nat → Nat → L2.St → Hp → Prop, (∃ m, Wv 0 m σ H1) ∧ ∀ i m σ H, Wv i m σ H → (J.stop i H ∧ D.nx σ H) ∨ (J.go i H ∧ ∃ N : L2.St → Hp → Prop, (∀ σ' H', N σ' H' → ∃ m', m' < m ∧ Wv (i + 1) m' σ' H') ∧ ∀ x H', J.yld i H x H' → t x σ H' fun σ2 H2 => DS K gb W { D with nx := N, ct := N, bk := D.nx } σ2 H2) := by
  refine ⟨fun i m σ' H' => m = ds.length - i ∧ i ≤ ds.length ∧ ∃ O' env', Lt Z O H1 O' H' ∧ StAt K Z O' H' σ' env' ∧ dForL gt gb (ds.drop i) env' k, ⟨_, rfl, Nat.zero_le _, O, env, Le.refl _, a, h⟩, ?_⟩
  rintro i m σ' H' ⟨rfl, hi, O', env', l, a', h'⟩
  by_cases hlt : i < ds.length
  · have hd : ds[i]? = some ds[i] := List.getElem?_eq_getElem hlt
    obtain ⟨g1, g2⟩ := it.go (Z.add O') H' rfl l a'.good i _ hd
    rw [List.drop_eq_getElem_cons hlt] at h'
    refine .inr ⟨g1, fun σ3 H3 => ∃ O3 env3, Lt Z O H1 O3 H3 ∧ StAt K Z O3 H3 σ3 env3 ∧ dForL gt gb (ds.drop (i + 1)) env3 k, fun σ3 H3 ⟨O3, env3, l3, a3, h3⟩ => ⟨ds.length - (i + 1), by omega, rfl, hlt, O3, env3, l3, a3, h3⟩, fun x H2 y => ?_⟩
    obtain ⟨s, r⟩ := g2 x H2 y
    refine ht _ O' H2 σ' env' x _ _ _ (a'.step s) r h' fun e1 h1 σ2 a2 _ => ?_
    have l2 : Lt Z O H1 O' H2 := l.trans s.le
    exact ⟨Z, O', e1, _, a2, h1, ⟨fun e3 q O3 σ3 H3 l3 a3 => ⟨O3, e3, l2.trans l3, a3, q⟩, (ko.step l2).rt, (ko.step l2).rtL, (ko.step l2).nx, fun e3 q O3 σ3 H3 l3 a3 => ⟨O3, e3, l2.trans l3, a3, q⟩, (ko.step l2).xc⟩⟩
  · have e : i = ds.length := by omega
    subst e
    rw [List.drop_length] at h'
    exact .inl ⟨it.stop (Z.add O') H' rfl l a'.good _ (List.getElem?_eq_none (Nat.le_refl _)), ko.nx _ h' O' σ' H' l a'⟩
theorem ds_for {tg iter : Expr} {body : List Stmt} {fi : DA} {t : TG} {gt : DTg} {ws : List Nat} {gb : DG} (hp : PassesOwn (model X.prog X.w) X.A X.env X.xe) (hc : X.calm = true) (hi : PDI X W tg iter fi) (hg : L2.PG X tg t) (ht : TgOk X.K t gt ws) (hb : PDSs X W body gb)
    (hs : ∀ x, foldedSetIterable iter X.env x = pure x := by intro _; rfl) : PDS X W (.For tg iter body [] pos) (dFor fi gt gb) := PS.imp (ps_for hp hc hi hg hb hs) fun D σ H ⟨Z, O, env, k, a, h, ko⟩ =>
  ⟨Z.add O, O, env, _, _, a, h, ko.xk a, fun ds hds J H1 s it => for_ev ht (a.step s) hds (ko.step s.le) it⟩
def dWhileN (ft : DB) (gb : DG) : Nat → Env' → Kn → Prop
  | 0, _, _ => False
  | n + 1, env, k => ft env (fun b => if b = true then gb env { k with nx := fun e => dWhileN ft gb n e k, ct := fun e => dWhileN ft gb n e k, bk := k.nx } else k.nx env) (fun x => k.xc x env)
def dWhile (ft : DB) (gb : DG) : DG := fun env k => ∃ n, dWhileN ft gb n env k
theorem ds_while {c : Expr} {body : List Stmt} {ft : DB} {gb : DG} (hp : PassesOwn (model X.prog X.w) X.A X.env X.xe) (hc : PDB X W c ft) (hb : PDSs X W body gb) : PDS X W (.While c body [] pos) (dWhile ft gb) := PS.imp (ps_while hp hc hb) fun D σ H ⟨Z, O, env, k, a, ⟨n, h⟩, ko⟩ => by
  refine ⟨fun m σ' H' => ∃ O' env', Lt Z O H O' H' ∧ StAt X.K Z O' H' σ' env' ∧ dWhileN ft gb m env' k, ⟨n, O, env, Le.refl _, a, h⟩, ?_⟩
  rintro m σ' H' ⟨O', env', l, a', h'⟩
  cases m with
  | zero => exact h'.elim
  | succ m =>
    refine DTB.mk a' h' ((ko.step l).xk a') fun q hq H1 s => ?_
    have l1 : Lt Z O H O' H1 := l.trans s.le
    cases q with
    | true =>
      rw [if_pos rfl] at hq ⊢
      refine ⟨fun σ3 H3 => ∃ O3 env3, Lt Z O H O3 H3 ∧ StAt X.K Z O3 H3 σ3 env3 ∧ dWhileN ft gb m env3 k, fun σ3 H3 z => ⟨m, Nat.lt_succ_self _, z⟩, ?_⟩
      exact ⟨Z, O', env', _, a'.step s, hq, ⟨fun e3 q O3 σ3 H3 l3 a3 => ⟨O3, e3, l1.trans l3, a3, q⟩, (ko.step l1).rt, (ko.step l1).rtL, (ko.step l1).nx, fun e3 q O3 σ3 H3 l3 a3 => ⟨O3, e3, l1.trans l3, a3, q⟩, (ko.step l1).xc⟩⟩
    | false =>
      rw [if_neg Bool.false_ne_true] at hq ⊢
      exact ko.nx _ hq O' σ' H1 l1 (a'.step s)
end

/-! ### the rule for a def -/
def dDef (N : Nat) (g : DG) : DF := fun ds Q R => g (ds.map .val ++ List.replicate (N - ds.length) .un) ⟨fun _ => Q .non, Q, fun ds => Q (.lst ds), fun _ => False, fun _ => False, fun x _ => R x⟩
theorem add_le {Z : Zn} {O : Own} {H : Hp} : Le (mask (Z.add O) H) (mask Z H) := fun a o h => by
  have h1 : a ∉ (Z.add O).msk := fun hm => by rw [mask_in hm] at h; cases h
  rw [mask_of h1] at h
  rw [mask_of fun hm => h1 ?_]
  · exact h
  · rcases List.mem_append.mp hm with hm | hm
    · refine List.mem_append_left _ ?_
      show a ∈ (O.map (fun q => (q.2.1, q.2.2)) ++ Z.own).map (·.1)
      rw [List.map_append]
      exact List.mem_append_right _ hm
    · exact List.mem_append_right _ hm
theorem Good.sub {Z : Zn} {O : Own} {H : Hp} (g : Good (Z.add O) H) : Good Z H := by
  refine ⟨fun a vs h => g.own a vs (List.mem_append_right _ h), fun h c e => g.vol h c e, ?_⟩
  refine g.nd.sublist ?_
  show List.Sublist (Z.own.map (·.1) ++ Z.vs) ((O.map (fun q => (q.2.1, q.2.2)) ++ Z.own).map (·.1) ++ Z.vs)
  rw [List.map_append, List.append_assoc]
  exact List.sublist_append_right _ _
theorem add_nil (Z : Zn) : Z.add [] = Z := by
  unfold Zn.add
  rfl
theorem start_rep {K : PySem.W.Frag} {Z : Zn} {H : Hp} {vs : List V} {ds : List D} {N : List Str} (r : RepsZ K Z H vs ds) : RepE K (Z.add []) [] H (L2.start N vs) (ds.map .val ++ List.replicate (N.length - ds.length) .un) := by
  have hl := r.length
  refine ⟨by unfold L2.start; simp [hl], fun i s e => ?_, fun _ _ _ h => by simp at h⟩
  unfold L2.start
  by_cases hi : i < ds.length
  · rw [List.getElem?_append_left (by simpa using hi), List.getElem?_map] at e
    cases hd : ds[i]? with
    | none => rw [hd] at e; cases e
    | some d =>
      rw [hd] at e
      cases e
      obtain ⟨v, hv, rv⟩ := r.get hd
      exact ⟨some v, by rw [List.getElem?_append_left (by simpa [hl] using hi), List.getElem?_map, hv]; rfl, v, rfl, rv⟩
  · rw [List.getElem?_append_right (by simpa using hi), List.getElem?_replicate] at e
    split at e
    · cases e
      rename_i h2
      refine ⟨none, ?_, trivial⟩
      rw [List.getElem?_append_right (by simp [hl]; omega), List.getElem?_replicate]
      simp only [List.length_map] at h2 ⊢
      rw [hl, if_pos h2]
    · cases e
theorem RepX.sub {K : PySem.W.Frag} {Z : Zn} {O : Own} {H : Hp} {cls : Value} {d : Option Addr} {x : Exc} (r : RepX K (Z.add O) H cls d x) : RepX K Z H cls d x := by
  obtain ⟨e, r⟩ := r
  refine ⟨e, ?_⟩
  cases h : x.fs with
  | none => rw [h] at r; exact r
  | some l =>
    rw [h] at r
    obtain ⟨dd, vs, h1, h2, h3, h4⟩ := r
    exact ⟨dd, vs, h1, add_le _ _ h2, h3, Reps.mono add_le h4⟩
/-- the context of a def's body: what its rules lean on -/
structure Cn (X : Cx) (W : WX) (k : Nat) : Prop where
  tk : Takes X W
  hp : PassesOwn (model X.prog X.w) X.A X.env X.xe
  hr : Room k X.A
  hc : X.calm = true
section
variable {P : Program} {w : World} {K : PySem.W.Frag} {mg : Str → Option Value} {base : Heap}
theorem Fun.okD {x qual : Str} {st : Stmt} {f : Addr} {fd : FuncData} {N ps : List Str} {k : Nat} {g : DG} (F : L2.Fun K x qual st f fd) (S : FnScope N ps (defScope st))
    (hbody : ∀ (cdv : Value) (A : Around) (outer : List Env) (s : Shared) (H : Hp) (E : XK), Cn (cxOf (L2.CX P w) P w K mg base N qual (defScope st) f cdv A outer s H E) (fun cls d _ H' => E cls d H') k →
      PDSs (cxOf (L2.CX P w) P w K mg base N qual (defScope st) f cdv A outer s H E) (fun cls d _ H' => E cls d H') (defBody st) g) :
    FnOk P w K mg base (L2.CX P w) (k + 1) f fd ps (spD K ps.length (dDef N.length g)) := by
  refine L2.Fun.okX F S (fun vs H Q E h => h.1) fun cdv A outer s H vs Q E hr h => ?_
  obtain ⟨hl, Z, ds, Q0, R0, gd, r, hf, hx, hq⟩ := h
  refine ⟨_, hbody cdv A outer s H E ⟨takes_of rfl rfl rfl rfl, passes_of rfl, hr, rfl⟩, Z, [], _, _, ⟨by rw [add_nil]; exact gd, start_rep r⟩, hf, ?_⟩
  have st : ∀ {O' : Own} {H' : Hp}, Lt Z [] H O' H' → Good (Z.add O') H' → Step Z H H' := fun l g' => ⟨fun a o e => add_le _ _ (l a o (by rw [add_nil]; exact e)), g'.sub⟩
  refine ⟨fun env' h' O' σ' H' l a => hq _ h' _ H' (st l a.good) .non, fun d h' O' v H' l g' r' => hq _ h' v H' (st l g') (Rep.mono add_le r'), fun ds h' O' p vs H' l g' hp r' => (have s2 := st l g'; hq _ h' _ _ (s2.trans (Step.new s2.good _ hp)) (new_lst s2.good hp (Reps.mono add_le r'))), fun _ h' => h'.elim, fun _ h' => h'.elim, fun y env' h' O' cls d σ' H' l a r' => hx y h' cls d H' (st l a.good) r'.sub⟩
/-- .. as a def that is called by its name -/
theorem Cal.of {x : Str} {f : Addr} {fd : FuncData} {ps : List Str} {k n : Nat} {F G : DF} (c : FnOk P w K mg base (L2.CX P w) k f fd ps (spD K n F)) (hm : mg x = some (.ref f)) (hk : PySem.W.keepIn K (.ref f) = true) (hb : Binds K fd ps []) (h : ∀ ds Q R, G ds Q R → F ds Q R) : Cal P w K mg base k x n G :=
  ⟨f, fd, ps, c.imp (spD_imp h), hm, hk, hb⟩
end
end Dl

set_option maxHeartbeats 1000000
/-! The tree layer: comprehensions, lists that a def owns. -/
namespace Dl
open PySem PySem.Spec PyProof.Rows L2

/-! ### comprehensions -/
abbrev WF : WX := fun _ _ _ _ => False
def FX : DX := fun _ => False
def wipeE (env : Env') : List Nat → Env'
  | [] => env
  | v :: vs => (wipeE env vs).set v .un
theorem RepE.unset {K : PySem.W.Frag} {Z : Zn} {O : Own} {H : Hp} {σ : L2.St} {env : Env'} (h : RepE K Z O H σ env) (i : Nat) (x : Option V) : RepE K Z O H (σ.set i x) (env.set i .un) := by
  refine ⟨by rw [List.length_set, List.length_set]; exact h.len, fun j s e => ?_, h.sub⟩
  by_cases hj : i = j
  · subst hj
    by_cases hi : i < env.length
    · rw [List.getElem?_set_self hi] at e
      cases e
      exact ⟨x, List.getElem?_set_self (by rw [h.len]; exact hi), trivial⟩
    · rw [List.getElem?_eq_none (by rw [List.length_set]; omega)] at e
      cases e
  · rw [List.getElem?_set_ne hj] at e ⊢
    exact h.at_ j s e
theorem RepE.wipe {K : PySem.W.Frag} {Z : Zn} {O : Own} {H : Hp} {σ : L2.St} {env : Env'} (h : RepE K Z O H σ env) : ∀ vs : List Nat, RepE K Z O H (L2.wipe σ vs) (wipeE env vs)
  | [] => h
  | v :: vs => (RepE.wipe h vs).unset v none
theorem wipe_wipe (σ : L2.St) (vs : List Nat) : wipe (wipe σ vs) vs = wipe σ vs := by
  have h : ∀ us : List Nat, (∀ i ∈ us, i ∈ vs) → wipe (wipe σ us) vs = wipe σ vs := by
    intro us
    induction us with
    | nil => intro _; rfl
    | cons u us ih =>
      intro hu
      show wipe ((wipe σ us).set u none) vs = wipe σ vs
      rw [wipe_set (hu u List.mem_cons_self), ih fun i hi => hu i (List.mem_cons_of_mem _ hi)]
  exact h vs fun _ z => z
abbrev DFl := Env' → (Bool → Prop) → DX → Prop
def dYes : DB := fun _ Q _ => Q true
def dLcL (gt : DTg) (ft : DB) (fe : DE) (env : Env') : List D → List D → (List D → Prop) → Prop
  | [], acc, Q => Q acc
  | d :: ds, acc, Q => gt d env fun e1 => ft e1 (fun b => if b = true then fe e1 (fun y => acc.length < sizeLine ∧ dLcL gt ft fe env ds (acc ++ [y]) Q) FX else dLcL gt ft fe env ds acc Q) FX
def dLc (fi : DA) (vs : List Nat) (gt : DTg) (ft : DB) (fe : DE) : DA := fun env Q R => fi env (fun ds => dLcL gt ft fe (wipeE env vs) ds [] Q) R
def Zn.cons (Z : Zn) (a : Addr) (vs : List V) : Zn := ⟨(a, vs) :: Z.own, Z.vol⟩
theorem cons_msk (Z : Zn) (a : Addr) (vs : List V) : (Z.cons a vs).msk = a :: Z.msk := rfl
theorem cons_new {Z : Zn} {H : Hp} {p : Addr} (g : Good Z H) (vs : List V) (hp : H p = none) : Good (Z.cons p vs) (upd H p (.lst vs)) ∧ Le (mask Z H) (mask (Z.cons p vs) (upd H p (.lst vs))) := by
  have hm := g.fresh hp
  refine ⟨⟨fun a ws h => ?_, fun h c e => (Step.new g (.lst vs) hp).good.vol h c e, ?_⟩, fun a o e => ?_⟩
  · rcases List.mem_cons.mp h with h | h
    · cases h; exact upd_same
    · exact (Step.new g (.lst vs) hp).good.own a ws h
  · rw [cons_msk]; exact List.nodup_cons.mpr ⟨hm, g.nd⟩
  · have e2 := mask_le Z H a o e
    have h1 : a ∉ Z.msk := fun z => by rw [mask_in z] at e; cases e
    have h2 : a ≠ p := ne_of_none e2 hp
    rw [mask_of (by rw [cons_msk]; simp only [List.mem_cons, not_or]; exact ⟨h2, h1⟩), upd_ne h2]
    exact e2
/-- the list at p is changed by its owner -/
theorem cons_upd {Z : Zn} {H : Hp} {p : Addr} {vs : List V} (g : Good (Z.cons p vs) H) (ws : List V) : Good (Z.cons p ws) (upd H p (.lst ws)) ∧ mask (Z.cons p ws) (upd H p (.lst ws)) = mask (Z.cons p vs) H := by
  have hnd := List.nodup_cons.mp (show (p :: Z.msk).Nodup from g.nd)
  have np : ∀ {a}, a ∈ Z.msk → a ≠ p := fun {a} ha z => hnd.1 (by rw [← z]; exact ha)
  have hv : ∀ {h c}, Z.vol = some (h, c) → h ∈ Z.msk ∧ c ∈ Z.msk := fun {h c} e => by
    unfold Zn.msk Zn.vs
    rw [e]
    simp
  refine ⟨⟨fun a us h => ?_, fun h c e => ?_, g.nd⟩, ?_⟩
  · rcases List.mem_cons.mp h with h | h
    · cases h; exact upd_same
    · have ha : a ∈ Z.msk := List.mem_append_left _ (List.mem_map.mpr ⟨_, h, rfl⟩)
      rw [upd_ne (np ha)]
      exact g.own a us (List.mem_cons_of_mem _ h)
  · obtain ⟨s, i, cs, h1, h2, h3⟩ := g.vol h c e
    obtain ⟨m1, m2⟩ := hv e
    exact ⟨s, i, cs, by rw [upd_ne (np m1)]; exact h1, by rw [upd_ne (np m2)]; exact h2, h3⟩
  · funext a
    unfold mask
    rw [cons_msk, cons_msk]
    by_cases h : a ∈ p :: Z.msk
    · rw [if_pos h, if_pos h]
    · rw [if_neg h, if_neg h, upd_ne fun z => h (by rw [z]; exact List.mem_cons_self)]
/-- the list at p is given away -/
def del (H : Hp) (p : Addr) : Hp := fun a => if a = p then none else H a
theorem del_same {H : Hp} {p : Addr} : del H p p = none := if_pos rfl
theorem upd_del {H : Hp} {p : Addr} {o : HO} (h : H p = some o) : upd (del H p) p o = H := by
  funext a
  unfold upd del
  by_cases e : a = p
  · rw [if_pos e, e, h]
  · rw [if_neg e, if_neg e]
theorem cons_del {Z : Zn} {H : Hp} {p : Addr} {vs : List V} (g : Good (Z.cons p vs) H) : Good Z (del H p) ∧ mask Z (del H p) = mask (Z.cons p vs) H := by
  have hnd := List.nodup_cons.mp (show (p :: Z.msk).Nodup from g.nd)
  have ne : ∀ {a}, a ∈ Z.msk → del H p a = H a := fun {a} h => if_neg fun z => hnd.1 (by rw [← z]; exact h)
  have hv : ∀ {h c}, Z.vol = some (h, c) → h ∈ Z.msk ∧ c ∈ Z.msk := fun {h c} e => by
    unfold Zn.msk Zn.vs
    rw [e]
    simp
  refine ⟨⟨fun a us h => ?_, fun h c e => ?_, hnd.2⟩, ?_⟩
  · rw [ne (List.mem_append_left _ (List.mem_map.mpr ⟨_, h, rfl⟩))]
    exact g.own a us (List.mem_cons_of_mem _ h)
  · obtain ⟨s, i, cs, h1, h2, h3⟩ := g.vol h c e
    obtain ⟨m1, m2⟩ := hv e
    exact ⟨s, i, cs, by rw [ne m1]; exact h1, by rw [ne m2]; exact h2, h3⟩
  · funext a
    unfold mask del
    rw [cons_msk]
    by_cases h : a = p
    · rw [if_pos (show a ∈ p :: Z.msk by rw [h]; exact List.mem_cons_self), if_pos h]
      split <;> rfl
    · by_cases h2 : a ∈ Z.msk
      · rw [if_pos h2, if_pos (List.mem_cons_of_mem _ h2)]
      · have h3 : a ∉ p :: Z.msk := fun z => (List.mem_cons.mp z).elim h h2
        rw [if_neg h2, if_neg h, if_neg h3]
theorem RepE.le {K : PySem.W.Frag} {Z Z' : Zn} {O : Own} {H H' : Hp} {σ : L2.St} {env : Env'} (h : RepE K Z O H σ env) (le : Le (mask Z H) (mask Z' H')) (ev : Z'.vol = Z.vol) (sub : ∀ i a vs, (i, a, vs) ∈ O → (a, vs) ∈ Z'.own) : RepE K Z' O H' σ env := by
  refine ⟨h.len, fun i s e => ?_, sub⟩
  obtain ⟨v, h1, h2⟩ := h.at_ i s e
  refine ⟨v, h1, ?_⟩
  cases s with
  | un => trivial
  | val d => obtain ⟨x, q1, q2⟩ := h2; exact ⟨x, q1, by show Rep K Z'.vol _ _ _; rw [ev]; exact Rep.mono le q2⟩
  | own ds => obtain ⟨a, vs, q1, q2, q3⟩ := h2; exact ⟨a, vs, q1, q2, by show Reps K Z'.vol _ _ _; rw [ev]; exact Reps.mono le q3⟩
  | exc x => exact ⟨h2.1, h2.2.le le ev⟩
theorem fx_xk {K : PySem.W.Frag} {Z : Zn} {H : Hp} {σ : L2.St} {W : WX} : Xk K Z H σ FX W := fun _ h => h.elim
/-- the state of a comprehension's turn -/
structure LcAt (K : PySem.W.Frag) (Z : Zn) (O : Own) (G : Hp) (D : Addr) (acc : List V) (accd : List Dl.D) (H : Hp) : Prop where
  good : Good (Z.cons D acc) H
  le : Le G (mask (Z.cons D acc) H)
  rep : Reps K Z.vol (mask (Z.cons D acc) H) acc accd
theorem LcAt.step {K : PySem.W.Frag} {Z : Zn} {O : Own} {G : Hp} {D : Addr} {acc : List V} {accd : List Dl.D} {H H' : Hp} (a : LcAt K Z O G D acc accd H) (s : Step (Z.cons D acc) H H') : LcAt K Z O G D acc accd H' :=
  ⟨s.good, a.le.trans s.le, Reps.mono s.le a.rep⟩
theorem LcAt.push {K : PySem.W.Frag} {Z : Zn} {O : Own} {G : Hp} {D : Addr} {acc : List V} {accd : List Dl.D} {H : Hp} {v : V} {d : Dl.D} (a : LcAt K Z O G D acc accd H) (r : Rep K Z.vol (mask (Z.cons D acc) H) v d) : LcAt K Z O G D (acc ++ [v]) (accd ++ [d]) (upd H D (.lst (acc ++ [v]))) := by
  obtain ⟨h1, h2⟩ := cons_upd a.good (acc ++ [v])
  exact ⟨h1, by rw [h2]; exact a.le, by rw [h2]; exact a.rep.append (.one r)⟩
theorem LcAt.done {K : PySem.W.Frag} {Z : Zn} {O : Own} {H1 H : Hp} {D : Addr} {acc : List V} {accd : List Dl.D} {σ : L2.St} {Q0 : List Dl.D → Prop} {Q : VK} (a : LcAt K Z O (mask Z H1) D acc accd H) (h : Q0 accd)
    (q : ∀ ds, Q0 ds → ∀ p vs H2, Step Z H1 H2 → H2 p = none → RepsZ K Z H2 vs ds → Q (.ref p) (upd H2 p (.lst vs))) : Q (.ref D) H := by
  obtain ⟨h1, h2⟩ := cons_del a.good
  have e := q accd h D acc (del H D) ⟨by rw [h2]; exact a.le, h1⟩ del_same (by show Reps K Z.vol _ _ _; rw [h2]; exact a.rep)
  rw [upd_del (a.good.own D acc List.mem_cons_self)] at e
  exact e
section
variable {K : PySem.W.Frag} {W : WX}
theorem lc_ev {fi : DA} {t : TG} {gt : DTg} {ws vs : List Nat} {ft : DB} {fe : DE} (ht : TgOk K t gt ws) (hw : ∀ i ∈ ws, i ∈ vs) : ∀ σ H Q, DTL K (dLc fi vs gt ft fe) W σ H Q → tLc (DTI K fi W) t (DTB K ft WF) (DT K fe WF) vs σ H Q := fun σ H Q ⟨Z, O, env, Q0, R0, at_, hf, x, q⟩ => by
  refine ⟨Z, O, env, _, R0, at_, hf, x, fun ds hds J H1 s it D hD => ?_⟩
  have a1 := at_.step s
  refine ⟨fun i m H' => m = ds.length - i ∧ i ≤ ds.length ∧ ∃ acc accd, LcAt K Z O (mask Z H1) D acc accd H' ∧ dLcL gt ft fe (wipeE env vs) (ds.drop i) accd Q0, ⟨_, rfl, Nat.zero_le _, [], [], ?_, hds⟩, ?_⟩
  · obtain ⟨g1, g2⟩ := cons_new a1.good [] hD
    exact ⟨g1, g2, .nil⟩
  rintro i m H' ⟨rfl, hi, acc, accd, la, h'⟩
  have evn : ∀ {acc : List V} {H' : Hp}, Good (Z.cons D acc) H' → Le (mask Z H1) (mask (Z.cons D acc) H') → At K (Z.cons D acc) O H' (wipe σ vs) (wipeE env vs) := fun {acc H'} g l =>
    ⟨g, (a1.env.le l rfl fun i a vs h => List.mem_cons_of_mem _ (a1.env.sub i a vs h)).wipe vs⟩
  by_cases hlt : i < ds.length
  · have hd : ds[i]? = some ds[i] := List.getElem?_eq_getElem hlt
    obtain ⟨g1, g2⟩ := it.go (Z.cons D acc) H' rfl la.le la.good i _ hd
    rw [List.drop_eq_getElem_cons hlt] at h'
    refine .inr ⟨g1, fun H3 => ∃ acc accd, LcAt K Z O (mask Z H1) D acc accd H3 ∧ dLcL gt ft fe (wipeE env vs) (ds.drop (i + 1)) accd Q0, fun H3 ⟨acc3, accd3, l3, h3⟩ => ⟨ds.length - (i + 1), by omega, rfl, hlt, acc3, accd3, l3, h3⟩, fun y H2 hy => ?_⟩
    obtain ⟨s2, r2⟩ := g2 y H2 hy
    have la2 := la.step s2
    refine ht _ O H2 (wipe σ vs) (wipeE env vs) y _ _ _ (evn la2.good la2.le) r2 h' fun e1 h1 σ2 a2 hwp => ?_
    refine ⟨(hwp vs hw).trans (wipe_wipe σ vs), ?_⟩
    refine DTB.mk a2 h1 fx_xk fun b hb H3 s3 => ?_
    have la3 := la2.step s3
    cases b with
    | false =>
      rw [if_neg Bool.false_ne_true] at hb ⊢
      exact ⟨acc, accd, la3, hb⟩
    | true =>
      rw [if_pos rfl] at hb ⊢
      refine DT.mk (a2.step s3) hb fx_xk fun z hz v H4 s4 r4 => ?_
      have la4 := la3.step s4
      refine ⟨acc, la4.good.own D acc List.mem_cons_self, by rw [la4.rep.length]; exact hz.1, acc ++ [v], accd ++ [z], la4.push r4, hz.2⟩
  · have e : i = ds.length := by omega
    subst e
    rw [List.drop_length] at h'
    exact .inl ⟨it.stop (Z.cons D acc) H' rfl la.le la.good _ (List.getElem?_eq_none (Nat.le_refl _)), la.done (σ := σ) h' fun ds' hq p vs' H2 s2 hp r => q ds' hq p vs' H2 (s.trans s2) hp r⟩
def dLcI (gt : DTg) (ft : DB) (fe : DE) (env : Env') : List D → List D → (List D → Prop) → Prop := dLcL gt ft fe env
def dLcO (gt : DTg) (ft : DB) (fi1 : DA) (vs1 : List Nat) (gt1 : DTg) (ft1 : DB) (fe : DE) (env : Env') : List D → List D → (List D → Prop) → Prop
  | [], acc, Q => Q acc
  | d :: ds, acc, Q => gt d env fun e1 => ft e1 (fun b => if b = true then fi1 e1 (fun es => dLcL gt1 ft1 fe (wipeE e1 vs1) es acc (fun acc' => dLcO gt ft fi1 vs1 gt1 ft1 fe env ds acc' Q)) FX else dLcO gt ft fi1 vs1 gt1 ft1 fe env ds acc Q) FX
def dLc2 (fi : DA) (vs : List Nat) (gt : DTg) (ft : DB) (fi1 : DA) (vs1 : List Nat) (gt1 : DTg) (ft1 : DB) (fe : DE) : DA := fun env Q R => fi env (fun ds => dLcO gt ft fi1 vs1 gt1 ft1 fe (wipeE env vs) ds [] Q) R
theorem lc2_ev {fi fi1 : DA} {t t1 : TG} {gt gt1 : DTg} {ws vs ws1 vs1 : List Nat} {ft ft1 : DB} {fe : DE} (ht : TgOk K t gt ws) (hw : ∀ i ∈ ws, i ∈ vs) (ht1 : TgOk K t1 gt1 ws1) (hw1 : ∀ i ∈ ws1, i ∈ vs1) :
    ∀ σ H Q, DTL K (dLc2 fi vs gt ft fi1 vs1 gt1 ft1 fe) W σ H Q → tLc2 (DTI K fi W) t (DTB K ft WF) (DTI K fi1 WF) t1 (DTB K ft1 WF) (DT K fe WF) vs vs1 σ H Q := fun σ H Q ⟨Z, O, env, Q0, R0, at_, hf, x, q⟩ => by
  refine ⟨Z, O, env, _, R0, at_, hf, x, fun ds hds J H1 s it D hD => ?_⟩
  have a1 := at_.step s
  refine ⟨fun i m H' => m = ds.length - i ∧ i ≤ ds.length ∧ ∃ acc accd, LcAt K Z O (mask Z H1) D acc accd H' ∧ dLcO gt ft fi1 vs1 gt1 ft1 fe (wipeE env vs) (ds.drop i) accd Q0, ⟨_, rfl, Nat.zero_le _, [], [], ?_, hds⟩, ?_⟩
  · obtain ⟨g1, g2⟩ := cons_new a1.good [] hD
    exact ⟨g1, g2, .nil⟩
  rintro i m H' ⟨rfl, hi, acc, accd, la, h'⟩
  have evn : ∀ {acc : List V} {H' : Hp}, Good (Z.cons D acc) H' → Le (mask Z H1) (mask (Z.cons D acc) H') → At K (Z.cons D acc) O H' (wipe σ vs) (wipeE env vs) := fun {acc H'} g l =>
    ⟨g, (a1.env.le l rfl fun i a vs h => List.mem_cons_of_mem _ (a1.env.sub i a vs h)).wipe vs⟩
  by_cases hlt : i < ds.length
  · have hd : ds[i]? = some ds[i] := List.getElem?_eq_getElem hlt
    obtain ⟨g1, g2⟩ := it.go (Z.cons D acc) H' rfl la.le la.good i _ hd
    rw [List.drop_eq_getElem_cons hlt] at h'
    refine .inr ⟨g1, fun H3 => ∃ acc accd, LcAt K Z O (mask Z H1) D acc accd H3 ∧ dLcO gt ft fi1 vs1 gt1 ft1 fe (wipeE env vs) (ds.drop (i + 1)) accd Q0, fun H3 ⟨acc3, accd3, l3, h3⟩ => ⟨ds.length - (i + 1), by omega, rfl, hlt, acc3, accd3, l3, h3⟩, fun y H2 hy => ?_⟩
    obtain ⟨s2, r2⟩ := g2 y H2 hy
    have la2 := la.step s2
    refine ht _ O H2 (wipe σ vs) (wipeE env vs) y _ _ _ (evn la2.good la2.le) r2 h' fun e1 h1 σ2 a2 hwp => ?_
    refine ⟨(hwp vs hw).trans (wipe_wipe σ vs), ?_⟩
    refine DTB.mk a2 h1 fx_xk fun b hb H3 s3 => ?_
    have la3 := la2.step s3
    cases b with
    | false =>
      rw [if_neg Bool.false_ne_true] at hb ⊢
      exact ⟨acc, accd, la3, hb⟩
    | true =>
      rw [if_pos rfl] at hb ⊢
      have a3 := a2.step s3
      refine ⟨Z.cons D acc, O, e1, _, FX, a3, hb, fx_xk, fun es hes J1 H4 s4 it1 => ?_⟩
      have la4 := la3.step s4
      have a4 := a3.step s4
      refine ⟨fun j k H' => k = es.length - j ∧ j ≤ es.length ∧ ∃ acc' accd', LcAt K Z O (mask (Z.cons D acc) H4) D acc' accd' H' ∧ Le (mask Z H1) (mask (Z.cons D acc') H') ∧ dLcL gt1 ft1 fe (wipeE e1 vs1) (es.drop j) accd' (fun acc' => dLcO gt ft fi1 vs1 gt1 ft1 fe (wipeE env vs) (ds.drop (i + 1)) acc' Q0),
        ⟨_, rfl, Nat.zero_le _, acc, accd, ⟨la4.good, Le.refl _, la4.rep⟩, la4.le, hes⟩, ?_⟩
      rintro j k H5 ⟨rfl, hj, acc', accd', lb, lle, h5⟩
      by_cases hjl : j < es.length
      · have hde : es[j]? = some es[j] := List.getElem?_eq_getElem hjl
        obtain ⟨p1, p2⟩ := it1.go (Z.cons D acc') H5 rfl lb.le lb.good j _ hde
        rw [List.drop_eq_getElem_cons hjl] at h5
        refine .inr ⟨p1, fun H6 => ∃ acc' accd', LcAt K Z O (mask (Z.cons D acc) H4) D acc' accd' H6 ∧ Le (mask Z H1) (mask (Z.cons D acc') H6) ∧ dLcL gt1 ft1 fe (wipeE e1 vs1) (es.drop (j + 1)) accd' (fun acc' => dLcO gt ft fi1 vs1 gt1 ft1 fe (wipeE env vs) (ds.drop (i + 1)) acc' Q0), fun H6 ⟨a6, d6, l6, q6, h6⟩ => ⟨es.length - (j + 1), by omega, rfl, hjl, a6, d6, l6, q6, h6⟩, fun y H6 hy => ?_⟩
        obtain ⟨s6, r6⟩ := p2 y H6 hy
        have lb6 := lb.step s6
        have lle6 := lle.trans s6.le
        have a6 : At K (Z.cons D acc') O H6 (wipe σ2 vs1) (wipeE e1 vs1) := ⟨lb6.good, (a4.env.le lb6.le rfl fun i a vs h => List.mem_cons_of_mem _ (a1.env.sub i a vs h)).wipe vs1⟩
        refine ht1 _ O H6 (wipe σ2 vs1) (wipeE e1 vs1) y _ _ _ a6 r6 h5 fun e7 h7 σ7 a7 hwp7 => ?_
        refine ⟨(hwp7 vs1 hw1).trans (wipe_wipe σ2 vs1), ?_⟩
        refine DTB.mk a7 h7 fx_xk fun b hb H8 s8 => ?_
        have lb8 := lb6.step s8
        have lle8 := lle6.trans s8.le
        cases b with
        | false =>
          rw [if_neg Bool.false_ne_true] at hb ⊢
          exact ⟨acc', accd', lb8, lle8, hb⟩
        | true =>
          rw [if_pos rfl] at hb ⊢
          refine DT.mk (a7.step s8) hb fx_xk fun z hz v H9 s9 r9 => ?_
          have lb9 := lb8.step s9
          refine ⟨acc', lb9.good.own D acc' List.mem_cons_self, by rw [lb9.rep.length]; exact hz.1, acc' ++ [v], accd' ++ [z], lb9.push r9, ?_, hz.2⟩
          rw [(cons_upd lb9.good (acc' ++ [v])).2]
          exact lle8.trans s9.le
      · have e : j = es.length := by omega
        subst e
        rw [List.drop_length] at h5
        exact .inl ⟨it1.stop (Z.cons D acc') H5 rfl lb.le lb.good _ (List.getElem?_eq_none (Nat.le_refl _)), acc', accd', ⟨lb.good, lle, lb.rep⟩, h5⟩
  · have e : i = ds.length := by omega
    subst e
    rw [List.drop_length] at h'
    exact .inl ⟨it.stop (Z.cons D acc) H' rfl la.le la.good _ (List.getElem?_eq_none (Nat.le_refl _)), la.done (σ := σ) h' fun ds' hq p vs' H2 s2 hp r => q ds' hq p vs' H2 (s.trans s2) hp r⟩
end
theorem PTs.imp {X : Cx} {e : List Expr} {t t' : TT} (h : L2.PTs X e t) (i : ∀ σ H Q, t' σ H Q → t σ H Q) : L2.PTs X e t' := ⟨fun pins s σ H Q I q => h.run pins s σ H Q I (i σ H Q q)⟩
abbrev PDTs (X : Cx) (W : WX) (ifs : List Expr) (f : DB) : Prop := L2.PTs X ifs (DTB X.K f W)
section
variable {X : Cx} {W : WX} {pos spos : Pos} {elt tg iter : Expr} {ifs : List Expr} {scope : Scope} {own : List (Str × Nat)} {fi : DA} {t : TG} {gt : DTg} {ws : List Nat} {ft : DB} {fe : DE}
theorem pdts_nil : PDTs X W [] dYes := PTs.imp pts_nil fun σ H Q ⟨Z, O, env, Q0, R0, at_, hf, x, q⟩ => q _ hf H (Step.refl at_.good)
theorem pdts_one {c : Expr} {f : DB} (h : PDB X W c f) : PDTs X W [c] f := pts_one h
theorem pdl_lc (hc : X.calm = true) (hN : X.N.Nodup) (hi : PDI X W tg iter fi) (ok : BlkOk X.N X.env.scope scope own) (htg : TgOk X.K t gt ws) (hw : ∀ i ∈ ws, i ∈ own.map (·.2))
    (hg : ∀ (s : Shared) (H : Hp) (C : Addr) (cl : List (Str × Addr)) (fp : List Addr), L2.PG (X.blk s H scope (compEnvC scope cl C X.env) fp) tg t)
    (ht : ∀ (s : Shared) (H : Hp) (C : Addr) (cl : List (Str × Addr)) (fp : List Addr), PDTs (X.blk s H scope (compEnvC scope cl C X.env) fp) WF ifs ft)
    (he : ∀ (s : Shared) (H : Hp) (C : Addr) (cl : List (Str × Addr)) (fp : List Addr), PD (X.blk s H scope (compEnvC scope cl C X.env) fp) WF elt fe) (hs : ∀ x, foldedSetIterable iter X.env x = pure x := by intro _; rfl) :
    PDL X W (.ListComp elt [⟨tg, iter, ifs, 0⟩] scope pos) (dLc fi (own.map (·.2)) gt ft fe) := PE.imp (pe_lc hc hN hi ok hg ht he hs) (lc_ev htg hw)
theorem ds_setLc {i : Nat} {y : Str} {py : Pos} (hc : X.calm = true) (hN : X.N.Nodup) (hy : X.N[i]? = some y) (hyl : X.env.scope.names.lookup y = some .local)
    (hsw : swapsWith (.ListComp elt [⟨tg, iter, ifs, 0⟩] scope pos) (some (.Name y py)) spos.line X.env = pure true) (hi : PDI X W tg iter fi) (ok : BlkOk X.N X.env.scope scope own) (htg : TgOk X.K t gt ws) (hw : ∀ i ∈ ws, i ∈ own.map (·.2))
    (hg : ∀ (s : Shared) (H : Hp) (C : Addr) (cl : List (Str × Addr)) (fp : List Addr), L2.PG (X.blk s H scope (compEnvC scope cl C X.env) fp) tg t)
    (ht : ∀ (s : Shared) (H : Hp) (C : Addr) (cl : List (Str × Addr)) (fp : List Addr), PDTs (X.blk s H scope (compEnvC scope cl C X.env) fp) WF ifs ft)
    (he : ∀ (s : Shared) (H : Hp) (C : Addr) (cl : List (Str × Addr)) (fp : List Addr), PD (X.blk s H scope (compEnvC scope cl C X.env) fp) WF elt fe) (hs : ∀ x, foldedSetIterable iter X.env x = pure x := by intro _; rfl) :
    PDS X W (.Assign [.Name y py] (.ListComp elt [⟨tg, iter, ifs, 0⟩] scope pos) spos) (dSet i (dL (dLc fi (own.map (·.2)) gt ft fe))) := PS.imp (ps_setLc hc hN hy hyl hsw hi ok hg ht he hs) fun D σ H ⟨Z, O, env, k, a, h, ko⟩ =>
  lc_ev htg hw σ H _ ⟨Z.add O, O, env, _, _, a, h, ko.xk a, fun ds hds p vs H1 s hp r => ko.nx _ hds O _ _ (s.trans (Step.new s.good _ hp)).le ((a.step (s.trans (Step.new s.good _ hp))).set (new_lst s.good hp r) i)⟩
theorem pdl_lc2 {tg1 iter1 : Expr} {ifs1 : List Expr} {vs1 : List Nat} {fi1 : DA} {t1 : TG} {gt1 : DTg} {ws1 : List Nat} {ft1 : DB} (hc : X.calm = true) (hN : X.N.Nodup) (hi : PDI X W tg iter fi) (ok : BlkOk X.N X.env.scope scope own) (hv : ∀ i ∈ vs1, i ∈ own.map (·.2)) (htg : TgOk X.K t gt ws) (hw : ∀ i ∈ ws, i ∈ own.map (·.2)) (htg1 : TgOk X.K t1 gt1 ws1) (hw1 : ∀ i ∈ ws1, i ∈ vs1)
    (hg : ∀ (s : Shared) (H : Hp) (C : Addr) (cl : List (Str × Addr)) (fp : List Addr), L2.PG (X.blk s H scope (compEnvC scope cl C X.env) fp) tg t)
    (ht : ∀ (s : Shared) (H : Hp) (C : Addr) (cl : List (Str × Addr)) (fp : List Addr), PDTs (X.blk s H scope (compEnvC scope cl C X.env) fp) WF ifs ft)
    (hi1 : ∀ (s : Shared) (H : Hp) (C : Addr) (cl : List (Str × Addr)) (fp : List Addr), PDI (X.blk s H scope (compEnvC scope cl C X.env) fp) WF tg1 iter1 fi1)
    (hg1 : ∀ (s : Shared) (H : Hp) (C : Addr) (cl : List (Str × Addr)) (fp : List Addr), L2.PG (X.blk s H scope (compEnvC scope cl C X.env) fp) tg1 t1)
    (ht1 : ∀ (s : Shared) (H : Hp) (C : Addr) (cl : List (Str × Addr)) (fp : List Addr), PDTs (X.blk s H scope (compEnvC scope cl C X.env) fp) WF ifs1 ft1)
    (he : ∀ (s : Shared) (H : Hp) (C : Addr) (cl : List (Str × Addr)) (fp : List Addr), PD (X.blk s H scope (compEnvC scope cl C X.env) fp) WF elt fe) (hs : ∀ x, foldedSetIterable iter X.env x = pure x := by intro _; rfl) (hs1 : ∀ env x, foldedSetIterable iter1 env x = pure x := by intro _ _; rfl) :
    PDL X W (.ListComp elt [⟨tg, iter, ifs, 0⟩, ⟨tg1, iter1, ifs1, 0⟩] scope pos) (dLc2 fi (own.map (·.2)) gt ft fi1 vs1 gt1 ft1 fe) := PE.imp (pe_lc2 hc hN hi ok hv hg ht hi1 hg1 ht1 he hs hs1) (lc2_ev htg hw htg1 hw1)
theorem ds_setLc2 {i : Nat} {y : Str} {py : Pos} {tg1 iter1 : Expr} {ifs1 : List Expr} {vs1 : List Nat} {fi1 : DA} {t1 : TG} {gt1 : DTg} {ws1 : List Nat} {ft1 : DB} (hc : X.calm = true) (hN : X.N.Nodup) (hy : X.N[i]? = some y) (hyl : X.env.scope.names.lookup y = some .local)
    (hsw : swapsWith (.ListComp elt [⟨tg, iter, ifs, 0⟩, ⟨tg1, iter1, ifs1, 0⟩] scope pos) (some (.Name y py)) spos.line X.env = pure true) (hi : PDI X W tg iter fi) (ok : BlkOk X.N X.env.scope scope own) (hv : ∀ i ∈ vs1, i ∈ own.map (·.2)) (htg : TgOk X.K t gt ws) (hw : ∀ i ∈ ws, i ∈ own.map (·.2)) (htg1 : TgOk X.K t1 gt1 ws1) (hw1 : ∀ i ∈ ws1, i ∈ vs1)
    (hg : ∀ (s : Shared) (H : Hp) (C : Addr) (cl : List (Str × Addr)) (fp : List Addr), L2.PG (X.blk s H scope (compEnvC scope cl C X.env) fp) tg t)
    (ht : ∀ (s : Shared) (H : Hp) (C : Addr) (cl : List (Str × Addr)) (fp : List Addr), PDTs (X.blk s H scope (compEnvC scope cl C X.env) fp) WF ifs ft)
    (hi1 : ∀ (s : Shared) (H : Hp) (C : Addr) (cl : List (Str × Addr)) (fp : List Addr), PDI (X.blk s H scope (compEnvC scope cl C X.env) fp) WF tg1 iter1 fi1)
    (hg1 : ∀ (s : Shared) (H : Hp) (C : Addr) (cl : List (Str × Addr)) (fp : List Addr), L2.PG (X.blk s H scope (compEnvC scope cl C X.env) fp) tg1 t1)
    (ht1 : ∀ (s : Shared) (H : Hp) (C : Addr) (cl : List (Str × Addr)) (fp : List Addr), PDTs (X.blk s H scope (compEnvC scope cl C X.env) fp) WF ifs1 ft1)
    (he : ∀ (s : Shared) (H : Hp) (C : Addr) (cl : List (Str × Addr)) (fp : List Addr), PD (X.blk s H scope (compEnvC scope cl C X.env) fp) WF elt fe) (hs : ∀ x, foldedSetIterable iter X.env x = pure x := by intro _; rfl) (hs1 : ∀ env x, foldedSetIterable iter1 env x = pure x := by intro _ _; rfl) :
    PDS X W (.Assign [.Name y py] (.ListComp elt [⟨tg, iter, ifs, 0⟩, ⟨tg1, iter1, ifs1, 0⟩] scope pos) spos) (dSet i (dL (dLc2 fi (own.map (·.2)) gt ft fi1 vs1 gt1 ft1 fe))) := PS.imp (ps_setLc2 hc hN hy hyl hsw hi ok hv hg ht hi1 hg1 ht1 he hs hs1) fun D σ H ⟨Z, O, env, k, a, h, ko⟩ =>
  lc2_ev htg hw htg1 hw1 σ H _ ⟨Z.add O, O, env, _, _, a, h, ko.xk a, fun ds hds p vs H1 s hp r => ko.nx _ hds O _ _ (s.trans (Step.new s.good _ hp)).le ((a.step (s.trans (Step.new s.good _ hp))).set (new_lst s.good hp r) i)⟩
/-- the context of a comprehension's block -/
theorem Cn.blk {k : Nat} (c : Cn X W k) {s : Shared} {H : Hp} {scope : Scope} {cenv : Env} {fp : List Addr} : Cn (X.blk s H scope cenv fp) WF k := ⟨takes0, PassesOwn.never, c.hr, c.hc⟩
end
/-! what a comprehension makes, by a function of its items -/
theorem lcl_map {gt : DTg} {ft : DB} {fe : DE} {env : Env'} (h : D → D) {Q : List D → Prop} : ∀ (ds acc : List D), (∀ d ∈ ds, ∀ (Q1 : D → Prop) (Q2 : Prop), Q1 (h d) → gt d env fun e1 => ft e1 (fun b => if b = true then fe e1 Q1 FX else Q2) FX) → acc.length + ds.length ≤ sizeLine → Q (acc ++ ds.map h) → dLcL gt ft fe env ds acc Q
  | [], acc, _, _, q => by simpa [dLcL] using q
  | d :: ds, acc, hs, hl, q => by
    unfold dLcL
    simp only [List.length_cons] at hl
    refine hs d List.mem_cons_self _ _ ⟨by omega, lcl_map h ds _ (fun x hx => hs x (List.mem_cons_of_mem _ hx)) (by simp; omega) ?_⟩
    simpa using q
theorem lcl_filter {gt : DTg} {ft : DB} {fe : DE} {env : Env'} (p : D → Bool) (h : D → D) {Q : List D → Prop} : ∀ (ds acc : List D), (∀ d ∈ ds, ∀ (Q1 : D → Prop) (Q2 : Prop), (p d = true → Q1 (h d)) → (p d = false → Q2) → gt d env fun e1 => ft e1 (fun b => if b = true then fe e1 Q1 FX else Q2) FX) → acc.length + ds.length ≤ sizeLine → Q (acc ++ (ds.filter p).map h) → dLcL gt ft fe env ds acc Q
  | [], acc, _, _, q => by simpa [dLcL] using q
  | d :: ds, acc, hs, hl, q => by
    unfold dLcL
    simp only [List.length_cons] at hl
    refine hs d List.mem_cons_self _ _ (fun e => ⟨by omega, lcl_filter p h ds _ (fun x hx => hs x (List.mem_cons_of_mem _ hx)) (by simp; omega) ?_⟩) (fun e => lcl_filter p h ds _ (fun x hx => hs x (List.mem_cons_of_mem _ hx)) (by omega) ?_)
    · simpa [List.filter_cons, e] using q
    · simpa [List.filter_cons, e] using q
end Dl

set_option maxHeartbeats 4000000
/-! The tree layer: exceptions. -/
namespace PySem.W
open PySem PySem.Spec PySem.Calls PyProof.Rows
section
variable {prog : Program} {w : World} {A : Around} {E : Value → Shared → Prop} {s : Shared} {K : Frag} {x D : Addr} {ox : Obj} {od : Option Obj}
/-- the class of an own error with whatever dict -/
theorem dl_classE {Q : Option Value → Shared → Prop} (hga : findIn K (.ref D) "__getattribute__" = some (some (.builtin "BaseException.__getattribute__"))) (hgt : findIn K (.ref D) "__getattr__" = some none) (hsub : subIn K (.ref D) (.type "BaseException") = some true)
    (hdct : hasDictIn K D = true) (ha : findIn K (.ref D) "__class__" = some (some (.builtin "object.__class__")))
    (hn : specialIn K (.builtin "object.__class__") "__get__" = some (some (.builtin "getset_descriptor.__get__"))) (htk : takesIn K (.builtin "object.__class__") = some true) (hm : mroIn K D (.type "object") = some true)
    (X : K.In s.heap) (I : InstAt s.heap x ox D od) (h : Q (some (.ref D)) { s with toks := s.toks + 1 }) : wpAny (model prog w) A (getAttr? (.ref x) "__class__") Q E s := by
  have hcl : (clsIn K D).isSome = true := by obtain ⟨cd, hc, _⟩ := any_some hdct; rw [hc]; rfl
  have hf : findObj K D od "__class__" = some (.bind (.builtin "getset_descriptor.__get__") (.builtin "object.__class__")) := by
    cases od with
    | none => exact findObj_dataN hcl ha hn htk
    | some o => exact findObj_data hcl ha hn htk
  obtain ⟨hp, g, d, t, os⟩ := s
  have K0 := I.type (M := model prog w)
  have K1 := looks_findIn (M := model prog w) X hga
  have K2 := looks_findIn (M := model prog w) X hgt
  have K3 := looks_find (M := model prog w) X I hf
  have sub : Looks (model prog w) hp (isInstance (.ref x) (.type "BaseException")) true := K0.andThen (looks_subIn X hsub)
  have b0 : (false && onTheHeap (Value.builtin "BaseException.__getattribute__")) = false := rfl
  have b2 : (Value.builtin "BaseException.__getattribute__" == Value.builtin "object.__getattribute__") = false := by decide +kernel
  have b1 : (onTheHeap (Value.ref D) && Value.builtin "BaseException.__getattribute__" == Value.builtin "object.__getattribute__") = false := by rw [b2]; rfl
  unfold getAttr? getAttrBy? getAttrBy
  refine wpAny_bind (wpAny_mkText (wpAny_bind (wpAny_attempt (wpAny_holding (wpAny_bind (K0.at (wpAny_bind (K1.at ?_))))))))
  show wpAny _ _ (if (onTheHeap (Value.ref D) && Value.builtin "BaseException.__getattribute__" == Value.builtin "object.__getattribute__") = true then _ else _) _ _ _
  rw [b1, if_neg Bool.false_ne_true]
  unfold getAttrByItsOwn hookBefore
  refine wpAny_bind ?_
  rw [if_pos (show onTheHeap (Value.ref D) = true from rfl)]
  refine K2.at (wpAny_bind (wpAny_attempt (wpAny_holding ?_)))
  unfold callGetattribute
  rw [b0, if_neg Bool.false_ne_true]
  unfold boundAndCalled
  rw [PySem.F.excAttr_ValueError.ga.bind (.ref x)]
  refine wpAny_bind (wpAny_pure ?_)
  show wpAny _ _ (call (.builtin "BaseException.__getattribute__") [.ref x, .str "__class__" t]) _ _ _
  refine wpAny_call (codeAny_call_builtin PySem.F.excAttr_ValueError.ga.plain PySem.F.entry_bexc_ga ?_)
  refine @check_slot (model prog w) _ _ ⟨hp, g, d, t + 1, os⟩ "BaseException.__getattribute__" "BaseException" "__getattribute__" (.ref x) [.str "__class__" t] [] _ (by decide +kernel) (by decide +kernel) sub (PySem.F.args_bexc_ga (.ref x) (.str "__class__" t)) ?_
  unfold Builtin.«object.__getattribute__»
  refine wpAny_bind (wpAny_of_eq (a := ((Value.ref x : Value), [Value.str "__class__" t])) (by first | rfl | (simp only [slotArgs]; rfl)) ?_)
  refine wpAny_bind (wpAny_pure (wpAny_bind (K0.at (wpAny_bind (K3.at ?_)))))
  show wpAny _ _ (holding [Value.builtin "object.__class__"] (call (.builtin "getset_descriptor.__get__") [.builtin "object.__class__", .ref x, .ref D]) >>= ret) _ _ _
  refine wpAny_bind (wpAny_holding (wpAny_call (class_get (s := ⟨hp, g, d, t + 1, os⟩) (ox := ox) (od := od) X I hm ?_)))
  refine wpAny_pure ?_
  show wpAny _ _ (handedOut (.ref D)) _ _ _
  rw [handedOut_of (v := .ref D) rfl]
  first
    | exact wpAny_pure (wpAny_pure h)
    | exact wpAny_pure h
    | exact wpAny_pure (wpAny_bind (wpAny_pure (wpAny_pure h)))
theorem dl_kitx_exc (hga : findIn K (.ref D) "__getattribute__" = some (some (.builtin "BaseException.__getattribute__"))) (hgt : findIn K (.ref D) "__getattr__" = some none) (hsub : subIn K (.ref D) (.type "BaseException") = some true) (hdct : hasDictIn K D = true) (ha : findIn K (.ref D) "__class__" = some (some (.builtin "object.__class__")))
    (hn : specialIn K (.builtin "object.__class__") "__get__" = some (some (.builtin "getset_descriptor.__get__"))) (htk : takesIn K (.builtin "object.__class__") = some true) (hm : mroIn K D (.type "object") = some true) :
    KitX K (.ref x) (.ref D) (fun h => InstAt h x ox D od) where
  ty := fun _ _ _ I => I.type
  it := fun _ _ X _ => by
    obtain ⟨cdD, hcD, _⟩ := any_some hdct
    unfold clsIn at hcD
    split at hcD
    · rename_i c' d' cd' sl' ho
      intro A' Q' E' s' k q
      unfold isType loadHead
      exact wpAny_bind (wpAny_loadPart (k _ _ (X _ _ ho)) (wpAny_pure q))
    · cases hcD
  ne := (handS_kitx_exc (x := x) (ox := ox) hga hgt hsub hdct ha hn htk hm).ne
  ca := fun X I k => dl_classE hga hgt hsub hdct ha hn htk hm X I k
end
end PySem.W
namespace Dl
open PySem PySem.Spec PyProof.Rows L2

/-! ### exceptions made -/
abbrev DM := Env' → (Exc → Prop) → DX → Prop
def DTM (K : PySem.W.Frag) (f : DM) (W : WX) : L2.St → Hp → XK → Prop := fun σ H Q => ∃ Z O env, ∃ (Q0 : Exc → Prop) (R0 : DX), At K Z O H σ env ∧ f env Q0 R0 ∧ Xk K Z H σ R0 W ∧ ∀ x, Q0 x → ∀ cls d H', Step Z H H' → RepX K Z H' cls d x → Q cls d H'
abbrev PDM (X : Cx) (W : WX) (e : Expr) (f : DM) : Prop := PMk X e (DTM X.K f W)
def dRaise (f : DM) : DG := fun env k => f env (fun x => k.xc x env) (fun x => k.xc x env)
section
variable {X : Cx} {W : WX} {pos p : Pos} {e : Expr} {es : List Expr} {x : Str} {C : Addr} {fm : DM} {fs : DA} {k : Nat}
theorem ds_raise (hc : X.calm = true) (tk : Takes X W) (he : PDM X W e fm) : PDS X W (.Raise (some e) none pos) (dRaise fm) := PS.imp (ps_raise hc tk he) fun D σ H ⟨Z, O, env, k, a, h, ko⟩ =>
  ⟨_, O, env, _, _, a, h, ko.xk a, fun x hx cls d H' s r => ko.xc x env hx O cls d σ H' s.le (a.step s) r⟩
/-- C(), a class of errors without an __init__ of its own -/
def dMk0 (C : Addr) : DM := fun _ Q _ => Q ⟨C, none⟩
theorem pmd_own0 {bmB : List Value} {B newId initId : String} (F : ExcBaseFacts B newId initId bmB) (q : PySem.W.excIn X.K C bmB newId = true) (gC : X.mg x = some (.ref C)) (kC : PySem.W.keepIn X.K (.ref C) = true) (r : Raises X (.ref C)) (hg : Gl X x)
    (hdb : (x == ("__debug__" : Str)) = false := by decide) : PDM X W (.Call (.Name x p) [] [] pos) (dMk0 C) := by
  intro pins s σ H Q I ⟨Z, O, env, Q0, R0, a, hf, xk, hq⟩
  refine wpAny_Call_Name_kw (ld_glob I hg gC ?_ hdb)
  refine PySem.W.callWith_K0 I.kIn kC ?_
  show wpAny _ _ (call (.ref C) []) _ _ _
  obtain ⟨bm, N, nm, qn, bs, hdct, sn, sub, ab, col, dd, k0, k1, k2, k3, k5, mN, hC, hN, hni, T⟩ := exc_obj I.kIn q
  refine wpAny_call_exc_subT F T hC hN hni (fun h' e hm => ?_) (Nat.zero_le _)
  exact mk_of I hm r (hq _ hf (.ref C) none H (Step.refl a.good) ⟨rfl, rfl⟩) (I.hok.gone hm.new)
/-- what an own __init__(self, f, ..) does: it stores its arguments under these names -/
def spX (C : Addr) (ns : List Str) : Sp := fun vs H Q E => ∃ (a : Addr) (ys : List V) (H1 : Hp), vs = .ref a :: ys ∧ ys.length = ns.length ∧ H1 a = none ∧ H = upd H1 a (exo a C none) ∧
  ∀ d H2, H1 d = none → d ≠ a → H2 a = some (exo a C (some d)) → H2 d = some (exd d (ns.zip ys).reverse) → (∀ b, b ≠ a → b ≠ d → H2 b = H1 b) → Q .non H2
def dMk (C : Addr) (ns : List Str) (fs : DA) : DM := fun env Q R => fs env (fun ds => ds.length = ns.length ∧ Q ⟨C, some (ns.zip ds).reverse⟩) R
theorem zip_fst {α β : Type} : ∀ (ns : List α) (ys : List β), ys.length = ns.length → (ns.zip ys).map (·.1) = ns
  | [], [], _ => rfl
  | n :: ns, y :: ys, h => by
    rw [List.zip_cons_cons, List.map_cons, zip_fst ns ys (by simpa using h)]
  | [], _ :: _, h => by simp at h
  | _ :: _, [], h => by simp at h
theorem zip_snd {α β : Type} : ∀ (ns : List α) (ys : List β), ys.length = ns.length → (ns.zip ys).map (·.2) = ys
  | [], [], _ => rfl
  | n :: ns, y :: ys, h => by
    rw [List.zip_cons_cons, List.map_cons, zip_snd ns ys (by simpa using h)]
  | [], _ :: _, h => by simp at h
  | _ :: _, [], h => by simp at h
theorem pmd_oex {CX : CXT} {fI : Addr} {fd : FuncData} {ps : List Str} {ns : List Str} (T : OexC X.K C) (iC : PySem.W.findIn X.K (.ref C) "__init__" = some (some (.ref fI))) (tI : PySem.W.typeIn X.K (.ref fI) = some (.type "function"))
    (F1 : FnOk X.prog X.w X.K X.mg X.base CX k fI fd ps (spX C ns)) (hr : Room (k + 1) X.A) (hb : Binds X.K fd ps []) (hx : Passes CX X (fun _ _ _ => False)) (hg : Gl X x) (hm : X.mg x = some (.ref C)) (ha : PDA X W (e :: es) fs) (hn : ns.length ≤ 1000)
    (hdb : (x == ("__debug__" : Str)) = false := by decide) (he : starEach (e :: es) X.env = (false, eval e X.env) :: starEach es X.env := by rfl) (hpl : (backTo pos (starEach es X.env)).any (·.1) = false := by rfl) :
    PDM X W (.Call (.Name x p) (e :: es) [] pos) (dMk C ns fs) := by
  intro pins s σ H Q I ⟨Z, O, env, Q0, R0, a, hf, xk, hq⟩
  refine pmk_oex T iC tI F1 hr hb .nil hx hg hm ha hdb he hpl pins s σ H Q I ?_
  refine DTA.mk a hf xk fun ds hd vs H1 s1 r1 => ?_
  obtain ⟨hl, hd⟩ := hd
  have hvl := r1.length
  refine ⟨by rw [hvl, hl]; exact hn, fun q hq1 => ?_⟩
  refine ⟨q, vs ++ [], H1, rfl, by rw [List.append_nil, hvl, hl], hq1, rfl, fun d H2 hd1 hne h2 h3 h4 => ⟨rfl, d, _, h2, h3, hd1, ?_⟩⟩
  rw [List.append_nil]
  have hfn : ∀ b, b ≠ q → b ≠ d → (upd (L2.del H2 q) d (.xd (ns.zip vs).reverse)) b = H1 b := fun b hb1 hb2 => by rw [upd_ne hb2, L2.del_ne hb1]; exact h4 b hb1 hb2
  have stp : Step Z H1 (upd (L2.del H2 q) d (.xd (ns.zip vs).reverse)) := by
    have g := s1.good
    have keep : ∀ b o, H1 b = some o → (upd (L2.del H2 q) d (.xd (ns.zip vs).reverse)) b = some o := fun b o h => (hfn b (ne_of_none h hq1) (ne_of_none h hd1)).trans h
    refine ⟨fun b o h => ?_, fun b us hb => keep _ _ (g.own b us hb), fun h c hc => ?_, g.nd⟩
    · have hm : b ∉ Z.msk := fun hm => by rw [mask_in hm] at h; cases h
      rw [mask_of hm] at h ⊢
      exact keep _ _ h
    · obtain ⟨i, j, cs, h1, h2, h3⟩ := g.vol h c hc
      exact ⟨i, j, cs, keep _ _ h1, keep _ _ h2, h3⟩
  have hdm : d ∉ Z.msk := s1.good.fresh hd1
  refine hq _ hd (.ref C) (some d) _ (s1.trans stp) ⟨rfl, d, (ns.zip vs).reverse, rfl, by rw [mask_of hdm, upd_same], ?_, ?_⟩
  · rw [List.map_reverse, List.map_reverse, zip_fst ns vs (by rw [hvl, hl]), zip_fst ns ds hl]
  · rw [List.map_reverse, List.map_reverse, zip_snd ns vs (by rw [hvl, hl]), zip_snd ns ds hl]
    exact (r1.step stp).reverse
end

/-! ### try: clauses with and without a name -/
abbrev Cl := Value × Option Nat × (Addr → Value → Option Addr → TS)
def wMix (K : PySem.W.Frag) (Wout : WX) (D : Ends) : List Cl → WX
  | [] => Wout
  | (c, none, ts) :: r => fun cls d σ H => ∃ b, PySem.W.exmOne K cls c = some b ∧ (b = true → ∀ a, H a = none → ts a cls d D σ H) ∧ (b = false → wMix K Wout D r cls d σ H)
  | (c, some i, ts) :: r => fun cls d σ H => ∃ b, PySem.W.exmOne K cls c = some b ∧
    (b = true → ∀ a, H a = none → ts a cls d { nx := fun σ' H' => D.nx (σ'.set i none) H', rt := D.rt, bk := fun σ' H' => D.bk (σ'.set i none) H', ct := fun σ' H' => D.ct (σ'.set i none) H' } (σ.set i (some (.ref a))) H) ∧ (b = false → wMix K Wout D r cls d σ H)
inductive HdsM (X : Cx) : List ExceptHandler → List Cl → Prop
  | nil : HdsM X [] []
  | cons {x : Str} {c : Value} {ts : Addr → Value → Option Addr → TS} {b₀ : Stmt} {suite : List Stmt} {np pos' : Pos} {hds : List ExceptHandler} {l : List Cl} (hc : Names X x c)
      (hsu : ∀ (a : Addr) (oe : Obj) (cls : Value) (d : Option Addr) (pn : List (Addr × Obj)), Zc cls d oe → (∃ vs, oe.data = .fields vs) → L2.PSs (X.suite a ((a, oe) :: pn)) (b₀ :: suite) (ts a cls d)) (r : HdsM X hds l) :
      HdsM X (.ExceptHandler (some (.Name x np)) none (b₀ :: suite) pos' :: hds) ((c, none, ts) :: l)
  | conA {x n : Str} {i : Nat} {c : Value} {ts : Addr → Value → Option Addr → TS} {b₀ : Stmt} {suite : List Stmt} {np pos' : Pos} {hds : List ExceptHandler} {l : List Cl} (hc : Names X x c) (hi : X.N[i]? = some n) (hln : X.env.kindOf n = some .local)
      (hsu : ∀ (a : Addr) (oe : Obj) (cls : Value) (d : Option Addr) (pn : List (Addr × Obj)), Zc cls d oe → (∃ vs, oe.data = .fields vs) → L2.PSs (X.suite a ((a, oe) :: pn)) (b₀ :: suite) (ts a cls d)) (r : HdsM X hds l) :
      HdsM X (.ExceptHandler (some (.Name x np)) (some n) (b₀ :: suite) pos' :: hds) ((c, some i, ts) :: l)
section
variable {X : Cx} {body : List Stmt} {h₀ : ExceptHandler} {hds : List ExceptHandler} {l : List Cl} {pos : Pos} {tb : WX → TS} {Wout : WX}
theorem ps_try_mix (hs : X.stack = X.env :: X.outer) (hf : X.env.frame = some X.env.locals) (hN : X.N.Nodup) (tk : Takes X Wout)
    (hb : ∀ (W : WX) (pn : List (Addr × Obj)) (xe : Value → Shared → Prop), Takes (X.tr pn xe) W → PassesOwn (model X.prog X.w) X.A X.env xe → L2.PSs (X.tr pn xe) body (tb W))
    (hh : HdsM X (h₀ :: hds) l) : L2.PS X (.Try body (h₀ :: hds) [] [] pos) (fun D σ H => tb (wMix X.K Wout D l) D σ H) := by
  refine ⟨fun pins s σ H D I h => ?_⟩
  have ok := I.ok
  have hfr : X.A.frames = some (X.env :: X.outer) := by rw [ok.frames, hs]
  refine wpAny_Try_except ?_
  refine wpAny_mono ((hb (wMix X.K Wout D l) (X.pn ++ pins) (fun e s₁ => wpAny (model X.prog X.w) X.A (noteFrame e X.env) (fun _ s₂ => wpAny (model X.prog X.w) X.A (setFlight e none) (fun _ s₃ =>
    wpAny (model X.prog X.w) X.A (handleBy e X.env (h₀ :: hds)) (SP X pins D) X.xe s₃) X.xe s₂) X.xe s₁) (fun u s' xx => ?_) PassesOwn.looking).run [] s σ H D (I.toTry _) h) (fun f s1 hsp => ?_) (fun e s1 he => he)
  · obtain ⟨a, B, sI, pins', σ', H', cls, d, rfl, J', nb, up, sky, na, os, ag, w⟩ := xx
    have J : Inv X pins σ' H' sI := J'.ofTry ok
    have sky' : Sky B (X.env :: X.outer) a (Zc cls d) X.env.locals s'.heap := by rw [← hs]; exact sky
    show wpAny (model X.prog X.w) X.A (noteFrame (.ref a) X.env) _ _ _
    refine Sky.land Zc.steady hfr hf sky' fun h3 fl3 up3 => ?_
    have J3 : Inv X pins σ' H' { s' with heap := h3 } := J.landed nb fl3.1 (up.trans up3) os ag
    obtain ⟨oe3, vs3, he3, hz3, hd3⟩ := fl3.there
    have notFr : ∀ {h : Heap} {o : Obj} {vs : Array Value}, h.FunFrames B (X.env :: X.outer) → h.get? a = some o → o.data = .fields vs → a ∉ frs (X.env :: X.outer) := fun {h o vs} ff e dd hm => by
      obtain ⟨_, o', e', hnf⟩ := ff.mem hm
      rw [e] at e'
      cases e'
      exact hnf _ dd
    have nfr := notFr fl3.2.2.1 he3 hd3
    have nL : a ≠ X.env.locals := fun z => nfr (List.mem_filterMap.mpr ⟨X.env, List.mem_cons_self, by rw [hf, z]⟩)
    have nF : a ∉ X.fs := fun hm => by
      obtain ⟨e, he, q⟩ := List.mem_filterMap.mp hm
      exact nfr (List.mem_filterMap.mpr ⟨e, List.mem_cons_of_mem _ he, q⟩)
    have S3 := J3.suite he3 hd3 na nL nF
    have LT : PySem.W.Looks (model X.prog X.w) h3 (typeOf (.ref a)) cls := fun A Q E s k q => wpAny_typeOf_ref (k _ _ he3) (by rw [hz3.1]; exact q)
    have test : ∀ {x : Str} {c : Value} {np : Pos} {Q : Value → Shared → Prop} {E : Value → Shared → Prop}, Names X x c → Q c { s' with heap := h3 } → wpAny (model X.prog X.w) (X.A.mark (some (.ref a))) (eval (.Name x np) X.env) Q E { s' with heap := h3 } := fun {x c np Q E} hc q => by
      obtain ⟨hg, hdbg, hm | ⟨hm, hv, hnn⟩⟩ := hc
      · exact ld_glob (X := X.suite a ((a, oe3) :: (X.pn ++ pins))) S3 hg hm q hdbg
      · exact ld_blt (X := X.suite a ((a, oe3) :: (X.pn ++ pins))) S3 hg hm hv q hnn hdbg
    have go : ∀ {hds' : List ExceptHandler} {l' : List Cl}, HdsM X hds' l' → wMix X.K Wout D l' cls d σ' H' →
        wpAny (model X.prog X.w) X.A (handleBy (.ref a) X.env hds') (SP X pins D) X.xe { s' with heap := h3 } := by
      intro hds' l' hk
      induction hk with
      | nil =>
        intro w
        refine wpAny_handleBy_nil ?_
        obtain ⟨k1, k2, k3, oe, vs, T, oT, ts', he, hz, hd, h1, hr⟩ := id fl3
        unfold PySem.passOn
        refine wpAny_bind (wpAny_field he hd h1 ?_)
        rw [if_neg (show ¬ ((Value.ref T == Value.none) = true) from by simp)]
        have fin : wpAny (model X.prog X.w) X.A (setFlight (.ref a) X.env.frame) (fun _ s4 => wpAny (model X.prog X.w) X.A (throw (.ref a) : Sem Flow) (SP X pins D) X.xe s4) X.xe { s' with heap := h3 } := by
          rw [hf]
          refine HandSPX.setFlight_upZ fl3 fun h4 hh4 up4 => wpAny_throw (tk _ _ ?_)
          exact ⟨a, B, sI, pins, σ', H', cls, d, rfl, J, nb, (up.trans up3).trans up4, .inr (.inr (by rw [hs]; exact hh4)), na, os, ag, w⟩
        first
          | exact wpAny_bind (wpAny_pure (wpAny_bind fin))
          | exact wpAny_bind fin
      | @cons x c ts b₀ suite np pos' hds2 l2 hc hsu r ih =>
        intro w
        obtain ⟨b, hb1, hyes, hno⟩ := w
        refine wpAny_handleBy_cons (codeAny_handlers_test (test hc ((PySem.W.exm_one (M := model X.prog X.w) (J3.kIn) LT hb1).here ?_))) (by intro q; cases q)
        cases b with
        | true =>
          refine codeAny_handlers_suite (HandSPX.lands_againZ fl3 fun h4 fl4 up4 => ?_)
          have J4 : Inv X pins σ' H' { s' with heap := h4 } := J.landed nb fl4.1 ((up.trans up3).trans up4) os ag
          obtain ⟨oe4, vs4, he4, hz4, hd4⟩ := fl4.there
          have S4 := J4.suite he4 hd4 na nL nF
          refine wpAny_mono ((hsu a oe4 cls d (X.pn ++ pins) hz4 ⟨_, hd4⟩).run [] _ _ H' _ S4 (hyes rfl a na)) (fun f s6 hsp => ?_) (fun _ _ z => False.elim z)
          cases f with
          | next => obtain ⟨σ6, H6, S6, q6⟩ := hsp; exact ⟨_, _, S6.unsuite ok, q6⟩
          | brk => obtain ⟨σ6, H6, S6, q6⟩ := hsp; exact ⟨_, _, S6.unsuite ok, q6⟩
          | cont => obtain ⟨σ6, H6, S6, q6⟩ := hsp; exact ⟨_, _, S6.unsuite ok, q6⟩
          | ret u => obtain ⟨v6, σ6, H6, S6, r6, q6⟩ := hsp; exact ⟨_, _, _, S6.unsuite ok, r6, q6⟩
        | false =>
          show wpAny _ X.A (handleBy (.ref a) X.env hds2) _ _ _
          exact ih (hno rfl)
      | @conA x n i c ts b₀ suite np pos' hds2 l2 hc hi hln hsu r ih =>
        intro w
        obtain ⟨b, hb1, hyes, hno⟩ := w
        refine wpAny_handleBy_cons (codeAny_handlers_test (test hc ((PySem.W.exm_one (M := model X.prog X.w) (J3.kIn) LT hb1).here ?_))) (by intro q; cases q)
        cases b with
        | true =>
          refine codeAny_handlers_suite_as (HandSPX.lands_againZ fl3 fun h4 fl4 up4 => ?_)
          have J4 : Inv X pins σ' H' { s' with heap := h4 } := J.landed nb fl4.1 ((up.trans up3).trans up4) os ag
          obtain ⟨oe4, vs4, he4, hz4, hd4⟩ := fl4.there
          have S4 := J4.suite he4 hd4 na nL nF
          refine store_ok (X := X.suite a ((a, oe4) :: (X.pn ++ pins))) (v := .ref a) S4 hN hi (.inl hln) rfl (fun s5 S5 => ?_) (.inr hln)
          refine wpAny_mono ((hsu a oe4 cls d (X.pn ++ pins) hz4 ⟨_, hd4⟩).run [] s5 _ H' _ S5 (hyes rfl a na)) (fun f s6 hsp => ?_) (fun _ _ z => False.elim z)
          have end_ : ∀ {σ6 : L2.St} {H6 : Hp} {Q : Shared → Prop}, Inv (X.suite a ((a, oe4) :: (X.pn ++ pins))) [] σ6 H6 s6 → (∀ s7, Inv X pins (σ6.set i none) H6 s7 → Q s7) →
              wpAny (model X.prog X.w) X.A (do bindName X.env n .none; unbindBehindTheSuite X.env n pos') (fun _ s7 => Q s7) X.xe s6 := fun {σ6 H6 Q} S6 hq => gone_ok (S6.unsuite ok) hN hi hln hq
          cases f with
          | next => obtain ⟨σ6, H6, S6, q6⟩ := hsp; exact end_ S6 fun s7 J7 => ⟨_, _, J7, q6⟩
          | brk => obtain ⟨σ6, H6, S6, q6⟩ := hsp; exact end_ S6 fun s7 J7 => ⟨_, _, J7, q6⟩
          | cont => obtain ⟨σ6, H6, S6, q6⟩ := hsp; exact end_ S6 fun s7 J7 => ⟨_, _, J7, q6⟩
          | ret u => obtain ⟨v6, σ6, H6, S6, r6, q6⟩ := hsp; exact end_ S6 fun s7 J7 => ⟨_, _, _, J7, r6, q6⟩
        | false =>
          show wpAny _ X.A (handleBy (.ref a) X.env hds2) _ _ _
          exact ih (hno rfl)
    exact go hh w
  · cases f with
    | next => obtain ⟨σ', H', J', q⟩ := hsp; exact wpAny_execs_nil ⟨σ', H', J'.ofTry ok, q⟩
    | brk => obtain ⟨σ', H', J', q⟩ := hsp; exact ⟨σ', H', J'.ofTry ok, q⟩
    | cont => obtain ⟨σ', H', J', q⟩ := hsp; exact ⟨σ', H', J'.ofTry ok, q⟩
    | ret u => obtain ⟨v, σ', H', J', r, q⟩ := hsp; exact ⟨v, σ', H', J'.ofTry ok, r, q⟩
end
end Dl

set_option maxHeartbeats 4000000
/-! The tree layer: try, suites, lists that a def owns. -/
namespace Dl
open PySem PySem.Spec PyProof.Rows L2

/-! ### try -/
abbrev GCl := Addr × Option Nat × (Addr → Value → Option Addr → DG)
def Kn.su (k : Kn) : Kn := ⟨k.nx, k.rt, k.rtL, k.bk, k.ct, fun _ _ => False⟩
def Kn.suA (k : Kn) (i : Nat) : Kn := ⟨fun e => k.nx (e.set i .un), k.rt, k.rtL, fun e => k.bk (e.set i .un), fun e => k.ct (e.set i .un), fun _ _ => False⟩
def dHs (K : PySem.W.Frag) : List GCl → Exc → Env' → Kn → Prop
  | [], x, env, k => k.xc x env
  | (c, none, g) :: r, x, env, k => ∃ b, PySem.W.exmOne K (.ref x.cls) (.ref c) = some b ∧ (b = true → ∀ a d, g a (.ref x.cls) d env k.su) ∧ (b = false → dHs K r x env k)
  | (c, some i, g) :: r, x, env, k => ∃ b, PySem.W.exmOne K (.ref x.cls) (.ref c) = some b ∧ (b = true → ∀ a d, g a (.ref x.cls) d (env.set i (.exc ⟨a, .ref x.cls, d, x⟩)) (k.suA i)) ∧ (b = false → dHs K r x env k)
def dTry (K : PySem.W.Frag) (gb : DG) (hs : List GCl) : DG := fun env k => gb env { k with xc := fun x e => dHs K hs x e k }
def clOf (K : PySem.W.Frag) : GCl → Cl := fun p => (.ref p.1, p.2.1, fun a cls d => DS K (p.2.2 a cls d) WF)
inductive HdsD (X : Cx) : List ExceptHandler → List GCl → Prop
  | nil : HdsD X [] []
  | cons {x : Str} {c : Addr} {g : Addr → Value → Option Addr → DG} {b₀ : Stmt} {suite : List Stmt} {np pos' : Pos} {hds : List ExceptHandler} {l : List GCl} (hc : Names X x (.ref c))
      (hsu : ∀ (a : Addr) (oe : Obj) (cls : Value) (d : Option Addr) (pn : List (Addr × Obj)), Zc cls d oe → (∃ vs, oe.data = .fields vs) → PDSs (X.suite a ((a, oe) :: pn)) WF (b₀ :: suite) (g a cls d)) (r : HdsD X hds l) :
      HdsD X (.ExceptHandler (some (.Name x np)) none (b₀ :: suite) pos' :: hds) ((c, none, g) :: l)
  | conA {x n : Str} {i : Nat} {c : Addr} {g : Addr → Value → Option Addr → DG} {b₀ : Stmt} {suite : List Stmt} {np pos' : Pos} {hds : List ExceptHandler} {l : List GCl} (hc : Names X x (.ref c)) (hi : X.N[i]? = some n) (hln : X.env.kindOf n = some .local)
      (hsu : ∀ (a : Addr) (oe : Obj) (cls : Value) (d : Option Addr) (pn : List (Addr × Obj)), Zc cls d oe → (∃ vs, oe.data = .fields vs) → PDSs (X.suite a ((a, oe) :: pn)) WF (b₀ :: suite) (g a cls d)) (r : HdsD X hds l) :
      HdsD X (.ExceptHandler (some (.Name x np)) (some n) (b₀ :: suite) pos' :: hds) ((c, some i, g) :: l)
theorem HdsD.m {X : Cx} {hds : List ExceptHandler} {l : List GCl} (h : HdsD X hds l) : HdsM X hds (l.map (clOf X.K)) := by
  induction h with
  | nil => exact .nil
  | cons hc hsu r ih => exact .cons hc hsu ih
  | conA hc hi hln hsu r ih => exact .conA hc hi hln hsu ih
theorem RepE.setX {K : PySem.W.Frag} {Z : Zn} {O : Own} {H : Hp} {σ : L2.St} {env : Env'} (h : RepE K Z O H σ env) {e : ExcV} (r : RepX K Z H e.cls e.d e.x) (i : Nat) : RepE K Z O H (σ.set i (some (.ref e.a))) (env.set i (.exc e)) := by
  refine ⟨by rw [List.length_set, List.length_set]; exact h.len, fun j s q => ?_, h.sub⟩
  by_cases hj : i = j
  · subst hj
    by_cases hi : i < env.length
    · rw [List.getElem?_set_self hi] at q
      cases q
      exact ⟨_, List.getElem?_set_self (by rw [h.len]; exact hi), rfl, r⟩
    · rw [List.getElem?_eq_none (by rw [List.length_set]; omega)] at q
      cases q
  · rw [List.getElem?_set_ne hj] at q ⊢
    exact h.at_ j s q
theorem At.unset {K : PySem.W.Frag} {Z : Zn} {O : Own} {H : Hp} {σ : L2.St} {env : Env'} (h : At K Z O H σ env) (i : Nat) (x : Option V) : At K Z O H (σ.set i x) (env.set i .un) := ⟨h.good, h.env.unset i x⟩
theorem mix_ev {K : PySem.W.Frag} {W : WX} {D : Ends} {Z : Zn} {O : Own} {H : Hp} {k : Kn} (ko : KOk K Z O H k D W) {x : Exc} {env : Env'} {O' : Own} {cls : Value} {d : Option Addr} {σ' : L2.St} {H' : Hp} (l : Lt Z O H O' H') (a : StAt K Z O' H' σ' env) (r : RepX K (Z.add O') H' cls d x) :
    ∀ hs : List GCl, dHs K hs x env k → wMix K W D (hs.map (clOf K)) cls d σ' H'
  | [], h => ko.xc x env h O' cls d σ' H' l a r
  | (c, none, g) :: rest, h => by
    obtain ⟨b, hb, h1, h2⟩ := h
    have ec := r.1
    subst ec
    refine ⟨b, hb, fun e q na => ?_, fun e => mix_ev ko l a r rest (h2 e)⟩
    have k2 := ko.step l
    exact ⟨Z, O', env, k.su, a, h1 e q d, ⟨k2.nx, k2.rt, k2.rtL, k2.bk, k2.ct, fun _ _ z => z.elim⟩⟩
  | (c, some i, g) :: rest, h => by
    obtain ⟨b, hb, h1, h2⟩ := h
    have ec := r.1
    subst ec
    refine ⟨b, hb, fun e q na => ?_, fun e => mix_ev ko l a r rest (h2 e)⟩
    have k2 := ko.step l
    exact ⟨Z, O', _, k.suA i, ⟨a.good, a.env.setX (e := ⟨q, .ref x.cls, d, x⟩) r i⟩, h1 e q d, ⟨fun e2 z O2 σ2 H2 l2 a2 => k2.nx _ z O2 _ H2 l2 (a2.unset i none), k2.rt, k2.rtL, fun e2 z O2 σ2 H2 l2 a2 => k2.bk _ z O2 _ H2 l2 (a2.unset i none), fun e2 z O2 σ2 H2 l2 a2 => k2.ct _ z O2 _ H2 l2 (a2.unset i none), fun _ _ z => z.elim⟩⟩
section
variable {X : Cx} {W : WX} {body : List Stmt} {h₀ : ExceptHandler} {hds : List ExceptHandler} {l : List GCl} {pos : Pos} {gb : DG}
theorem ds_try (hs : X.stack = X.env :: X.outer) (hf : X.env.frame = some X.env.locals) (hN : X.N.Nodup) (tk : Takes X W)
    (hb : ∀ (W' : WX) (pn : List (Addr × Obj)) (xe : Value → Shared → Prop), Takes (X.tr pn xe) W' → PassesOwn (model X.prog X.w) X.A X.env xe → PDSs (X.tr pn xe) W' body gb)
    (hh : HdsD X (h₀ :: hds) l) : PDS X W (.Try body (h₀ :: hds) [] [] pos) (dTry X.K gb l) := PS.imp (ps_try_mix hs hf hN tk (tb := fun W' => DS X.K gb W') hb hh.m) fun D σ H ⟨Z, O, env, k, a, h, ko⟩ =>
  ⟨Z, O, env, _, a, h, ⟨ko.nx, ko.rt, ko.rtL, ko.bk, ko.ct, fun x env' hx O' cls d σ' H' l a' r => mix_ev ko l a' r _ hx⟩⟩
/-- the context of a try's body -/
theorem Cn.tr {k : Nat} (c : Cn X W k) {W' : WX} {pn : List (Addr × Obj)} {xe : Value → Shared → Prop} (tk : Takes (X.tr pn xe) W') (hp : PassesOwn (model X.prog X.w) X.A X.env xe) : Cn (X.tr pn xe) W' k := ⟨tk, hp, c.hr, c.hc⟩
end

/-! ### in a suite: the caught exception's fields, isinstance -/
theorem look_rep {K : PySem.W.Frag} {vl : Option (Addr × Addr)} {G : Hp} {n : Str} {y : D} : ∀ {vs : List (Str × V)} {l : List (Str × D)}, vs.map (·.1) = l.map (·.1) → Reps K vl G (vs.map (·.2)) (l.map (·.2)) → l.lookup n = some y → ∃ v, vs.lookup n = some v ∧ Rep K vl G v y
  | [], [], _, _, h => by cases h
  | [], _ :: _, h, _, _ => by simp at h
  | _ :: _, [], h, _, _ => by simp at h
  | (a, v) :: vs, (b, d) :: l, hk, r, h => by
    simp only [List.map_cons, List.cons.injEq] at hk
    obtain ⟨e, hk⟩ := hk
    subst e
    simp only [List.map_cons] at r
    cases r with
    | cons _ _ _ _ r1 r2 =>
      simp only [List.lookup_cons] at h ⊢
      cases q : n == a with
      | true => rw [q] at h; cases h; exact ⟨v, rfl, r1⟩
      | false => rw [q] at h; exact look_rep hk r2 h
def dXf (a : Addr) (cls : Value) (d : Option Addr) (C : Addr) (n : Str) (i : Nat) : DE := fun env Q _ => match env[i]? with
  | some (.exc e) => e.a = a ∧ e.cls = cls ∧ e.d = d ∧ e.x.cls = C ∧ ∃ l y, e.x.fs = some l ∧ l.lookup n = some y ∧ Q y
  | _ => False
def rIsX (K : PySem.W.Frag) (D a : Addr) (d : Option Addr) : List V → Hp → VK → Prop := fun xs H Q => ∃ (c : V) (cv : Value) (b : Bool), xs = [.ref a, c] ∧ (∀ u, RelV c u → u = cv) ∧ (d = none ∨ ∃ dd fs, d = some dd ∧ H dd = some (.xd fs)) ∧ PySem.W.kitOne K (.ref D) cv = some b ∧ Q (.bl b) H
theorem call_isX {X : Cx} {a D : Addr} {oe : Obj} {pn : List (Addr × Obj)} {d : Option Addr} (C : ExcC X.K D) (hz : Zc (.ref D) d oe) (hf : ∃ vs, oe.data = .fields vs) : CallR (X.suite a ((a, oe) :: pn)) (.builtin "isinstance") (rIsX X.K D a d) := by
  intro pins s σ H xs us Q I r h
  obtain ⟨c, cv, b, rfl, hcv, hd, e, q⟩ := h
  obtain ⟨u1, u2, rfl, rx, rt⟩ := r.two
  cases (show u1 = Value.ref a from rx)
  cases hcv _ rt
  obtain ⟨hget, _⟩ := I.pin (a, oe) (List.mem_append.mpr (.inl List.mem_cons_self))
  obtain ⟨vs, hv⟩ := hf
  have J : ∃ od, PySem.W.InstAt s.heap a oe D od := by
    rcases hd with hd | ⟨dd, fs, hd, hx⟩
    · exact ⟨none, hget, hz.1, by unfold PySem.W.notCls; rw [hv] <;> rfl, by rw [hz.2, hd]; trivial⟩
    · have hx' : ObjOk X.prog X.w H s.heap dd (.xd fs) := I.hok dd _ hx
      obtain ⟨mA, hns, hr⟩ := hx'
      obtain ⟨od, ho, hl⟩ := lookIn_ns hns
      exact ⟨some od, hget, hz.1, by unfold PySem.W.notCls; rw [hv] <;> rfl, by rw [hz.2, hd]; exact ho⟩
  obtain ⟨od, J⟩ := J
  exact PySem.W.kia_one (PySem.W.dl_kitx_exc C.hg C.hk C.hs C.hd C.ha C.hn C.ht C.hm) I.kIn J e (fun z => nomatch z) fun tk => ⟨.bl b, H, I.kept (t' := tk) fun _ _ z => z, rfl, q⟩
def dIsX (K : PySem.W.Frag) (a : Addr) (cls : Value) (d : Option Addr) (c : Addr) (i : Nat) : DE := fun env Q _ => match env[i]? with
  | some (.exc e) => e.a = a ∧ e.cls = cls ∧ e.d = d ∧ ∃ b, PySem.W.kitOne K cls (.ref c) = some b ∧ Q (.bl b)
  | _ => False
section
variable {X : Cx} {W : WX} {a C c : Addr} {oe : Obj} {cls : Value} {d : Option Addr} {pn : List (Addr × Obj)} {x y n : Str} {i : Nat} {p p1 p2 pos : Pos}
theorem pd_xf (T : XfC X.K C) (hno : PySem.W.findIn X.K (.ref C) n = some none) (hz : Zc cls d oe) (hf : ∃ vs, oe.data = .fields vs) (he : L2.PE (X.suite a ((a, oe) :: pn)) (.Name x p) (tVar i))
    (hb : attributeBase (.Name x p) n X.env (eval (.Name x p) X.env) = eval (.Name x p) X.env := by rfl) : PD (X.suite a ((a, oe) :: pn)) W (.Attribute (.Name x p) n pos) (dXf a cls d C n i) :=
  PE.imp (pe_xf T hno hz hf he hb) fun σ H Q ⟨Z, O, env, Q0, R0, at_, h, xk, q⟩ => by
    unfold dXf at h
    split at h
    · rename_i e he
      obtain ⟨h1, h2, h3, h4, l, y, h5, h6, h7⟩ := h
      obtain ⟨v, hs, hv2, hr⟩ := at_.env.at_ i _ he
      obtain ⟨e1, hr⟩ := hr
      rw [h5] at hr
      obtain ⟨dd, vs, e2, hm, hk, rs⟩ := hr
      obtain ⟨v', hl, rv⟩ := look_rep hk rs h6
      exact ⟨.ref e.a, by rw [hs, hv2], by rw [h1], by rw [← h2, e1, h4], dd, vs, v', by rw [← h3, e2], mask_le _ _ _ _ hm, hl, q _ h7 _ H (Step.refl at_.good) rv⟩
    · exact h.elim
theorem pd_isX {D : Addr} (T : ExcC X.K D) (hz : Zc (.ref D) d oe) (hf : ∃ vs, oe.data = .fields vs) (he : L2.PE (X.suite a ((a, oe) :: pn)) (.Name x p1) (tVar i)) (hgi : Gl X "isinstance") (hmi : X.mg "isinstance" = none) (hg : Gl X y) (hm : X.mg y = some (.ref c)) (hdb : (y == ("__debug__" : Str)) = false := by decide)
    (hs : starEach [.Name x p1, .Name y p2] X.env = (false, eval (.Name x p1) X.env) :: starEach [.Name y p2] X.env := by rfl) (hs2 : starEach [.Name y p2] X.env = (false, eval (.Name y p2) X.env) :: starEach [] X.env := by rfl)
    (hpl : (backTo pos (starEach [.Name y p2] X.env)).any (·.1) = false := by rfl) :
    PD (X.suite a ((a, oe) :: pn)) W (.Call (.Name "isinstance" p) [.Name x p1, .Name y p2] [] pos) (dIsX X.K a (.ref D) d c i) :=
  PE.imp (pe_callB (X := X.suite a ((a, oe) :: pn)) (call_isX T hz hf) hgi hmi (by kernel_rfl) (pa_cons he (pa_cons (pe_glob (X := X.suite a ((a, oe) :: pn)) (v := .ref c) hg hm rfl hdb) pa_nil hs2) hs) (by decide) (by decide) hs hpl) fun σ H Q ⟨Z, O, env, Q0, R0, at_, h, xk, q⟩ => by
    unfold dIsX at h
    split at h
    · rename_i e he
      obtain ⟨h1, h2, h3, b, h4, h5⟩ := h
      obtain ⟨v, hs, hv2, hr⟩ := at_.env.at_ i _ he
      refine ⟨.ref e.a, by rw [hs, hv2], .ref c, .ref c, b, by rw [h1], fun u r => r, ?_, h4, q _ h5 _ H (Step.refl at_.good) (.bl _)⟩
      obtain ⟨_, hr⟩ := hr
      cases hq : e.x.fs with
      | none => rw [hq] at hr; exact .inl (by rw [← h3, hr])
      | some l =>
        rw [hq] at hr
        obtain ⟨dd, vs, e2, hm, _⟩ := hr
        exact .inr ⟨dd, vs, by rw [← h3, e2], mask_le _ _ _ _ hm⟩
    · exact h.elim
end

/-! ### lists that the def owns -/
def dOwn (i : Nat) (f : DA) : DG := fun env k => f env (fun ds => k.nx (env.set i (.own ds))) (fun x => k.xc x env)
theorem RepE.setO {K : PySem.W.Frag} {Z : Zn} {O : Own} {H : Hp} {σ : L2.St} {env : Env'} {p : Addr} {vs : List V} {ds : List D} (h : RepE K Z O H σ env) (i : Nat) (hm : (i, p, vs) ∈ O) (r : RepsZ K Z H vs ds) : RepE K Z O H (σ.set i (some (.ref p))) (env.set i (.own ds)) := by
  refine ⟨by rw [List.length_set, List.length_set]; exact h.len, fun j s e => ?_, h.sub⟩
  by_cases hj : i = j
  · subst hj
    by_cases hi : i < env.length
    · rw [List.getElem?_set_self hi] at e
      cases e
      exact ⟨_, List.getElem?_set_self (by rw [h.len]; exact hi), p, vs, rfl, hm, r⟩
    · rw [List.getElem?_eq_none (by rw [List.length_set]; omega)] at e
      cases e
  · rw [List.getElem?_set_ne hj] at e ⊢
    exact h.at_ j s e
/-- a new list comes to be owned -/
theorem own_new {K : PySem.W.Frag} {Z : Zn} {O : Own} {H : Hp} {σ : L2.St} {env : Env'} {p : Addr} {vs : List V} {ds : List D} (a : StAt K Z O H σ env) (i : Nat) (hp : H p = none) (r : RepsZ K (Z.add O) H vs ds) :
    Lt Z O H ((i, p, vs) :: O) (upd H p (.lst vs)) ∧ StAt K Z ((i, p, vs) :: O) (upd H p (.lst vs)) (σ.set i (some (.ref p))) (env.set i (.own ds)) := by
  obtain ⟨g1, g2⟩ := cons_new a.good vs hp
  refine ⟨g2, g1, ?_⟩
  have e1 : RepE K (Z.add ((i, p, vs) :: O)) ((i, p, vs) :: O) (upd H p (.lst vs)) σ env := by
    have e0 := a.env.le (Z' := Z.add ((i, p, vs) :: O)) (H' := upd H p (.lst vs)) g2 rfl fun j b us h => List.mem_append_left _ (List.mem_map.mpr ⟨_, List.mem_cons_of_mem _ h, rfl⟩)
    refine ⟨e0.len, fun j s e => ?_, fun j b us h => List.mem_append_left _ (List.mem_map.mpr ⟨_, h, rfl⟩)⟩
    obtain ⟨v, h1, h2⟩ := e0.at_ j s e
    refine ⟨v, h1, ?_⟩
    cases s with
    | own ds => obtain ⟨b, us, q1, q2, q3⟩ := h2; exact ⟨b, us, q1, List.mem_cons_of_mem _ q2, q3⟩
    | un => trivial
    | val d => exact h2
    | exc x => exact h2
  exact e1.setO i List.mem_cons_self (Reps.mono g2 r)
/-- the owned list at a is written anew -/
def putO (O : Own) (a : Addr) (ws : List V) : Own := O.map fun q => if q.2.1 = a then (q.1, a, ws) else q
theorem put_msk (Z : Zn) (O : Own) (a : Addr) (ws : List V) : (Z.add (putO O a ws)).msk = (Z.add O).msk := by
  have e : (putO O a ws).map (fun q => q.2.1) = O.map (fun q => q.2.1) := by
    unfold putO
    rw [List.map_map]
    refine List.map_congr_left fun q _ => ?_
    show (if q.2.1 = a then (q.1, a, ws) else q).2.1 = q.2.1
    by_cases h : q.2.1 = a
    · rw [if_pos h]; exact h.symm
    · rw [if_neg h]
  unfold Zn.msk Zn.add Zn.vs
  dsimp only
  rw [List.map_append, List.map_append, List.map_map, List.map_map]
  have e2 : ((fun x : Addr × List V => x.1) ∘ fun q : Nat × Addr × List V => (q.2.1, q.2.2)) = fun q => q.2.1 := rfl
  rw [e2, e]
theorem own_put {K : PySem.W.Frag} {Z : Zn} {O : Own} {H : Hp} {σ : L2.St} {env : Env'} {p : Addr} {vs ws : List V} {es : List D} (a : StAt K Z O H σ env) {i : Nat} (hs : σ[i]? = some (some (.ref p))) (hm : (i, p, vs) ∈ O) (r : RepsZ K (Z.add O) H ws es) :
    Lt Z O H (putO O p ws) (upd H p (.lst ws)) ∧ StAt K Z (putO O p ws) (upd H p (.lst ws)) σ (env.set i (.own es)) := by
  have hmem : ∀ {j : Nat} {b : Addr} {us : List V}, (j, b, us) ∈ O → b ∈ (Z.add O).msk := fun {j b us} h => List.mem_append_left _ (List.mem_map.mpr ⟨(b, us), List.mem_append_left _ (List.mem_map.mpr ⟨_, h, rfl⟩), rfl⟩)
  have hpm : p ∈ (Z.add O).msk := hmem hm
  have emask : mask (Z.add (putO O p ws)) (upd H p (.lst ws)) = mask (Z.add O) H := by
    funext b
    unfold mask
    rw [put_msk]
    by_cases hb : b ∈ (Z.add O).msk
    · rw [if_pos hb, if_pos hb]
    · rw [if_neg hb, if_neg hb, upd_ne fun z => hb (by rw [z]; exact hpm)]
  have nd := a.good.nd
  -- the names of what is owned differ
  have nd1 : ((Z.add O).own.map (·.1)).Nodup := (List.nodup_append.mp nd).1
  have one : ∀ {j : Nat} {us : List V}, (j, p, us) ∈ O → j = i ∧ us = vs := by
    intro j us h
    have nd2 : (O.map fun q => q.2.1).Nodup := by
      have e : (Z.add O).own.map (·.1) = (O.map fun q => q.2.1) ++ Z.own.map (·.1) := by
        show (O.map (fun q => (q.2.1, q.2.2)) ++ Z.own).map (·.1) = _
        rw [List.map_append, List.map_map]
        rfl
      rw [e] at nd1
      exact (List.nodup_append.mp nd1).1
    have gen : ∀ l : Own, (l.map fun q => q.2.1).Nodup → (i, p, vs) ∈ l → (j, p, us) ∈ l → j = i ∧ us = vs := by
      intro l
      induction l with
      | nil => intro _ h; cases h
      | cons q l ih =>
        intro hn h1 h2
        rw [List.map_cons, List.nodup_cons] at hn
        rcases List.mem_cons.mp h1 with h1 | h1
        · rcases List.mem_cons.mp h2 with h2 | h2
          · rw [← h1] at h2
            cases h2
            exact ⟨rfl, rfl⟩
          · exact (hn.1 (by rw [← h1]; exact List.mem_map.mpr ⟨_, h2, rfl⟩)).elim
        · rcases List.mem_cons.mp h2 with h2 | h2
          · exact (hn.1 (by rw [← h2]; exact List.mem_map.mpr ⟨_, h1, rfl⟩)).elim
          · exact ih hn.2 h1 h2
    exact gen O nd2 hm h
  have zown : ∀ b us, (b, us) ∈ Z.own → b ≠ p := fun b us h z => by
    have e : (Z.add O).own.map (·.1) = (O.map fun q => q.2.1) ++ Z.own.map (·.1) := by
      show (O.map (fun q => (q.2.1, q.2.2)) ++ Z.own).map (·.1) = _
      rw [List.map_append, List.map_map]
      rfl
    rw [e] at nd1
    exact (List.nodup_append.mp nd1).2.2 p (List.mem_map.mpr ⟨_, hm, rfl⟩) b (List.mem_map.mpr ⟨_, h, rfl⟩) z.symm
  have volp : ∀ h c, Z.vol = some (h, c) → h ≠ p ∧ c ≠ p := fun h c e => by
    have hp1 : p ∈ (Z.add O).own.map (·.1) := List.mem_map.mpr ⟨(p, vs), List.mem_append_left _ (List.mem_map.mpr ⟨_, hm, rfl⟩), rfl⟩
    have hv : h ∈ (Z.add O).vs ∧ c ∈ (Z.add O).vs := by
      unfold Zn.vs
      rw [show (Z.add O).vol = some (h, c) from e]
      simp
    exact ⟨fun z => (List.nodup_append.mp nd).2.2 p hp1 h hv.1 z.symm, fun z => (List.nodup_append.mp nd).2.2 p hp1 c hv.2 z.symm⟩
  have good : Good (Z.add (putO O p ws)) (upd H p (.lst ws)) := by
    refine ⟨fun b us h => ?_, fun h c e => ?_, by rw [put_msk]; exact nd⟩
    · rcases List.mem_append.mp h with h | h
      · obtain ⟨q, hq, e⟩ := List.mem_map.mp h
        obtain ⟨q0, hq0, e0⟩ := List.mem_map.mp hq
        by_cases hb : q0.2.1 = p
        · rw [if_pos hb] at e0
          rw [← e0] at e
          cases e
          exact upd_same
        · rw [if_neg hb] at e0
          rw [← e0] at e
          cases e
          rw [upd_ne hb]
          exact a.good.own _ _ (List.mem_append_left _ (List.mem_map.mpr ⟨_, hq0, rfl⟩))
      · rw [upd_ne (zown b us h)]
        exact a.good.own b us (List.mem_append_right _ h)
    · obtain ⟨s, j, cs, h1, h2, h3⟩ := a.good.vol h c e
      obtain ⟨n1, n2⟩ := volp h c e
      exact ⟨s, j, cs, by rw [upd_ne n1]; exact h1, by rw [upd_ne n2]; exact h2, h3⟩
  refine ⟨fun b o h => by rw [emask]; exact h, good, ?_⟩
  have sub : ∀ j b us, (j, b, us) ∈ putO O p ws → (b, us) ∈ (Z.add (putO O p ws)).own := fun j b us h => List.mem_append_left _ (List.mem_map.mpr ⟨_, h, rfl⟩)
  refine ⟨by rw [List.length_set]; exact a.env.len, fun j s e => ?_, sub⟩
  by_cases hj : i = j
  · subst hj
    by_cases hi : i < env.length
    · rw [List.getElem?_set_self hi] at e
      cases e
      refine ⟨_, hs, p, ws, rfl, List.mem_map.mpr ⟨_, hm, by rw [if_pos rfl]⟩, ?_⟩
      show Reps K Z.vol _ _ _
      rw [emask]
      exact r
    · rw [List.getElem?_eq_none (by rw [List.length_set]; omega)] at e
      cases e
  · rw [List.getElem?_set_ne hj] at e
    obtain ⟨v, h1, h2⟩ := a.env.at_ j s e
    refine ⟨v, h1, ?_⟩
    cases s with
    | un => trivial
    | val d => obtain ⟨x, q1, q2⟩ := h2; exact ⟨x, q1, by show Rep K Z.vol _ _ _; rw [emask]; exact q2⟩
    | exc x => exact ⟨h2.1, h2.2.le (fun b o h => by rw [emask]; exact h) rfl⟩
    | own ds =>
      obtain ⟨b, us, q1, q2, q3⟩ := h2
      refine ⟨b, us, q1, List.mem_map.mpr ⟨_, q2, ?_⟩, by show Reps K Z.vol _ _ _; rw [emask]; exact q3⟩
      have hb : b ≠ p := fun z => by subst z; exact hj (one q2).1.symm
      rw [if_neg hb]
section
variable {X : Cx} {W : WX} {e e2 : Expr} {fl : DA} {fe fi : DE} {pos pos' p p2 : Pos} {x : Str} {i : Nat}
theorem ds_own (hN : X.N.Nodup) (hi : X.N[i]? = some x) (hx : Loc X.env.scope x) (he : PDL X W e fl) (hs : swapsWith e (some (.Name x pos')) pos.line X.env = pure false := by rfl) (hf : X.fn x = true ∨ X.env.scope.names.lookup x = some .local := by first | exact .inl rfl | exact .inr rfl | assumption) :
    PDS X W (.Assign [.Name x pos'] e pos) (dOwn i fl) := PS.imp (ps_set hN hi hx he hs hf) fun D σ H ⟨Z, O, env, k, a, h, ko⟩ =>
  ⟨_, O, env, _, _, a, h, ko.xk a, fun ds hd q vs H1 s hq r => by
    obtain ⟨l, a'⟩ := own_new (a.step s) i hq r
    exact ko.nx _ hd _ _ _ (s.le.trans l) a'⟩
/-- x.append(e), x owned -/
def dApp (i : Nat) (fe : DE) : DG := fun env k => match env[i]? with
  | some (.own ds) => fe env (fun d => ds.length < sizeLine ∧ k.nx (env.set i (.own (ds ++ [d])))) (fun x => k.xc x env)
  | _ => False
theorem own_at {K : PySem.W.Frag} {Z : Zn} {O : Own} {H : Hp} {σ : L2.St} {env : Env'} {ds : List D} (a : StAt K Z O H σ env) (e : env[i]? = some (.own ds)) : ∃ p vs, σ[i]? = some (some (.ref p)) ∧ (i, p, vs) ∈ O ∧ RepsZ K (Z.add O) H vs ds ∧ H p = some (.lst vs) := by
  obtain ⟨v, h1, p, vs, h2, h3, h4⟩ := a.env.at_ i _ e
  exact ⟨p, vs, by rw [h1, h2], h3, h4, a.good.own p vs (List.mem_append_left _ (List.mem_map.mpr ⟨_, h3, rfl⟩))⟩
theorem ds_app (hv : L2.PE X (.Name x p) (tVar i)) (he : PD X W e fe) (hs : starEach [e] X.env = (false, eval e X.env) :: starEach [] X.env := by rfl)
    (hbase : attributeBase (.Name x p) "append" X.env (eval (.Name x p) X.env) = eval (.Name x p) X.env := by rfl)
    (hfew : ((backTo pos (starEach [e] X.env)).all (fun x => !x.1) && (backToKw pos (keywordEach [] X.env)).all (fun x => x.1.isSome) && decide ([e].length + ([] : List Keyword).length + (if ([] : List Keyword).isEmpty then 0 else 1) < 30)) = true := by rfl)
    (hline : (p2.endLine == pos.line) = true := by rfl) (hsw : swapsWith (.Call (.Attribute (.Name x p) "append" p2) [e] [] pos) none pos'.line X.env = pure false := by rfl) :
    PDS X W (.Expr (.Call (.Attribute (.Name x p) "append" p2) [e] [] pos) pos') (dApp i fe) :=
  PS.imp (ps_expr (pe_bm PySem.F.plainAttrs_list PySem.F.slot_list_append PySem.F.type_list_append mt_append hv (pa_cons he pa_nil hs) hbase hfew hline hs rfl) hsw) fun D σ H ⟨Z, O, env, k, a, h, ko⟩ => by
    unfold dApp at h
    split at h
    · rename_i ds ho
      obtain ⟨q, vs, h1, h2, h3, h4⟩ := own_at a ho
      refine ⟨.ref q, h1, .inl ⟨rfl, vs, SqL.of h4⟩, DT.mk a h (ko.xk a) fun d hd v H1 s r => ?_⟩
      have a1 := a.step s
      obtain ⟨q', vs', g1, g2, g3, g4⟩ := own_at a1 ho
      rw [h1] at g1
      cases g1
      refine ⟨q, vs', v, rfl, rfl, g4, by rw [g3.length]; exact hd.1, ?_⟩
      obtain ⟨l, a2⟩ := own_put a1 h1 g2 (g3.append (.one r))
      exact ko.nx _ hd.2 _ _ _ (s.le.trans l) a2
    · exact h.elim
/-- x[i] = e, x owned -/
def dSetI (i : Nat) (fe fi : DE) : DG := fun env k => fe env (fun d => match env[i]? with
  | some (.own ds) => fi env (fun j => ∃ n m, j = .int n ∧ ixN ds.length n = some m ∧ k.nx (env.set i (.own (ds.set m d)))) (fun x => k.xc x env)
  | _ => False) (fun x => k.xc x env)
theorem ds_setI {ei : Expr} (hv : L2.PE X (.Name x p) (tVar i)) (he : PD X W e fe) (hi : PD X W ei fi)
    (ha : ∀ v, assign (.Subscript (.Name x p) ei p2) X.env v = (do
      let ov ← holding [v] (eval (.Name x p) X.env)
      let iv ← holding [v, ov] (eval ei X.env)
      standAt p2
      holding [v, ov, iv] (setItem ov iv v)
      release [v, ov, iv] []) := by intro _; rfl)
    (hs : swapsWithSole [.Subscript (.Name x p) ei p2] e pos.line X.env = pure false := by rfl) (hw : swappedStores [.Subscript (.Name x p) ei p2] e X.env = pure none := by rfl)
    (h1 : (assignEach [.Subscript (.Name x p) ei p2] X.env).map (·.2) = [assign (.Subscript (.Name x p) ei p2) X.env] := by rfl) :
    PDS X W (.Assign [.Subscript (.Name x p) ei p2] e pos) (dSetI i fe fi) :=
  PS.imp (ps_asg he (pg_sub hv hi set_list ha) hs hw h1) fun D σ H ⟨Z, O, env, k, a, h, ko⟩ =>
    DT.mk a h (ko.xk a) fun d hd v H1 s r => by
      split at hd
      · rename_i ds ho
        have a1 := a.step s
        obtain ⟨q, vs, h1, h2, h3, h4⟩ := own_at a1 ho
        refine ⟨.ref q, h1, DT.mk a1 hd ((ko.step s.le).xk a1) fun j hj u H2 s2 r2 => ?_⟩
        obtain ⟨n, m, ej, hm, hn⟩ := hj
        subst ej
        cases r2
        have a2 := a1.step s2
        obtain ⟨q', vs', g1, g2, g3, g4⟩ := own_at a2 ho
        rw [h1] at g1
        cases g1
        refine ⟨q, vs', n, m, rfl, rfl, g4, by rw [g3.length]; exact hm, ?_⟩
        obtain ⟨l, a3⟩ := own_put a2 h1 g2 (g3.set m (r.step s2))
        exact ko.nx _ hn _ _ _ ((s.le.trans s2.le).trans l) a3
      · exact hd.elim
/-- x[e], x owned -/
def dOwnIx (i : Nat) (fi : DE) : DE := fun env Q R => match env[i]? with
  | some (.own ds) => fi env (fun j => ∃ n d, j = .int n ∧ atI ds n = some d ∧ Q d) R
  | _ => False
theorem own_atE {K : PySem.W.Frag} {Z : Zn} {O : Own} {H : Hp} {σ : L2.St} {env : Env'} {ds : List D} (a : At K Z O H σ env) (e : env[i]? = some (.own ds)) : ∃ p vs, σ[i]? = some (some (.ref p)) ∧ (i, p, vs) ∈ O ∧ RepsZ K Z H vs ds ∧ H p = some (.lst vs) := by
  obtain ⟨v, h1, p, vs, h2, h3, h4⟩ := a.env.at_ i _ e
  exact ⟨p, vs, by rw [h1, h2], h3, h4, a.good.own p vs (a.env.sub _ _ _ h3)⟩
theorem pd_ownIx {ei : Expr} (hv : L2.PE X (.Name x p) (tVar i)) (hi : PD X W ei fi) (hs : PlainIx ei := by exact fun _ _ => rfl) : PD X W (.Subscript (.Name x p) ei pos) (dOwnIx i fi) := PE.imp (pe_ix ix_seq hv hi hs) fun σ H Q ⟨Z, O, env, Q0, R0, a, h, xk, q⟩ => by
  unfold dOwnIx at h
  split at h
  · rename_i ds ho
    obtain ⟨b, vs, h1, h2, h3, h4⟩ := own_atE a ho
    refine ⟨.ref b, h1, DT.mk a h xk fun j hj u H2 s2 r2 => ?_⟩
    obtain ⟨n, d, ej, hd, hq⟩ := hj
    subst ej
    cases r2
    have a2 := a.step s2
    obtain ⟨b', vs', g1, g2, g3, g4⟩ := own_atE a2 ho
    rw [h1] at g1
    cases g1
    obtain ⟨v, e1, e2⟩ := atI_rep g3 hd
    exact .inl ⟨b, vs', n, v, rfl, rfl, SqL.of g4, e1, q d hq v H2 s2 e2⟩
  · exact h.elim
/-- len(x), tuple(x), .. : the owned list as an argument of a call that keeps it -/
def dOwnLen (i : Nat) : DE := fun env Q _ => match env[i]? with
  | some (.own ds) => Q (.int ds.length)
  | _ => False
theorem pd_ownLen (hv : L2.PE X (.Name x p) (tVar i)) (hg : Gl X "len") (hm : X.mg "len" = none) (hs : starEach [.Name x p] X.env = (false, eval (.Name x p) X.env) :: starEach [] X.env := by rfl) (hpl : (backTo pos (starEach [] X.env)).any (·.1) = false := by rfl) :
    PD X W (.Call (.Name "len" p2) [.Name x p] [] pos) (dOwnLen i) := PE.imp (pe_callB call_len hg hm boot_len (pa_cons hv pa_nil hs) (by decide) (by decide) hs hpl) fun σ H Q ⟨Z, O, env, Q0, R0, a, h, xk, q⟩ => by
  unfold dOwnLen at h
  split at h
  · rename_i ds ho
    obtain ⟨b, vs, h1, h2, h3, h4⟩ := own_atE a ho
    refine ⟨.ref b, h1, .ref b, vs.length, rfl, .inl ⟨vs, SqL.of h4, rfl⟩, ?_⟩
    have e : (vs.length : Int) = (ds.length : Int) := by rw [h3.length]
    rw [e]
    exact q _ h _ H (Step.refl a.good) (.int _)
  · exact h.elim
def dOwnTup (i : Nat) : DE := fun env Q _ => match env[i]? with
  | some (.own ds) => Q (.tup ds)
  | _ => False
theorem pd_ownTup (hv : L2.PE X (.Name x p) (tVar i)) (hg : Gl X "tuple") (hm : X.mg "tuple" = none) (hs : starEach [.Name x p] X.env = (false, eval (.Name x p) X.env) :: starEach [] X.env := by rfl) (hpl : (backTo pos (starEach [] X.env)).any (·.1) = false := by rfl) :
    PD X W (.Call (.Name "tuple" p2) [.Name x p] [] pos) (dOwnTup i) := PE.imp (pe_callTy call_tuple_of hg hm (by kernel_rfl) (pa_cons hv pa_nil hs) (by decide) (by decide) hs hpl) fun σ H Q ⟨Z, O, env, Q0, R0, a, h, xk, q⟩ => by
  unfold dOwnTup at h
  split at h
  · rename_i ds ho
    obtain ⟨b, vs, h1, h2, h3, h4⟩ := own_atE a ho
    exact ⟨.ref b, h1, b, vs, rfl, .inl ⟨SqL.of h4, fun l hl => q _ h _ _ (Step.new a.good _ hl) (new_tup a.good hl h3)⟩⟩
  · exact h.elim
/-! the owned list is given away: from then on it does not change -/
def relE (i : Nat) (env : Env') : Env' := match env[i]? with
  | some (.own ds) => env.set i (.val (.lst ds))
  | _ => env
theorem own_rel {K : PySem.W.Frag} {Z : Zn} {O : Own} {H : Hp} {σ : L2.St} {env : Env'} (a : StAt K Z O H σ env) (i : Nat) (one : ∀ j ds, j ≠ i → env[j]? ≠ some (.own ds)) : ∃ O', Lt Z O H O' H ∧ StAt K Z O' H σ (relE i env) := by
  unfold relE
  split
  · rename_i ds ho
    obtain ⟨b, vs, h1, h2, h3, h4⟩ := own_at a ho
    have hmsk : ∀ c, c ∈ (Z.add []).msk → c ∈ (Z.add O).msk := fun c hc => by
      rcases List.mem_append.mp hc with hc | hc
      · refine List.mem_append_left _ ?_
        show c ∈ (O.map (fun q => (q.2.1, q.2.2)) ++ Z.own).map (·.1)
        rw [List.map_append]
        exact List.mem_append_right _ hc
      · exact List.mem_append_right _ hc
    have le : Lt Z O H [] H := fun c o h => by
      have hc : c ∉ (Z.add O).msk := fun hm => by rw [mask_in hm] at h; cases h
      rw [mask_of hc] at h
      rw [mask_of fun z => hc (hmsk c z)]
      exact h
    have hb : b ∉ (Z.add []).msk := fun z => by
      have nd := a.good.nd
      have e : (Z.add O).msk = (O.map fun q => q.2.1) ++ ((Z.add []).msk) := by
        show (O.map (fun q => (q.2.1, q.2.2)) ++ Z.own).map (·.1) ++ (Z.add O).vs = _
        rw [List.map_append, List.map_map, List.append_assoc]
        rfl
      rw [e] at nd
      exact (List.nodup_append.mp nd).2.2 b (List.mem_map.mpr ⟨_, h2, rfl⟩) b z rfl
    have rb : RepZ K (Z.add []) H (.ref b) (.lst ds) := .lst b vs ds (by rw [mask_of hb]; exact h4) (Reps.mono le h3)
    refine ⟨[], le, by rw [add_nil]; exact a.good.sub, by rw [List.length_set]; exact a.env.len, fun j s e => ?_, fun _ _ _ h => by cases h⟩
    by_cases hj : i = j
    · subst hj
      by_cases hi : i < env.length
      · rw [List.getElem?_set_self hi] at e
        cases e
        exact ⟨_, h1, _, rfl, rb⟩
      · rw [List.getElem?_eq_none (by rw [List.length_set]; omega)] at e
        cases e
    · rw [List.getElem?_set_ne hj] at e
      obtain ⟨v, q1, q2⟩ := a.env.at_ j s e
      refine ⟨v, q1, ?_⟩
      cases s with
      | un => trivial
      | val d => obtain ⟨x, p1, p2⟩ := q2; exact ⟨x, p1, Rep.mono le p2⟩
      | exc x => exact ⟨q2.1, q2.2.le le rfl⟩
      | own es => exact (one j es (fun z => hj z.symm) e).elim
  · exact ⟨O, Le.refl _, a⟩
/-- no other slot owns -/
def noOwn (i : Nat) (env : Env') : Prop := ∀ j ds, j ≠ i → env[j]? ≠ some (.own ds)
def noOwnB : Nat → Nat → Env' → Bool
  | _, _, [] => true
  | i, j, .own _ :: r => decide (j = i) && noOwnB i (j + 1) r
  | i, j, _ :: r => noOwnB i (j + 1) r
theorem noOwnB_ok {i : Nat} : ∀ {env : Env'} {j : Nat}, noOwnB i j env = true → ∀ m ds, env[m]? = some (.own ds) → j + m = i
  | [], j, _, m, ds, e => by simp at e
  | s :: r, j, h, 0, ds, e => by
    simp at e
    subst e
    simp only [noOwnB, Bool.and_eq_true, decide_eq_true_eq] at h
    omega
  | s :: r, j, h, m + 1, ds, e => by
    have h2 : noOwnB i (j + 1) r = true := by
      cases s <;> simp only [noOwnB, Bool.and_eq_true] at h <;> first | exact h | exact h.2
    have := noOwnB_ok h2 m ds (by simpa using e)
    omega
theorem noOwn_of {i : Nat} {env : Env'} (h : noOwnB i 0 env = true) : noOwn i env := fun j ds hj e => hj (by have := noOwnB_ok h j ds e; omega)
def dRel (i : Nat) (g : DG) : DG := fun env k => noOwnB i 0 env = true ∧ g (relE i env) k
theorem dss_rel {ss : List Stmt} {g : DG} (h : PDSs X W ss g) : PDSs X W ss (dRel i g) := PSs.imp h fun D σ H ⟨Z, O, env, k, a, ⟨h1, h2⟩, ko⟩ => by
  obtain ⟨O', l, a'⟩ := own_rel a i (noOwn_of h1)
  exact ⟨Z, O', _, k, a', h2, ko.step l⟩
theorem ds_rel {st : Stmt} {g : DG} (h : PDS X W st g) : PDS X W st (dRel i g) := PS.imp h fun D σ H ⟨Z, O, env, k, a, ⟨h1, h2⟩, ko⟩ => by
  obtain ⟨O', l, a'⟩ := own_rel a i (noOwn_of h1)
  exact ⟨Z, O', _, k, a', h2, ko.step l⟩
end
end Dl

set_option maxHeartbeats 1000000
/-! A written dict of the module with text keys: walked, zipped with a tuple. -/
namespace Dk
open PySem PySem.Spec PyProof.Rows L2

/-- the written dict at d has these keys, in this order -/
structure KTab (K : PySem.W.Frag) (w : World) (d : Addr) (ks : List Str) (n : Nat) : Prop where
  ex : ∃ es, KDict K w d es n ∧ es.toList.map He.keyOf = He.keysIn w.params ks
  nd : ks.Nodup
theorem ktab_of {K : PySem.W.Frag} {w : World} {a : Addr} {ks : List Str} (h : He.dicW K a = some (He.keysIn w.params ks)) (nd : ks.Nodup) : ∃ n, KTab K w a ks n := by
  obtain ⟨es, n, D⟩ := He.dicW_ok h
  refine ⟨n, ⟨es, D, ?_⟩, nd⟩
  have h2 := h
  unfold He.dicW at h2
  rw [D.at_] at h2
  have h3 : (match decide ("dict" = "dict") && ((#[] : Array (Option Value)).isEmpty && !(a == sysModules)) with
        | true => some (es.toList.map He.keyOf)
        | false => none) = some (He.keysIn w.params ks) := h2
  rw [D.low] at h3
  exact Option.some.inj h3
theorem pairs_of {prog : Program} {w : World} : ∀ {l : List DictEntry} {ks : List Str}, l.map He.keyOf = He.keysIn w.params ks → ∃ kvs : List (Str × Value), Pairs (strKind prog w) l kvs ∧ kvs.map (·.1) = ks
  | [], [], _ => ⟨[], .nil, rfl⟩
  | [], _ :: _, h => by cases h
  | _ :: _, [], h => by cases h
  | e :: r, k :: ks, h => by
    have h1 : He.keyOf e :: r.map He.keyOf = some (k, PyData.keyHash w.params k) :: He.keysIn w.params ks := h
    injection h1 with h2 h3
    obtain ⟨kvs, p, q⟩ := pairs_of (prog := prog) h3
    refine ⟨(k, e.val) :: kvs, .cons ?_ rfl p, by simp [q]⟩
    unfold He.keyOf at h2
    split at h2
    · rename_i x t ek
      have h4 := Option.some.inj h2
      obtain ⟨h5, h6⟩ := Prod.mk.inj h4
      rw [ek, ← h5]
      exact strKind_is prog w x t
    · cases h2
/-- .. as a heap's dict -/
theorem KTab.dictAt {K : PySem.W.Frag} {prog : Program} {w : World} {d : Addr} {ks : List Str} {n : Nat} (T : KTab K w d ks n) {h : Heap} (k : K.In h) : ∃ kvs : List (Str × Value), h.DictAt (strKind prog w) d kvs n ∧ kvs.map (·.1) = ks := by
  obtain ⟨es, D, hk⟩ := T.ex
  obtain ⟨kvs, p, q⟩ := pairs_of (prog := prog) hk
  obtain ⟨o, es', ep, ho, hx, hd, hko, _⟩ := PySem.W.mapOf_K (prog := prog) (w := w) k D.at_ D.lit
  have e := k _ _ D.at_
  rw [e] at ho
  cases ho
  obtain ⟨rfl, rfl⟩ := dict_ep (es := es) (ep := n) rfl hd
  exact ⟨kvs, ⟨_, _, e, hx, rfl, hko, p, by rw [q]; exact T.nd⟩, q⟩
theorem KTab.low {K : PySem.W.Frag} {w : World} {d : Addr} {ks : List Str} {n : Nat} (T : KTab K w d ks n) : (d == sysModules) = false := let ⟨_, D, _⟩ := T.ex; D.low
theorem key_at {ks : List Str} {kvs : List (Str × Value)} (q : kvs.map (·.1) = ks) {i : Nat} {k : Str} (h : ks[i]? = some k) : ∃ v, kvs[i]? = some (k, v) := by
  rw [← q, List.getElem?_map] at h
  cases e : kvs[i]? with
  | none => rw [e] at h; cases h
  | some p => rw [e] at h; cases h; exact ⟨p.2, rfl⟩

/-- the keys, in their order -/
def Itq (ks : List Str) : It := ⟨fun i _ => i < ks.length, fun i H x H' => H' = H ∧ ∃ k, ks[i]? = some k ∧ x = .str k, fun i _ => ks.length ≤ i⟩
section
variable {P : Program} {w : World} {K : PySem.W.Frag} {d : Addr} {ks : List Str} {n : Nat}
theorem KTab.len {h : Heap} {prog : Program} {kvs : List (Str × Value)} (q : kvs.map (·.1) = ks) : kvs.length = ks.length := by rw [← q, List.length_map]
theorem turn_tab {tg : Expr} (T : KTab K w d ks n) (it : Addr) : Turn P w K tg (Itq ks) [it] it (fun i h => h.IsKeyIter it d i ks.length n) where
  mem := List.mem_singleton.mpr rfl
  obj := fun i h st b hb => by
    cases List.mem_singleton.mp hb
    obtain ⟨oi, e, _, dd⟩ := st
    exact ⟨oi, e, fun v z => by rw [dd] at z; cases z⟩
  keep := fun i h h' st k => let ⟨oi, e, r⟩ := st; ⟨oi, k it (List.mem_singleton.mpr rfl) oi e, r⟩
  item := by
    intro X hP hw hK hc i pins s σ H E I hf st hg
    subst hP hw hK
    obtain ⟨f0, f1, f2, f3, f4, f5⟩ := hf it (List.mem_singleton.mpr rfl)
    obtain ⟨kvs, hm, hq⟩ := T.dictAt (prog := X.prog) I.kIn
    have hl : ks.length = kvs.length := by rw [← hq, List.length_map]
    obtain ⟨k, hk⟩ : ∃ k, ks[i]? = some k := ⟨_, List.getElem?_eq_getElem hg⟩
    obtain ⟨v, hv⟩ := key_at hq hk
    rw [hl] at st
    refine wpAny_pyNext_dict_item st hm hv fun key h' hkey st' sb => ?_
    have I1 : Inv X pins σ H { s with heap := h' } := I.turned (t' := s.toks) (fun b ob hb e => (sb.2 b hb).trans e) f0 f1 f3 f4 f5
    obtain ⟨oi, e, c, dd⟩ := id st'
    obtain ⟨t, rfl⟩ := PySem.Value.isStrOf_shape hkey
    refine ⟨_, rfl, go_of (s := { s with heap := h' }) e c dd (by decide) ⟨.str k, H, I1, ⟨t, rfl⟩, ⟨rfl, k, hk, rfl⟩, ?_, fun b hb => (hf b hb).1⟩⟩
    rw [← hl] at st'
    exact st'
  done := by
    intro X hP hw hK hc i pins s σ H E I hf st hg
    subst hP hw hK
    obtain ⟨f0, f1, f2, f3, f4, f5⟩ := hf it (List.mem_singleton.mpr rfl)
    obtain ⟨kvs, hm, hq⟩ := T.dictAt (prog := X.prog) I.kIn
    have hl : ks.length = kvs.length := by rw [← hq, List.length_map]
    have hx : kvs[i]? = none := List.getElem?_eq_none (by rw [← hl]; exact hg)
    rw [hl] at st
    exact wpAny_pyNext_dict_end (I.ok.hd hc) st hm hx fun h' eb => ⟨rfl, I.turned (t' := s.toks) (fun b ob hb e => eb b ob hb e) f0 f1 f3 f4 f5⟩
  self := fun A i s Q E st h => wpAny_pyIter_keyiter st h
/-- for k in the table -/
def iTab (d : Addr) (ks : List Str) (te : TE) : TI := fun σ H R => te σ H fun x H1 => x = .ref d ∧ R (Itq ks) H1
theorem pi_tab {X : Cx} {tg e : Expr} {te : TE} (T : KTab X.K X.w d ks n) (he : PE X e te) : PI X tg e (iTab d ks te) := by
  refine ⟨fun pins s σ H R I h => ?_⟩
  refine thn (he.run pins s σ H _ I h) fun u s1 ⟨x, H1, I1, rx, ex, q⟩ => ?_
  subst ex
  obtain rfl : u = Value.ref d := rx
  obtain ⟨kvs, hm, hq⟩ := T.dictAt (prog := X.prog) I1.kIn
  have hl : ks.length = kvs.length := by rw [← hq, List.length_map]
  refine wpAny_pyIter_dict T.low hm (pi_one (tk := s1.toks) I1 _ (turn_tab T _) ⟨_, Heap.get?_push_size _ rfl, rfl, ?_⟩ q)
  rw [hl]
  rfl
end

/-! ### zip of two that are walked by their own iterators -/
section
variable {prog : Program} {w : World}
/-- nextOf gives x, and the state goes on; l is what is walked -/
structure Nxt (prog : Program) (w : World) (it l : Addr) (P P' : Heap → Prop) (G : Value → Prop) : Prop where
  keep : ∀ h h', P h → (∀ o, h.get? it = some o → h'.get? it = some o) → (∀ o, h.get? l = some o → h'.get? l = some o) → P h'
  keep' : ∀ h h', P' h → (∀ o, h.get? it = some o → h'.get? it = some o) → (∀ o, h.get? l = some o → h'.get? l = some o) → P' h'
  run : ∀ (A : Around) (E : Value → Shared → Prop) (s : Shared) (Q : Value → Shared → Prop), P s.heap → (∀ x h', G x → P' h' → Heap.SameBut it s.heap h' → Q x { s with heap := h' }) → wpAny (model prog w) A (Builtin.SmallTypes.nextOf (.ref it)) Q E s
structure Fin_ (prog : Program) (w : World) (it l : Addr) (P : Heap → Prop) : Prop where
  keep : ∀ h h', P h → (∀ o, h.get? it = some o → h'.get? it = some o) → (∀ o, h.get? l = some o → h'.get? l = some o) → P h'
  run : ∀ (A : Around) (E : Value → Shared → Prop) (s : Shared) (Q : Value → Shared → Prop), A.handled = none → P s.heap → (∀ h' e, Heap.ExtBut it s.heap h' → (∃ o, h'.get? e = some o ∧ o.cls = .type "StopIteration") → E (.ref e) { s with heap := h' }) → wpAny (model prog w) A (Builtin.SmallTypes.nextOf (.ref it)) Q E s
theorem Nxt.ext {it l b : Addr} {P P' : Heap → Prop} {G : Value → Prop} (N : Nxt prog w it l P P' G) {h h' : Heap} (p : P h) (e : Heap.ExtBut b h h') (h1 : it ≠ b) (h2 : l ≠ b) : P h' := N.keep h h' p (fun o q => e it o h1 q) fun o q => e l o h2 q
theorem Nxt.ext' {it l b : Addr} {P P' : Heap → Prop} {G : Value → Prop} (N : Nxt prog w it l P P' G) {h h' : Heap} (p : P' h) (e : Heap.ExtBut b h h') (h1 : it ≠ b) (h2 : l ≠ b) : P' h' := N.keep' h h' p (fun o q => e it o h1 q) fun o q => e l o h2 q
theorem zip_step {z TI TO i1 i2 l1 l2 : Addr} {a b : Value} {G1 G2 : Value → Prop} {P1 P1' P2 P2' : Heap → Prop} {A : Around} {E : Value → Shared → Prop} {s : Shared} {Q : Value → Shared → Prop} (D : ZipApart z TI TO i1 i2 l1 l2)
    (N1 : Nxt prog w i1 l1 P1 P1' G1) (N2 : Nxt prog w i2 l2 P2 P2' G2) (hz : IsZip s.heap z TI TO .none) (hTI : IsPair s.heap TI (.ref i1) (.ref i2)) (hTO : IsPair s.heap TO a b) (p1 : P1 s.heap) (p2 : P2 s.heap)
    (hQ : ∀ x y h', G1 x → G2 y → IsZip h' z TI TO (rawInt s.heap.objs.size) → IsPair h' TO x y → P1' h' → P2' h' → IsPair h' s.heap.objs.size x y → h'.objs.size = s.heap.objs.size + 1 →
      (∀ c o, c ≠ z → c ≠ TO → c ≠ i1 → c ≠ i2 → s.heap.get? c = some o → h'.get? c = some o) → Q (.ref s.heap.objs.size) { s with heap := h' }) :
    wpAny (model prog w) A (Builtin.«zip.__next__» ⟨[.ref z], []⟩) (fun fin s' => ∃ v, fin = .done (.ret v) ∧ Q v s') E s := by
  show wpAny _ _ (field (.ref z) 2 >>= _) _ _ _
  refine wpAny_bind (wpAny_field hz rfl (x := .bool false) rfl ?_)
  show wpAny _ _ (field (.ref z) 3 >>= _) _ _ _
  refine wpAny_bind (wpAny_field hz rfl (x := .ref TI) rfl (wpAny_bind (wpAny_seqItems hTI rfl ?_)))
  show wpAny _ _ (Builtin.SmallTypes.ownedTupleIsFree (.ref z) >>= _) _ _ _
  refine wpAny_bind ?_
  unfold Builtin.SmallTypes.ownedTupleIsFree
  refine wpAny_bind (wpAny_field hz rfl (x := .none) rfl (wpAny_pure ?_))
  simp only [if_true]
  refine wpAny_bind (wpAny_rule (wpAny_bind (wpAny_field hz rfl (x := .ref TO) rfl (wpAny_bind (wpAny_setField_rec hz (by simp) fun ha hza sa => ?_)))))
  replace hza : IsZip ha z TI TO .ellipsis := hza
  refine wpAny_bind ?_
  simp only [List.zipIdx_cons, List.zipIdx_nil, List.forIn_cons, List.forIn_nil]
  -- the first
  refine wpAny_bind (wpAny_bind (wpAny_onRaise ?_))
  show wpAny _ _ (Builtin.SmallTypes.nextOf (.ref i1) >>= _) _ _ _
  refine wpAny_bind (N1.run _ _ { s with heap := ha } _ (N1.ext p1 sa.extBut D.i1z D.l1z) fun x hb gx p1b sb => wpAny_pure ?_)
  have hTOb : IsPair hb TO a b := sb.extBut _ _ D.TOi1 (sa.extBut _ _ D.TOz hTO)
  refine wpAny_bind (wpAny_seqItems hTOb rfl (wpAny_bind (wpAny_updateSeq_pair hTOb fun hc hTOc sc => ?_)))
  replace hTOc : IsPair hc TO x b := hTOc
  refine wpAny_bind (wpAny_letGo (wpAny_pure ?_))
  -- the second
  refine wpAny_bind (wpAny_bind (wpAny_onRaise ?_))
  show wpAny _ _ (Builtin.SmallTypes.nextOf (.ref i2) >>= _) _ _ _
  have p2c : P2 hc := N2.ext (N2.ext (N2.ext p2 sa.extBut D.i2z D.l2z) sb.extBut D.i12.symm D.l2i1) sc.extBut D.TOi2.symm D.l2TO
  refine wpAny_bind (N2.run _ _ { s with heap := hc } _ p2c fun y hd gy p2d sd => wpAny_pure ?_)
  have hTOd : IsPair hd TO x b := sd.extBut _ _ D.TOi2 hTOc
  refine wpAny_bind (wpAny_seqItems hTOd rfl (wpAny_bind (wpAny_updateSeq_pair hTOd fun he hTOe se => ?_)))
  replace hTOe : IsPair he TO x y := hTOe
  refine wpAny_bind (wpAny_letGo (wpAny_pure (wpAny_pure (wpAny_bind (wpAny_seqItems hTOe rfl (wpAny_bind (wpAny_newTuple ?_)))))))
  have hsz : he.objs.size = s.heap.objs.size := by rw [se.1, sd.1, sc.1, sb.1, sa.1]
  have hze : IsZip he z TI TO .ellipsis := se.extBut _ _ D.TOz.symm (sd.extBut _ _ D.i2z.symm (sc.extBut _ _ D.TOz.symm (sb.extBut _ _ D.i1z.symm hza)))
  have hke : ∀ c o, c ≠ z → c ≠ TO → c ≠ i1 → c ≠ i2 → s.heap.get? c = some o → he.get? c = some o := fun c o c1 c2 c3 c4 e =>
    se.extBut _ _ c2 (sd.extBut _ _ c4 (sc.extBut _ _ c2 (sb.extBut _ _ c3 (sa.extBut _ _ c1 e))))
  have p1e : P1' he := N1.ext' (N1.ext' (N1.ext' p1b sc.extBut D.TOi1.symm D.l1TO) sd.extBut D.i12 D.l1i2) se.extBut D.TOi1.symm D.l1TO
  have p2e : P2' he := N2.ext' p2d se.extBut D.TOi2.symm D.l2TO
  show wpAny _ _ (Builtin.SmallTypes.ownedTupleHandOut (.ref z) (.ref he.objs.size) >>= _) _ _ _
  refine wpAny_bind ?_
  unfold Builtin.SmallTypes.ownedTupleHandOut
  have hzf : IsZip (he.push { cls := .type "tuple", data := .seq #[x, y] }) z TI TO .ellipsis := Heap.get?_push_of_some _ hze
  refine wpAny_bind (wpAny_setField_rec hzf (by simp) fun hg hzg sg => ?_)
  replace hzg : IsZip hg z TI TO (rawInt he.objs.size) := hzg
  refine wpAny_setField_rec hzg (by simp) fun hk hzk sk => ?_
  replace hzk : IsZip hk z TI TO (rawInt he.objs.size) := hzk
  have up : ∀ c o, c ≠ z → he.get? c = some o → hk.get? c = some o := fun c o c1 e => sk.extBut _ _ c1 (sg.extBut _ _ c1 (Heap.get?_push_of_some _ e))
  have hT : IsPair hk he.objs.size x y := sk.extBut _ _ (Nat.ne_of_gt (Heap.lt_size hze)) (sg.extBut _ _ (Nat.ne_of_gt (Heap.lt_size hze)) (Heap.get?_push_size _ rfl))
  have hks : hk.objs.size = he.objs.size + 1 := by rw [sk.1, sg.1, Heap.size_push]
  rw [hsz] at hzk hT hks
  refine wpAny_pure ⟨_, rfl, ?_⟩
  show Q (.ref he.objs.size) _
  rw [hsz]
  exact hQ x y hk gx gy hzk (up _ _ D.TOz hTOe) (N1.keep' _ _ p1e (fun o e => up _ o D.i1z e) fun o e => up _ o D.l1z e) (N2.keep' _ _ p2e (fun o e => up _ o D.i2z e) fun o e => up _ o D.l2z e) hT hks fun c o c1 c2 c3 c4 e => up c o c1 (hke c o c1 c2 c3 c4 e)
theorem zip_stop {z TI TO i1 i2 l1 : Addr} {a b : Value} {P1 : Heap → Prop} {A : Around} {E : Value → Shared → Prop} {s : Shared} {Q : Fin → Shared → Prop} (hh : A.handled = none) (d1 : i1 ≠ z) (d2 : l1 ≠ z)
    (N1 : Fin_ prog w i1 l1 P1) (hz : IsZip s.heap z TI TO .none) (hTI : IsPair s.heap TI (.ref i1) (.ref i2)) (hTO : IsPair s.heap TO a b) (p1 : P1 s.heap)
    (hE : ∀ h' e, (∀ c o, c ≠ z → c ≠ i1 → s.heap.get? c = some o → h'.get? c = some o) → (∃ o, h'.get? e = some o ∧ o.cls = .type "StopIteration") → E (.ref e) { s with heap := h' }) :
    wpAny (model prog w) A (Builtin.«zip.__next__» ⟨[.ref z], []⟩) Q E s := by
  show wpAny _ _ (field (.ref z) 2 >>= _) _ _ _
  refine wpAny_bind (wpAny_field hz rfl (x := .bool false) rfl ?_)
  show wpAny _ _ (field (.ref z) 3 >>= _) _ _ _
  refine wpAny_bind (wpAny_field hz rfl (x := .ref TI) rfl (wpAny_bind (wpAny_seqItems hTI rfl ?_)))
  show wpAny _ _ (Builtin.SmallTypes.ownedTupleIsFree (.ref z) >>= _) _ _ _
  refine wpAny_bind ?_
  unfold Builtin.SmallTypes.ownedTupleIsFree
  refine wpAny_bind (wpAny_field hz rfl (x := .none) rfl (wpAny_pure ?_))
  simp only [if_true]
  refine wpAny_bind (wpAny_rule (wpAny_bind (wpAny_field hz rfl (x := .ref TO) rfl (wpAny_bind (wpAny_setField_rec hz (by simp) fun ha hza sa => ?_)))))
  replace hza : IsZip ha z TI TO .ellipsis := hza
  refine wpAny_bind ?_
  simp only [List.zipIdx_cons, List.zipIdx_nil, List.forIn_cons, List.forIn_nil]
  refine wpAny_bind (wpAny_bind (wpAny_onRaise ?_))
  show wpAny _ _ (Builtin.SmallTypes.nextOf (.ref i1) >>= _) _ _ _
  refine wpAny_bind (N1.run _ _ { s with heap := ha } _ hh (N1.keep _ _ p1 (fun o e => sa.extBut _ _ d1 e) fun o e => sa.extBut _ _ d2 e) fun hb e sb he => ?_)
  obtain ⟨oe, hoe, hce⟩ := he
  have hzb : IsZip hb z TI TO .ellipsis := sb _ _ d1.symm hza
  have hez : e ≠ z := fun q => by
    rw [q, hzb] at hoe
    cases hoe
    simp at hce
  exact wpAny_setField_rec hzb (by simp) fun hc _ sc => hE hc e (fun c o c1 c3 q => sc.extBut _ _ c1 (sb _ _ c3 (sa.extBut _ _ c1 q))) ⟨oe, sc.extBut _ _ hez hoe, hce⟩
theorem tup_nxt {it l : Addr} {i : Nat} {its : Array Value} {x : Value} (hx : its[i]? = some x) : Nxt prog w it l (fun h => h.IsTupleIter it l i ∧ h.IsTuple l its) (fun h => h.IsTupleIter it l (i + 1)) (fun y => y = x) where
  keep := fun h h' ⟨p, q⟩ k1 k2 => ⟨p.at k1, let ⟨o, e, r⟩ := q; ⟨o, k2 o e, r⟩⟩
  keep' := fun h h' p k1 k2 => p.at k1
  run := fun A E s Q ⟨p, q⟩ hQ => RZ.nextOf_tuple_item p q hx fun h' p' sb => hQ x h' rfl p' sb
theorem keyiter_at {h h' : Heap} {it d : Addr} {i n ep : Nat} (p : h.IsKeyIter it d i n ep) (k : ∀ o, h.get? it = some o → h'.get? it = some o) : h'.IsKeyIter it d i n ep := let ⟨o, e, r⟩ := p; ⟨o, k o e, r⟩
theorem dictAt_at {knd : KeyKind prog w Str} {h h' : Heap} {d : Addr} {kvs : List (Str × Value)} {ep : Nat} (p : h.DictAt knd d kvs ep) (k : ∀ o, h.get? d = some o → h'.get? d = some o) : h'.DictAt knd d kvs ep := let ⟨o, es, e, r⟩ := p; ⟨o, es, k o e, r⟩
theorem key_nxt {it d : Addr} {i ep : Nat} {kvs : List (Str × Value)} {k : Str} {v : Value} (hx : kvs[i]? = some (k, v)) :
    Nxt prog w it d (fun h => h.IsKeyIter it d i kvs.length ep ∧ h.DictAt (strKind prog w) d kvs ep) (fun h => h.IsKeyIter it d (i + 1) kvs.length ep) (fun x => ∃ t, x = .str k t) where
  keep := fun h h' ⟨p, q⟩ k1 k2 => ⟨keyiter_at p k1, dictAt_at q k2⟩
  keep' := fun h h' p k1 k2 => keyiter_at p k1
  run := fun A E s Q ⟨p, q⟩ hQ => by
    unfold Builtin.SmallTypes.nextOf
    exact wpAny_bind (PySem.W.kdk_special p q hx fun key h' hk p' sb => wpAny_pure (hQ key h' (PySem.Value.isStrOf_shape hk) p' sb))
/-- behind the last key -/
theorem key_fin {it d : Addr} {i ep : Nat} {kvs : List (Str × Value)} (hx : kvs.length ≤ i) : Fin_ prog w it d (fun h => h.IsKeyIter it d i kvs.length ep ∧ h.DictAt (strKind prog w) d kvs ep) where
  keep := fun h h' ⟨p, q⟩ k1 k2 => ⟨keyiter_at p k1, dictAt_at q k2⟩
  run := fun A E s Q hh ⟨hit, hm⟩ hE => by
    obtain ⟨o, ho, hc, hd⟩ := id hit
    obtain ⟨od, es, hod, hcd, hdd, hk, hp, hn⟩ := id hm
    unfold Builtin.SmallTypes.nextOf
    refine wpAny_bind (wpAny_callSpecial?_slot (name := Str.ofString "__next__") hit.typeIs F.slot_dict_keyiterator_next (wpAny_call_entry F.slot_dict_keyiterator_next hit.typeIs F.entry_dict_keyiterator_next ?_ (F.args_dict_keyiterator_next_1 _)))
    refine wpAny_bind (wpAny_pure (wpAny_bind (wpAny_bind ?_)))
    first | refine wpAny_bind (wpAny_typeNameOfWhole_keyiter hit.typeIs (wpAny_pure ?_)) | refine wpAny_bind (wpAny_typeNameOf_keyiter hit.typeIs (wpAny_pure ?_))
    refine wpAny_bind (wpAny_fieldsOf ho hd ?_)
    simp only [show Builtin.Dict_items.ownsTuple "dict_keyiterator" = false by decide, Bool.false_eq_true, if_false]
    show wpAny _ _ (if (Value.ref d == Value.none) = true then _ else _) _ _ s
    rw [if_neg (show ¬ ((Value.ref d == Value.none) = true) from Bool.false_ne_true)]
    refine wpAny_bind (wpAny_pure (wpAny_bind (wpAny_dictEntries hod hdd ?_)))
    have hsz : es.size = kvs.length := by rw [← hp.length]; simp
    rw [if_neg (by rw [hsz]; simp)]
    refine wpAny_bind (wpAny_pure (wpAny_bind (wpAny_dictEpoch hod hdd ?_)))
    rw [if_neg (by simp)]
    refine wpAny_pure ?_
    simp only [show ¬ ((i : Int) < 0) from by omega, if_false, Int.toNat_natCast, Array.getElem?_eq_none (show es.size ≤ i by omega)]
    refine wpAny_bind ?_
    first | refine wpAny_bind (wpAny_typeNameOfWhole_keyiter hit.typeIs (wpAny_pure ?_)) | refine wpAny_bind (wpAny_typeNameOf_keyiter hit.typeIs (wpAny_pure ?_))
    show wpAny _ _ (setField (.ref it) 0 .none >>= _) _ _ s
    refine wpAny_bind (wpAny_setField ho hd (by simp) ?_)
    show wpAny _ _ (newExc (.type "StopIteration") [] >>= _) _ _ _
    refine wpAny_bind ?_
    simp only [newExc, newTuple]
    refine wpAny_bind (wpAny_newObj_type ?_ (by size_fits))
    refine wpAny_bind (m := firstArgMember _ _) (wpAny_of_eq (a := Value.none) (by first | rfl | (simp only [firstArgMember]; rfl)) ?_)
    refine wpAny_newObj_type ?_ (by size_fits)
    simp only [raiseNew]
    refine wpAny_bind (wpAny_handled ?_)
    first | rw [show A.in1.handled = none from hh] | rw [hh]
    exact wpAny_bind (wpAny_pure (wpAny_throw (hE _ _ (((Heap.SameBut.update ..).extBut.push _).push _) ⟨_, Heap.get?_push_size _ rfl, rfl⟩)))
end
section
variable {prog : Program} {w : World} {A : Around} {E : Value → Shared → Prop} {s : Shared}
theorem pyNext_zipq {z TI TO i1 i2 l1 l2 : Addr} {a b : Value} {G1 G2 : Value → Prop} {P1 P1' P2 P2' : Heap → Prop} {Q : Option Value → Shared → Prop} (D : ZipApart z TI TO i1 i2 l1 l2)
    (N1 : Nxt prog w i1 l1 P1 P1' G1) (N2 : Nxt prog w i2 l2 P2 P2' G2) (hz : IsZip s.heap z TI TO .none) (hTI : IsPair s.heap TI (.ref i1) (.ref i2)) (hTO : IsPair s.heap TO a b) (p1 : P1 s.heap) (p2 : P2 s.heap)
    (hQ : ∀ x y h', G1 x → G2 y → IsZip h' z TI TO (rawInt s.heap.objs.size) → IsPair h' TO x y → P1' h' → P2' h' → IsPair h' s.heap.objs.size x y → h'.objs.size = s.heap.objs.size + 1 →
      (∀ c o, c ≠ z → c ≠ TO → c ≠ i1 → c ≠ i2 → s.heap.get? c = some o → h'.get? c = some o) → Q (some (.ref s.heap.objs.size)) { s with heap := h' }) :
    wpAny (model prog w) A (pyNext (.ref z)) Q E s := by
  unfold pyNext
  exact wpAny_bind (wpAny_attempt (wpAny_callSpecial?_slot (name := Str.ofString "__next__") ⟨_, hz, rfl⟩ F.slot_zip_next (wpAny_call_entry F.slot_zip_next ⟨_, hz, rfl⟩ F.entry_zip_next
    (zip_step D N1 N2 hz hTI hTO p1 p2 fun x y h' a1 a2 a3 a4 a5 a6 a7 a8 a9 => wpAny_pure (hQ x y h' a1 a2 a3 a4 a5 a6 a7 a8 a9)) (F.args_zip_next_1 _))))
theorem pyNext_zipq_end {z TI TO i1 i2 l1 : Addr} {a b : Value} {P1 : Heap → Prop} {Q : Option Value → Shared → Prop} (hh : A.handled = none) (d1 : i1 ≠ z) (d2 : l1 ≠ z)
    (N1 : Fin_ prog w i1 l1 P1) (hz : IsZip s.heap z TI TO .none) (hTI : IsPair s.heap TI (.ref i1) (.ref i2)) (hTO : IsPair s.heap TO a b) (p1 : P1 s.heap)
    (hQ : ∀ h', (∀ c o, c ≠ z → c ≠ i1 → s.heap.get? c = some o → h'.get? c = some o) → Q none { s with heap := h' }) : wpAny (model prog w) A (pyNext (.ref z)) Q E s := by
  unfold pyNext
  refine wpAny_bind (wpAny_attempt (wpAny_callSpecial?_slot (name := Str.ofString "__next__") ⟨_, hz, rfl⟩ F.slot_zip_next (wpAny_call_entry F.slot_zip_next ⟨_, hz, rfl⟩ F.entry_zip_next
    (zip_stop hh d1 d2 N1 hz hTI hTO p1 fun h' e hk he => ?_) (F.args_zip_next_1 _))))
  obtain ⟨o, ho, hc⟩ := he
  exact wpAny_bind (wpAny_isInstance (T := "StopIteration") (b := true) ⟨o, ho, hc⟩ isSubtype_stop (wpAny_pure (hQ _ hk)))
end
/-- the table's keys and a tuple's items, in new pairs -/
def Itqz (K : PySem.W.Frag) (ks : List Str) (b : Addr) : It :=
  ⟨fun i H => i < ks.length ∧ ∃ ys y, SqT K H b ys ∧ ys[i]? = some y, fun i H v H' => ∃ T k y, v = .ref T ∧ H T = none ∧ H' = upd H T (.tup [.str k, y]) ∧ ks[i]? = some k ∧ ∀ ys, SqT K H b ys → ys[i]? = some y, fun i H => ks.length ≤ i⟩
section
variable {P : Program} {w : World} {K : PySem.W.Frag} {d : Addr} {ks : List Str} {n : Nat}
theorem turn_zipq {elts : List Expr} {kk : Nat} {tpos : Pos} {b z TI TO i1 i2 : Addr} (T : KTab K w d ks n) (D : ZipApart z TI TO i1 i2 d b) :
    Turn P w K (.Tuple elts kk tpos) (Itqz K ks b) [z, TI, TO, i1, i2] z (fun i h => IsZip h z TI TO .none ∧ IsPair h TI (.ref i1) (.ref i2) ∧ (∃ x y, IsPair h TO x y) ∧ h.IsKeyIter i1 d i ks.length n ∧ h.IsTupleIter i2 b i) where
  mem := List.mem_cons_self
  obj := fun i h st c hc => by
    obtain ⟨hz, hTI, ⟨x, y, hTO⟩, ⟨o1, e1, _, d1⟩, ⟨o2, e2, _, d2⟩⟩ := st
    simp only [List.mem_cons, List.not_mem_nil, or_false] at hc
    rcases hc with q | q | q | q | q <;> subst q
    · exact ⟨_, hz, fun v q => nomatch q⟩
    · exact ⟨_, hTI, fun v q => nomatch q⟩
    · exact ⟨_, hTO, fun v q => nomatch q⟩
    · exact ⟨_, e1, fun v q => by rw [d1] at q; cases q⟩
    · exact ⟨_, e2, fun v q => by rw [d2] at q; cases q⟩
  keep := fun i h h' st k => by
    obtain ⟨hz, hTI, ⟨x, y, hTO⟩, h1, h2⟩ := st
    exact ⟨k z (by simp) _ hz, k TI (by simp) _ hTI, ⟨x, y, k TO (by simp) _ hTO⟩, keyiter_at h1 fun o q => k i1 (by simp) o q, h2.at fun o q => k i2 (by simp) o q⟩
  item := by
    intro X hP hw hK hc i pins s σ H E I hf st hg
    subst hP hw hK
    obtain ⟨hz, hTI, ⟨x0, y0, hTO⟩, h1, h2⟩ := st
    obtain ⟨hi, ys, y, hqy, hy⟩ := hg
    obtain ⟨kvs, hm, hq⟩ := T.dictAt (prog := X.prog) I.kIn
    have hl : ks.length = kvs.length := by rw [← hq, List.length_map]
    obtain ⟨k, hk⟩ : ∃ k, ks[i]? = some k := ⟨_, List.getElem?_eq_getElem hi⟩
    obtain ⟨v, hv⟩ := key_at hq hk
    obtain ⟨its, rv, p, _⟩ := I.tuple hqy
    obtain ⟨u, hu, ru⟩ := rv.get hy
    have hzl : z < s.heap.objs.size := Heap.lt_size hz
    rw [hl] at h1
    refine pyNext_zipq D (key_nxt hv) (tup_nxt (its := its.toArray) (x := u) (by simpa using hu)) hz hTI hTO ⟨h1, hm⟩ ⟨h2, p⟩ fun x y' h' gx gy z' TO' h1' h2' hT hsz hkp => ?_
    obtain ⟨t, rfl⟩ := gx
    subst gy
    refine ⟨_, rfl, wpAny_letOwnedTupleGo_zip (s := { s with heap := h' }) z' fun h'' z'' sb => ?_⟩
    have hT2 : h''.get? s.heap.objs.size = some { cls := .type "tuple", data := .seq #[.str k t, y'] } := (sb.2 _ (Nat.ne_of_gt hzl)).trans hT
    have new : ObjOk X.prog X.w (upd H s.heap.objs.size (.tup [.str k, y])) h'' s.heap.objs.size (.tup [.str k, y]) :=
      ⟨by show 2 ≤ sizeLine; decide, [.str k t, y'], .cons ⟨t, rfl⟩ (.cons ru .nil), ⟨_, hT2, rfl, _, rfl⟩⟩
    have I1 : Inv X pins σ (upd H s.heap.objs.size (.tup [.str k, y])) { s with heap := h'' } :=
      I.turnedNew (t' := s.toks) (ch := [z, TI, TO, i1, i2]) (fun c o hb q => (sb.2 c (fun q' => hb (by simp [q']))).trans (hkp c o (fun q' => hb (by simp [q'])) (fun q' => hb (by simp [q'])) (fun q' => hb (by simp [q'])) (fun q' => hb (by simp [q'])) q)) hf (Nat.le_refl _) new
    refine ⟨.ref s.heap.objs.size, _, I1, rfl, ⟨_, k, y, rfl, I.hok.fresh (Nat.le_refl _), rfl, hk, fun l hl => by rw [I.tuple_inj hl hqy]; exact hy⟩, ⟨z'', ?_, ⟨.str k t, y', ?_⟩, ?_, ?_⟩, fun c hcm => ?_⟩
    · exact (sb.2 _ D.TIz).trans (hkp _ _ D.TIz D.TITO D.TIi1 D.TIi2 hTI)
    · exact (sb.2 _ D.TOz).trans TO'
    · rw [hl]
      exact keyiter_at h1' fun o q => (sb.2 _ D.i1z).trans q
    · exact h2'.at fun o q => (sb.2 _ D.i2z).trans q
    · have hlt : c < s.heap.objs.size := by
        simp only [List.mem_cons, List.not_mem_nil, or_false] at hcm
        obtain ⟨_, e1, _⟩ := id h1
        obtain ⟨_, e2, _⟩ := id h2
        rcases hcm with q | q | q | q | q <;> rw [q]
        · exact hzl
        · exact Heap.lt_size hTI
        · exact Heap.lt_size hTO
        · exact Heap.lt_size e1
        · exact Heap.lt_size e2
      rw [upd_ne (Nat.ne_of_lt hlt)]
      exact (hf c hcm).1
  done := by
    intro X hP hw hK hc i pins s σ H E I hf st hg
    subst hP hw hK
    obtain ⟨hz, hTI, ⟨x0, y0, hTO⟩, h1, h2⟩ := st
    obtain ⟨kvs, hm, hq⟩ := T.dictAt (prog := X.prog) I.kIn
    have hl : ks.length = kvs.length := by rw [← hq, List.length_map]
    rw [hl] at h1
    exact pyNext_zipq_end (I.ok.hd hc) D.i1z D.l1z (key_fin (kvs := kvs) (by rw [← hl]; exact hg)) hz hTI hTO ⟨h1, hm⟩ fun h' hk => ⟨rfl, I.turnedL (t' := s.toks) (ch := [z, TI, TO, i1, i2]) (fun c o hb q =>
      hk c o (fun q' => hb (by simp [q'])) (fun q' => hb (by simp [q'])) q) hf⟩
  self := fun A i s Q E st h => wpAny_pyIter_zip st.1 h
end
abbrev zq1 (h : Heap) (d n ep : Nat) : Heap := h.push { cls := .type "dict_keyiterator", data := .fields #[.ref d, .int 0 0, .int n 0, .int ep 0] }
abbrev zq2 (h : Heap) (d n ep b : Nat) : Heap := (zq1 h d n ep).push { cls := .type "tuple_iterator", data := .fields #[.ref b, .int 0 0] }
abbrev zq3 (h : Heap) (d n ep b : Nat) : Heap := (zq2 h d n ep b).push { cls := .type "tuple", data := .seq #[.ref h.objs.size, .ref (zq1 h d n ep).objs.size] }
abbrev zq4 (h : Heap) (d n ep b : Nat) : Heap := (zq3 h d n ep b).push { cls := .type "tuple", data := .seq #[.none, .none] }
abbrev zq5 (h : Heap) (d n ep b : Nat) : Heap := (zq4 h d n ep b).push { cls := .type "zip", data := .fields #[.none, .bool false, .bool false, .ref (zq2 h d n ep b).objs.size, .ref (zq3 h d n ep b).objs.size] }
theorem meets_zipq_new (d b : Addr) (o : Obj) (es : Array DictEntry) (ep : Nat) (ys : Array Value) (hsys : (d == sysModules) = false) (hc : o.ExactDict) (hdat : o.data = .dict es ep) :
    Meets (Builtin.«zip.__new__» ⟨[.type "zip", .ref d, .ref b], []⟩) (fun _ R s => s.heap.get? d = some o ∧ s.heap.IsTuple b ys ∧
      R (.ok (.ret (.ref (zq4 s.heap d es.size ep b).objs.size))) { s with heap := zq5 s.heap d es.size ep b }) :=
  .of_wp fun prog w A R s h => by
    obtain ⟨hp, g, dr, tk, os⟩ := s
    obtain ⟨ho, hl, h⟩ := h
    have hsub := sub_zip
    have hL1 : Heap.get? (Shared.heap ⟨hp, g, dr, tk, os⟩) d = some o := ho
    have hL2 : Heap.IsTuple (Shared.heap ⟨zq1 hp d es.size ep, g, dr, tk, os⟩) b ys := Heap.IsTuple.push hl _
    wp_walk using iter_keys hsys hL1 hc hdat, wpAny_pyIter_tuple hL2
    exact ⟨_, rfl, h⟩
section
variable {prog : Program} {w : World} {A : Around} {E : Value → Shared → Prop} {s : Shared}
theorem call_zipq {d b : Addr} {o : Obj} {es : Array DictEntry} {ep : Nat} {ys : Array Value} {Q : Value → Shared → Prop} (hsys : (d == sysModules) = false) (hc : o.ExactDict) (hdat : o.data = .dict es ep) (ho : s.heap.get? d = some o) (hl : s.heap.IsTuple b ys)
    (h : ∀ h', IsZip h' (s.heap.objs.size + 4) (s.heap.objs.size + 2) (s.heap.objs.size + 3) .none → IsPair h' (s.heap.objs.size + 2) (.ref s.heap.objs.size) (.ref (s.heap.objs.size + 1)) →
      IsPair h' (s.heap.objs.size + 3) .none .none → h'.IsKeyIter s.heap.objs.size d 0 es.size ep → h'.IsTupleIter (s.heap.objs.size + 1) b 0 → h'.objs.size = s.heap.objs.size + 5 →
      (∀ c o, s.heap.get? c = some o → h'.get? c = some o) → Q (.ref (s.heap.objs.size + 4)) { s with heap := h' }) :
    wpAny (model prog w) A (call (.type "zip") [.ref d, .ref b]) Q E s := by
  refine callType_new F.called_zip (by decide) (F.typeCall_zip_2 _ _) (F.newCall_zip_2 _ _) (fun obj => F.args_object_init_3 obj _ _) F.entry_zip_new (meets_zipq_new d b o es ep ys hsys hc hdat) ⟨ho, hl, ?_⟩
  have z1 : (zq1 s.heap d es.size ep).objs.size = s.heap.objs.size + 1 := Heap.size_push ..
  have z2 : (zq2 s.heap d es.size ep b).objs.size = s.heap.objs.size + 2 := by rw [Heap.size_push, z1]
  have z3 : (zq3 s.heap d es.size ep b).objs.size = s.heap.objs.size + 3 := by rw [Heap.size_push, z2]
  have z4 : (zq4 s.heap d es.size ep b).objs.size = s.heap.objs.size + 4 := by rw [Heap.size_push, z3]
  have z5 : (zq5 s.heap d es.size ep b).objs.size = s.heap.objs.size + 5 := by rw [Heap.size_push, z4]
  have up : ∀ {h : Heap} {c : Addr} {o q : Obj}, h.get? c = some o → (h.push q).get? c = some o := fun e => Heap.get?_push_of_some _ e
  have g5 : (zq5 s.heap d es.size ep b).get? (zq4 s.heap d es.size ep b).objs.size = some _ := Heap.get?_push_size _ rfl
  have g4 : (zq5 s.heap d es.size ep b).get? (zq3 s.heap d es.size ep b).objs.size = some _ := up (Heap.get?_push_size _ rfl)
  have g3 : (zq5 s.heap d es.size ep b).get? (zq2 s.heap d es.size ep b).objs.size = some _ := up (up (Heap.get?_push_size _ rfl))
  have g2 : (zq5 s.heap d es.size ep b).get? (zq1 s.heap d es.size ep).objs.size = some _ := up (up (up (Heap.get?_push_size _ rfl)))
  have g1 : (zq5 s.heap d es.size ep b).get? s.heap.objs.size = some _ := up (up (up (up (Heap.get?_push_size _ rfl))))
  show _ ∧ _
  rw [z2, z3, z4] at g5
  rw [z1, z2] at g3
  rw [z3] at g4
  rw [z1] at g2
  rw [z4]
  exact ⟨⟨_, g5, rfl⟩, h _ g5 g3 g4 ⟨_, g1, rfl, rfl⟩ ⟨_, g2, rfl, rfl⟩ z5 fun c o x => up (up (up (up (up x))))⟩
end
def iTabZ (K : PySem.W.Frag) (d : Addr) (ks : List Str) (ta : TA) : TI := fun σ H R => ta σ H fun vs H1 => ∃ b ys, vs = [.ref d, .ref b] ∧ SqT K H1 b ys ∧ R (Itqz K ks b) H1
theorem pi_tabZ {X : Cx} {d : Addr} {ks : List Str} {n : Nat} {e e2 : Expr} {ta : TA} {p pos tpos : Pos} {elts : List Expr} {kk : Nat} (T : KTab X.K X.w d ks n) (hg : Gl X "zip") (hm : X.mg "zip" = none) (ha : PA X [e, e2] ta)
    (hs : starEach [e, e2] X.env = (false, eval e X.env) :: starEach [e2] X.env := by rfl) (hpl : (backTo pos (starEach [e2] X.env)).any (·.1) = false := by rfl) :
    PI X (.Tuple elts kk tpos) (.Call (.Name "zip" p) [e, e2] [] pos) (iTabZ X.K d ks ta) := by
  refine ⟨fun pins s σ H R I h => ?_⟩
  refine Call_ (ld_blt I hg hm PyProof.Rows.boot_zip (PyProof.Rows.callWith_type1 (thn (ha.run pos pins s σ H _ I h) fun us s1 ⟨vs, H1, I1, r1, q1⟩ => ?_) hs hpl))
  obtain ⟨b, ys, ex, hqy, q⟩ := q1
  subst ex
  obtain ⟨u1, u2, rfl, r, r'⟩ := r1.two
  cases (show u1 = Value.ref d from r)
  cases (show u2 = Value.ref b from r')
  obtain ⟨kvs, hm', hq⟩ := T.dictAt (prog := X.prog) I1.kIn
  have hl : ks.length = kvs.length := by rw [← hq, List.length_map]
  obtain ⟨o, es, ho, hx, hd, _, hp, _⟩ := hm'
  have hsz : es.size = ks.length := by rw [hl, ← hp.length]; simp
  obtain ⟨its2, rv2, p2, _⟩ := I1.tuple hqy
  obtain ⟨o2, ho2, _⟩ := id p2
  have fresh5 : ∀ c, c ∈ [s1.heap.objs.size + 4, s1.heap.objs.size + 2, s1.heap.objs.size + 3, s1.heap.objs.size, s1.heap.objs.size + 1] → FpOk X pins H1 c := fun c hcm => by
    have hle : s1.heap.objs.size ≤ c := by
      simp only [List.mem_cons, List.not_mem_nil, or_false] at hcm
      rcases hcm with z | z | z | z | z <;> rw [z] <;> first | exact Nat.le_add_right _ _ | exact Nat.le_refl _
    exact I1.fpOk hle (I1.hok.fresh hle)
  refine call_zipq T.low hx hd ho (show s1.heap.IsTuple b its2.toArray from p2) fun h' hz hTI hTO h1 h2 hsz' hk => wpAny_pyIter_zip hz ?_
  rw [hsz] at h1
  have I2 : Inv X pins σ H1 { s1 with heap := h' } := I1.kept (t' := s1.toks) hk
  exact ⟨s1.heap.objs.size + 4, [s1.heap.objs.size + 4, s1.heap.objs.size + 2, s1.heap.objs.size + 3, s1.heap.objs.size, s1.heap.objs.size + 1], _, _, H1, rfl, I2, turn_zipq T (PySem.W.ktu_apart s1.heap.objs.size d b (Heap.lt_size ho) (Heap.lt_size ho2)), ⟨hz, hTI, ⟨_, _, hTO⟩, h1, h2⟩, fresh5, q⟩
end Dk

set_option maxHeartbeats 1000000
/-! The written dict: list, len, sorted, enumerate (of it, of a tuple). -/
namespace Dk
open PySem PySem.Spec PyProof.Rows L2
section
variable {X : Cx} {d : Addr} {ks : List Str} {n : Nat}
theorem strs_vals {kvs : List (Str × Value)} {acc : Array Value} (h : acc.size = kvs.length) (e : ∀ (j : Nat) (v : Value), acc[j]? = some v → ∃ k x, kvs[j]? = some (k, x) ∧ (strKind X.prog X.w).is k v = true) : Vals ((kvs.map (·.1)).map V.str) acc.toList := by
  have gen : ∀ (l : List Value) (kv : List (Str × Value)), l.length = kv.length → (∀ (j : Nat) (v : Value), l[j]? = some v → ∃ k x, kv[j]? = some (k, x) ∧ (strKind X.prog X.w).is k v = true) → Vals ((kv.map (·.1)).map V.str) l := by
    intro l
    induction l with
    | nil => intro kv hl _; cases kv with
      | nil => exact .nil
      | cons _ _ => simp at hl
    | cons v r ih => intro kv hl he; cases kv with
      | nil => simp at hl
      | cons p q =>
        obtain ⟨k, x, e1, e2⟩ := he 0 v rfl
        simp at e1
        subst e1
        obtain ⟨t, rfl⟩ := PySem.Value.isStrOf_shape e2
        exact .cons ⟨t, rfl⟩ (ih q (by simpa using hl) fun j v hj => by simpa using he (j + 1) v (by simpa using hj))
  exact gen acc.toList kvs (by simpa using h) fun j v hj => e j v (by rw [← Array.getElem?_toList]; exact hj)
/-- list(table) -/
def rTabL (d : Addr) (ks : List Str) : List V → Hp → VK → Prop := fun xs H Q => xs = [.ref d] ∧ ∀ p, H p = none → Q (.ref p) (upd H p (.lst (ks.map V.str)))
theorem call_tabL (T : KTab X.K X.w d ks n) (hs : ks.length ≤ sizeLine) (hcalm : X.calm = true) : CallR X (.type "list") (rTabL d ks) := by
  intro pins s σ H xs us Q I r q
  obtain ⟨ex, q⟩ := q
  subst ex
  obtain ⟨u, eu, rx⟩ := vals1 r
  subst eu
  cases (show u = Value.ref d from rx)
  obtain ⟨kvs, hm, hq⟩ := T.dictAt (prog := X.prog) I.kIn
  have hl : kvs.length = ks.length := by rw [← hq, List.length_map]
  refine PySem.W.kdl_call (PySem.W.kdl_dict (knd := strKind X.prog X.w) (kvs := kvs) (ep := n) T.low) (I.ok.hd hcalm) hm (by rw [hl]; exact hs) fun h' tk acc c' hk hD hacc => ?_
  have hv : Vals (ks.map V.str) acc.toList := by rw [← hq]; exact strs_vals hacc.1 fun j v e => hacc.2 j v e
  exact ⟨.ref s.heap.objs.size, upd H s.heap.objs.size (.lst (ks.map V.str)), I.laid (t' := tk) hk (Nat.le_refl _)
    (show ObjOk X.prog X.w _ _ _ (.lst (ks.map V.str)) from ⟨by rw [List.length_map]; exact hs, acc.toList, c', hv, by rw [Array.toArray_toList]; exact hD⟩), rfl, q _ (I.hok.fresh (Nat.le_refl _))⟩
/-- sorted(table) -/
def rTabS (d : Addr) (ks : List Str) : List V → Hp → VK → Prop := fun xs H Q => xs = [.ref d] ∧ ∀ (ys : List Str) (p : Addr), ys.Perm ks → sortedS ys = true → H p = none → Q (.ref p) (upd H p (.lst (ys.map V.str)))
theorem call_tabS (T : KTab X.K X.w d ks n) (hs : ks.length < 64) (hcalm : X.calm = true) : CallR X (.builtin "sorted") (rTabS d ks) := by
  intro pins s σ H xs us Q I r q
  obtain ⟨ex, q⟩ := q
  subst ex
  obtain ⟨u, eu, rx⟩ := vals1 r
  subst eu
  cases (show u = Value.ref d from rx)
  obtain ⟨kvs, hm, hq⟩ := T.dictAt (prog := X.prog) I.kIn
  have hl : kvs.length = ks.length := by rw [← hq, List.length_map]
  have h16 : kvs.length ≤ sizeLine := by rw [hl, sizeLine_eq]; omega
  refine Calls.call_function_entry PyProof.Rows.kind_sorted PyProof.Rows.plain_sorted PyProof.Rows.entry_sorted (PyProof.Rows.args_sorted1 _) ?_
  unfold Builtin.«sorted»
  refine wpAny_bind (m := checkCount "sorted" 1 1 _) (wpAny_pure (wpAny_bind (PySem.W.kdu_collect (A := X.A.in1) (PySem.W.kdl_dict (knd := strKind X.prog X.w) (kvs := kvs) (ep := n) T.low) (I.ok.hd hcalm) hm h16 fun h' tk acc hk hacc => ?_)))
  have hal : acc.toList.length = ks.length := by rw [Array.length_toList, hacc.1, hl]
  have hS : StrsAre acc.toList ks := strs_at hal fun j v e => by
    obtain ⟨k, x, e1, e2⟩ := hacc.2 j v (by rw [← Array.getElem?_toList]; exact e)
    obtain ⟨t, ev⟩ := Value.isStrOf_shape (x := k) (v := v) e2
    exact ⟨k, t, by rw [← hq, List.getElem?_map, e1]; rfl, ev⟩
  have I1 : Inv X pins σ H { s with heap := h', toks := tk } := I.kept hk
  refine wpAny_bind (wpAny_newList ?_ (by rw [hal, sizeLine_eq]; omega))
  have hoL : (h'.push (seqObj "list" acc.toList.toArray 0)).get? h'.objs.size = some (seqObj "list" acc.toList.toArray 0) := Heap.get?_push_size _ rfl
  show wpAny _ _ _ _ _ { s with heap := h'.push (seqObj "list" acc.toList.toArray 0), toks := tk }
  refine wpAny_bind (wpAny_holding (wpAny_call_entry PyProof.Rows.slot_list_sort ⟨_, hoL, rfl⟩ PyProof.Rows.entry_list_sort
    (list_sort_treeK strKind_oneLt (s := { s with heap := h'.push (seqObj "list" acc.toList.toArray 0), toks := tk }) hoL hS.keysOf (fun v₁ v₂ rest e => keyKind_strs (by rw [← e]; exact hS)) (by rw [hal]; exact hs) fun st' hp hst => ⟨_, rfl, ?_⟩)
    (PyProof.Rows.args_list_sort _)))
  obtain ⟨ys, g1, g2, g3⟩ := sorted_out_str hS hp hst
  obtain ⟨e', he'⟩ := PyProof.Rows.sortedHeap_at (vs := acc.toList) (out := (arrOf st').map (·.2)) hoL
  have hlen : (ys.map V.str).length ≤ sizeLine := by
    rw [List.length_map, g2.length_eq]
    exact Nat.le_trans (Nat.le_of_lt hs) (by decide)
  refine wpAny_pure ⟨_, rfl, .ref h'.objs.size, upd H h'.objs.size (.lst (ys.map V.str)), I1.laid (t' := tk) (fun b u e => ?_) (Nat.le_refl _)
    (show ObjOk X.prog X.w _ _ _ (.lst (ys.map V.str)) from ⟨hlen, ((arrOf st').map (·.2)).toList, e', vals_of_strs g1, by rw [Array.toArray_toList]; exact he'⟩), rfl, q ys _ g2 g3 (I1.hok.fresh (Nat.le_refl _))⟩
  have hb : b < h'.objs.size := Heap.lt_size e
  rw [PyProof.Rows.sortedHeap_old (Nat.ne_of_lt hb) (by rw [size_push']; exact Nat.lt_succ_of_lt hb)]
  exact Heap.get?_push_of_some _ e
/-- len(table) -/
def rTabN (d : Addr) (ks : List Str) : List V → Hp → VK → Prop := fun xs H Q => xs = [.ref d] ∧ Q (.int ks.length) H
theorem call_tabN (T : KTab X.K X.w d ks n) (hs : ks.length < 1000) : CallR X (.builtin "len") (rTabN d ks) := by
  intro pins s σ H xs us Q I r q
  obtain ⟨ex, q⟩ := q
  subst ex
  obtain ⟨u, eu, rx⟩ := vals1 r
  subst eu
  cases (show u = Value.ref d from rx)
  obtain ⟨kvs, hm, hq⟩ := T.dictAt (prog := X.prog) I.kIn
  have hl : kvs.length = ks.length := by rw [← hq, List.length_map]
  refine call_len_dict T.low hm.dictOf (by rw [hl]; omega) ?_
  exact ⟨.int ks.length, H, I.tok _, ⟨_, by rw [hl]⟩, q⟩
end

/-! ### enumerate of what is walked by its own iterator -/
section
variable {prog : Program} {w : World} {A : Around} {E : Value → Shared → Prop} {s : Shared}
theorem enum_step {e it l : Addr} {i : Nat} {old : Value} {G : Value → Prop} {P P' : Heap → Prop} {Q : Value → Shared → Prop} (N : Nxt prog w it l P P' G)
    (he : IsEnum s.heap e it i old) (p : P s.heap) (hne : e ≠ it) (hle : l ≠ e)
    (hQ : ∀ x h', G x → IsEnumOut h' e it ((i : Int) + 1) x s.heap.objs.size → P' h' →
      h'.get? s.heap.objs.size = some { cls := .type "tuple", data := .seq #[.int i s.toks, x] } → h'.objs.size = s.heap.objs.size + 1 →
      (∀ b o, b ≠ e → b ≠ it → s.heap.get? b = some o → h'.get? b = some o) → Q (.ref s.heap.objs.size) { s with heap := h', toks := s.toks + 1 }) :
    wpAny (model prog w) A (Builtin.«enumerate.__next__» ⟨[.ref e], []⟩) (fun fin s' => ∃ v, fin = .done (.ret v) ∧ Q v s') E s := by
  obtain ⟨hp, g, dr, tk, os⟩ := s
  show wpAny _ _ (field (.ref e) 2 >>= _) _ _ _
  refine wpAny_bind (wpAny_field he rfl (x := .ref it) rfl (wpAny_bind (N.run _ _ _ _ p fun x ha gx pa sa => ?_)))
  replace sa : Heap.SameBut it hp ha := sa
  have hea : IsEnum ha e it i old := (sa.2 e hne).trans he
  show wpAny _ _ (field (.ref e) 3 >>= _) _ _ ⟨ha, g, dr, tk, os⟩
  refine wpAny_bind (wpAny_field hea rfl (x := rawInt i) rfl ?_)
  show wpAny _ _ (field (.ref e) 4 >>= _) _ _ ⟨ha, g, dr, tk, os⟩
  refine wpAny_bind (wpAny_field hea rfl (x := .none) rfl ?_)
  show wpAny _ _ (mkInt i >>= _) _ _ ⟨ha, g, dr, tk, os⟩
  refine wpAny_bind (wpAny_mkInt ?_)
  show wpAny _ _ (setField (.ref e) 3 (rawInt ((i : Int) + 1)) >>= _) _ _ ⟨ha, g, dr, tk + 1, os⟩
  refine wpAny_bind (wpAny_setField_rec hea (by simp) fun hb heb sb => ?_)
  replace sb : Heap.SameBut e ha hb := sb
  replace heb : IsEnum hb e it ((i : Int) + 1) old := heb
  show wpAny _ _ (setField (.ref e) 4 .none >>= _) _ _ ⟨hb, g, dr, tk + 1, os⟩
  refine wpAny_bind (wpAny_setField_rec heb (by simp) fun hc hec sc => ?_)
  replace sc : Heap.SameBut e hb hc := sc
  replace hec : IsEnum hc e it ((i : Int) + 1) old := hec
  show wpAny _ _ (newTuple [.int i tk, x] >>= _) _ _ ⟨hc, g, dr, tk + 1, os⟩
  refine wpAny_bind (wpAny_newTuple ?_)
  have hed : IsEnum (hc.push { cls := .type "tuple", data := .seq #[.int i tk, x] }) e it ((i : Int) + 1) old := Heap.get?_push_of_some _ hec
  generalize hhd : hc.push { cls := .type "tuple", data := .seq #[.int i tk, x] } = hd at hed
  have hsz : hc.objs.size = hp.objs.size := by rw [sc.1, sb.1, sa.1]
  have hel : e < hp.objs.size := Heap.lt_size he
  have htd : hd.get? hp.objs.size = some { cls := .type "tuple", data := .seq #[.int i tk, x] } := by rw [← hhd, ← hsz]; exact Heap.get?_push_size _ rfl
  have hzd : hd.objs.size = hp.objs.size + 1 := by rw [← hhd, Heap.size_push, hsz]
  have hkd : ∀ b o, b ≠ e → b ≠ it → hp.get? b = some o → hd.get? b = some o := fun b o hbe hbi q => by
    rw [← hhd]
    exact Heap.get?_push_of_some _ (sc.extBut b o hbe (sb.extBut b o hbe (sa.extBut b o hbi q)))
  have pd : P' hd := by
    rw [← hhd]
    exact N.keep' _ _ (N.ext' (N.ext' pa sb.extBut (Ne.symm hne) hle) sc.extBut (Ne.symm hne) hle) (fun o q => Heap.get?_push_of_some _ q) fun o q => Heap.get?_push_of_some _ q
  show wpAny _ _ (Builtin.SmallTypes.ownedTupleIsFree (.ref e) >>= _) _ _ ⟨hd, g, dr, tk + 1, os⟩
  rw [hsz]
  clear hhd hec sc heb sb hea sa pa hsz hc hb ha
  refine wpAny_bind ?_
  unfold Builtin.SmallTypes.ownedTupleIsFree
  refine wpAny_bind (wpAny_field hed rfl (x := .none) rfl (wpAny_pure ?_))
  simp only [if_true]
  refine wpAny_bind (wpAny_rule (wpAny_bind (wpAny_field hed rfl (x := old) rfl (wpAny_bind (wpAny_setField_rec hed (by simp) fun hf hef sf => ?_)))))
  replace sf : Heap.SameBut e hd hf := sf
  replace hef : IsEnum hf e it ((i : Int) + 1) x := hef
  show wpAny _ _ (Builtin.SmallTypes.ownedTupleHandOut (.ref e) (.ref hp.objs.size) >>= _) _ _ ⟨hf, g, dr, tk + 1, os⟩
  refine wpAny_bind ?_
  unfold Builtin.SmallTypes.ownedTupleHandOut
  refine wpAny_bind (wpAny_setField_rec hef (by simp) fun hg heg sg => ?_)
  replace sg : Heap.SameBut e hf hg := sg
  replace heg : IsEnumOut hg e it ((i : Int) + 1) x hp.objs.size := heg
  refine wpAny_setField_rec heg (by simp) fun hk hek sk => ?_
  replace sk : Heap.SameBut e hg hk := sk
  replace hek : IsEnumOut hk e it ((i : Int) + 1) x hp.objs.size := hek
  refine wpAny_bind (wpAny_letGo (wpAny_pure ⟨_, rfl, hQ x hk gx hek ?_ ?_ ?_ ?_⟩))
  · exact N.ext' (N.ext' (N.ext' pd sf.extBut (Ne.symm hne) hle) sg.extBut (Ne.symm hne) hle) sk.extBut (Ne.symm hne) hle
  · exact sk.extBut _ _ (Nat.ne_of_gt hel) (sg.extBut _ _ (Nat.ne_of_gt hel) (sf.extBut _ _ (Nat.ne_of_gt hel) htd))
  · rw [sk.1, sg.1, sf.1, hzd]
  · exact fun b o hbe hbi q => sk.extBut b o hbe (sg.extBut b o hbe (sf.extBut b o hbe (hkd b o hbe hbi q)))
theorem pyNext_enumq {e it l : Addr} {i : Nat} {old : Value} {G : Value → Prop} {P P' : Heap → Prop} {Q : Option Value → Shared → Prop} (N : Nxt prog w it l P P' G)
    (he : IsEnum s.heap e it i old) (p : P s.heap) (hne : e ≠ it) (hle : l ≠ e)
    (hQ : ∀ x h', G x → IsEnumOut h' e it ((i : Int) + 1) x s.heap.objs.size → P' h' →
      h'.get? s.heap.objs.size = some { cls := .type "tuple", data := .seq #[.int i s.toks, x] } → h'.objs.size = s.heap.objs.size + 1 →
      (∀ b o, b ≠ e → b ≠ it → s.heap.get? b = some o → h'.get? b = some o) → Q (some (.ref s.heap.objs.size)) { s with heap := h', toks := s.toks + 1 }) :
    wpAny (model prog w) A (pyNext (.ref e)) Q E s := by
  unfold pyNext
  exact wpAny_bind (wpAny_attempt (wpAny_callSpecial?_slot (name := Str.ofString "__next__") ⟨_, he, rfl⟩ F.slot_enumerate_next (wpAny_call_entry F.slot_enumerate_next ⟨_, he, rfl⟩ F.entry_enumerate_next
    (enum_step N he p hne hle fun x h' a b c d k m => wpAny_pure (hQ x h' a b c d k m)) (F.args_enumerate_next_1 _))))
theorem pyNext_enumq_end {e it l : Addr} {i : Nat} {old : Value} {P : Heap → Prop} {Q : Option Value → Shared → Prop} (hh : A.handled = none) (N : Fin_ prog w it l P)
    (he : IsEnum s.heap e it i old) (p : P s.heap) (hQ : ∀ h', Heap.ExtBut it s.heap h' → Q none { s with heap := h' }) : wpAny (model prog w) A (pyNext (.ref e)) Q E s := by
  unfold pyNext
  refine wpAny_bind (wpAny_attempt (wpAny_callSpecial?_slot (name := Str.ofString "__next__") ⟨_, he, rfl⟩ F.slot_enumerate_next (wpAny_call_entry F.slot_enumerate_next ⟨_, he, rfl⟩ F.entry_enumerate_next ?_ (F.args_enumerate_next_1 _))))
  show wpAny _ _ (field (.ref e) 2 >>= _) _ _ _
  refine wpAny_bind (wpAny_field he rfl (x := .ref it) rfl (wpAny_bind (N.run _ _ _ _ hh p fun h' x hs hx => ?_)))
  obtain ⟨o, ho, hc⟩ := hx
  exact wpAny_bind (wpAny_isInstance (T := "StopIteration") (b := true) ⟨o, ho, hc⟩ isSubtype_stop (wpAny_pure (hQ _ hs)))
theorem tup_fin {it l : Addr} {i : Nat} {its : Array Value} (hx : its[i]? = none) : Fin_ prog w it l (fun h => h.IsTupleIter it l i ∧ h.IsTuple l its) where
  keep := fun h h' ⟨p, q⟩ k1 k2 => ⟨p.at k1, let ⟨o, e, r⟩ := q; ⟨o, k2 o e, r⟩⟩
  run := fun A E s Q hh ⟨p, q⟩ hE => RZ.nextOf_tuple_end hh p q hx fun h' e k1 k2 => hE h' e k1 k2
end
end Dk

set_option maxHeartbeats 2000000
/-! enumerate of the written dict, of a tuple. -/
namespace Dk
open PySem PySem.Spec PyProof.Rows L2
open AutoSeq1 (wpAny_loadPart')
/-- enumerate of what has m items, the i-th so -/
def Iteq (m : Nat) (f : Nat → V → Prop) : It :=
  ⟨fun i _ => i < m, fun i H v H' => ∃ T x, v = .ref T ∧ H T = none ∧ H' = upd H T (.tup [.int (i : Nat), x]) ∧ f i x, fun i H => m ≤ i⟩
/-- the items of the tuple at b -/
def Itet (K : PySem.W.Frag) (b : Addr) : It :=
  ⟨fun i H => ∃ (xs : List V) (x : V), SqT K H b xs ∧ xs[i]? = some x, fun i H v H' => ∃ T x, v = .ref T ∧ H T = none ∧ H' = upd H T (.tup [.int (i : Nat), x]) ∧ ∀ xs, SqT K H b xs → xs[i]? = some x, fun i H => ∃ xs : List V, SqT K H b xs ∧ xs.length ≤ i⟩
section
variable {P : Program} {w : World} {K : PySem.W.Frag} {d b : Addr} {ks : List Str} {n : Nat} {elts : List Expr} {kk : Nat} {tpos : Pos}
theorem turn_enumK (T : KTab K w d ks n) (e it : Addr) (hde : d ≠ e) :
    Turn P w K (.Tuple elts kk tpos) (Iteq ks.length fun i x => ∃ k, ks[i]? = some k ∧ x = .str k) [e, it] e (fun i h => (∃ old, IsEnum h e it ((i : Nat) : Int) old) ∧ h.IsKeyIter it d i ks.length n ∧ e ≠ it) where
  mem := List.mem_cons_self
  obj := fun i h st b hb => by
    obtain ⟨⟨old, he⟩, ⟨o, ho, hc, hd⟩, _⟩ := st
    simp only [List.mem_cons, List.not_mem_nil, or_false] at hb
    rcases hb with z | z <;> subst z
    · exact ⟨_, he, fun v q => nomatch q⟩
    · exact ⟨o, ho, fun v q => by rw [hd] at q; cases q⟩
  keep := fun i h h' st k => let ⟨⟨old, he⟩, hi, hne⟩ := st; ⟨⟨old, k e (by simp) _ he⟩, keyiter_at hi fun o q => k it (by simp) o q, hne⟩
  item := by
    intro X hP hw hK hc i pins s σ H E I hf st hg
    subst hP hw hK
    obtain ⟨⟨old, he⟩, hit, hne⟩ := st
    obtain ⟨kvs, hm, hq⟩ := T.dictAt (prog := X.prog) I.kIn
    have hl : ks.length = kvs.length := by rw [← hq, List.length_map]
    obtain ⟨k, hk⟩ : ∃ k, ks[i]? = some k := ⟨_, List.getElem?_eq_getElem hg⟩
    obtain ⟨v, hv⟩ := key_at hq hk
    have hel : e < s.heap.objs.size := Heap.lt_size he
    have hil : it < s.heap.objs.size := by obtain ⟨_, q, _⟩ := hit; exact Heap.lt_size q
    rw [hl] at hit
    refine pyNext_enumq (key_nxt hv) he ⟨hit, hm⟩ hne hde fun x h' gx ho hit' hT hsz hkp => ?_
    obtain ⟨t, rfl⟩ := gx
    refine ⟨_, rfl, wpAny_letOwnedTupleGo_enum (s := { s with heap := h', toks := s.toks + 1 }) ho fun h'' he' sb => ?_⟩
    have hT2 : h''.get? s.heap.objs.size = some { cls := .type "tuple", data := .seq #[.int i s.toks, .str k t] } := (sb.2 _ (Nat.ne_of_gt hel)).trans hT
    have new : ObjOk X.prog X.w (upd H s.heap.objs.size (.tup [.int (i : Nat), .str k])) h'' s.heap.objs.size (.tup [.int (i : Nat), .str k]) :=
      ⟨by show 2 ≤ sizeLine; decide, [.int i s.toks, .str k t], .cons ⟨_, rfl⟩ (.cons ⟨t, rfl⟩ .nil), ⟨_, hT2, rfl, _, rfl⟩⟩
    have I1 : Inv X pins σ (upd H s.heap.objs.size (.tup [.int (i : Nat), .str k])) { s with heap := h'', toks := s.toks + 1 } :=
      I.turnedNew (ch := [e, it]) (fun b ob hb q => (sb.2 b (fun z => hb (by simp [z]))).trans (hkp b ob (fun z => hb (by simp [z])) (fun z => hb (by simp [z])) q)) hf (Nat.le_refl _) new
    refine ⟨.ref s.heap.objs.size, _, I1, rfl, ⟨_, .str k, rfl, I.hok.fresh (Nat.le_refl _), rfl, k, hk, rfl⟩, ⟨⟨.str k t, ?_⟩, ?_, hne⟩, fun b hb => ?_⟩
    · have e1 : ((i + 1 : Nat) : Int) = (i : Int) + 1 := by omega
      rw [e1]
      exact he'
    · rw [hl]
      exact keyiter_at hit' fun o q => (sb.2 it (Ne.symm hne)).trans q
    · have hb' : b < s.heap.objs.size := by
        simp only [List.mem_cons, List.not_mem_nil, or_false] at hb
        rcases hb with z | z <;> rw [z]
        · exact hel
        · exact hil
      rw [upd_ne (Nat.ne_of_lt hb')]
      exact (hf b hb).1
  done := by
    intro X hP hw hK hc i pins s σ H E I hf st hg
    subst hP hw hK
    obtain ⟨⟨old, he⟩, hit, hne⟩ := st
    obtain ⟨kvs, hm, hq⟩ := T.dictAt (prog := X.prog) I.kIn
    have hl : ks.length = kvs.length := by rw [← hq, List.length_map]
    rw [hl] at hit
    obtain ⟨f0, f1, f2, f3, f4, f5⟩ := hf it (by simp)
    exact pyNext_enumq_end (I.ok.hd hc) (key_fin (kvs := kvs) (by rw [← hl]; exact hg)) he ⟨hit, hm⟩ fun h' eb => ⟨rfl, I.turned (t' := s.toks) (fun b o hb q => eb b o hb q) f0 f1 f3 f4 f5⟩
  self := fun A i s Q E st h => let ⟨⟨_, he⟩, _⟩ := st; wpAny_pyIter_enum he h
theorem turn_enumT (b e it : Addr) (hbe : b ≠ e) :
    Turn P w K (.Tuple elts kk tpos) (Itet K b) [e, it] e (fun i h => (∃ old, IsEnum h e it ((i : Nat) : Int) old) ∧ h.IsTupleIter it b i ∧ e ≠ it) where
  mem := List.mem_cons_self
  obj := fun i h st b hb => by
    obtain ⟨⟨old, he⟩, ⟨o, ho, hc, hd⟩, _⟩ := st
    simp only [List.mem_cons, List.not_mem_nil, or_false] at hb
    rcases hb with z | z <;> subst z
    · exact ⟨_, he, fun v q => nomatch q⟩
    · exact ⟨o, ho, fun v q => by rw [hd] at q; cases q⟩
  keep := fun i h h' st k => let ⟨⟨old, he⟩, hi, hne⟩ := st; ⟨⟨old, k e (by simp) _ he⟩, hi.at fun o q => k it (by simp) o q, hne⟩
  item := by
    intro X hP hw hK hc i pins s σ H E I hf st hg
    subst hP hw hK
    obtain ⟨⟨old, he⟩, hit, hne⟩ := st
    obtain ⟨xs, x, hq, hx⟩ := hg
    obtain ⟨its, rv, p, hz⟩ := I.tuple hq
    obtain ⟨u, hu, ru⟩ := rv.get hx
    have hel : e < s.heap.objs.size := Heap.lt_size he
    have hil : it < s.heap.objs.size := by obtain ⟨_, q, _⟩ := hit; exact Heap.lt_size q
    refine pyNext_enumq (tup_nxt (its := its.toArray) (x := u) (by simpa using hu)) he ⟨hit, p⟩ hne hbe fun y h' gx ho hit' hT hsz hkp => ?_
    subst gx
    refine ⟨_, rfl, wpAny_letOwnedTupleGo_enum (s := { s with heap := h', toks := s.toks + 1 }) ho fun h'' he' sb => ?_⟩
    have hT2 : h''.get? s.heap.objs.size = some { cls := .type "tuple", data := .seq #[.int i s.toks, y] } := (sb.2 _ (Nat.ne_of_gt hel)).trans hT
    have new : ObjOk X.prog X.w (upd H s.heap.objs.size (.tup [.int (i : Nat), x])) h'' s.heap.objs.size (.tup [.int (i : Nat), x]) :=
      ⟨by show 2 ≤ sizeLine; decide, [.int i s.toks, y], .cons ⟨_, rfl⟩ (.cons ru .nil), ⟨_, hT2, rfl, _, rfl⟩⟩
    have I1 : Inv X pins σ (upd H s.heap.objs.size (.tup [.int (i : Nat), x])) { s with heap := h'', toks := s.toks + 1 } :=
      I.turnedNew (ch := [e, it]) (fun b ob hb q => (sb.2 b (fun z => hb (by simp [z]))).trans (hkp b ob (fun z => hb (by simp [z])) (fun z => hb (by simp [z])) q)) hf (Nat.le_refl _) new
    refine ⟨.ref s.heap.objs.size, _, I1, rfl, ⟨_, x, rfl, I.hok.fresh (Nat.le_refl _), rfl, fun ys hy => by rw [I.tuple_inj hy hq]; exact hx⟩, ⟨⟨y, ?_⟩, hit'.at fun o q => (sb.2 it (Ne.symm hne)).trans q, hne⟩, fun b hb => ?_⟩
    · have e1 : ((i + 1 : Nat) : Int) = (i : Int) + 1 := by omega
      rw [e1]
      exact he'
    · have hb' : b < s.heap.objs.size := by
        simp only [List.mem_cons, List.not_mem_nil, or_false] at hb
        rcases hb with z | z <;> rw [z]
        · exact hel
        · exact hil
      rw [upd_ne (Nat.ne_of_lt hb')]
      exact (hf b hb).1
  done := by
    intro X hP hw hK hc i pins s σ H E I hf st hg
    subst hP hw hK
    obtain ⟨⟨old, he⟩, hit, hne⟩ := st
    obtain ⟨xs, hq, hx⟩ := hg
    obtain ⟨its, rv, p, hz⟩ := I.tuple hq
    have hl := rv.length
    obtain ⟨f0, f1, f2, f3, f4, f5⟩ := hf it (by simp)
    exact pyNext_enumq_end (I.ok.hd hc) (tup_fin (its := its.toArray) (by simp; omega)) he ⟨hit, p⟩ fun h' eb => ⟨rfl, I.turned (t' := s.toks) (fun b o hb q => eb b o hb q) f0 f1 f3 f4 f5⟩
  self := fun A i s Q E st h => let ⟨⟨_, he⟩, _⟩ := st; wpAny_pyIter_enum he h
end
theorem meets_enumK_new (d : Addr) (o : Obj) (es : Array DictEntry) (ep : Nat) (hsys : (d == sysModules) = false) (hc : o.ExactDict) (hdat : o.data = .dict es ep) :
    Meets (Builtin.«enumerate.__new__» ⟨[.type "enumerate", .ref d], []⟩) (fun _ R s => s.heap.get? d = some o ∧
      R (.ok (.ret (.ref (zq1 s.heap d es.size ep).objs.size))) { s with heap := (zq1 s.heap d es.size ep).push { cls := .type "enumerate", data := .fields #[.none, .bool false, .ref s.heap.objs.size, rawInt 0, .none, .none] } }) :=
  .of_wp fun prog w A R s h => by
    obtain ⟨hp, g, dr, tk, os⟩ := s
    obtain ⟨hl, h⟩ := h
    have hsub := sub_enumerate
    have hL : Heap.get? (Shared.heap ⟨hp, g, dr, tk, os⟩) d = some o := hl
    wp_walk using wpAny_loadPart' hl
    refine wpAny_stack_any fun st => wpAny_pure ?_
    split
    · rename_i c _ _ _ _ _
      cases (c == Value.type "enumerate")
      · wp_walk using wpAny_loadPart' hl, iter_keys hsys hL hc hdat
        exact ⟨_, rfl, h⟩
      · wp_walk using wpAny_loadPart' hl, iter_keys hsys hL hc hdat
        exact ⟨_, rfl, h⟩
    · wp_walk using wpAny_loadPart' hl, iter_keys hsys hL hc hdat
      exact ⟨_, rfl, h⟩
theorem meets_enumT_new (l : Addr) (items : Array Value) (n : Nat) (dct : Option Addr) (sl : Array (Option Value)) :
    Meets (Builtin.«enumerate.__new__» ⟨[.type "enumerate", .ref l], []⟩) (fun _ R s => s.heap.get? l = some { cls := .type "tuple", dict := dct, data := .seq items n, slots := sl } ∧
      R (.ok (.ret (.ref (RZ.zipTH1 s.heap l).objs.size))) { s with heap := (RZ.zipTH1 s.heap l).push { cls := .type "enumerate", data := .fields #[.none, .bool false, .ref s.heap.objs.size, rawInt 0, .none, .none] } }) :=
  .of_wp fun prog w A R s h => by
    obtain ⟨hp, g, dr, tk, os⟩ := s
    obtain ⟨hl, h⟩ := h
    have hsub := sub_enumerate
    have hL : Heap.IsTuple (Shared.heap ⟨hp, g, dr, tk, os⟩) l items := ⟨_, hl, rfl, n, rfl⟩
    wp_walk using wpAny_loadPart' hl
    refine wpAny_stack_any fun st => wpAny_pure ?_
    split
    · rename_i c _ _ _ _ _
      cases (c == Value.type "enumerate")
      · wp_walk using wpAny_loadPart' hl, wpAny_pyIter_tuple hL
        exact ⟨_, rfl, h⟩
      · wp_walk using wpAny_loadPart' hl, wpAny_pyIter_tuple hL
        exact ⟨_, rfl, h⟩
    · wp_walk using wpAny_loadPart' hl, wpAny_pyIter_tuple hL
      exact ⟨_, rfl, h⟩
section
variable {prog : Program} {w : World} {A : Around} {E : Value → Shared → Prop} {s : Shared}
theorem call_enumK {d : Addr} {o : Obj} {es : Array DictEntry} {ep : Nat} {Q : Value → Shared → Prop} (hsys : (d == sysModules) = false) (hc : o.ExactDict) (hdat : o.data = .dict es ep) (ho : s.heap.get? d = some o)
    (h : ∀ h', IsEnum h' (s.heap.objs.size + 1) s.heap.objs.size 0 .none → h'.IsKeyIter s.heap.objs.size d 0 es.size ep → (∀ b o, s.heap.get? b = some o → h'.get? b = some o) → Q (.ref (s.heap.objs.size + 1)) { s with heap := h' }) :
    wpAny (model prog w) A (call (.type "enumerate") [.ref d]) Q E s := by
  refine callType_new F.called_enumerate (by decide) (F.typeCall_enumerate_1 _) (F.newCall_enumerate_1 _) (fun obj => F.args_object_init_2 obj _) F.entry_enumerate_new (meets_enumK_new d o es ep hsys hc hdat) ⟨ho, ?_⟩
  have hz : (zq1 s.heap d es.size ep).objs.size = s.heap.objs.size + 1 := Heap.size_push ..
  show _ ∧ _
  rw [hz]
  have he : IsEnum ((zq1 s.heap d es.size ep).push { cls := .type "enumerate", data := .fields #[.none, .bool false, .ref s.heap.objs.size, rawInt 0, .none, .none] }) (s.heap.objs.size + 1) s.heap.objs.size 0 .none := by
    have q := Heap.get?_push_size (zq1 s.heap d es.size ep) (o := { cls := .type "enumerate", data := .fields #[.none, .bool false, .ref s.heap.objs.size, rawInt 0, .none, .none] }) rfl
    rw [hz] at q
    exact q
  exact ⟨⟨_, he, rfl⟩, h _ he ⟨_, Heap.get?_push_of_some _ (Heap.get?_push_size _ rfl), rfl, rfl⟩ fun b o x => Heap.get?_push_of_some _ (Heap.get?_push_of_some _ x)⟩
theorem call_enumT {l : Addr} {items : Array Value} {Q : Value → Shared → Prop} (hL : s.heap.IsTuple l items)
    (h : ∀ h', IsEnum h' (s.heap.objs.size + 1) s.heap.objs.size 0 .none → h'.IsTupleIter s.heap.objs.size l 0 → (∀ b o, s.heap.get? b = some o → h'.get? b = some o) → Q (.ref (s.heap.objs.size + 1)) { s with heap := h' }) :
    wpAny (model prog w) A (call (.type "enumerate") [.ref l]) Q E s := by
  obtain ⟨⟨c, dct, dt, sl⟩, hl, hc, n, hd⟩ := hL
  replace hc : c = .type "tuple" := hc
  replace hd : dt = .seq items n := hd
  subst hc hd
  refine callType_new F.called_enumerate (by decide) (F.typeCall_enumerate_1 _) (F.newCall_enumerate_1 _) (fun obj => F.args_object_init_2 obj _) F.entry_enumerate_new (meets_enumT_new l items n dct sl) ⟨hl, ?_⟩
  have hz : (RZ.zipTH1 s.heap l).objs.size = s.heap.objs.size + 1 := Heap.size_push ..
  show _ ∧ _
  rw [hz]
  have he : IsEnum ((RZ.zipTH1 s.heap l).push { cls := .type "enumerate", data := .fields #[.none, .bool false, .ref s.heap.objs.size, rawInt 0, .none, .none] }) (s.heap.objs.size + 1) s.heap.objs.size 0 .none := by
    have q := Heap.get?_push_size (RZ.zipTH1 s.heap l) (o := { cls := .type "enumerate", data := .fields #[.none, .bool false, .ref s.heap.objs.size, rawInt 0, .none, .none] }) rfl
    rw [hz] at q
    exact q
  exact ⟨⟨_, he, rfl⟩, h _ he ⟨_, Heap.get?_push_of_some _ (Heap.get?_push_size _ rfl), rfl, rfl⟩ fun b o x => Heap.get?_push_of_some _ (Heap.get?_push_of_some _ x)⟩
end
section
variable {X : Cx} {d : Addr} {ks : List Str} {n : Nat} {e : Expr} {te : TE} {p pos tpos : Pos} {elts : List Expr} {kk : Nat}
theorem fp2 {pins : List (Addr × Obj)} {σ : L2.St} {H1 : Hp} {s1 : Shared} (I1 : Inv X pins σ H1 s1) : ∀ b ∈ [s1.heap.objs.size + 1, s1.heap.objs.size], FpOk X pins H1 b := fun b hb => by
  have hle : s1.heap.objs.size ≤ b := by
    simp only [List.mem_cons, List.not_mem_nil, or_false] at hb
    rcases hb with z | z <;> rw [z] <;> first | exact Nat.le_add_right _ _ | exact Nat.le_refl _
  exact I1.fpOk hle (I1.hok.fresh hle)
def iEnumK (d : Addr) (ks : List Str) (ta : TA) : TI := fun σ H R => ta σ H fun vs H1 => vs = [.ref d] ∧ R (Iteq ks.length fun i x => ∃ k, ks[i]? = some k ∧ x = .str k) H1
theorem pi_enumK {ta : TA} (T : KTab X.K X.w d ks n) (hg : Gl X "enumerate") (hm : X.mg "enumerate" = none) (ha : PA X [e] ta) (hs : starEach [e] X.env = [(false, eval e X.env)] := by rfl) :
    PI X (.Tuple elts kk tpos) (.Call (.Name "enumerate" p) [e] [] pos) (iEnumK d ks ta) := by
  refine ⟨fun pins s σ H R I h => ?_⟩
  refine Call_ (ld_blt I hg hm boot_enumerate (PyProof.Rows.callWith_type1 (thn (ha.run pos pins s σ H _ I h) fun us s1 ⟨vs, H1, I1, r1, ex, q⟩ => ?_) hs rfl))
  subst ex
  obtain ⟨u, rfl, r⟩ := vals1 r1
  cases (show u = Value.ref d from r)
  obtain ⟨kvs, hm', hq⟩ := T.dictAt (prog := X.prog) I1.kIn
  have hl : ks.length = kvs.length := by rw [← hq, List.length_map]
  obtain ⟨o, es, ho, hx, hd, _, hp, _⟩ := hm'
  have hsz : es.size = ks.length := by rw [hl, ← hp.length]; simp
  refine call_enumK T.low hx hd ho fun h' he hit hk => wpAny_pyIter_enum he ?_
  rw [hsz] at hit
  have I2 : Inv X pins σ H1 { s1 with heap := h' } := I1.kept (t' := s1.toks) hk
  exact ⟨s1.heap.objs.size + 1, [s1.heap.objs.size + 1, s1.heap.objs.size], _, _, H1, rfl, I2, turn_enumK T (s1.heap.objs.size + 1) s1.heap.objs.size (Nat.ne_of_lt (Nat.lt_succ_of_lt (Heap.lt_size ho))), ⟨⟨.none, he⟩, hit, Nat.succ_ne_self _⟩, fp2 I1, q⟩
/-- enumerate(x), x a list or a tuple -/
def iEnumA (K : PySem.W.Frag) (ta : TA) : TI := fun σ H R => ta σ H fun vs H1 => ∃ b, vs = [.ref b] ∧ ((∃ xs, SqL K H1 b xs ∧ R (Ite K b) H1) ∨ ∃ xs, SqT K H1 b xs ∧ R (Itet K b) H1)
theorem pi_enumA {ta : TA} (hg : Gl X "enumerate") (hm : X.mg "enumerate" = none) (ha : PA X [e] ta) (hs : starEach [e] X.env = [(false, eval e X.env)] := by rfl) :
    PI X (.Tuple elts kk tpos) (.Call (.Name "enumerate" p) [e] [] pos) (iEnumA X.K ta) := by
  refine ⟨fun pins s σ H R I h => ?_⟩
  refine Call_ (ld_blt I hg hm boot_enumerate (PyProof.Rows.callWith_type1 (thn (ha.run pos pins s σ H _ I h) fun us s1 ⟨vs, H1, I1, r1, b, ex, q⟩ => ?_) hs rfl))
  subst ex
  obtain ⟨u, rfl, r⟩ := vals1 r1
  cases (show u = Value.ref b from r)
  rcases q with ⟨xs, hq, q⟩ | ⟨xs, hq, q⟩
  · obtain ⟨its, rv, p', hz⟩ := I1.list hq
    refine call_enumerate_list p'.isList fun h' he hit hsz hk => wpAny_pyIter_enum he ?_
    have I2 : Inv X pins σ H1 { s1 with heap := h' } := I1.kept (t' := s1.toks) hk
    exact ⟨s1.heap.objs.size + 1, [s1.heap.objs.size + 1, s1.heap.objs.size], _, _, H1, rfl, I2, turn_enum b (s1.heap.objs.size + 1) s1.heap.objs.size, ⟨⟨.none, he⟩, hit, Nat.succ_ne_self _⟩, fp2 I1, q⟩
  · obtain ⟨its, rv, p', hz⟩ := I1.tuple hq
    obtain ⟨o, ho, _⟩ := id p'
    refine call_enumT (show s1.heap.IsTuple b its.toArray from p') fun h' he hit hk => wpAny_pyIter_enum he ?_
    have I2 : Inv X pins σ H1 { s1 with heap := h' } := I1.kept (t' := s1.toks) hk
    exact ⟨s1.heap.objs.size + 1, [s1.heap.objs.size + 1, s1.heap.objs.size], _, _, H1, rfl, I2, turn_enumT b (s1.heap.objs.size + 1) s1.heap.objs.size (Nat.ne_of_lt (Nat.lt_succ_of_lt (Heap.lt_size ho))), ⟨⟨.none, he⟩, hit, Nat.succ_ne_self _⟩, fp2 I1, q⟩
end
end Dk

set_option maxHeartbeats 4000000
/-! The tree layer: slotted classes: made, methods, properties, own ==, isinstance. -/
namespace Dl
open PySem PySem.Spec PyProof.Rows L2

section
variable {X : Cx} {pins : List (Addr × Obj)} {σ : L2.St} {H : Hp} {s : Shared} {CX : CXT} {k : Nat} {f C : Addr} {sp : Sp} {E : XK} {Q : VK} {us : List Value} {vs : List V}
theorem run_fnRS (F : FnR X.prog X.w X.K X.mg X.base CX k f sp) (hr : Room k X.A) (hx : PassesAt CX X σ E) (I : Inv X pins σ H s) (r : Vals vs us) (h : sp vs H Q E) :
    codeAny (model X.prog X.w) X.A (.call (.ref f) ⟨us, []⟩) (fun r s' => match r with | .ok (.ret v) => EP X pins σ Q v s' | .ok _ => False | .error e => X.xe e s') s := by
  refine codeAny_mono (F X.A X.stack s H us vs Q E hr I.env0 r h) fun r s' hq => ?_
  cases r with
  | error e => exact hx pins H s e s' I hq
  | ok fl =>
    cases fl with
    | ret u => exact I.after hq
    | next => exact False.elim hq
    | brk => exact False.elim hq
    | cont => exact False.elim hq
theorem run_makeRS (M : Mk X.K C f) (F : FnR X.prog X.w X.K X.mg X.base CX k f sp) (hr : Room (k + 1) X.A) (hx : PassesAt CX X σ E) (I : Inv X pins σ H s) (r : Vals vs us)
    (h : ∀ x dx, H x = Option.none → H dx = Option.none → dx ≠ x → sp (V.ref x :: vs) (upd (upd H dx (.own x)) x (.ins C dx [])) (fun v H2 => v = .non ∧ Q (.ref x) H2) E) :
    wpAny (model X.prog X.w) X.A (call (.ref C) us) (EP X pins σ Q) X.xe s := by
  have hq := h (s.heap.objs.size + 1) s.heap.objs.size (I.hok.fresh (Nat.le_succ _)) (I.hok.fresh (Nat.le_refl _)) (Nat.ne_of_lt (Nat.lt_succ_self _))
  have I2 := Inv.made (C := C) I
  have r2 : Vals (V.ref (s.heap.objs.size + 1) :: vs) (Value.ref (s.heap.objs.size + 1) :: us) := .cons rfl r
  refine wpAny_call (make_map (f := f) I.kIn M.makes M.init (beq_iff_eq.mp M.fn) (codeAny_mono (F _ X.stack _ _ (Value.ref (s.heap.objs.size + 1) :: us) _ _ E (hr.make C us []) (I2.env0.make C us []) r2 hq) fun r s' hq' => ?_))
  cases r with
  | error e => exact hx pins _ _ e s' I2 hq'
  | ok fl =>
    cases fl with
    | ret u =>
      obtain ⟨v, H', I3, rv, ev, q3⟩ := I2.after hq'
      subst ev
      exact ⟨rv, ⟨V.ref (s.heap.objs.size + 1), H', I3, rfl, q3⟩⟩
    | next => exact False.elim hq'
    | brk => exact False.elim hq'
    | cont => exact False.elim hq'
end
/-- what an __init__ does: the instance at the first argument comes to stand for a tree -/
def spI (K : PySem.W.Frag) (C : Addr) (n : Nat) (F : DF) : Sp := fun vs H Q E => vs.length = n + 1 ∧ ∃ (Z : Zn) (H0 : Hp) (x dx : Addr) (ws : List V) (ds : List D) (Q0 : D → Prop) (R0 : DX), vs = .ref x :: ws ∧ Good Z H0 ∧ H0 x = none ∧ H0 dx = none ∧ dx ≠ x ∧
  H = upd (upd H0 dx (.own x)) x (.ins C dx []) ∧ RepsZ K Z H0 ws ds ∧ F ds Q0 R0 ∧ (∀ y, R0 y → ∀ cls d H', Step Z H0 H' → RepX K Z H' cls d y → E cls d H') ∧ ∀ d, Q0 d → ∀ H', Step Z H0 H' → RepZ K Z H' (.ref x) d → Q .non H'
/-- a class that is made by its global name -/
structure MkC (P : Program) (w : World) (K : PySem.W.Frag) (mg : Str → Option Value) (base : Heap) (k : Nat) (x : Str) (C : Addr) (n : Nat) (F : DF) : Prop where
  ex : ∃ f, FnR P w K mg base (L2.CX P w) k f (spI K C n F) ∧ Mk K C f ∧ mg x = some (.ref C)
section
variable {X : Cx} {W : WX} {e : Expr} {es : List Expr} {pos p p2 : Pos} {fs : DA} {fe : DE} {x : Str} {k j n : Nat} {C : Addr} {F : DF}
theorem make_ev {Z : Zn} {O : Own} {H1 : Hp} {σ : L2.St} {env : Env'} {Q : VK} {Q0 : D → Prop} {R0 : DX} {vs : List V} {ds : List D} (a : At X.K Z O H1 σ env) (xk : Xk X.K Z H1 σ R0 W) (q : ∀ d, Q0 d → ∀ v H', Step Z H1 H' → RepZ X.K Z H' v d → Q v H') (r : RepsZ X.K Z H1 vs ds) (hl : ds.length = n) (hF : F ds Q0 R0) :
    ∀ y dx, H1 y = none → H1 dx = none → dx ≠ y → spI X.K C n F (V.ref y :: vs) (upd (upd H1 dx (.own y)) y (.ins C dx [])) (fun v H2 => v = .non ∧ Q (.ref y) H2) (WE W σ) := fun y dx h1 h2 h3 =>
  ⟨by simp [r.length, hl], Z, H1, y, dx, vs, ds, Q0, R0, rfl, a.good, h1, h2, h3, rfl, r, hF, fun z hz cls d H' s rx => xk z hz cls d H' s rx, fun d hd H' s rv => ⟨rfl, q d hd _ H' s rv⟩⟩
theorem pd_make (c : MkC X.prog X.w X.K X.mg X.base k x C n F) (hr : Room (k + 1) X.A) (hg : Gl X x) (tk : Takes X W) (ha : PDA X W (e :: es) fs)
    (hdb : (x == ("__debug__" : Str)) = false := by decide) (he : starEach (e :: es) X.env = (false, eval e X.env) :: starEach es X.env := by rfl) (hpl : (backTo pos (starEach es X.env)).any (·.1) = false := by rfl) :
    PD X W (.Call (.Name x p) (e :: es) [] pos) (dCall n F fs) := by
  obtain ⟨f, FR, M, hm⟩ := c.ex
  refine ⟨fun pins s σ H Q I ⟨Z, O, env, Q0, R0, at_, hf, xk, q⟩ => ?_⟩
  refine wpAny_Call_Name_kw (ld_glob I hg hm ?_ hdb)
  refine PySem.W.callWith_K (h₀ := X.base) I.ok.mod.kin M.kp (thn (ha.run pos pins s σ H _ I (DTA.mk (Q := fun vs H1 => ∀ y dx, H1 y = none → H1 dx = none → dx ≠ y → spI X.K C n F (V.ref y :: vs) (upd (upd H1 dx (.own y)) y (.ins C dx [])) (fun v H2 => v = .non ∧ Q (.ref y) H2) (WE W σ)) at_ hf xk fun ds hd vs H1 s1 r => ?_)) fun us s1 ⟨vs, H1, I1, r, hq⟩ => ⟨I1.kIn, ?_⟩) he hpl
  · exact make_ev (at_.step s1) (xk.step s1) (fun d hd v H' s' rv => q d hd v H' (s1.trans s') rv) r hd.1 hd.2
  · exact run_makeRS M FR hr (passAt tk σ) I1 r hq
/-- x( *e ) -/
def dCallS (n : Nat) (F : DF) (fe : DE) : DE := fun env Q R => fe env (fun d => ∃ ds, seqOf d = some ds ∧ ds.length = n ∧ F ds Q R) R
theorem pd_makeS (c : MkC X.prog X.w X.K X.mg X.base k x C n F) (hr : Room (k + 1) X.A) (hg : Gl X x) (tk : Takes X W) (ha : PD X W e fe)
    (hdb : (x == ("__debug__" : Str)) = false := by decide) (hst : starEach [.Starred e p2] X.env = [(true, eval e X.env)] := by rfl) :
    PD X W (.Call (.Name x p) [.Starred e p2] [] pos) (dCallS n F fe) := by
  obtain ⟨f, FR, M, hm⟩ := c.ex
  refine ⟨fun pins s σ H Q I ⟨Z, O, env, Q0, R0, at_, hf, xk, q⟩ => ?_⟩
  refine wpAny_Call_Name_kw (ld_glob I hg hm ?_ hdb)
  refine PySem.W.callWith_S (h₀ := X.base) I.ok.mod.kin M.kp (thn (ha.run pins s σ H _ I (DT.mk (Q := fun v H1 => ∃ b vs, v = V.ref b ∧ (SqT X.K H1 b vs ∨ SqL X.K H1 b vs) ∧ ∀ y dx, H1 y = none → H1 dx = none → dx ≠ y → spI X.K C n F (V.ref y :: vs) (upd (upd H1 dx (.own y)) y (.ins C dx [])) (fun v H2 => v = .non ∧ Q (.ref y) H2) (WE W σ)) at_ hf xk fun d hd v H1 s1 r => ?_)) fun u s1 ⟨y, H1, I1, ry, b, vs, ey, hsq, hq⟩ => ?_) hst
  · obtain ⟨ds, e1, e2, e3⟩ := hd
    obtain ⟨b, vs, rfl, hsq, rs⟩ := seq_rep r e1
    exact ⟨b, vs, rfl, hsq.symm, make_ev (at_.step s1) (xk.step s1) (fun d hd v H' s' rv => q d hd v H' (s1.trans s') rv) rs e2 e3⟩
  · subst ey
    obtain rfl : u = Value.ref b := ry
    exact StX.star_any I1 hsq fun us s2 I2 r => ⟨I2.kIn, run_makeRS M FR hr (passAt tk σ) I2 r hq⟩

/-! ### methods, properties -/
structure MeC (P : Program) (w : World) (K : PySem.W.Frag) (mg : Str → Option Value) (base : Heap) (k : Nat) (C : Addr) (m : Str) (n : Nat) (F : DF) : Prop where
  ex : ∃ g, FnR P w K mg base (L2.CX P w) k g (spD K n F) ∧ Meth K C m g ∧ SlX.SCls K C
def dMeth (C : Addr) (n : Nat) (F : DF) (fo : DE) (fs : DA) : DE := fun env Q R => fo env (fun o => match o with
  | .obj C' os => C' = C ∧ fs env (fun ds => ds.length + 1 = n ∧ F (.obj C os :: ds) Q R) R
  | _ => False) R
theorem pd_meth {o : Expr} {m : Str} {apos : Pos} {pl : Sem Bool} {fo : DE} (c : MeC X.prog X.w X.K X.mg X.base k C m n F) (hr : Room k X.A) (tk : Takes X W) (ho : PD X W o fo) (ha : PDA X W (e :: es) fs)
    (hst : starEach (e :: es) X.env = (false, eval e X.env) :: starEach es X.env := by rfl) (hpl : (backTo pos (starEach es X.env)).any (·.1) = false := by rfl)
    (ht : eval (.Call (.Attribute o m apos) (e :: es) [] pos) X.env = (do
      let ov ← eval o X.env
      standAt apos.atName
      let (f, first) ← holding [ov] (getMethod ov m pl)
      callWith pos f first (backTo pos (starEach (e :: es) X.env)) (backToKw pos (keywordEach [] X.env))) := by rfl) :
    PD X W (.Call (.Attribute o m apos) (e :: es) [] pos) (dMeth C n F fo fs) := by
  obtain ⟨g, FR, hm, sc⟩ := c.ex
  refine ⟨fun pins s σ H Q I ⟨Z, O, env, Q0, R0, at_, hf, xk, q⟩ => ?_⟩
  refine PySem.W.methodCall_KW (pl := pl) (thn (ho.run pins s σ H _ I (DT.mk (Q := fun x H1 => ∃ a dx ws os, x = .ref a ∧ SlX.Slt (mask Z H1) a C dx (ws.map some) ∧ RepsZ X.K Z H1 ws os ∧ Step Z H H1 ∧ fs env (fun ds => ds.length + 1 = n ∧ F (.obj C os :: ds) Q0 R0) R0) at_ hf xk fun d hd v H1 s1 r => ?_)) fun u s1 ⟨x, H1, I1, rx, a, dx, ws, os, ex, hsl, rw_, st1, hq⟩ => ?_) ht
  · cases d <;> first | exact False.elim hd | skip
    obtain ⟨ec, hd⟩ := hd
    subst ec
    cases r with
    | obj a _ dx ws ds h r => exact ⟨a, dx, ws, _, rfl, h, r, s1, hd⟩
  · subst ex
    obtain rfl : u = Value.ref a := rx
    refine SlX.getmethsl_ok I1 ((mask_le Z H1).slt hsl) sc hm ?_
    refine PySem.W.callWith_K (first := [.ref a]) (h₀ := X.base) I.ok.mod.kin hm.kp (thn (ha.run pos pins s1 σ H1 _ I1 (DTA.mk (Q := fun vs H2 => spD X.K n F (V.ref a :: vs) H2 Q (WE W σ)) (at_.step st1) hq (xk.step st1) fun ds hd vs H2 s2 r => ?_)) fun us s2 ⟨vs, H2, I2, r, q2⟩ => ⟨I2.kIn, ?_⟩) hst hpl
    · have st2 := st1.trans s2
      exact ⟨by simp [r.length, hd.1], Z, _, Q0, R0, s2.good, .cons _ _ _ _ (.obj a C dx ws os (s2.le.slt hsl) (rw_.step s2)) r, hd.2, fun z hz cls d H' s' rx => xk z hz cls d H' (st2.trans s') rx, fun d hd v H' s' rv => q d hd v H' (st2.trans s') rv⟩
    · exact wpAny_call (run_fnRS (us := .ref a :: us) (vs := .ref a :: vs) FR hr (passAt tk σ) I2 (.cons rfl r) q2)
/-- a property f of C, its getter -/
structure PrC (P : Program) (w : World) (K : PySem.W.Frag) (mg : Str → Option Value) (base : Heap) (k : Nat) (C : Addr) (f : Str) (F : DF) : Prop where
  ex : ∃ p g rest, FnR P w K mg base (L2.CX P w) k g (spD K 1 F) ∧ SlX.SCls K C ∧ PySem.W.findIn K (.ref C) f = some (some (.ref p)) ∧ PySem.W.specialIn K (.ref p) "__get__" = some (some (.builtin "property.__get__")) ∧
    PySem.W.takesIn K (.ref p) = some true ∧ PySem.W.recIn K p "property" = some (.ref g :: rest)
def dProp (C : Addr) (F : DF) (fo : DE) : DE := fun env Q R => fo env (fun o => match o with
  | .obj C' os => C' = C ∧ F [.obj C os] Q FX
  | _ => False) R
theorem pd_prop {o : Expr} {f : Str} {fo : DE} (c : PrC X.prog X.w X.K X.mg X.base k C f F) (hr : Room (k + 1) X.A) (ho : PD X W o fo) (hb : attributeBase o f X.env (eval o X.env) = eval o X.env := by rfl) : PD X W (.Attribute o f pos) (dProp C F fo) := by
  obtain ⟨p, g, rest, FR, sc, h1, h2, h3, h4⟩ := c.ex
  refine PE.imp (SlX.pe_propSl ho sc h1 h2 h3 ⟨rest, h4⟩ FR hr (E := fun _ _ _ => False) (fun _ _ _ _ ⟨_, _, _, _, _, _, _, _, _, _, _, _, z⟩ => z) hb) fun σ H Q ⟨Z, O, env, Q0, R0, at_, hf, xk, q⟩ => ?_
  refine DT.mk at_ hf xk fun d hd v H1 s1 r => ?_
  cases d <;> first | exact False.elim hd | skip
  rename_i C0 os0
  obtain ⟨ec, hd⟩ := hd
  subst ec
  cases r with
  | obj a _ dx ws _ h r => exact ⟨a, dx, ws.map some, rfl, (mask_le Z H1).slt h, rfl, Z, [.obj C0 os0], Q0, FX, s1.good, .one (.obj a _ dx ws os0 h r), hd, fun _ z => z.elim, fun d hd v H' s' rv => q d hd v H' (s1.trans s') rv⟩
/-! ### isinstance of an instance, of data -/
def gIsC (K : PySem.W.Frag) (c : Addr) : DC1 := fun ds Q => match ds with
  | [.obj C os, .raw (.ref c')] => c' = c ∧ SlX.SCls K C ∧ SlX.SIsi K C ∧ ∃ b, PySem.W.kitOne K (.ref C) (.ref c) = some b ∧ Q (.bl b)
  | _ => False
theorem cd_isC {K : PySem.W.Frag} {c : Addr} : CallD K (SlX.rIsiSl K (.ref c)) (gIsC K c) := fun Z H vs ds Q0 Q gd r hg q => by
  unfold gIsC at hg
  split at hg
  · obtain ⟨v, w, rfl, h, h2⟩ := r.inv2
    obtain ⟨e, h3, h4, b, h5, h6⟩ := hg
    subst e
    cases h2
    rename_i C0 os0 _
    cases h with
    | obj a _ dx ws _ hs rs => exact ⟨a, _, dx, ws.map some, .ref _, b, rfl, rfl, fun u z => z, (mask_le Z H).slt hs, h3, h4, h5, q _ h6 _ H (Step.refl gd) (.bl _)⟩
  · exact hg.elim
/-- isinstance(data, own class): the class is a plain one -/
def gIsD (K : PySem.W.Frag) (c : Addr) : DC1 := fun ds Q => match ds with
  | [d, .raw (.ref c')] => c' = c ∧ ∃ t b, dty d = some t ∧ PySem.W.kitOne K (.type t) (.ref c) = some b ∧ Q (.bl b)
  | _ => False
theorem cd_isD {K : PySem.W.Frag} {c : Addr} : CallD K (rIsi K) (gIsD K c) := fun Z H vs ds Q0 Q gd r hg q => by
  unfold gIsD at hg
  split at hg
  · obtain ⟨v, w, rfl, h, h2⟩ := r.inv2
    obtain ⟨e, t, b, h3, h4, h5⟩ := hg
    subst e
    cases h2
    exact ⟨v, _, _, _, b, rfl, .own _, dty_rep h h3, h4, q _ h5 _ H (Step.refl gd) (.bl _)⟩
  · exact hg.elim
end
end Dl

set_option maxHeartbeats 4000000
/-! The tree layer: the written dict, texts, isinstance of a written tuple of classes, list.index. -/
namespace Dl
open PySem PySem.Spec PyProof.Rows L2 Dk

/-! ### the written dict -/
structure TabV (K : PySem.W.Frag) (w : World) (d : Addr) (kvs : List (Str × List D)) : Prop where
  tab : ∃ n, KTab K w d (kvs.map (·.1)) n
  val : ∀ z ds, kvs.lookup z = some ds → ∃ a, KDct K w d z (.ref a) ∧ ∀ vl G, Rep K vl G (.ref a) (.tup ds)
def gTabIx (d : Addr) (kvs : List (Str × List D)) : D2 := fun x y Q => match x, y with
  | .raw (.ref d'), .str z => d' = d ∧ ∃ ds, kvs.lookup z = some ds ∧ Q (.tup ds)
  | _, _ => False
theorem opd_tabIx {K : PySem.W.Frag} {w : World} {d : Addr} {kvs : List (Str × List D)} (T : TabV K w d kvs) : OpD K (rIxD K w) (gTabIx d kvs) := fun Z H x y dx dy Q0 Q gd rx ry hg q => by
  unfold gTabIx at hg
  split at hg
  · obtain ⟨e, ds, h1, h2⟩ := hg
    subst e
    cases rx
    cases ry
    obtain ⟨a, ha, hr⟩ := T.val _ _ h1
    exact ⟨_, _, _, rfl, rfl, ha, q _ h2 _ H (Step.refl gd) (hr _ _)⟩
  · exact hg.elim
def zipD (ks : List Str) (ys : List D) : List D := (ks.zip ys).map fun p => .tup [.str p.1, p.2]
def enumD (xs : List D) : List D := xs.zipIdx.map fun p => .tup [.int (p.2 : Nat), p.1]
section
variable {K : PySem.W.Frag} {vl : Option (Addr × Addr)} {G : Hp} {ks : List Str}
theorem itr_tab : ItR K vl (Itq ks) G (ks.map D.str) where
  go := fun Z H e le gd i d hd => by
    rw [List.getElem?_map] at hd
    cases hk : ks[i]? with
    | none => rw [hk] at hd; cases hd
    | some k =>
      rw [hk] at hd
      cases hd
      refine ⟨(List.getElem?_eq_some_iff.mp hk).1, fun x H2 y => ?_⟩
      obtain ⟨rfl, k', hk', rfl⟩ := y
      rw [hk] at hk'
      cases hk'
      exact ⟨Step.refl gd, .str k⟩
  stop := fun Z H e le gd i hd => by
    rw [List.getElem?_map] at hd
    cases hk : ks[i]? with
    | none => exact List.getElem?_eq_none_iff.mp hk
    | some k => rw [hk] at hd; cases hd
theorem itr_tabZ {b : Addr} {ys : List V} {ds : List D} (h : SqT K G b ys) (r : Reps K vl G ys ds) (hl : ks.length = ds.length) : ItR K vl (Itqz K ks b) G (zipD ks ds) where
  go := fun Z H e le gd i d hd => by
    unfold zipD at hd
    rw [List.getElem?_map] at hd
    cases hz : (ks.zip ds)[i]? with
    | none => rw [hz] at hd; cases hd
    | some p =>
      rw [hz] at hd
      cases hd
      obtain ⟨hk, hy⟩ := List.getElem?_zip_eq_some.mp hz
      obtain ⟨v, hv, rv⟩ := r.get hy
      have hs : SqT K H b ys := (mask_le Z H).sqt (le.sqt h)
      refine ⟨⟨(List.getElem?_eq_some_iff.mp hk).1, ys, v, hs, hv⟩, fun x H2 y => ?_⟩
      obtain ⟨T, k, y', rfl, hT, rfl, hk', hy'⟩ := y
      rw [hk] at hk'
      cases hk'
      have e2 := hy' ys hs
      rw [hv] at e2
      cases e2
      subst e
      exact ⟨Step.new gd _ hT, new_tup gd hT (.cons _ _ _ _ (.str _) (.one (Rep.mono le rv)))⟩
  stop := fun Z H e le gd i hd => by
    unfold zipD at hd
    rw [List.getElem?_map] at hd
    cases hz : (ks.zip ds)[i]? with
    | none =>
      have := List.getElem?_eq_none_iff.mp hz
      rw [List.length_zip] at this
      show ks.length ≤ i
      omega
    | some p => rw [hz] at hd; cases hd
theorem itr_enumK : ItR K vl (Iteq ks.length fun i x => ∃ k, ks[i]? = some k ∧ x = .str k) G (enumD (ks.map D.str)) where
  go := fun Z H e le gd i d hd => by
    unfold enumD at hd
    rw [List.getElem?_map, List.getElem?_zipIdx, List.getElem?_map] at hd
    cases hk : ks[i]? with
    | none => rw [hk] at hd; cases hd
    | some k =>
      rw [hk] at hd
      simp at hd
      subst hd
      refine ⟨(List.getElem?_eq_some_iff.mp hk).1, fun x H2 y => ?_⟩
      obtain ⟨T, y', rfl, hT, rfl, k', hk', rfl⟩ := y
      rw [hk] at hk'
      cases hk'
      exact ⟨Step.new gd _ hT, new_tup gd hT (.cons _ _ _ _ (.int _) (.one (.str _)))⟩
  stop := fun Z H e le gd i hd => by
    unfold enumD at hd
    rw [List.getElem?_map, List.getElem?_zipIdx, List.getElem?_map] at hd
    cases hk : ks[i]? with
    | none => exact List.getElem?_eq_none_iff.mp hk
    | some k => rw [hk] at hd; simp at hd
theorem itr_enumL {a : Addr} {vs : List V} {ds : List D} (h : G a = some (.lst vs)) (r : Reps K vl G vs ds) : ItR K vl (Ite K a) G (enumD ds) where
  go := fun Z H e le gd i d hd => by
    unfold enumD at hd
    rw [List.getElem?_map, List.getElem?_zipIdx] at hd
    cases hk : ds[i]? with
    | none => rw [hk] at hd; cases hd
    | some k =>
      rw [hk] at hd
      simp at hd
      subst hd
      obtain ⟨v, hv, rv⟩ := r.get hk
      have hs : SqL K H a vs := SqL.of (mask_le Z H _ _ (le _ _ h))
      refine ⟨⟨vs, v, hs, hv⟩, fun x H2 y => ?_⟩
      obtain ⟨T, y', rfl, hT, rfl, hy'⟩ := y
      have e2 := hy' vs hs
      rw [hv] at e2
      cases e2
      subst e
      exact ⟨Step.new gd _ hT, new_tup gd hT (.cons _ _ _ _ (.int _) (.one (Rep.mono le rv)))⟩
  stop := fun Z H e le gd i hd => by
    unfold enumD at hd
    rw [List.getElem?_map, List.getElem?_zipIdx] at hd
    cases hk : ds[i]? with
    | none => exact ⟨vs, SqL.of (mask_le Z H _ _ (le _ _ h)), by rw [r.length]; exact List.getElem?_eq_none_iff.mp hk⟩
    | some k => rw [hk] at hd; simp at hd
theorem itr_enumT {a : Addr} {vs : List V} {ds : List D} (h : SqT K G a vs) (r : Reps K vl G vs ds) : ItR K vl (Itet K a) G (enumD ds) where
  go := fun Z H e le gd i d hd => by
    unfold enumD at hd
    rw [List.getElem?_map, List.getElem?_zipIdx] at hd
    cases hk : ds[i]? with
    | none => rw [hk] at hd; cases hd
    | some k =>
      rw [hk] at hd
      simp at hd
      subst hd
      obtain ⟨v, hv, rv⟩ := r.get hk
      have hs : SqT K H a vs := (mask_le Z H).sqt (le.sqt h)
      refine ⟨⟨vs, v, hs, hv⟩, fun x H2 y => ?_⟩
      obtain ⟨T, y', rfl, hT, rfl, hy'⟩ := y
      have e2 := hy' vs hs
      rw [hv] at e2
      cases e2
      subst e
      exact ⟨Step.new gd _ hT, new_tup gd hT (.cons _ _ _ _ (.int _) (.one (Rep.mono le rv)))⟩
  stop := fun Z H e le gd i hd => by
    unfold enumD at hd
    rw [List.getElem?_map, List.getElem?_zipIdx] at hd
    cases hk : ds[i]? with
    | none => exact ⟨vs, (mask_le Z H).sqt (le.sqt h), by rw [r.length]; exact List.getElem?_eq_none_iff.mp hk⟩
    | some k => rw [hk] at hd; simp at hd
/-- list(table), len(table), sorted(table) -/
def gTabL (d : Addr) (ks : List Str) : DCL1 := fun ds Q => match ds with
  | [.raw (.ref d')] => d' = d ∧ Q (ks.map D.str)
  | _ => False
theorem reps_strs {vl : Option (Addr × Addr)} {G : Hp} : ∀ ks : List Str, Reps K vl G (ks.map V.str) (ks.map D.str)
  | [] => .nil
  | k :: r => .cons _ _ _ _ (.str k) (reps_strs r)
theorem cdl_tabL {d : Addr} : CallDL K (rTabL d ks) (gTabL d ks) := fun Z H vs ds Q0 Q gd r hg q => by
  unfold gTabL at hg
  split at hg
  · obtain ⟨v, rfl, h⟩ := r.inv1
    obtain ⟨e, hg⟩ := hg
    subst e
    cases h
    exact ⟨rfl, fun p hp => q _ hg p _ H (Step.refl gd) hp (reps_strs ks)⟩
  · exact hg.elim
def gTabN (d : Addr) (ks : List Str) : DC1 := fun ds Q => match ds with
  | [.raw (.ref d')] => d' = d ∧ Q (.int ks.length)
  | _ => False
theorem cd_tabN {d : Addr} : CallD K (rTabN d ks) (gTabN d ks) := fun Z H vs ds Q0 Q gd r hg q => by
  unfold gTabN at hg
  split at hg
  · obtain ⟨v, rfl, h⟩ := r.inv1
    obtain ⟨e, hg⟩ := hg
    subst e
    cases h
    exact ⟨rfl, q _ hg _ H (Step.refl gd) (.int _)⟩
  · exact hg.elim
def gTabS (d : Addr) (ks : List Str) : DCL1 := fun ds Q => match ds with
  | [.raw (.ref d')] => d' = d ∧ ∀ ys : List Str, ys.Perm ks → sortedS ys = true → Q (ys.map D.str)
  | _ => False
theorem cdl_tabS {d : Addr} : CallDL K (rTabS d ks) (gTabS d ks) := fun Z H vs ds Q0 Q gd r hg q => by
  unfold gTabS at hg
  split at hg
  · obtain ⟨v, rfl, h⟩ := r.inv1
    obtain ⟨e, hg⟩ := hg
    subst e
    cases h
    exact ⟨rfl, fun ys p hp hs hq => q _ (hg ys hp hs) p _ H (Step.refl gd) hq (reps_strs ys)⟩
  · exact hg.elim
end
section
variable {X : Cx} {W : WX} {tg e e2 a b : Expr} {pos p tpos apos : Pos} {elts : List Expr} {kk : Nat} {fe fa fb : DE} {fs : DA} {d : Addr} {ks : List Str} {n : Nat} {kvs : List (Str × List D)}
theorem pd_tabIx (T : TabV X.K X.w d kvs) (ha : PD X W a fa) (hb : PD X W b fb) (hs : PlainIx b := by exact fun _ _ => rfl) : PD X W (.Subscript a b pos) (dOp (gTabIx d kvs) fa fb) := PE.imp (pe_ix ix_kdict ha hb hs) (two_ev (opd_tabIx T))
def dItTab (d : Addr) (ks : List Str) (fe : DE) : DA := fun env Q R => fe env (fun x => match x with
  | .raw (.ref d') => d' = d ∧ Q (ks.map D.str)
  | _ => False) R
theorem pdi_tab (T : KTab X.K X.w d ks n) (he : PD X W e fe) : PDI X W tg e (dItTab d ks fe) := PI.imp (pi_tab T he) fun σ H Q ⟨Z, O, env, Q0, R0, at_, hf, xk, q⟩ =>
  DT.mk at_ hf xk fun x hx v H1 s r => by
    split at hx
    · obtain ⟨e, hx⟩ := hx
      subst e
      cases r
      exact ⟨rfl, q _ hx _ H1 s itr_tab⟩
    · exact hx.elim
def dItZip (d : Addr) (ks : List Str) (fs : DA) : DA := fun env Q R => fs env (fun as => match as with
  | [.raw (.ref d'), .tup ys] => d' = d ∧ ks.length = ys.length ∧ Q (zipD ks ys)
  | _ => False) R
theorem pdi_tabZ (T : KTab X.K X.w d ks n) (hg : Gl X "zip") (hm : X.mg "zip" = none) (ha : PDA X W [e, e2] fs)
    (hs : starEach [e, e2] X.env = (false, eval e X.env) :: starEach [e2] X.env := by rfl) (hpl : (backTo pos (starEach [e2] X.env)).any (·.1) = false := by rfl) :
    PDI X W (.Tuple elts kk tpos) (.Call (.Name "zip" p) [e, e2] [] pos) (dItZip d ks fs) := PI.imp (pi_tabZ T hg hm ha hs hpl) fun σ H Q ⟨Z, O, env, Q0, R0, at_, hf, xk, q⟩ =>
  DTA.mk at_ hf xk fun x hx v H1 s r => by
    split at hx
    · obtain ⟨v, w, rfl, h, h2⟩ := r.inv2
      obtain ⟨e, hl, hx⟩ := hx
      subst e
      cases h
      cases h2 with
      | tup b ys ds hq rs => exact ⟨b, ys, rfl, unm_t hq, q _ hx _ H1 s (itr_tabZ hq rs hl)⟩
    · exact hx.elim
def dItEnK (d : Addr) (ks : List Str) (fs : DA) : DA := fun env Q R => fs env (fun as => match as with
  | [.raw (.ref d')] => d' = d ∧ Q (enumD (ks.map D.str))
  | _ => False) R
theorem pdi_enumK (T : KTab X.K X.w d ks n) (hg : Gl X "enumerate") (hm : X.mg "enumerate" = none) (ha : PDA X W [e] fs) (hs : starEach [e] X.env = [(false, eval e X.env)] := by rfl) :
    PDI X W (.Tuple elts kk tpos) (.Call (.Name "enumerate" p) [e] [] pos) (dItEnK d ks fs) := PI.imp (pi_enumK T hg hm ha hs) fun σ H Q ⟨Z, O, env, Q0, R0, at_, hf, xk, q⟩ =>
  DTA.mk at_ hf xk fun x hx v H1 s r => by
    split at hx
    · obtain ⟨v, rfl, h⟩ := r.inv1
      obtain ⟨e, hx⟩ := hx
      subst e
      cases h
      exact ⟨rfl, q _ hx _ H1 s itr_enumK⟩
    · exact hx.elim
def dItEn (fs : DA) : DA := fun env Q R => fs env (fun as => match as with
  | [d] => ∃ xs, seqOf d = some xs ∧ Q (enumD xs)
  | _ => False) R
theorem pdi_enum (hg : Gl X "enumerate") (hm : X.mg "enumerate" = none) (ha : PDA X W [e] fs) (hs : starEach [e] X.env = [(false, eval e X.env)] := by rfl) :
    PDI X W (.Tuple elts kk tpos) (.Call (.Name "enumerate" p) [e] [] pos) (dItEn fs) := PI.imp (pi_enumA hg hm ha hs) fun σ H Q ⟨Z, O, env, Q0, R0, at_, hf, xk, q⟩ =>
  DTA.mk at_ hf xk fun x hx v H1 s r => by
    split at hx
    · rename_i d
      obtain ⟨v, rfl, h⟩ := r.inv1
      obtain ⟨xs, e, hx⟩ := hx
      cases h <;> simp [seqOf] at e
      · subst e
        rename_i b vs ds hs rs
        exact ⟨b, rfl, .inr ⟨vs, unm_t hs, q _ hx _ H1 s (itr_enumT hs rs)⟩⟩
      · subst e
        rename_i b vs ds hs rs
        exact ⟨b, rfl, .inl ⟨vs, SqL.of (mask_le _ _ _ _ hs), q _ hx _ H1 s (itr_enumL hs rs)⟩⟩
    · exact hx.elim

/-! ### texts -/
def gCatS : D2 := fun x y Q => match x, y with
  | .str i, .str j => i.length + j.length ≤ sizeLine ∧ Q (.str (i ++ j))
  | _, _ => False
theorem opd_catS {K : PySem.W.Frag} : OpD K (fun x y H Q => ∃ i j, x = .str i ∧ y = .str j ∧ i.length + j.length ≤ sizeLine ∧ Q (.str (i ++ j)) H) gCatS := fun Z H x y dx dy Q0 Q gd rx ry hg q => by
  cases dx <;> cases dy <;> first | exact False.elim hg | skip
  cases rx; cases ry
  exact ⟨_, _, rfl, rfl, hg.1, q _ hg.2 _ H (Step.refl gd) (.str _)⟩
theorem strs_inv {K : PySem.W.Frag} {vl : Option (Addr × Addr)} {G : Hp} : ∀ {vs : List V} {ns : List Str}, Reps K vl G vs (ns.map D.str) → vs = ns.map V.str
  | _, [], .nil => rfl
  | _, n :: r, .cons _ _ _ _ (.str _) q => by rw [strs_inv q]; rfl
/-- x.join(list of texts) -/
def dJoin (fa fb : DE) : DE := fun env Q R => fa env (fun x => fb env (fun y => ∃ a ds, ∃ ys : List Str, x = .str a ∧ seqOf y = some ds ∧ ds = ys.map D.str ∧ (ys.map (·.length)).sum + ys.length * a.length ≤ 16777216 ∧ Q (.str (Txt.join a ys))) R) R
theorem str_of {K : PySem.W.Frag} {Z : Zn} {H : Hp} {v : V} {x : Str} (r : RepZ K Z H v (.str x)) : v = .str x := by cases r; rfl
/-- the receiver is a text: told ahead -/
def dIsS (fa : DE) (g : Str → DE) : DE := fun env Q R => fa env (fun x => match x with
  | .str a => g a env Q R
  | _ => False) R
def dJoinG (fb : DE) : Str → DE := fun a env Q R => fb env (fun y => ∃ ds, ∃ ys : List Str, seqOf y = some ds ∧ ds = ys.map D.str ∧ (ys.map (·.length)).sum + ys.length * a.length ≤ 16777216 ∧ Q (.str (Txt.join a ys))) R
theorem pd_join (ha : PD X W a fa) (hb : PD X W b fb) (hs : starEach [b] X.env = [(false, eval b X.env)] := by rfl) (hbase : attributeBase a "join" X.env (eval a X.env) = eval a X.env := by rfl) (hline : (apos.endLine == pos.line) = true := by rfl) :
    PD X W (.Call (.Attribute a "join" apos) [b] [] pos) (dIsS fa (dJoinG fb)) := PE.imp (pe_join ha hb hs hbase hline) fun σ H Q ⟨Z, O, env, Q0, R0, at_, hf, xk, q⟩ =>
  DT.mk at_ hf xk fun d hd v H1 s r => by
    cases d <;> first | exact False.elim hd | skip
    cases r
    refine ⟨⟨_, rfl⟩, DT.mk (at_.step s) hd (xk.step s) fun d2 h2 v2 H2 s2 r2 => ?_⟩
    obtain ⟨ds, ys, e1, e2, e3, e4⟩ := h2
    obtain ⟨c, vs, rfl, hsq, rs⟩ := seq_rep r2 e1
    subst e2
    rw [strs_inv rs] at hsq
    exact ⟨_, c, ys, rfl, rfl, hsq, e3, q _ e4 _ H2 (s.trans s2) (.str _)⟩
def dSplit (fa fb : DE) : DA := fun env Q R => fa env (fun x => match x with
  | .str a => fb env (fun y => ∃ b, y = .str b ∧ (b.length == 0) = false ∧ a.length + 2 ≤ sizeLine ∧ Q ((Txt.split a b).map D.str)) R
  | _ => False) R
theorem pdl_split (ha : PD X W a fa) (hb : PD X W b fb) (hs : starEach [b] X.env = [(false, eval b X.env)] := by rfl) (hbase : attributeBase a "split" X.env (eval a X.env) = eval a X.env := by rfl) (hline : (apos.endLine == pos.line) = true := by rfl) :
    PDL X W (.Call (.Attribute a "split" apos) [b] [] pos) (dSplit fa fb) := PE.imp (pe_split ha hb hs hbase hline) fun σ H Q ⟨Z, O, env, Q0, R0, at_, hf, xk, q⟩ =>
  DT.mk at_ hf xk fun d hd v H1 s r => by
    cases d <;> first | exact False.elim hd | skip
    cases r
    refine ⟨⟨_, rfl⟩, DT.mk (at_.step s) hd (xk.step s) fun d2 h2 v2 H2 s2 r2 => ?_⟩
    obtain ⟨b, e1, e2, e3, e4⟩ := h2
    subst e1
    cases r2
    exact ⟨_, b, rfl, rfl, e2, e3, fun p hp => q _ e4 p _ H2 (s.trans s2) hp (reps_strs _)⟩
/-- f-strings: a part that is a text or an int -/
def dFmt (fe : DE) : DE := fun env Q R => fe env (fun d => match d with
  | .str y => y.length ≤ sizeLine ∧ Q (.str y)
  | .int i => i.natAbs.log2 < 1920 ∧ Q (.str (toString i))
  | _ => False) R
theorem pd_fmt (he : PD X W e fe) : PD X W (.FormattedValue e (-1) none pos) (dFmt fe) := PE.imp (pe_fmt he) fun σ H Q ⟨Z, O, env, Q0, R0, at_, hf, xk, q⟩ =>
  DT.mk at_ hf xk fun d hd v H1 s r => by
    cases d <;> first | exact False.elim hd | skip
    · cases r
      exact .inr ⟨_, rfl, hd.1, q _ hd.2 _ H1 s (.str _)⟩
    · cases r
      exact .inl ⟨_, rfl, hd.1, q _ hd.2 _ H1 s (.str _)⟩
inductive PDJ (X : Cx) (W : WX) : List Expr → List DE → Prop
  | nil : PDJ X W [] []
  | cons {e : Expr} {t : DE} {es : List Expr} {ts : List DE} (h : PD X W e t) (r : PDJ X W es ts) : PDJ X W (e :: es) (t :: ts)
theorem PDJ.pj {es : List Expr} {ts : List DE} (h : PDJ X W es ts) : PJ X es (ts.map fun t => DT X.K t W) := by
  induction h with
  | nil => exact .nil
  | cons h r ih => exact .cons h ih
def dJs : List DE → Str → DE
  | [], acc => fun _ Q _ => Q (.str acc)
  | t :: ts, acc => fun env Q R => t env (fun d => match d with
    | .str y => (acc ++ y).length ≤ sizeLine ∧ dJs ts (acc ++ y) env Q R
    | _ => False) R
theorem js_ev {σ : L2.St} {Q : VK} {Z : Zn} {O : Own} {env : Env'} {Q0 : D → Prop} {R0 : DX} {H0 : Hp} (q : ∀ d, Q0 d → ∀ v H', Step Z H0 H' → RepZ X.K Z H' v d → Q v H') : ∀ (ts : List DE) (acc : Str) (H : Hp), Step Z H0 H → At X.K Z O H σ env → Xk X.K Z H σ R0 W → dJs ts acc env Q0 R0 →
    tJs (ts.map fun t => DT X.K t W) acc σ H fun out H1 => Q (.str out) H1
  | [], acc, H, s, _, _, h => q _ h _ H s (.str _)
  | t :: ts, acc, H, s, a, xk, h => DT.mk a h xk fun d hd v H1 s1 r => by
    cases d <;> first | exact False.elim hd | skip
    cases r
    exact ⟨_, rfl, hd.1, js_ev q ts _ H1 (s.trans s1) (a.step s1) (xk.step s1) hd.2⟩
theorem pd_joined {v1 v2 : Expr} {rest : List Expr} {ts : List DE} (h : PDJ X W (v1 :: v2 :: rest) ts) : PD X W (.JoinedStr (v1 :: v2 :: rest) pos) (dJs ts Str.empty) := PE.imp (pe_joined h.pj) fun σ H Q ⟨Z, O, env, Q0, R0, at_, hf, xk, q⟩ =>
  js_ev q ts Str.empty H (Step.refl at_.good) at_ xk hf

/-! ### isinstance(e, (T, U)); list.index -/
def dIsT (T U : String) (fe : DE) : DE := fun env Q R => fe env (fun d => ∃ t b, dty d = some t ∧ PySem.W.kitAny X.K (.type t) [.type T, .type U] = some b ∧ Q (.bl b)) R
end
section
variable {X : Cx} {W : WX} {e : Expr} {pos p p1 p2 p3 apos : Pos} {kk : Nat} {fe fa fb : DE} {x y : Str} {T U : String}
def dIsT2 (K : PySem.W.Frag) (T U : String) (fe : DE) : DE := fun env Q R => fe env (fun d => ∃ t b, dty d = some t ∧ PySem.W.kitAny K (.type t) [.type T, .type U] = some b ∧ Q (.bl b)) R
theorem pd_isT2 (hgi : Gl X "isinstance") (hmi : X.mg "isinstance" = none) (he : PD X W e fe) (hx : Gl X x) (mx : X.mg x = none) (vx : bootBuiltins x = some (.type T)) (hy : Gl X y) (my : X.mg y = none) (vy : bootBuiltins y = some (.type U))
    (nx : x ≠ "__name__" := by decide) (ny : y ≠ "__name__" := by decide) (dx : (x == ("__debug__" : Str)) = false := by decide) (dy : (y == ("__debug__" : Str)) = false := by decide)
    (h1 : starEach [.Name x p1, .Name y p2] X.env = (false, eval (.Name x p1) X.env) :: starEach [.Name y p2] X.env := by rfl) (h2 : starEach [.Name y p2] X.env = (false, eval (.Name y p2) X.env) :: starEach [] X.env := by rfl)
    (hs : starEach [e, .Tuple [.Name x p1, .Name y p2] kk p3] X.env = (false, eval e X.env) :: starEach [.Tuple [.Name x p1, .Name y p2] kk p3] X.env := by rfl)
    (hs2 : starEach [.Tuple [.Name x p1, .Name y p2] kk p3] X.env = (false, eval (.Tuple [.Name x p1, .Name y p2] kk p3) X.env) :: starEach [] X.env := by rfl)
    (hpl : (backTo pos (starEach [.Tuple [.Name x p1, .Name y p2] kk p3] X.env)).any (·.1) = false := by rfl) :
    PD X W (.Call (.Name "isinstance" p) [e, .Tuple [.Name x p1, .Name y p2] kk p3] [] pos) (dIsT2 X.K T U fe) :=
  PE.imp (pe_callB call_isiT hgi hmi (by kernel_rfl) (pa_cons he (pa_cons (pe_tup (pa_cons (pe_bltn (v := .ty T) hx mx vx rfl nx dx) (pa_cons (pe_bltn (v := .ty U) hy my vy rfl ny dy) pa_nil h2) h1)) pa_nil hs2) hs) (by decide) (by decide) hs hpl) fun σ H Q ⟨Z, O, env, Q0, R0, at_, hf, xk, q⟩ =>
    DT.mk at_ hf xk fun d hd v H1 s r => by
      obtain ⟨t, b, h3, h4, h5⟩ := hd
      refine ⟨(by show 2 ≤ sizeLine; decide), fun tp htp => ⟨v, tp, _, .type t, [.type T, .type U], b, rfl, upd_same, .cons (.ty T) (.cons (.ty U) .nil), ?_, h4, q _ h5 _ _ (s.trans (Step.new s.good _ htp)) (.bl _)⟩⟩
      exact dty_rep (r.step (Step.new s.good (.tup [.ty T, .ty U]) htp)) h3
/-- xs.index(y), flat items -/
def dIndex (fa fb : DE) : DE := fun env Q R => fa env (fun x => match x with
  | .lst ds => fb env (fun y => ∃ vs v j z, toVs ds = some vs ∧ toV y = some v ∧ vs[j]? = some z ∧ eqV z v = true ∧ (∀ (m : Nat) (z' : V), m < j → vs[m]? = some z' → eqV z' v = false) ∧ Q (.int (j : Nat))) R
  | _ => False) R
theorem pd_index {a b : Expr} (ha : PD X W a fa) (hb : PD X W b fb) (hs : starEach [b] X.env = (false, eval b X.env) :: starEach [] X.env := by rfl)
    (hbase : attributeBase a "index" X.env (eval a X.env) = eval a X.env := by rfl)
    (hfew : ((backTo pos (starEach [b] X.env)).all (fun x => !x.1) && (backToKw pos (keywordEach [] X.env)).all (fun x => x.1.isSome) && decide ([b].length + ([] : List Keyword).length + (if ([] : List Keyword).isEmpty then 0 else 1) < 30)) = true := by rfl)
    (hline : (apos.endLine == pos.line) = true := by rfl) : PD X W (.Call (.Attribute a "index" apos) [b] [] pos) (dIndex fa fb) :=
  PE.imp (pe_bm PySem.F.plainAttrs_list PySem.F.slot_list_index (by kernel_rfl) mt_index ha (pa_cons hb pa_nil hs) hbase hfew hline hs rfl) fun σ H Q ⟨Z, O, env, Q0, R0, at_, hf, xk, q⟩ =>
    DT.mk at_ hf xk fun d hd v H1 s r => by
      cases d <;> first | exact False.elim hd | skip
      obtain ⟨c, vs, rfl, h1, h2, rs⟩ := rep_lst r
      refine ⟨.inl ⟨rfl, vs, SqL.of h1⟩, DT.mk (at_.step s) hd (xk.step s) fun d2 hd2 v2 H2 s2 r2 => ?_⟩
      obtain ⟨ws, v', j, z, g1, g2, g3, g4, g5, g6⟩ := hd2
      obtain ⟨rfl, fx⟩ := toV_rep r2 g2
      obtain ⟨rfl, fs⟩ := toVs_rep rs g1
      exact ⟨c, vs, v2, j, z, rfl, rfl, SqL.of (mask_le _ _ _ _ (s2.le _ _ h2)), fx, fs, g3, g4, g5, q _ g6 _ H2 (s.trans s2) (.int _)⟩
end
end Dl

set_option maxHeartbeats 2000000
/-! The head of this family: facts by a Hook of our own (functions by any address), the end of the walk with the script's bits. -/
namespace Dh
open PySem PySem.Spec PyProof.Rows L2 He Dl

/-- a def, where it stands, as the text has it -/
structure DefY where
  at_ : PySem.W.Frag → Addr
  name : Str
  qual : Str
  params : Arguments
  body : List Stmt
  scope : Scope
def fnY (K : PySem.W.Frag) (a : Addr) : FnW := match K.lookup a with
  | some ⟨_, _, .func fd, _⟩ => some (fd.name, fd.qualname, fd.params, fd.body, fd.scope, fd.globals, fd.closure, fd.builtins)
  | _ => none
def DefY.val (d : DefY) : FnW := some (d.name, d.qual, d.params, .stmts d.body, d.scope, mainGlobals, [], builtinsNs)
def DefY.ok (K : PySem.W.Frag) (d : DefY) : Bool := PySem.W.keepIn K (.ref (d.at_ K)) && (match K.lookup (d.at_ K) with
  | some ⟨_, _, .func fd, _⟩ => PySem.W.codeIn K fd.code d.qual && (dflB K fd.defaults [] && kwdB K fd.kwdefaults [])
  | _ => false)
theorem DefY.funD {K : PySem.W.Frag} {d : DefY} (e : fnY K (d.at_ K) = d.val) (c : d.ok K = true) : ∃ fd, FunD K d.name d.qual d.params d.body d.scope [] [] (d.at_ K) fd := by
  obtain ⟨kp, c2⟩ := ba c
  unfold fnY at e
  cases q : K.lookup (d.at_ K) with
  | none => rw [q] at c2; cases c2
  | some o =>
    obtain ⟨oc, od, dt, osl⟩ := o
    rw [q] at c2 e
    cases dt with
    | func fd =>
      obtain ⟨n1, n2, n3, n4, n5, n6, n7, n8, n9, n10, n11, n12, n13, n14, n15⟩ := fd
      have e2 : (some (n1, n2, n3, n4, n5, n6, n7, n15) : FnW) = some (d.name, d.qual, d.params, .stmts d.body, d.scope, mainGlobals, [], builtinsNs) := e
      simp only [Option.some.injEq, Prod.mk.injEq] at e2
      obtain ⟨h1, h2, h3, h4, h5, h6, h7, h8⟩ := e2
      subst h1 h2 h3 h4 h5 h6 h7 h8
      obtain ⟨k1, k2⟩ := ba (show (PySem.W.codeIn K n13 d.qual && (dflB K n8 [] && kwdB K n9 [])) = true from c2)
      obtain ⟨k3, k4⟩ := ba k2
      exact ⟨_, ⟨oc, od, n8, n9, n10, n11, n12, n13, n14, osl, rfl, q, k1, dflB_ok k3, kwdB_ok k4⟩, kp⟩
    | _ => cases c2
abbrev AlY : Type := Bool × List FnW × List (Option (List (Option (Str × Int))))
def obsYK (fn : List DefY) (ts : List Tab) (ex : PySem.W.Frag → Bool) (K : PySem.W.Frag) : AlY := (ex K && fn.all fun d => d.ok K, fn.map fun d => fnY K (d.at_ K), ts.map fun t => dicW K (t.1 K))
def valY (fn : List DefY) (ts : List Tab) (w : World) : AlY := (true, fn.map DefY.val, ts.map fun t => some (keysIn w.params t.2))
def SaysY (fn : List DefY) (ts : List Tab) (ex : PySem.W.Frag → Bool) (w : World) (K : PySem.W.Frag) : Prop := obsYK fn ts ex K = valY fn ts w
def obsY (n : Nat) (fn : List DefY) (ts : List Tab) (ex : PySem.W.Frag → Bool) (g : Addr → Option Obj) : AlY := obsYK fn ts ex (frG g (asD g n))
def hookY (n : Nat) (fn : List DefY) (ts : List Tab) (ex : PySem.W.Frag → Bool) : PySem.W.Hook where
  α := AlY
  obs := fun s => obsY n fn ts ex s.heap.get?
  val := fun w => valY fn ts w
  says := fun w h => ∃ K : PySem.W.Frag, K.In h ∧ SaysY fn ts ex w K
  of := fun _ _ e => ⟨_, frG_in, e⟩
  keeps := fun _ _ _ ⟨K, hK, c⟩ k => ⟨K, PySem.W.Frag.In.keeps hK k, c⟩
theorem obsY_eq {n : Nat} {fn : List DefY} {ts : List Tab} {ex : PySem.W.Frag → Bool} {g : Addr → Option Obj} {s : Shared} (h : ∀ a, g a = s.heap.get? a) : obsY n fn ts ex g = (hookY n fn ts ex).obs s := by
  have e : g = s.heap.get? := funext h
  rw [e] <;> rfl
section
variable {fn : List DefY} {ts : List Tab} {ex : PySem.W.Frag → Bool} {w : World} {K : PySem.W.Frag}
theorem SaysY.more (c : SaysY fn ts ex w K) : ex K = true := (ba (show (ex K && fn.all fun d => d.ok K) = true from congrArg (fun z : AlY => z.1) c)).1
theorem SaysY.def_ (c : SaysY fn ts ex w K) (i : Nat) {d : DefY} (h : fn[i]? = some d := by rfl) : ∃ fd, FunD K d.name d.qual d.params d.body d.scope [] [] (d.at_ K) fd := by
  have c2 := (ba (show (ex K && fn.all fun d => d.ok K) = true from congrArg (fun z : AlY => z.1) c)).2
  have e : fn.map (fun d => fnY K (d.at_ K)) = fn.map DefY.val := congrArg (fun z : AlY => z.2.1) c
  have e2 : (fn.map fun d => fnY K (d.at_ K))[i]? = (fn.map DefY.val)[i]? := by rw [e]
  rw [List.getElem?_map, List.getElem?_map, h] at e2
  exact DefY.funD (Option.some.inj e2) (List.all_eq_true.mp c2 d (List.mem_of_getElem? h))
theorem SaysY.tab (c : SaysY fn ts ex w K) (i : Nat) {t : Tab} (h : ts[i]? = some t := by rfl) : dicW K (t.1 K) = some (keysIn w.params t.2) := by
  have e : ts.map (fun t => dicW K (t.1 K)) = ts.map fun t => some (keysIn w.params t.2) := congrArg (fun z : AlY => z.2.2) c
  have e2 : (ts.map fun t => dicW K (t.1 K))[i]? = (ts.map fun t => some (keysIn w.params t.2))[i]? := by rw [e]
  rw [List.getElem?_map, List.getElem?_map, h] at e2
  exact Option.some.inj e2
end
/-- the end of the walk, with what is known of the script's numbers -/
theorem walk_ofY {l : PySem.W.OpenLaw} {n k : Nat} {q : Program} {loose : List Str} {XP : (Str → Option Value) → Heap → Prop} {YP : World → Heap → Prop} {d : DefRec} {CX : World → CXT} {x : Str}
    (hn : l.most = some n) (hn2 : n ≤ sizeLine) (hdf : d.params.defaults = []) (hr : Room k callerA)
    (F : ∀ (w : World) (mg : Str → Option Value) (fa : Addr) (h : Heap), YP w h → h.Ns mainGlobals mg → mg d.name = some (.ref fa) →
      ∃ (K : PySem.W.Frag) (fd : FuncData) (sp : Sp), K.In h ∧ (∀ (s : Shared) (u : Value), BindsTo s fd ⟨[u], []⟩ [(x, u)]) ∧
        (∀ (H : Hp) (a : Addr) (ns : List Int), ns.length ≤ n → (∀ z ∈ ns, Builtin.Int.intBits z ≤ 1048576) → Only H → SqL K H a (ns.map V.int) → sp [.ref a] H (fun v _ => v = .bl true) fun _ _ _ => False) ∧
        ∀ base : Heap, K.In base → base.Ns mainGlobals mg → FnOk l.prog w K mg base (CX w) k fa fd [x] sp)
    (hCX : ∀ (w : World) (H : Hp) (s : Shared) (e : Value) (s' : Shared), CX w [] H s (fun _ _ _ => False) e s' → False) :
    PySem.W.WalkO q loose XP YP l.row.toRowW d [] (fun f vs => PySem.call f vs) := by
  refine Att.attach_callB hn hdf fun w s₀ s₁ mg mb fa o pm cd doc a vs ns G Y ho hd hcd hmg hobj hints hlen hbits hg => ?_
  obtain ⟨K, fd, sp, KX, hb, hsp, hF⟩ := F w mg fa _ Y G.T.g hmg
  exact law_call KX G.T.g G.T.b G.T.builtins G.T.nolimit hg hobj hints (Nat.le_trans hlen hn2) hr hF hb (fun H hO hS => hsp H a ns hlen hbits hO hS) fun H e s' => hCX w H s₁ e s'
/-- the rule for a def by its promise over trees -/
theorem okD {P : Program} {w : World} {K : PySem.W.Frag} {mg : Str → Option Value} {base : Heap} {x qual : Str} {params : Arguments} {body : List Stmt} {scope : Scope} {f : Addr} {fd : FuncData} {N ps : List Str} {k : Nat} {g : DG} (F : FunD K x qual params body scope [] [] f fd) (S : FnScope N ps scope)
    (hbody : ∀ (cdv : Value) (A : Around) (outer : List Env) (s : Shared) (H : Hp) (E : XK), Cn (cxOf (L2.CX P w) P w K mg base N qual scope f cdv A outer s H E) (fun cls d _ H' => E cls d H') k →
      PDSs (cxOf (L2.CX P w) P w K mg base N qual scope f cdv A outer s H E) (fun cls d _ H' => E cls d H') body g) :
    FnOk P w K mg base (L2.CX P w) (k + 1) f fd ps (spD K ps.length (dDef N.length g)) := by
  refine F.ok S (fun vs H Q E h => h.1) fun cdv A outer s H vs Q E hr h => ?_
  obtain ⟨hl, Z, ds, Q0, R0, gd, r, hf, hx, hq⟩ := h
  refine ⟨_, hbody cdv A outer s H E ⟨takes_of rfl rfl rfl rfl, passes_of rfl, hr, rfl⟩, Z, [], _, _, ⟨by rw [add_nil]; exact gd, start_rep r⟩, hf, ?_⟩
  have st : ∀ {O' : Own} {H' : Hp}, Lt Z [] H O' H' → Good (Z.add O') H' → Step Z H H' := fun l g' => ⟨fun a o e => add_le _ _ (l a o (by rw [add_nil]; exact e)), g'.sub⟩
  refine ⟨fun env' h' O' σ' H' l a => hq _ h' _ H' (st l a.good) .non, fun d h' O' v H' l g' r' => hq _ h' v H' (st l g') (Rep.mono add_le r'), fun ds h' O' p vs H' l g' hp r' => (have s2 := st l g'; hq _ h' _ _ (s2.trans (Step.new s2.good _ hp)) (new_lst s2.good hp (Reps.mono add_le r'))), fun _ h' => h'.elim, fun _ h' => h'.elim, fun y env' h' O' cls d σ' H' l a r' => hx y h' cls d H' (st l a.good) r'.sub⟩
/-- a promise whose answer is a new list -/
abbrev DFL := List D → (List D → Prop) → DX → Prop
def spL (K : PySem.W.Frag) (n : Nat) (F : DFL) : Sp := fun vs H Q E => vs.length = n ∧ ∃ Z ds, ∃ (Q0 : List D → Prop) (R0 : DX), Good Z H ∧ RepsZ K Z H vs ds ∧ F ds Q0 R0 ∧
  (∀ x, R0 x → ∀ cls d H', Step Z H H' → RepX K Z H' cls d x → E cls d H') ∧ ∀ ds, Q0 ds → ∀ p vs H', Step Z H H' → H' p = none → RepsZ K Z H' vs ds → Q (.ref p) (upd H' p (.lst vs))
theorem spL_imp {K : PySem.W.Frag} {n : Nat} {F G : DFL} (h : ∀ ds Q R, G ds Q R → F ds Q R) : ∀ vs H Q E, spL K n G vs H Q E → spL K n F vs H Q E := fun vs H Q E ⟨hl, Z, ds, Q0, R0, a, b, c, d⟩ => ⟨hl, Z, ds, Q0, R0, a, b, h _ _ _ c, d⟩
def dDefL (N : Nat) (g : DG) : DFL := fun ds Q R => g (ds.map .val ++ List.replicate (N - ds.length) .un) ⟨fun _ => False, fun _ => False, Q, fun _ => False, fun _ => False, fun x _ => R x⟩
theorem okL {P : Program} {w : World} {K : PySem.W.Frag} {mg : Str → Option Value} {base : Heap} {x qual : Str} {params : Arguments} {body : List Stmt} {scope : Scope} {f : Addr} {fd : FuncData} {N ps : List Str} {k : Nat} {g : DG} (F : FunD K x qual params body scope [] [] f fd) (S : FnScope N ps scope)
    (hbody : ∀ (cdv : Value) (A : Around) (outer : List Env) (s : Shared) (H : Hp) (E : XK), Cn (cxOf (L2.CX P w) P w K mg base N qual scope f cdv A outer s H E) (fun cls d _ H' => E cls d H') k →
      PDSs (cxOf (L2.CX P w) P w K mg base N qual scope f cdv A outer s H E) (fun cls d _ H' => E cls d H') body g) :
    FnOk P w K mg base (L2.CX P w) (k + 1) f fd ps (spL K ps.length (dDefL N.length g)) := by
  refine F.ok S (fun vs H Q E h => h.1) fun cdv A outer s H vs Q E hr h => ?_
  obtain ⟨hl, Z, ds, Q0, R0, gd, r, hf, hx, hq⟩ := h
  refine ⟨_, hbody cdv A outer s H E ⟨takes_of rfl rfl rfl rfl, passes_of rfl, hr, rfl⟩, Z, [], _, _, ⟨by rw [add_nil]; exact gd, start_rep r⟩, hf, ?_⟩
  have st : ∀ {O' : Own} {H' : Hp}, Lt Z [] H O' H' → Good (Z.add O') H' → Step Z H H' := fun l g' => ⟨fun a o e => add_le _ _ (l a o (by rw [add_nil]; exact e)), g'.sub⟩
  exact ⟨fun _ h' => h'.elim, fun _ h' => h'.elim, fun ds h' O' p vs H' l g' hp r' => hq _ h' p vs H' (st l g') hp (Reps.mono add_le r'), fun _ h' => h'.elim, fun _ h' => h'.elim, fun y env' h' O' cls d σ' H' l a r' => hx y h' cls d H' (st l a.good) r'.sub⟩
/-- a def, called by its global name, whose answer is a new list -/
structure CalL (P : Program) (w : World) (K : PySem.W.Frag) (mg : Str → Option Value) (base : Heap) (k : Nat) (x : Str) (n : Nat) (F : DFL) : Prop where
  ex : ∃ f fd ps, FnOk P w K mg base (L2.CX P w) k f fd ps (spL K n F) ∧ mg x = some (.ref f) ∧ PySem.W.keepIn K (.ref f) = true ∧ Binds K fd ps []
def dCallL (n : Nat) (F : DFL) (fs : DA) : DA := fun env Q R => fs env (fun ds => ds.length = n ∧ F ds Q R) R
section
variable {X : Cx} {W : WX} {e : Expr} {es : List Expr} {pos p : Pos} {fs : DA} {x : Str} {k j n : Nat} {F : DFL}
theorem pdl_call (c : Cn X W j) (C : CalL X.prog X.w X.K X.mg X.base k x n F) (ha : PDA X W (e :: es) fs) (hk : k ≤ j := by decide) (hg : Gl X x := by rfl)
    (hdb : (x == ("__debug__" : Str)) = false := by decide) (he : starEach (e :: es) X.env = (false, eval e X.env) :: starEach es X.env := by rfl) (hpl : (backTo pos (starEach es X.env)).any (·.1) = false := by rfl) :
    PDL X W (.Call (.Name x p) (e :: es) [] pos) (dCallL n F fs) := by
  obtain ⟨f, fd, ps, FO, hm, hkp, hb⟩ := C.ex
  exact PE.imp (pe_callS FO (c.hr.mono hk) hg hm hkp hb (fun σ => passAt c.tk σ) ha hdb he hpl) fun σ H Q ⟨Z, O, env, Q0, R0, at_, hf, xk, q⟩ =>
    DTA.mk at_ hf xk fun ds hds vs H1 s r => ⟨by rw [r.length]; exact hds.1, Z, ds, Q0, R0, s.good, r, hds.2, fun y hy cls d H2 s2 rx => xk y hy cls d H2 (s.trans s2) rx, fun ds hd p vs H2 s2 hp rv => q ds hd p vs H2 (s.trans s2) hp rv⟩
/-- the same as one whose answer is a value -/
theorem CalL.cal {P : Program} {w : World} {K : PySem.W.Frag} {mg : Str → Option Value} {base : Heap} (C : CalL P w K mg base k x n F) : Cal P w K mg base k x n (fun ds Q R => F ds (fun es => Q (.lst es)) R) := by
  obtain ⟨f, fd, ps, FO, hm, hkp, hb⟩ := C.ex
  refine ⟨f, fd, ps, FO.imp fun vs H Q E ⟨hl, Z, ds, Q0, R0, g, r, hF, hx, hq⟩ => ⟨hl, Z, ds, _, R0, g, r, hF, hx, fun ds hd p vs H' s hp rv => hq _ hd _ _ (s.trans (Step.new s.good _ hp)) (new_lst s.good hp rv)⟩, hm, hkp, hb⟩
end
end Dh

set_option maxHeartbeats 4000000
/-! The draws of a law: what _law_mix and _law_next do. -/
namespace Dv
open PySem PySem.Spec PyProof.Rows L2 Dl

theorem vol_put {Z : Zn} {H H' : Hp} {h c : Addr} (g : Good Z H) (e : Z.vol = some (h, c)) (same : ∀ a, a ≠ h → a ≠ c → H' a = H a) (v : Vol H' h c) : Step Z H H' := by
  have hm : h ∈ Z.vs ∧ c ∈ Z.vs := by unfold Zn.vs; rw [e]; simp
  have dis : ∀ a ∈ Z.own.map (·.1), a ≠ h ∧ a ≠ c := fun a ha => ⟨fun z => (List.nodup_append.mp g.nd).2.2 a ha h hm.1 z, fun z => (List.nodup_append.mp g.nd).2.2 a ha c hm.2 z⟩
  refine ⟨fun a o q => ?_, fun a vs q => ?_, fun h' c' q => ?_, g.nd⟩
  · have hn : a ∉ Z.msk := fun z => by rw [mask_in z] at q; cases q
    rw [mask_of hn] at q ⊢
    rw [same a (fun z => hn (List.mem_append_right _ (by rw [z]; exact hm.1))) (fun z => hn (List.mem_append_right _ (by rw [z]; exact hm.2)))]
    exact q
  · have d := dis a (List.mem_map.mpr ⟨_, q, rfl⟩)
    rw [same a d.1 d.2]
    exact g.own a vs q
  · rw [e] at q
    cases q
    exact v
theorem vol_ne {Z : Zn} {H : Hp} {h c : Addr} (g : Good Z H) (e : Z.vol = some (h, c)) : h ≠ c := fun z => by
  have nd := (List.nodup_append.mp g.nd).2.1
  unfold Zn.vs at nd
  rw [e, z] at nd
  simp at nd
/-- a draw below b -/
def Fnext : DF := fun ds Q _ => ∃ b, ds = [.vol, .int b] ∧ 0 < b ∧ b.natAbs.log2 < 9000 ∧ ∀ r, 0 ≤ r → r < b → Q (.int r)
abbrev rAddI : R2 := rI0 fun i j => .int (i + j)
abbrev rModI : R2 := rI (fun _ j => 0 < j) fun i j => .int (i % j)
abbrev rMulI : R2 := rI CMul fun i j => .int (i * j)
abbrev rDivW : R2 := rI CDivW fun i j => .int (i / j)
abbrev rDivI : R2 := rI CDiv fun i j => .int (i / j)
abbrev rPowI : R2 := rI CPow fun i j => .int (i ^ j.toNat)
abbrev rGeI : R2 := rI0 fun i j => .bl (decide (j ≤ i))
abbrev rI1 : List V → Hp → VK → Prop := fun xs H Q => (∃ i, xs = [.int i] ∧ Q (.int i) H) ∨ ∃ k, xs = [.bl k] ∧ Q (.int (if k then 1 else 0)) H
abbrev rMx2 : List V → Hp → VK → Prop := fun xs H Q => ∃ i j, xs = [.int i, .int j] ∧ Q (.int (if j > i then j else i)) H
abbrev rLn (K : PySem.W.Frag) : List V → Hp → VK → Prop := fun xs H Q => ∃ x n, xs = [x] ∧ LenV K x H n ∧ Q (.int n) H
def tH (K : PySem.W.Frag) (i : Int) : TE := tOp (rIx K) (tVar 0) (tC (.int i))
def tLenC (K : PySem.W.Frag) : TE := tCB (rLn K) (tCons (tH K 1) tNil)
def t_next (K : PySem.W.Frag) : TS :=
  tSeq (tAsg (tOp (rIx K) (tOp rCat (tH K 1) (tLst (tCons (tC (.int 0)) tNil))) (tOp rModI (tCB rI1 (tCons (tH K 2) tNil)) (tCB rMx2 (tCons (tC (.int 1)) (tCons (tLenC K) tNil))))) (gName 2))
  (tSeq (tIfS (tTest (tOp rGeI (tVar 2) (tOp rPowI (tC (.int 10)) (tC (.int 18)))))
    (tSeq (tAsg (tOp rDivW (tVar 2) (tVar 1)) (gSub (tH K 1) (tOp rModI (tCB rI1 (tCons (tH K 2) tNil)) (tLenC K)) rSetL))
      (tRet (tOp rModI (tCB rI1 (tCons (tVar 2) tNil)) (tVar 1)))) tNext)
  (tSeq (tAsg (tOp rModI (tCB rI1 (tCons (tOp rAddI (tOp rAddI (tOp rMulI (tH K 0) (tC (.int 48271))) (tOp rMulI (tVar 2) (tC (.int 69621)))) (tC (.int 11))) tNil)) (tC (.int 2147483647))) (gSub (tVar 0) (tC (.int 0)) rSetL))
  (tSeq (tAsg (tOp rAddI (tH K 2) (tC (.int 1))) (gSub (tVar 0) (tC (.int 2)) rSetL))
    (tRet (tOp rModI (tCB rI1 (tCons (tOp rDivI (tH K 0) (tC (.int 7))) tNil)) (tVar 1))))))
theorem ix_at {K : PySem.W.Frag} {a : Addr} {xs : List V} {i : Int} {v : V} {H : Hp} {Q : VK} (h : H a = some (.lst xs)) (e : atI xs i = some v) (q : Q v H) : rIx K (.ref a) (.int i) H Q := .inl ⟨a, xs, i, v, rfl, rfl, SqL.of h, e, q⟩
theorem atI_mod {α : Type} {xs : List α} {i : Int} (h : 0 < xs.length) : ∃ v, atI xs (i % (xs.length : Int)) = some v ∧ v ∈ xs := by
  have h0 : 0 ≤ i % (xs.length : Int) := Int.emod_nonneg _ (by omega)
  have h1 : i % (xs.length : Int) < (xs.length : Int) := Int.emod_lt_of_pos _ (by omega)
  have h2 : (i % (xs.length : Int)).toNat < xs.length := by omega
  refine ⟨xs[(i % (xs.length : Int)).toNat], ?_, List.getElem_mem h2⟩
  unfold atI ixN
  rw [if_pos h0, if_pos (by omega)]
  exact List.getElem?_eq_getElem h2
theorem ixN_mod {n : Nat} {i : Int} (h : 0 < n) : ∃ j, ixN n (i % (n : Int)) = some j ∧ j < n := by
  have h0 : 0 ≤ i % (n : Int) := Int.emod_nonneg _ (by omega)
  have h1 : i % (n : Int) < (n : Int) := Int.emod_lt_of_pos _ (by omega)
  exact ⟨(i % (n : Int)).toNat, by unfold ixN; rw [if_pos h0, if_pos (by omega)], by omega⟩
theorem div_le (x b : Int) (hb : 0 < b) (hx : 10 ^ 18 ≤ x) (hm : x.natAbs < 2 ^ 1048576) : (x / b).natAbs < 2 ^ 1048576 := by
  have h0 : 0 ≤ x := by omega
  have h1 : x / b ≤ x := Int.ediv_le_self _ h0
  have h2 : 0 ≤ x / b := Int.ediv_nonneg h0 (by omega)
  refine Nat.lt_of_le_of_lt ?_ hm
  omega
theorem pure_next {K : PySem.W.Frag} (vs : List V) (H : Hp) (Q : VK) (E : XK) (h : spD K 2 Fnext vs H Q E) : t_next K { nx := fun _ H' => Q .non H', rt := Q } (L2.start ["_law_h", "_law_bound", "_law_cell"] vs) H := by
  obtain ⟨hl, Z, ds, Q0, R0, gd, r, ⟨b, e, hb, hbl, hq⟩, hx, q⟩ := h
  subst e
  obtain ⟨v1, v2, rfl, r1, r2⟩ := r.inv2
  cases r2
  cases r1 with
  | vol hA c ev =>
  obtain ⟨s, i, cs, h1, h2, h3, h4⟩ := gd.vol hA c ev
  have hne := vol_ne gd ev
  have st0 : ∀ x : Option V, (L2.start ["_law_h", "_law_bound", "_law_cell"] [V.ref hA, V.int b]).set 2 x = [some (.ref hA), some (.int b), x] := fun x => rfl
  have c1 : (cs.map V.int ++ [V.int 0]).length = cs.length + 1 := by simp
  -- the length by which the index is taken
  have mx : (if (((cs.map V.int).length : Nat) : Int) > 1 then (((cs.map V.int).length : Nat) : Int) else 1) = (max 1 cs.length : Nat) := by
    rw [List.length_map]
    split <;> omega
  obtain ⟨j, hj, hjl⟩ := ixN_mod (n := max 1 cs.length) (i := i) (by omega)
  have cell : ∃ x : Int, atI (cs.map V.int ++ [V.int 0]) (i % ((max 1 cs.length : Nat) : Int)) = some (.int x) ∧ x.natAbs < 2 ^ 1048576 ∧ (10 ^ 18 ≤ x → 0 < cs.length ∧ ixN cs.length (i % ((cs.length : Nat) : Int)) = some j) := by
    have hj2 : ixN (cs.map V.int ++ [V.int 0]).length (i % ((max 1 cs.length : Nat) : Int)) = some j := by
      have h0 : 0 ≤ i % ((max 1 cs.length : Nat) : Int) := Int.emod_nonneg _ (by omega)
      unfold ixN at hj ⊢
      rw [if_pos h0] at hj ⊢
      split at hj
      · cases hj
        rw [if_pos (by rw [c1]; omega)]
      · cases hj
    unfold atI
    rw [hj2]
    by_cases hjc : j < cs.length
    · refine ⟨cs[j], ?_, h4 _ (List.getElem_mem hjc), fun _ => ⟨by omega, ?_⟩⟩
      · show (cs.map V.int ++ [V.int 0])[j]? = _
        rw [List.getElem?_append_left (by simpa using hjc), List.getElem?_map, List.getElem?_eq_getElem hjc]
        rfl
      · have : max 1 cs.length = cs.length := by omega
        rw [this] at hj
        exact hj
    · refine ⟨0, ?_, (show (0 : Nat) < 2 ^ 1048576 from Nat.two_pow_pos _), fun z => absurd z (by decide)⟩
      have : j = cs.length := by omega
      show (cs.map V.int ++ [V.int 0])[j]? = _
      rw [List.getElem?_append_right (by simp; omega), this]
      simp
  obtain ⟨x, hx1, hx2, hx3⟩ := cell
  have fresh : ∀ {p : Addr}, H p = none → p ≠ hA ∧ p ≠ c := fun {p} hp => ⟨fun z => (by rw [z, h1] at hp; cases hp), fun z => (by rw [z, h2] at hp; cases hp)⟩
  have th : ∀ {σ : L2.St} {G : Hp} {xs : List V} {n : Int} {v : V} {R : VK}, σ[0]? = some (some (V.ref hA)) → G hA = some (.lst xs) → atI xs n = some v → R v G → tH K n σ G R := fun h0 hg e q => ⟨_, h0, ix_at hg e q⟩
  refine th rfl h1 rfl ⟨by decide, fun p hp => ?_⟩
  obtain ⟨p1, p2⟩ := fresh hp
  refine ⟨c, p, cs.map V.int, [V.int 0], rfl, rfl, by rw [upd_ne (Ne.symm p2)]; exact h2, upd_same, ?_, fun p3 hp3 => ?_⟩
  · show (cs.map V.int).length + 1 ≤ sizeLine
    rw [List.length_map, sizeLine_eq]
    omega
  have hp3' : H p3 = none := by
    by_cases z : p3 = p
    · rw [z, upd_same] at hp3; cases hp3
    · rw [upd_ne z] at hp3; exact hp3
  obtain ⟨p4, p5⟩ := fresh hp3'
  have k1 : (upd (upd H p (.lst [V.int 0])) p3 (.lst (cs.map V.int ++ [V.int 0]))) hA = some (.lst [.int s, .ref c, .int i, .int 14]) := by rw [upd_ne (Ne.symm p4), upd_ne (Ne.symm p1)]; exact h1
  have k2 : (upd (upd H p (.lst [V.int 0])) p3 (.lst (cs.map V.int ++ [V.int 0]))) c = some (.lst (cs.map V.int)) := by rw [upd_ne (Ne.symm p5), upd_ne (Ne.symm p2)]; exact h2
  have k3 : (upd (upd H p (.lst [V.int 0])) p3 (.lst (cs.map V.int ++ [V.int 0]))) p3 = some (.lst (cs.map V.int ++ [V.int 0])) := upd_same
  have s1 : Step Z H (upd (upd H p (.lst [V.int 0])) p3 (.lst (cs.map V.int ++ [V.int 0]))) := by
    have a := Step.new gd (.lst [V.int 0]) hp
    exact a.trans (Step.new a.good _ hp3)
  show tOp rModI (tCB rI1 (tCons (tH K 2) tNil)) (tCB rMx2 (tCons (tC (.int 1)) (tCons (tLenC K) tNil))) [some (.ref hA), some (.int b), none] (upd (upd H p (.lst [V.int 0])) p3 (.lst (cs.map V.int ++ [V.int 0]))) _
  generalize (upd (upd H p (.lst [V.int 0])) p3 (.lst (cs.map V.int ++ [V.int 0]))) = H1 at k1 k2 k3 s1
  have lenC : ∀ {R : VK} {σ : L2.St}, σ[0]? = some (some (V.ref hA)) → R (.int ((cs.map V.int).length : Nat)) H1 → tLenC K σ H1 R := fun {R σ} h0 hr => th h0 k1 rfl ⟨.ref c, _, rfl, .inl ⟨_, SqL.of k2, rfl⟩, hr⟩
  refine th rfl k1 rfl (.inl ⟨i, rfl, ?_⟩)
  refine lenC rfl ⟨1, (((cs.map V.int).length : Nat) : Int), rfl, ?_⟩
  refine ⟨i, _, rfl, rfl, by rw [mx]; omega, ?_⟩
  rw [mx]
  refine ix_at k3 hx1 ?_
  show tSeq _ _ _ [some (.ref hA), some (.int b), some (.int x)] H1
  -- the cell's size
  refine ⟨_, rfl, ⟨10, 18, rfl, rfl, ⟨by decide, by decide, by decide⟩, ⟨x, _, rfl, rfl, ⟨_, rfl, ?_⟩⟩⟩⟩
  dsimp only
  split
  · rename_i hd
    have hxl : (10 : Int) ^ 18 ≤ x := of_decide_eq_true hd
    obtain ⟨hcl, hjx⟩ := hx3 hxl
    refine ⟨_, rfl, _, rfl, ⟨x, b, rfl, rfl, ⟨hb, hbl⟩, ?_⟩⟩
    refine th rfl k1 rfl ?_
    refine th rfl k1 rfl (.inl ⟨i, rfl, lenC rfl ⟨i, _, rfl, rfl, by rw [List.length_map]; omega, ?_⟩⟩)
    refine ⟨c, cs.map V.int, _, j, rfl, rfl, k2, by rw [List.length_map]; exact hjx, ?_⟩
    refine ⟨_, rfl, .inl ⟨x, rfl, ⟨_, rfl, ⟨x, b, rfl, rfl, hb, ?_⟩⟩⟩⟩
    refine q _ (hq _ (Int.emod_nonneg _ (by omega)) (Int.emod_lt_of_pos _ hb)) _ _ (s1.trans (vol_put s1.good ev (fun a _ a2 => upd_ne a2) ⟨s, i, cs.set j (x / b), ?_, ?_, ?_, ?_⟩)) (.int _)
    · rw [upd_ne hne]; exact k1
    · rw [upd_same, List.map_set]
    · rw [List.length_set]; exact h3
    · intro y hy
      rcases List.mem_or_eq_of_mem_set hy with hy | hy
      · exact h4 y hy
      · rw [hy]; exact div_le x b hb hxl hx2
  · have fin : ∀ s' : Int, tSeq (tAsg (tOp rAddI (tH K 2) (tC (.int 1))) (L2.gSub (tVar 0) (tC (.int 2)) rSetL)) (tRet (tOp rModI (tCB rI1 (tCons (tOp rDivI (tH K 0) (tC (.int 7))) tNil)) (tVar 1)))
        { nx := fun _ H' => Q .non H', rt := Q } [some (V.ref hA), some (V.int b), some (V.int x)] (upd H1 hA (.lst [V.int s', .ref c, .int i, .int 14])) := fun s' => by
      have g1 : (upd H1 hA (.lst [V.int s', .ref c, .int i, .int 14])) hA = some (.lst [.int s', .ref c, .int i, .int 14]) := upd_same
      refine th rfl g1 rfl ⟨i, 1, rfl, rfl, ?_⟩
      refine ⟨_, rfl, ⟨hA, _, 2, 2, rfl, rfl, g1, rfl, ?_⟩⟩
      have g2 : (upd (upd H1 hA (.lst [V.int s', .ref c, .int i, .int 14])) hA (.lst [V.int s', .ref c, .int (i + 1), .int 14])) hA = some (.lst [.int s', .ref c, .int (i + 1), .int 14]) := upd_same
      refine th rfl g2 rfl ⟨s', 7, rfl, rfl, ⟨by decide, by decide⟩, .inl ⟨_, rfl, ⟨_, rfl, ⟨_, b, rfl, rfl, hb, ?_⟩⟩⟩⟩
      exact q _ (hq _ (Int.emod_nonneg _ (by omega)) (Int.emod_lt_of_pos _ hb)) _ _ (s1.trans (vol_put s1.good ev (fun a a1 a2 => by rw [upd_ne a1, upd_ne a1]) ⟨s', i + 1, cs, g2, by rw [upd_ne (Ne.symm hne), upd_ne (Ne.symm hne)]; exact k2, h3, h4⟩)) (.int _)
    refine th rfl k1 rfl ⟨s, 48271, rfl, rfl, .inr ⟨by decide, by decide⟩, ⟨_, rfl, ⟨x, 69621, rfl, rfl, .inr ⟨by decide, by decide⟩, ⟨_, _, rfl, rfl, ⟨_, 11, rfl, rfl, .inl ⟨_, rfl, ⟨_, 2147483647, rfl, rfl, (show (0 : Int) < 2147483647 by decide), ?_⟩⟩⟩⟩⟩⟩⟩
    exact ⟨_, rfl, ⟨hA, _, 0, 0, rfl, rfl, k1, rfl, fin _⟩⟩
/-- a source of draws -/
def spMix (K : PySem.W.Frag) : Sp := fun vs H Q _ => ∃ (a : Addr) (seed : Int) (ns : List Int), vs = [.ref a, .int seed] ∧ SqL K H a (ns.map V.int) ∧ ∀ (s : Int) (h c : Addr), H h = none → H c = none → h ≠ c → Q (.ref h) (upd (upd H c (.lst (ns.map V.int))) h (.lst [.int s, .ref c, .int 0, .int 14]))
abbrev rLo (K : PySem.W.Frag) : List V → Hp → VK → Prop := fun xs H Q => ∃ p ys, xs = [.ref p] ∧ (SqL K H p ys ∨ SqT K H p ys) ∧ ∀ l, H l = none → Q (.ref l) (upd H l (.lst ys))
def t_mix (K : PySem.W.Frag) : TS :=
  tSeq (tAsg (tVar 1) (gName 2))
  (tSeq (tFor (iList K (tVar 0)) (gName 3) (tAsg (tOp rModI (tCB rI1 (tCons (tOp rAddI (tOp rAddI (tOp rMulI (tVar 2) (tC (.int 48271))) (tOp rModI (tCB rI1 (tCons (tVar 3) tNil)) (tC (.int 2147483629)))) (tC (.int 1))) tNil)) (tC (.int 2147483647))) (gName 2)))
    (tRet (tLst (tCons (tVar 2) (tCons (tCB (rLo K) (tCons (tVar 0) tNil)) (tCons (tC (.int 0)) (tCons (tC (.int 14)) tNil)))))))
theorem pure_mix {K : PySem.W.Frag} (vs : List V) (H : Hp) (Q : VK) (E : XK) (h : spMix K vs H Q E) : t_mix K { nx := fun _ H' => Q .non H', rt := Q } (L2.start ["_law_script", "_law_seed", "_law_state", "_law_cell"] vs) H := by
  obtain ⟨a, seed, ns, rfl, hs, q⟩ := h
  unfold t_mix
  refine ⟨_, rfl, ?_⟩
  refine ⟨_, rfl, a, rfl, ⟨_, hs⟩, ?_⟩
  refine ⟨fun i m σ H' => H' = H ∧ m = ns.length - i ∧ i ≤ ns.length ∧ ∃ (st : Int) (x : Option V), σ = [some (.ref a), some (.int seed), some (.int st), x], ⟨_, rfl, rfl, Nat.zero_le _, seed, none, rfl⟩, ?_⟩
  rintro i m σ H' ⟨rfl, rfl, hi, st, x, rfl⟩
  by_cases hlt : i < ns.length
  · have hv : (ns.map V.int)[i]? = some (.int ns[i]) := by rw [List.getElem?_map, List.getElem?_eq_getElem hlt]; rfl
    refine .inr ⟨⟨_, _, hs, hv⟩, fun σ3 H3 => H3 = H' ∧ ∃ (st : Int) (x : Option V), σ3 = [some (.ref a), some (.int seed), some (.int st), x], fun σ3 H3 ⟨e, st, x, eσ⟩ => ⟨ns.length - (i + 1), by omega, e, rfl, hlt, st, x, eσ⟩, fun y H2 hy => ?_⟩
    obtain ⟨rfl, hy⟩ := hy
    have e2 := hy _ hs
    rw [hv] at e2
    cases e2
    refine ⟨_, rfl, ⟨st, 48271, rfl, rfl, .inr ⟨by decide, by decide⟩, ?_⟩⟩
    refine ⟨_, rfl, .inl ⟨ns[i], rfl, ⟨_, 2147483629, rfl, rfl, (show (0 : Int) < 2147483629 by decide), ?_⟩⟩⟩
    exact ⟨_, _, rfl, rfl, ⟨_, 1, rfl, rfl, .inl ⟨_, rfl, ⟨_, 2147483647, rfl, rfl, (show (0 : Int) < 2147483647 by decide), ⟨rfl, _, _, rfl⟩⟩⟩⟩⟩
  · have e : i = ns.length := by omega
    subst e
    refine .inl ⟨⟨_, hs, by rw [List.length_map]; exact Nat.le_refl _⟩, ?_⟩
    refine ⟨_, rfl, _, rfl, ⟨a, _, rfl, .inl hs, fun c hc => ?_⟩⟩
    refine ⟨(show 4 ≤ sizeLine by decide), fun hA hh => ?_⟩
    have hhn : hA ≠ c := fun z => by rw [z, upd_same] at hh; cases hh
    exact q st hA c (by rw [upd_ne hhn] at hh; exact hh) hc hhn
end Dv

set_option maxHeartbeats 4000000
/-! The law's own def: the source of draws made, the rest over trees. Operators that take what comes. -/
namespace Dv
open PySem PySem.Spec PyProof.Rows L2 Dl

def spLaw (K : PySem.W.Frag) : Sp := fun vs H Q _ => ∃ (a : Addr) (ns : List Int), vs = [.ref a] ∧ SqL K H a (ns.map V.int) ∧ ns.length ≤ 63 ∧ (∀ x ∈ ns, x.natAbs < 2 ^ 1048576) ∧ ∀ H', Q (.bl true) H'
def lawEnv (n : Nat) : Env' := .un :: .val .vol :: List.replicate n .un
def lawK : Kn := ⟨fun _ => False, fun d => d = .bl true, fun _ => False, fun _ => False, fun _ => False, fun _ _ => False⟩
theorem lawOk {P : Program} {w : World} {K : PySem.W.Frag} {mg : Str → Option Value} {base : Heap} {x qual : Str} {params : Arguments} {s1 : Stmt} {rest : List Stmt} {scope : Scope} {f : Addr} {fd : FuncData} {n1 n2 : Str} {N : List Str} {k : Nat} {g : DG} {seed : Int} (F : FunD K x qual params (s1 :: rest) scope [] [] f fd) (S : FnScope (n1 :: n2 :: N) [n1] scope)
    (hbody : ∀ (cdv : Value) (A : Around) (outer : List Env) (s : Shared) (H : Hp) (E : XK), Cn (cxOf (L2.CX P w) P w K mg base (n1 :: n2 :: N) qual scope f cdv A outer s H E) (fun cls d _ H' => E cls d H') k →
      L2.PS (cxOf (L2.CX P w) P w K mg base (n1 :: n2 :: N) qual scope f cdv A outer s H E) s1 (tAsg (tCallS (spMix K) (WE fun cls d _ H' => E cls d H') (tCons (tVar 0) (tCons (tC (.int seed)) tNil))) (gName 1)) ∧
      PDSs (cxOf (L2.CX P w) P w K mg base (n1 :: n2 :: N) qual scope f cdv A outer s H E) (fun cls d _ H' => E cls d H') rest g)
    (hg : g (lawEnv N.length) lawK) : FnOk P w K mg base (L2.CX P w) (k + 1) f fd [n1] (spLaw K) := by
  refine F.ok S (fun vs H Q E h => ?_) fun cdv A outer s H vs Q E hr h => ?_
  · obtain ⟨a, ns, rfl, _⟩ := h
    rfl
  obtain ⟨a, ns, rfl, hs, hl, hb, hq⟩ := h
  obtain ⟨p1, p2⟩ := hbody cdv A outer s H E ⟨takes_of rfl rfl rfl rfl, passes_of rfl, hr, rfl⟩
  refine ⟨_, pss_cons p1 p2, ?_⟩
  refine ⟨_, rfl, ⟨a, seed, ns, rfl, hs, fun st h c hh hc hne => ?_⟩⟩
  refine ⟨⟨[], some (h, c)⟩, [], lawEnv N.length, lawK, ⟨⟨fun b vs z => ?_, fun h' c' e => ?_, ?_⟩, ⟨?_, fun i sl e => ?_, fun _ _ _ z => ?_⟩⟩, hg, ?_⟩
  · cases z
  · cases e
    exact ⟨st, 0, ns, upd_same, by rw [upd_ne (Ne.symm hne), upd_same], hl, hb⟩
  · show ([h, c] : List Addr).Nodup
    simp [hne]
  · unfold L2.start lawEnv
    simp
  · unfold lawEnv at e
    match i, e with
    | 0, e => cases e; exact ⟨_, rfl, trivial⟩
    | 1, e => cases e; exact ⟨_, rfl, .ref h, rfl, .vol h c rfl⟩
    | i + 2, e =>
      have e' : (List.replicate N.length Slot.un)[i]? = some sl := e
      rw [List.getElem?_replicate] at e'
      split at e'
      · rename_i hi
        cases e'
        refine ⟨none, ?_, trivial⟩
        unfold L2.start
        simp [List.getElem?_replicate, hi]
      · cases e'
  · cases z
  · refine ⟨fun _ z => z.elim, fun d z O' v H' _ _ r => ?_, fun _ z => z.elim, fun _ z => z.elim, fun _ z => z.elim, fun _ _ z => z.elim⟩
    cases z
    cases r
    exact hq H'

/-! ### operators that take what comes -/
theorem OpR.or {X : Cx} {op : Value → Value → Sem Value} {r1 r2 : R2} (h1 : OpR X op r1) (h2 : OpR X op r2) : OpR X op (fun x y H Q => r1 x y H Q ∨ r2 x y H Q) := fun pins s σ H x y v u Q I rx ry h => h.elim (h1 pins s σ H x y v u Q I rx ry) (h2 pins s σ H x y v u Q I rx ry)
def gAddU : D2 := fun x y Q => gAdd x y Q ∨ gCatS x y Q ∨ gCatT x y Q ∨ gCatL x y (fun ds => Q (.lst ds))
theorem opd_addU {K : PySem.W.Frag} : OpD K (fun x y H Q => rAddI x y H Q ∨ (∃ i j, x = .str i ∧ y = .str j ∧ i.length + j.length ≤ sizeLine ∧ Q (.str (i ++ j)) H) ∨ rCatA K x y H Q ∨ rCat x y H Q) gAddU := fun Z H x y dx dy Q0 Q gd rx ry hg q => by
  rcases hg with h | h | h | h
  · exact .inl (opd_I0 Z H x y dx dy Q0 Q gd rx ry h q)
  · exact .inr (.inl (opd_catS Z H x y dx dy Q0 Q gd rx ry h q))
  · exact .inr (.inr (.inl (opd_catT Z H x y dx dy Q0 Q gd rx ry h q)))
  · exact .inr (.inr (.inr (opd_catL Z H x y dx dy _ Q gd rx ry h fun ds hd p vs H1 s hp r => q _ hd _ _ (s.trans (Step.new s.good _ hp)) (new_lst s.good hp r))))
theorem op_addU {X : Cx} : OpR X (binaryOp .Add) (fun x y H Q => rAddI x y H Q ∨ (∃ i j, x = .str i ∧ y = .str j ∧ i.length + j.length ≤ sizeLine ∧ Q (.str (i ++ j)) H) ∨ rCatA X.K x y H Q ∨ rCat x y H Q) :=
  op_add.or (op_add_str.or (op_catA.or op_cat))
section
variable {X : Cx} {W : WX} {a b tg e : Expr} {pos : Pos} {fa fb fe : DE}
theorem pd_add (ha : PD X W a fa) (hb : PD X W b fb) : PD X W (.BinOp a .Add b pos) (dOp gAddU fa fb) := pd_op op_addU opd_addU ha hb
theorem PI.or {tg e : Expr} {t1 t2 : TI} (h1 : L2.PI X tg e t1) (h2 : L2.PI X tg e t2) : L2.PI X tg e (fun σ H R => t1 σ H R ∨ t2 σ H R) := ⟨fun pins s σ H R I h => h.elim (h1.run pins s σ H R I) (h2.run pins s σ H R I)⟩
/-- a list or a tuple -/
def dItU (f : DE) : DA := fun env Q R => f env (fun d => match d with
  | .lst xs => Q xs
  | .tup xs => Q xs
  | _ => False) R
def iAny (K : PySem.W.Frag) (te : TE) : TI := fun σ H R => te σ H fun x H1 => ∃ a, x = .ref a ∧ ((∃ xs, SqL K H1 a xs) ∧ R (Itl K a) H1 ∨ (∃ xs, SqT K H1 a xs) ∧ R (Itt K a) H1)
end
end Dv

set_option maxHeartbeats 4000000
/-! Short names for the rules, as a program prints them. -/
namespace Gx
open PySem PySem.Spec PyProof.Rows L2 Dl Dv Dk

section
variable {X : Cx} {W : WX} {pos pos' p p2 p3 apos tpos : Pos} {a b e e2 tg iter : Expr} {es : List Expr} {fa fb fe fi : DE} {fs : DA} {x y : Str} {j k n : Nat} {F : DF}
theorem pv (i : Nat) (hN : X.N[i]? = some x := by rfl) (hv : Vis X.env.scope x := by first | exact .inl rfl | exact .inr (.inl rfl) | exact .inr (.inr rfl)) (hd : (x == ("__debug__" : Str)) = false := by decide) (hcd : (x == ("__classdict__" : Str)) = false := by decide) : PD X W (.Name x pos) (dVar i) := pd_var (pe_var hN hv hd hcd)
theorem pe (i : Nat) (hN : X.N[i]? = some x := by rfl) (hv : Vis X.env.scope x := by first | exact .inl rfl | exact .inr (.inl rfl) | exact .inr (.inr rfl)) (hd : (x == ("__debug__" : Str)) = false := by decide) (hcd : (x == ("__classdict__" : Str)) = false := by decide) : L2.PE X (.Name x pos) (tVar i) := pe_var hN hv hd hcd
theorem pG {i : Int} (h : ∃ t, X.mg x = some (.int i t)) (hg : Gl X x := by rfl) (hdb : (x == ("__debug__" : Str)) = false := by decide) : PD X W (.Name x p) (dC (.int i)) := by
  obtain ⟨t, e⟩ := h
  exact pd_glob (v := .int i) hg e ⟨t, rfl⟩ (fun _ _ => .int i) hdb
theorem pR {d : Addr} (h : X.mg x = some (.ref d)) (hg : Gl X x := by rfl) (hdb : (x == ("__debug__" : Str)) = false := by decide) : PD X W (.Name x p) (dC (.raw (.ref d))) := pd_glob (v := .ref d) hg h rfl (fun _ _ => .raw _) hdb
theorem pT (T : String) (hm : X.mg x = none) (hg : Gl X x := by rfl) (hv : bootBuiltins x = some (.type T) := by kernel_rfl) (hn : x ≠ "__name__" := by decide) (hdb : (x == ("__debug__" : Str)) = false := by decide) : PD X W (.Name x p) (dC (.raw (.ty T))) := pd_ty hg hm hv hn hdb
-- operators
theorem oSub (ha : PD X W a fa) (hb : PD X W b fb) : PD X W (.BinOp a .Sub b pos) (dOp gSub fa fb) := pd_op op_sub opd_I0 ha hb
theorem oMul (ha : PD X W a fa) (hb : PD X W b fb) : PD X W (.BinOp a .Mult b pos) (dOp gMul fa fb) := pd_op op_mul opd_I ha hb
theorem oMulW (ha : PD X W a fa) (hb : PD X W b fb) : PD X W (.BinOp a .Mult b pos) (dOp gMulW fa fb) := pd_op op_mulW opd_I ha hb
theorem oMulL (ha : PD X W a fa) (hb : PD X W b fb) : PDL X W (.BinOp a .Mult b pos) (dOpL gRepL fa fb) := pdl_op op_rep opd_repL ha hb
theorem oDiv (ha : PD X W a fa) (hb : PD X W b fb) : PD X W (.BinOp a .FloorDiv b pos) (dOp gDiv fa fb) := pd_op op_fdiv opd_I ha hb
theorem oDivW (ha : PD X W a fa) (hb : PD X W b fb) : PD X W (.BinOp a .FloorDiv b pos) (dOp gDivW fa fb) := pd_op op_fdivW opd_I ha hb
theorem oMod (ha : PD X W a fa) (hb : PD X W b fb) : PD X W (.BinOp a .Mod b pos) (dOp gMod fa fb) := pd_op op_mod opd_I ha hb
theorem oPow (ha : PD X W a fa) (hb : PD X W b fb) : PD X W (.BinOp a .Pow b pos) (dOp gPow fa fb) := pd_op op_pow opd_I ha hb
-- comparisons as values
theorem cEq (c : Cn X W j) (ha : PD X W a fa) (hb : PD X W b fb) : PD X W (.Compare a [.Eq] [b] pos) (dOp gEq fa fb) := pd_cmp (op_eqD c.hr.units) opd_eq ha hb (nomark _)
theorem cNe (c : Cn X W j) (ha : PD X W a fa) (hb : PD X W b fb) : PD X W (.Compare a [.NotEq] [b] pos) (dOp gNe fa fb) := pd_cmp (op_neD c.hr.units) opd_ne ha hb (nomark _)
theorem cLt (ha : PD X W a fa) (hb : PD X W b fb) : PD X W (.Compare a [.Lt] [b] pos) (dOp gLt fa fb) := pd_cmp op_lt opd_B0 ha hb (nomark _)
theorem cLe (ha : PD X W a fa) (hb : PD X W b fb) : PD X W (.Compare a [.LtE] [b] pos) (dOp gLe fa fb) := pd_cmp op_le opd_B0 ha hb (nomark _)
theorem cGt (ha : PD X W a fa) (hb : PD X W b fb) : PD X W (.Compare a [.Gt] [b] pos) (dOp gGt fa fb) := pd_cmp op_gt opd_B0 ha hb (nomark _)
theorem cGe (ha : PD X W a fa) (hb : PD X W b fb) : PD X W (.Compare a [.GtE] [b] pos) (dOp gGe fa fb) := pd_cmp op_ge opd_B0 ha hb (nomark _)
theorem cIn (ha : PD X W a fa) (hb : PD X W b fb) (hm : behindInMarks .In b = false := by rfl) : PD X W (.Compare a [.In] [b] pos) (dOp (gIn false) fa fb) := pd_cmp op_in_seq opd_in ha hb hm
theorem cNIn (ha : PD X W a fa) (hb : PD X W b fb) (hm : behindInMarks .NotIn b = false := by rfl) : PD X W (.Compare a [.NotIn] [b] pos) (dOp (gIn true) fa fb) := pd_cmp op_notIn_seq opd_in ha hb hm
theorem cIs (ha : PD X W a fa) (hb : PD X W b fb) : PD X W (.Compare a [.Is] [b] pos) (dOp gIsN fa fb) := pd_cmp op_isN opd_isN ha hb (nomark _)
theorem cIsN (ha : PD X W a fa) (hb : PD X W b fb) : PD X W (.Compare a [.IsNot] [b] pos) (dOp gNotN fa fb) := pd_cmp op_notN opd_notN ha hb (nomark _)
-- .. as tests
theorem tEq (c : Cn X W j) (ha : PD X W a fa) (hb : PD X W b fb) : PDB X W (.Compare a [.Eq] [b] pos) (dTst (dOp gEq fa fb)) := pdb_cmp (op_eqD c.hr.units) opd_eq ha hb (nomark _)
theorem tNe (c : Cn X W j) (ha : PD X W a fa) (hb : PD X W b fb) : PDB X W (.Compare a [.NotEq] [b] pos) (dTst (dOp gNe fa fb)) := pdb_cmp (op_neD c.hr.units) opd_ne ha hb (nomark _)
theorem tLt (ha : PD X W a fa) (hb : PD X W b fb) : PDB X W (.Compare a [.Lt] [b] pos) (dTst (dOp gLt fa fb)) := pdb_cmp op_lt opd_B0 ha hb (nomark _)
theorem tLe (ha : PD X W a fa) (hb : PD X W b fb) : PDB X W (.Compare a [.LtE] [b] pos) (dTst (dOp gLe fa fb)) := pdb_cmp op_le opd_B0 ha hb (nomark _)
theorem tGt (ha : PD X W a fa) (hb : PD X W b fb) : PDB X W (.Compare a [.Gt] [b] pos) (dTst (dOp gGt fa fb)) := pdb_cmp op_gt opd_B0 ha hb (nomark _)
theorem tGe (ha : PD X W a fa) (hb : PD X W b fb) : PDB X W (.Compare a [.GtE] [b] pos) (dTst (dOp gGe fa fb)) := pdb_cmp op_ge opd_B0 ha hb (nomark _)
theorem tIn (ha : PD X W a fa) (hb : PD X W b fb) (hm : behindInMarks .In b = false := by rfl) : PDB X W (.Compare a [.In] [b] pos) (dTst (dOp (gIn false) fa fb)) := pdb_cmp op_in_seq opd_in ha hb hm
theorem tNIn (ha : PD X W a fa) (hb : PD X W b fb) (hm : behindInMarks .NotIn b = false := by rfl) : PDB X W (.Compare a [.NotIn] [b] pos) (dTst (dOp (gIn true) fa fb)) := pdb_cmp op_notIn_seq opd_in ha hb hm
theorem tIs (ha : PD X W a fa) (hb : PD X W b fb) : PDB X W (.Compare a [.Is] [b] pos) (dTst (dOp gIsN fa fb)) := pdb_cmp op_isN opd_isN ha hb (nomark _)
theorem tIsN (ha : PD X W a fa) (hb : PD X W b fb) : PDB X W (.Compare a [.IsNot] [b] pos) (dTst (dOp gNotN fa fb)) := pdb_cmp op_notN opd_notN ha hb (nomark _)
-- calls of defs
theorem call (c : Cn X W j) (C : Cal X.prog X.w X.K X.mg X.base k x n F) (ha : PDA X W (e :: es) fs) (hk : k ≤ j := by decide) (hg : Gl X x := by rfl)
    (hdb : (x == ("__debug__" : Str)) = false := by decide) (he : starEach (e :: es) X.env = (false, eval e X.env) :: starEach es X.env := by rfl) (hpl : (backTo pos (starEach es X.env)).any (·.1) = false := by rfl) :
    PD X W (.Call (.Name x p) (e :: es) [] pos) (dCall n F fs) := pd_call C c.hr hk hg c.tk ha hdb he hpl
theorem call0 (c : Cn X W j) (C : Cal X.prog X.w X.K X.mg X.base k x n F) (hk : k ≤ j := by decide) (hg : Gl X x := by rfl) (hdb : (x == ("__debug__" : Str)) = false := by decide) :
    PD X W (.Call (.Name x p) [] [] pos) (dCall n F dNil) := by
  obtain ⟨f, fd, ps, FO, hm, hkp, hb⟩ := C.ex
  refine ⟨fun pins s σ H Q I ⟨Z, O, env, Q0, R0, at_, hf, xk, q⟩ => ?_⟩
  refine wpAny_Call_Name_kw (ld_glob I hg hm ?_ hdb)
  refine PySem.W.callWith_K0 I.kIn hkp (run_fnS (us := []) (vs := []) (E := WE W) FO (c.hr.mono hk) hb (passAt c.tk σ) I .nil ?_)
  exact ⟨hf.1, Z, [], Q0, R0, at_.good, .nil, hf.2, fun y hy cls d H2 s2 rx => xk y hy cls d H2 s2 rx, fun d hd v H2 s2 rv => q d hd v H2 s2 rv⟩
-- built-ins
theorem bLen (hm : X.mg "len" = none) (ha : PD X W e fe) (hg : Gl X "len" := by rfl) (h1 : starEach [e] X.env = (false, eval e X.env) :: starEach [] X.env := by rfl) (h2 : (backTo pos (starEach [] X.env)).any (·.1) = false := by rfl) : PD X W (.Call (.Name "len" p) [e] [] pos) (dCB gLen (dCons fe dNil)) := pd_callB call_len cd_len hg hm boot_len (pda_cons ha pda_nil h1) (by decide) (by decide) h1 h2
theorem bInt (hm : X.mg "int" = none) (ha : PD X W e fe) (hg : Gl X "int" := by rfl) (h1 : starEach [e] X.env = (false, eval e X.env) :: starEach [] X.env := by rfl) (h2 : (backTo pos (starEach [] X.env)).any (·.1) = false := by rfl) : PD X W (.Call (.Name "int" p) [e] [] pos) (dCB gInt (dCons fe dNil)) := pd_callTy call_int1 cd_int hg hm (by kernel_rfl) (pda_cons ha pda_nil h1) (by decide) (by decide) h1 h2
theorem bMax2 (c : Cn X W j) (hm : X.mg "max" = none) (ha : PDA X W (e :: es) fs) (hg : Gl X "max" := by rfl) (h1 : starEach (e :: es) X.env = (false, eval e X.env) :: starEach es X.env := by rfl) (h2 : (backTo pos (starEach es X.env)).any (·.1) = false := by rfl) : PD X W (.Call (.Name "max" p) (e :: es) [] pos) (dCB gMax2 fs) := pd_callB (call_max2 c.hc) cd_max2 hg hm (by kernel_rfl) ha (by decide) (by decide) h1 h2
theorem bMin2 (c : Cn X W j) (hm : X.mg "min" = none) (ha : PDA X W (e :: es) fs) (hg : Gl X "min" := by rfl) (h1 : starEach (e :: es) X.env = (false, eval e X.env) :: starEach es X.env := by rfl) (h2 : (backTo pos (starEach es X.env)).any (·.1) = false := by rfl) : PD X W (.Call (.Name "min" p) (e :: es) [] pos) (dCB gMin2 fs) := pd_callB (call_min2 c.hc) cd_min2 hg hm (by kernel_rfl) ha (by decide) (by decide) h1 h2
theorem bIsi (T : String) (hm : X.mg "isinstance" = none) (ha : PDA X W (e :: es) fs) (hg : Gl X "isinstance" := by rfl) (h1 : starEach (e :: es) X.env = (false, eval e X.env) :: starEach es X.env := by rfl) (h2 : (backTo pos (starEach es X.env)).any (·.1) = false := by rfl) : PD X W (.Call (.Name "isinstance" p) (e :: es) [] pos) (dCB gIsi fs) := pd_callB call_isi cd_isi hg hm (by kernel_rfl) ha (by decide) (by decide) h1 h2
theorem bStr (hm : X.mg "str" = none) (ha : PD X W e fe) (hc : CallR X (.type "str") (fun xs H Q => (∃ i, xs = [V.int i] ∧ i.natAbs.log2 < 1920 ∧ Q (.str (toString i)) H) ∨ ∃ a, xs = [V.str a] ∧ Q (.str a) H)) (hg : Gl X "str" := by rfl) (h1 : starEach [e] X.env = (false, eval e X.env) :: starEach [] X.env := by rfl) (h2 : (backTo pos (starEach [] X.env)).any (·.1) = false := by rfl) : PD X W (.Call (.Name "str" p) [e] [] pos) (dCB gStr (dCons fe dNil)) := pd_callTy hc cd_str hg hm (by kernel_rfl) (pda_cons ha pda_nil h1) (by decide) (by decide) h1 h2
theorem bTup (hm : X.mg "tuple" = none) (ha : PD X W e fe) (hg : Gl X "tuple" := by rfl) (h1 : starEach [e] X.env = (false, eval e X.env) :: starEach [] X.env := by rfl) (h2 : (backTo pos (starEach [] X.env)).any (·.1) = false := by rfl) : PD X W (.Call (.Name "tuple" p) [e] [] pos) (dCB gTupleOf (dCons fe dNil)) := pd_callTy call_tuple_of cd_tuple hg hm (by kernel_rfl) (pda_cons ha pda_nil h1) (by decide) (by decide) h1 h2
theorem bListOf (hm : X.mg "list" = none) (ha : PD X W e fe) (hg : Gl X "list" := by rfl) (h1 : starEach [e] X.env = (false, eval e X.env) :: starEach [] X.env := by rfl) (h2 : (backTo pos (starEach [] X.env)).any (·.1) = false := by rfl) : PDL X W (.Call (.Name "list" p) [e] [] pos) (dCBL gListOf (dCons fe dNil)) := pdl_callTy call_list_of cdl_list hg hm (by kernel_rfl) (pda_cons ha pda_nil h1) (by decide) (by decide) h1 h2
theorem bTabL {d : Addr} {ks : List Str} (c : Cn X W j) (T : KTab X.K X.w d ks n) (hs : ks.length ≤ sizeLine) (hm : X.mg "list" = none) (ha : PD X W e fe) (hg : Gl X "list" := by rfl) (h1 : starEach [e] X.env = (false, eval e X.env) :: starEach [] X.env := by rfl) (h2 : (backTo pos (starEach [] X.env)).any (·.1) = false := by rfl) : PDL X W (.Call (.Name "list" p) [e] [] pos) (dCBL (gTabL d ks) (dCons fe dNil)) := pdl_callTy (call_tabL T hs c.hc) cdl_tabL hg hm (by kernel_rfl) (pda_cons ha pda_nil h1) (by decide) (by decide) h1 h2
theorem bTabN {d : Addr} {ks : List Str} (T : KTab X.K X.w d ks n) (hs : ks.length < 1000) (hm : X.mg "len" = none) (ha : PD X W e fe) (hg : Gl X "len" := by rfl) (h1 : starEach [e] X.env = (false, eval e X.env) :: starEach [] X.env := by rfl) (h2 : (backTo pos (starEach [] X.env)).any (·.1) = false := by rfl) : PD X W (.Call (.Name "len" p) [e] [] pos) (dCB (gTabN d ks) (dCons fe dNil)) := pd_callB (call_tabN T hs) cd_tabN hg hm boot_len (pda_cons ha pda_nil h1) (by decide) (by decide) h1 h2
-- what is walked
theorem iList (h : PD X W e fe) : PDI X W tg e (dItL fe) := pdi_list h
theorem iTup (h : PD X W e fe) : PDI X W tg e (dItT fe) := pdi_tup h
theorem iR1 (hm : X.mg "range" = none) (ha : PD X W a fa) (hg : Gl X "range" := by rfl) (h1 : starEach [a] X.env = (false, eval a X.env) :: starEach [] X.env := by rfl) (hs : starEach [a] X.env = [(false, eval a X.env)] := by rfl) : PDI X W tg (.Call (.Name "range" p) [a] [] pos) (dRng1 (dCons fa dNil)) := pdi_range1 hg hm (pda_cons ha pda_nil h1) hs
theorem iR2 (hm : X.mg "range" = none) (ha : PD X W a fa) (hb : PD X W b fb) (hg : Gl X "range" := by rfl) (h1 : starEach [a, b] X.env = (false, eval a X.env) :: starEach [b] X.env := by rfl) (h2 : starEach [b] X.env = (false, eval b X.env) :: starEach [] X.env := by rfl) (hs : starEach [a, b] X.env = [(false, eval a X.env), (false, eval b X.env)] := by rfl) (hs2 : starEach [b] X.env = [(false, eval b X.env)] := by rfl) : PDI X W tg (.Call (.Name "range" p) [a, b] [] pos) (dRng2 (dCons fa (dCons fb dNil))) := pdi_range2 hg hm (pda_cons ha (pda_cons hb pda_nil h2) h1) hs hs2
-- targets
theorem gN (i : Nat) (hN : X.N.Nodup := by first | assumption | decide +kernel) (hi : X.N[i]? = some x := by rfl) (hx : Loc X.env.scope x := by first | exact .inl rfl | exact .inr rfl) (hf : X.fn x = true ∨ X.env.scope.names.lookup x = some .local := by first | exact .inl rfl | exact .inr rfl) : L2.PG X (.Name x pos) (gName i) := pg_name hN hi hx hf
-- statements
theorem sSet (i : Nat) (he : PD X W e fe) (hN : X.N.Nodup := by first | assumption | decide +kernel) (hi : X.N[i]? = some x := by rfl) (hx : Loc X.env.scope x := by first | exact .inl rfl | exact .inr rfl) (hs : swapsWith e (some (.Name x pos')) pos.line X.env = pure false := by rfl) (hf : X.fn x = true ∨ X.env.scope.names.lookup x = some .local := by first | exact .inl rfl | exact .inr rfl) : PDS X W (.Assign [.Name x pos'] e pos) (dSet i fe) := ds_set hN hi hx he hs hf
theorem sOwn (i : Nat) {fl : DA} (he : PDL X W e fl) (hN : X.N.Nodup := by first | assumption | decide +kernel) (hi : X.N[i]? = some x := by rfl) (hx : Loc X.env.scope x := by first | exact .inl rfl | exact .inr rfl) (hs : swapsWith e (some (.Name x pos')) pos.line X.env = pure false := by rfl) (hf : X.fn x = true ∨ X.env.scope.names.lookup x = some .local := by first | exact .inl rfl | exact .inr rfl) : PDS X W (.Assign [.Name x pos'] e pos) (dOwn i fl) := ds_own hN hi hx he hs hf
theorem sFor {body : List Stmt} {fi : DA} {t : TG} {gt : DTg} {ws : List Nat} {gb : DG} (c : Cn X W j) (hi : PDI X W tg iter fi) (hg : L2.PG X tg t) (ht : TgOk X.K t gt ws) (hb : PDSs X W body gb)
    (hs : ∀ x, foldedSetIterable iter X.env x = pure x := by intro _; rfl) : PDS X W (.For tg iter body [] pos) (dFor fi gt gb) := ds_for c.hp c.hc hi hg ht hb hs
theorem sRaise {fm : DM} (c : Cn X W j) (he : PDM X W e fm) : PDS X W (.Raise (some e) none pos) (dRaise fm) := ds_raise c.hc c.tk he
end
end Gx

set_option maxHeartbeats 4000000
/-! An owned list lent to an expression whose answer keeps no list. -/
namespace Dl
open PySem PySem.Spec PyProof.Rows L2

mutual
/-- no list in it -/
def nolst : D → Bool
  | .lst _ => false
  | .tup ds => nolsts ds
  | .obj _ ds => nolsts ds
  | _ => true
def nolsts : List D → Bool
  | [] => true
  | d :: ds => nolst d && nolsts ds
end
def nolstX (x : Exc) : Bool := match x.fs with
  | none => true
  | some l => nolsts (l.map (·.2))
/-- all of G that is no list, G' tracks the same -/
def LeN (G G' : Hp) : Prop := ∀ a o, G a = some o → (∀ vs, o ≠ .lst vs) → G' a = some o
section
variable {K : PySem.W.Frag} {vl : Option (Addr × Addr)} {G G' : Hp}
theorem LeN.sqt {a : Addr} {xs : List V} (e : LeN G G') (h : SqT K G a xs) : SqT K G' a xs := by
  rcases h with (h | ⟨o, h⟩) | h
  · exact .inl (.inl (e a _ h fun _ z => nomatch z))
  · exact .inl (.inr ⟨o, e a _ h fun _ z => nomatch z⟩)
  · exact .inr h
theorem LeN.slt {a C dx : Addr} {vs : List (Option V)} (e : LeN G G') (h : SlX.Slt G a C dx vs) : SlX.Slt G' a C dx vs := by
  rcases h with ⟨h1, h2⟩ | ⟨h1, h2⟩
  · exact Or.inl ⟨e _ _ h1 (fun _ z => nomatch z), h2⟩
  · exact Or.inr ⟨e _ _ h1 (fun _ z => nomatch z), e _ _ h2 (fun _ z => nomatch z)⟩
mutual
theorem Rep.monoN (e : LeN G G') : ∀ {v : V} {d : D}, Rep K vl G v d → nolst d = true → Rep K vl G' v d
  | _, _, .non, _ => .non
  | _, _, .bl b, _ => .bl b
  | _, _, .int i, _ => .int i
  | _, _, .str x, _ => .str x
  | _, _, .tup a vs ds h r, hn => .tup a vs ds (e.sqt h) (Reps.monoN e r (by simpa [nolst] using hn))
  | _, _, .lst a vs ds h r, hn => by simp [nolst] at hn
  | _, _, .obj a C dx vs ds h r, hn => .obj a C dx vs ds (e.slt h) (Reps.monoN e r (by simpa [nolst] using hn))
  | _, _, .raw v, _ => .raw v
  | _, _, .vol h c q, _ => .vol h c q
theorem Reps.monoN (e : LeN G G') : ∀ {vs : List V} {ds : List D}, Reps K vl G vs ds → nolsts ds = true → Reps K vl G' vs ds
  | _, _, .nil, _ => .nil
  | _, _, .cons v d vs ds h r, hn => by
    simp only [nolsts, Bool.and_eq_true] at hn
    exact .cons v d vs ds (Rep.monoN e h hn.1) (Reps.monoN e r hn.2)
end
end
theorem RepX.leN {K : PySem.W.Frag} {Z Z' : Zn} {H H' : Hp} {cls : Value} {d : Option Addr} {x : Exc} (hn : nolstX x = true) (h : RepX K Z H cls d x) (le : LeN (mask Z H) (mask Z' H')) (ev : Z'.vol = Z.vol) : RepX K Z' H' cls d x := by
  obtain ⟨e, h⟩ := h
  refine ⟨e, ?_⟩
  unfold nolstX at hn
  cases q : x.fs with
  | none => rw [q] at h; exact h
  | some l =>
    rw [q] at h hn
    obtain ⟨dd, vs, h1, h2, h3, h4⟩ := h
    exact ⟨dd, vs, h1, le _ _ h2 (fun _ z => nomatch z), h3, by show Reps K Z'.vol _ _ _; rw [ev]; exact Reps.monoN le h4 hn⟩
theorem lend {K : PySem.W.Frag} {Z : Zn} {O : Own} {H : Hp} {σ : L2.St} {env : Env'} {i : Nat} {ds : List D} (a : At K Z O H σ env) (e : env[i]? = some (.own ds)) (one : noOwn i env) :
    ∃ Z1 : Zn, Z1.vol = Z.vol ∧ At K Z1 [] H σ (env.set i (.val (.lst ds))) ∧ ∀ H', Step Z1 H H' → Step Z H H' ∧ LeN (mask Z1 H') (mask Z H') := by
  obtain ⟨p, vs, h1, h2, h3, h4⟩ := own_atE a e
  have hz : (p, vs) ∈ Z.own := a.env.sub _ _ _ h2
  have nd := a.good.nd
  obtain ⟨nd1, nd2, nd3⟩ := List.nodup_append.mp (show (Z.own.map (·.1) ++ Z.vs).Nodup from nd)
  let Z1 : Zn := ⟨Z.own.filter (fun q => q.1 != p), Z.vol⟩
  have sub : ∀ c, c ∈ Z1.msk → c ∈ Z.msk := fun c hc => by
    rcases List.mem_append.mp hc with hc | hc
    · obtain ⟨q, hq, rfl⟩ := List.mem_map.mp hc
      exact List.mem_append_left _ (List.mem_map.mpr ⟨q, (List.mem_filter.mp hq).1, rfl⟩)
    · exact List.mem_append_right _ hc
  have sup : ∀ c, c ≠ p → c ∈ Z.msk → c ∈ Z1.msk := fun c hp hc => by
    rcases List.mem_append.mp hc with hc | hc
    · obtain ⟨q, hq, rfl⟩ := List.mem_map.mp hc
      exact List.mem_append_left _ (List.mem_map.mpr ⟨q, List.mem_filter.mpr ⟨hq, by simpa using hp⟩, rfl⟩)
    · exact List.mem_append_right _ hc
  have hpm : p ∉ Z1.msk := fun hc => by
    rcases List.mem_append.mp hc with hc | hc
    · obtain ⟨q, hq, he⟩ := List.mem_map.mp hc
      have := (List.mem_filter.mp hq).2
      simp [he] at this
    · exact nd3 p (List.mem_map.mpr ⟨_, hz, rfl⟩) p hc rfl
  have le : ∀ G, Le (mask Z G) (mask Z1 G) := fun G c o h => by
    have hc : c ∉ Z.msk := fun hm => by rw [mask_in hm] at h; cases h
    rw [mask_of hc] at h
    rw [mask_of fun z => hc (sub c z)]
    exact h
  have g1 : Good Z1 H := ⟨fun b us hb => a.good.own b us (List.mem_filter.mp hb).1, fun h c q => a.good.vol h c q, by
    show ((Z.own.filter (fun q => q.1 != p)).map (·.1) ++ Z.vs).Nodup
    exact List.nodup_append.mpr ⟨((List.filter_sublist).map _).nodup nd1, nd2, fun x hx y hy => nd3 x (by
      obtain ⟨q, hq, rfl⟩ := List.mem_map.mp hx
      exact List.mem_map.mpr ⟨q, (List.mem_filter.mp hq).1, rfl⟩) y hy⟩⟩
  refine ⟨Z1, rfl, ⟨g1, ⟨by rw [List.length_set]; exact a.env.len, fun j s q => ?_, fun _ _ _ h => by cases h⟩⟩, fun H' st => ?_⟩
  · by_cases hj : i = j
    · subst hj
      by_cases hi : i < env.length
      · rw [List.getElem?_set_self hi] at q
        cases q
        exact ⟨_, h1, _, rfl, .lst p vs ds (by rw [mask_of hpm]; exact h4) (Reps.mono (le H) h3)⟩
      · rw [List.getElem?_eq_none (by rw [List.length_set]; omega)] at q
        cases q
    · rw [List.getElem?_set_ne hj] at q
      obtain ⟨v, q1, q2⟩ := a.env.at_ j s q
      refine ⟨v, q1, ?_⟩
      cases s with
      | un => trivial
      | val d => obtain ⟨x, p1, p2⟩ := q2; exact ⟨x, p1, Rep.mono (le H) p2⟩
      | exc x => exact ⟨q2.1, q2.2.le (le H) rfl⟩
      | own es => exact (one j es (fun z => hj z.symm) q).elim
  · have hp' : H' p = some (.lst vs) := mask_le _ _ _ _ (st.le p _ (by rw [mask_of hpm]; exact h4))
    refine ⟨⟨fun c o h => ?_, ⟨fun b us hb => ?_, fun h c q => st.good.vol h c q, nd⟩⟩, fun c o h hn => ?_⟩
    · have hc : c ∉ Z.msk := fun hm => by rw [mask_in hm] at h; cases h
      rw [mask_of hc]
      exact mask_le _ _ _ _ (st.le c o (le H c o h))
    · by_cases hb' : b = p
      · subst hb'
        have := a.good.own b us hb
        rw [h4] at this
        rw [hp']
        exact this
      · exact st.good.own b us (List.mem_filter.mpr ⟨hb, by simpa using hb'⟩)
    · have hc1 : c ∉ Z1.msk := fun hm => by rw [mask_in hm] at h; cases h
      have hcp : c ≠ p := fun z => by
        subst z
        rw [mask_of hc1, hp'] at h
        exact hn vs (Option.some.inj h).symm
      have hc : c ∉ Z.msk := fun hm => hc1 (sup c hcp hm)
      rw [mask_of hc1] at h
      rw [mask_of hc]
      exact h
/-- slot i, owned, read as a value; what is answered keeps no list -/
def dLend (i : Nat) (f : DE) : DE := fun env Q R => match env[i]? with
  | some (.own ds) => noOwnB i 0 env = true ∧ f (env.set i (.val (.lst ds))) (fun d => nolst d = true ∧ Q d) (fun x => nolstX x = true ∧ R x)
  | _ => False
section
variable {X : Cx} {W : WX} {e : Expr} {f : DE} {i : Nat}
theorem pd_lend (h : PD X W e f) : PD X W e (dLend i f) := PE.imp h fun σ H Q ⟨Z, O, env, Q0, R0, a, hf, xk, q⟩ => by
  unfold dLend at hf
  split at hf
  · rename_i ds ho
    obtain ⟨Z1, ev, a1, hs⟩ := lend a ho (noOwn_of hf.1)
    refine DT.mk a1 hf.2 (fun x hx cls d H' s r => ?_) fun d hd v H' s r => ?_
    · obtain ⟨s1, l⟩ := hs H' s
      exact xk x hx.2 cls d H' s1 (r.leN hx.1 l ev.symm)
    · obtain ⟨s1, l⟩ := hs H' s
      exact q d hd.2 v H' s1 (by show Rep _ Z.vol _ _ _; rw [← ev]; exact Rep.monoN l r hd.1)
  · exact hf.elim
/-- the same for a test -/
def dLendB (i : Nat) (f : DB) : DB := fun env Q R => match env[i]? with
  | some (.own ds) => noOwnB i 0 env = true ∧ f (env.set i (.val (.lst ds))) Q (fun x => nolstX x = true ∧ R x)
  | _ => False
theorem lendB_ev {K : PySem.W.Frag} {W : WX} {f : DB} {i : Nat} : ∀ σ H Q, DTB K (dLendB i f) W σ H Q → DTB K f W σ H Q := fun σ H Q ⟨Z, O, env, Q0, R0, a, hf, xk, q⟩ => by
  unfold dLendB at hf
  split at hf
  · rename_i ds ho
    obtain ⟨Z1, ev, a1, hs⟩ := lend a ho (noOwn_of hf.1)
    refine DTB.mk a1 hf.2 (fun x hx cls d H' s r => ?_) fun d hd H' s => ?_
    · obtain ⟨s1, l⟩ := hs H' s
      exact xk x hx.2 cls d H' s1 (r.leN hx.1 l ev.symm)
    · exact q d hd H' (hs H' s).1
  · exact hf.elim
theorem pdb_lend {t : DB} (h : PDB X W e t) : PDB X W e (dLendB i t) := PT.imp h lendB_ev
end
end Dl

set_option maxHeartbeats 4000000
/-! x, y = (a new list, owned from then on), e -/
namespace Dl
open PySem PySem.Spec PyProof.Rows L2
def dParO (i j : Nat) (fl : DA) (f : DE) : DG := fun env k => fl env (fun ds => f env (fun d => k.nx ((env.set i (.own ds)).set j (.val d))) (fun x => k.xc x env)) (fun x => k.xc x env)
theorem own_hold {K : PySem.W.Frag} {Z : Zn} {O : Own} {H : Hp} {σ : L2.St} {env : Env'} {p : Addr} {vs : List V} {ds : List D} (a : StAt K Z O H σ env) (i : Nat) (hp : H p = none) (r : RepsZ K (Z.add O) H vs ds) :
    Lt Z O H ((i, p, vs) :: O) (upd H p (.lst vs)) ∧ StAt K Z ((i, p, vs) :: O) (upd H p (.lst vs)) σ env ∧ RepsZ K (Z.add ((i, p, vs) :: O)) (upd H p (.lst vs)) vs ds := by
  obtain ⟨g1, g2⟩ := cons_new a.good vs hp
  refine ⟨g2, ⟨g1, ?_⟩, Reps.mono g2 r⟩
  have e0 := a.env.le (Z' := Z.add ((i, p, vs) :: O)) (H' := upd H p (.lst vs)) g2 rfl fun j b us h => List.mem_append_left _ (List.mem_map.mpr ⟨_, List.mem_cons_of_mem _ h, rfl⟩)
  refine ⟨e0.len, fun j s e => ?_, fun j b us h => List.mem_append_left _ (List.mem_map.mpr ⟨_, h, rfl⟩)⟩
  obtain ⟨v, h1, h2⟩ := e0.at_ j s e
  refine ⟨v, h1, ?_⟩
  cases s with
  | own ds => obtain ⟨b, us, q1, q2, q3⟩ := h2; exact ⟨b, us, q1, List.mem_cons_of_mem _ q2, q3⟩
  | un => trivial
  | val d => exact h2
  | exc x => exact h2
section
variable {X : Cx} {W : WX} {a b : Expr} {fl : DA} {fe : DE} {pos : Pos}
theorem ds_parO {i j : Nat} {x y : Str} {px py pt pt2 : Pos} {kt k2 : Nat} (hc : X.calm = true) (hN : X.N.Nodup) (hi : X.N[i]? = some x) (hj : X.N[j]? = some y) (hij : i ≠ j)
    (hx : X.env.scope.names.lookup x = some .local) (hy : X.env.scope.names.lookup y = some .local) (ha : PDL X W a fl) (hb : PD X W b fe)
    (hw : swappedStores [.Tuple [.Name x px, .Name y py] kt pt] (.Tuple [a, b] k2 pt2) X.env = pure (some [x, y]) := by rfl)
    (hs : swapsWithSole [.Tuple [.Name x px, .Name y py] kt pt] (.Tuple [a, b] k2 pt2) pos.line X.env = pure false := by rfl)
    (h1 : starEach [a, b] X.env = (false, eval a X.env) :: starEach [b] X.env := by rfl) (h2 : starEach [b] X.env = (false, eval b X.env) :: starEach [] X.env := by rfl) :
    PDS X W (.Assign [.Tuple [.Name x px, .Name y py] kt pt] (.Tuple [a, b] k2 pt2) pos) (dParO i j fl fe) := PS.imp (ps_par hc hN hi hj hij hx hy (pa_cons ha (pa_cons hb pa_nil h2) h1) hw hs) fun D σ H ⟨Z, O, env, k, at_, h, ko⟩ => by
  refine ⟨_, O, env, _, _, at_, h, ko.xk at_, fun ds hd p vs H1 s hp r => ?_⟩
  obtain ⟨l, a1, r1⟩ := own_hold (at_.step s) i hp r
  have l1 : Lt Z O H ((i, p, vs) :: O) (upd H1 p (.lst vs)) := s.le.trans l
  have ko1 := ko.step l1
  refine DT.mk a1 hd (ko1.xk a1) fun d hd v H2 s2 r2 => ?_
  have a2 := a1.step s2
  exact ⟨_, _, rfl, ko.nx _ hd _ _ H2 (l1.trans s2.le) ⟨a2.good, ((a2.env.setO i List.mem_cons_self (r1.step s2)).set r2 j)⟩⟩
/-- the same where a name is a cell -/
theorem ds_parC {i j : Nat} {x y : Str} {px py pt pt2 : Pos} {kt k2 : Nat} (hg : L2.PG X (.Tuple [.Name x px, .Name y py] kt pt) (gTup X.K 2 (gNames [i, j]))) (ha : PDL X W a fl) (hb : PD X W b fe)
    (hs : swapsWithSole [.Tuple [.Name x px, .Name y py] kt pt] (.Tuple [a, b] k2 pt2) pos.line X.env = pure false := by rfl) (hw : swappedStores [.Tuple [.Name x px, .Name y py] kt pt] (.Tuple [a, b] k2 pt2) X.env = pure none := by rfl)
    (h0 : (assignEach [.Tuple [.Name x px, .Name y py] kt pt] X.env).map (·.2) = [assign (.Tuple [.Name x px, .Name y py] kt pt) X.env] := by rfl)
    (h1 : starEach [a, b] X.env = (false, eval a X.env) :: starEach [b] X.env := by rfl) (h2 : starEach [b] X.env = (false, eval b X.env) :: starEach [] X.env := by rfl) :
    PDS X W (.Assign [.Tuple [.Name x px, .Name y py] kt pt] (.Tuple [a, b] k2 pt2) pos) (dParO i j fl fe) := PS.imp (ps_asg (pe_tup (pa_cons ha (pa_cons hb pa_nil h2) h1)) hg hs hw h0) fun D σ H ⟨Z, O, env, k, at_, h, ko⟩ => by
  refine ⟨_, O, env, _, _, at_, h, ko.xk at_, fun ds hd p vs H1 s hp r => ?_⟩
  obtain ⟨l, a1, r1⟩ := own_hold (at_.step s) i hp r
  have l1 : Lt Z O H ((i, p, vs) :: O) (upd H1 p (.lst vs)) := s.le.trans l
  have ko1 := ko.step l1
  refine DT.mk a1 hd (ko1.xk a1) fun d hd v H2 s2 r2 => ?_
  refine ⟨(by show 2 ≤ sizeLine; decide), fun q hq => ?_⟩
  have s3 := s2.trans (Step.new s2.good (.tup [.ref p, v]) hq)
  have a2 := a1.step s3
  exact ⟨q, [.ref p, v], rfl, .inl (.inl upd_same), rfl, _, _, rfl, _, _, rfl, rfl, ko.nx _ hd _ _ _ (l1.trans s3.le) ⟨a2.good, ((a2.env.setO i List.mem_cons_self (r1.step s3)).set (r2.step (Step.new s2.good _ hq)) j)⟩⟩
end
/-- a block's names, looked at by a function -/
def blkB (N : List Str) (sc scope : Scope) (own : List (Str × Nat)) : Bool :=
  decide (scope.kind = .function) && (scope.names.all (fun y => decide (scope.names.lookup y.1 = some y.2)) && (own.all (fun p => decide (N[p.2]? = some p.1)) &&
    (scope.names.all (fun y => !decide (y.2 = .free) || (decide (sc.names.lookup y.1 = some .cell) || decide (sc.names.lookup y.1 = some .free))) &&
      scope.names.all (fun y => !(decide (y.2 = .local) || decide (y.2 = .cell)) || (decide (y.1 ∈ own.map (·.1)) || decide (y.1 ∉ N))))))
theorem blkOk {N : List Str} {sc scope : Scope} {own : List (Str × Nat)} (h : blkB N sc scope own = true) : BlkOk N sc scope own := by
  simp only [blkB, Bool.and_eq_true, decide_eq_true_eq, List.all_eq_true, Bool.or_eq_true, Bool.not_eq_true', decide_eq_false_iff_not, Bool.or_eq_false_iff] at h
  obtain ⟨h1, h2, h3, h4, h5⟩ := h
  refine ⟨h1, h2, h3, fun y hy hf => ?_, fun y hy hf => ?_⟩
  · rcases h4 y hy with q | q
    · exact (q hf).elim
    · exact q
  · rcases h5 y hy with q | q
    · exact (hf.elim q.1 q.2).elim
    · exact q
end Dl

set_option maxHeartbeats 4000000
/-! This program: what its small defs do, over trees. -/
namespace Pr
open PySem PySem.Spec PyProof.Rows L2 Dl Dv Dk Gx

/-- isinstance of data -/
def isTy (T : String) : D → Bool
  | .non => T == "NoneType"
  | .bl _ => T == "bool" || T == "int"
  | .int _ => T == "int"
  | .str _ => T == "str"
  | .tup _ => T == "tuple"
  | .lst _ => T == "list"
  | _ => false
theorem gIsi_ok {d : D} {T : String} {Q : D → Prop} (hd : (dty d).isSome = true) (hT : T = "int" ∨ T = "bool" ∨ T = "str" ∨ T = "tuple" ∨ T = "list") (h : Q (.bl (isTy T d))) : gIsi [d, .raw (.ty T)] Q := by
  cases d <;> simp [dty] at hd <;> rcases hT with rfl | rfl | rfl | rfl | rfl <;> simp [isTy] at h <;>
    first | exact ⟨_, true, rfl, by decide +kernel, h⟩ | exact ⟨_, false, rfl, by decide +kernel, h⟩
/-- an int, not a bool, from least on -/
def isInt (v : D) (least : Int) : Bool := match v with
  | .int i => decide (least ≤ i)
  | _ => false
def g_is_integer : DG :=
  (dRet (dAndV (dCB gIsi (dCons (dVar 0) (dCons (dC (.raw (.ty "int"))) dNil))) (dAndV (dNotV (dCB gIsi (dCons (dVar 0) (dCons (dC (.raw (.ty "bool"))) dNil)))) (dOp gGe (dVar 0) (dVar 1)))))
def F_is_integer : DF := fun ds Q _ => ∃ v l, ds = [v, .int l] ∧ (dty v).isSome = true ∧ Q (.bl (isInt v l))
theorem law_is_integer (ds : List D) (Q : D → Prop) (R : DX) (h : F_is_integer ds Q R) : dDef 2 g_is_integer ds Q R := by
  obtain ⟨v, l, rfl, hv, q⟩ := h
  simp only [dDef, dRet, dRetL, dSeq, dIfS, dTst, dNotB, dAndB, dOrB, dAndV, dOrV, dNotV, dNeg, dIf, dCB, dCBL, dCons, dNil, dStar, dVar, dC, dCall, dOp, dOpL, dTup, dLst, dL, dSet, dAsg, dPar, dOwn, dExpr, dNx, dFor, dWhile, dRng1, dRng2, dItL, dItT, dSlot, dProp, dMeth, dMk, dMk0, dRaise, dPart, dNoPart, dSlL, dSlT, dRevL, dgName, dgTup, dgSets, dOwnIx, dOwnLen, dOwnTup, dApp, dSetI, dRel, relE, dItZip, dItTab, dItEnK, dItEn, dIsS, dJoinG, dSplit, dFmt, dJs, dIsT2, dIndex, dCallS, dYes, wipeE, dXf, dIsX, List.map_cons, List.map_nil, List.cons_append, List.nil_append, List.append_nil, List.length_cons, List.length_nil, List.replicate_succ, List.replicate_zero, Nat.reduceAdd, Nat.reduceSub, List.getElem?_cons_zero, List.getElem?_cons_succ, List.set_cons_zero, List.set_cons_succ, Nat.zero_add, Nat.add_zero, Nat.sub_self, g_is_integer]
  refine gIsi_ok hv (.inl rfl) ?_
  cases v <;> simp [dty] at hv <;> simp [isTy] <;> first | exact q | skip
  · exact gIsi_ok rfl (.inr (.inl rfl)) q
  · exact gIsi_ok rfl (.inr (.inl rfl)) q
def isIn (v : D) (lo hi : Int) : Bool := match v with
  | .int i => decide (lo ≤ i) && decide (i ≤ hi)
  | _ => false
def g_is_within : DG :=
  (dRet (dAndV (dCall 2 F_is_integer (dCons (dVar 0) (dCons (dVar 1) dNil))) (dOp gLe (dVar 0) (dVar 2))))
def F_is_within : DF := fun ds Q _ => ∃ v l m, ds = [v, .int l, .int m] ∧ (dty v).isSome = true ∧ Q (.bl (isIn v l m))
theorem law_is_within (ds : List D) (Q : D → Prop) (R : DX) (h : F_is_within ds Q R) : dDef 3 g_is_within ds Q R := by
  obtain ⟨v, l, m, rfl, hv, q⟩ := h
  simp only [dDef, dRet, dRetL, dSeq, dIfS, dTst, dNotB, dAndB, dOrB, dAndV, dOrV, dNotV, dNeg, dIf, dCB, dCBL, dCons, dNil, dStar, dVar, dC, dCall, dOp, dOpL, dTup, dLst, dL, dSet, dAsg, dPar, dOwn, dExpr, dNx, dFor, dWhile, dRng1, dRng2, dItL, dItT, dSlot, dProp, dMeth, dMk, dMk0, dRaise, dPart, dNoPart, dSlL, dSlT, dRevL, dgName, dgTup, dgSets, dOwnIx, dOwnLen, dOwnTup, dApp, dSetI, dRel, relE, dItZip, dItTab, dItEnK, dItEn, dIsS, dJoinG, dSplit, dFmt, dJs, dIsT2, dIndex, dCallS, dYes, wipeE, dXf, dIsX, List.map_cons, List.map_nil, List.cons_append, List.nil_append, List.append_nil, List.length_cons, List.length_nil, List.replicate_succ, List.replicate_zero, Nat.reduceAdd, Nat.reduceSub, List.getElem?_cons_zero, List.getElem?_cons_succ, List.set_cons_zero, List.set_cons_succ, Nat.zero_add, Nat.add_zero, Nat.sub_self, g_is_within]
  refine ⟨trivial, v, l, rfl, hv, ?_⟩
  cases v <;> simp [dty] at hv <;> first | exact q | skip
  rename_i i
  by_cases hd : l ≤ i
  · simp [isIn, isInt, hd, gLe, gI0] at q ⊢; exact q
  · simp [isIn, isInt, hd] at q ⊢; exact q
/-- among flat things -/
def has (v : D) (ds : List D) : Bool := match toV v, toVs ds with
  | some x, some vs => inV x vs
  | _, _ => false
theorem gIn_ok {v w : D} {ds : List D} {Q : D → Prop} (hv : (toV v).isSome = true) (hw : seqOf w = some ds) (hd : (toVs ds).isSome = true) (q : Q (.bl (has v ds))) : gIn false v w Q := by
  obtain ⟨x, hx⟩ := Option.isSome_iff_exists.mp hv
  obtain ⟨vs, hvs⟩ := Option.isSome_iff_exists.mp hd
  unfold has at q
  rw [hx, hvs] at q
  exact ⟨x, ds, vs, hx, hw, hvs, q⟩
theorem gNIn_ok {v w : D} {ds : List D} {Q : D → Prop} (hv : (toV v).isSome = true) (hw : seqOf w = some ds) (hd : (toVs ds).isSome = true) (q : Q (.bl (!has v ds))) : gIn true v w Q := by
  obtain ⟨x, hx⟩ := Option.isSome_iff_exists.mp hv
  obtain ⟨vs, hvs⟩ := Option.isSome_iff_exists.mp hd
  unfold has at q
  rw [hx, hvs] at q
  exact ⟨x, ds, vs, hx, hw, hvs, q⟩
def isOne (v : D) (ds : List D) : Bool := match v with
  | .str _ => has v ds
  | .int i => decide (0 ≤ i) && has v ds
  | _ => false
def g_is_one_of : DG :=
  (dSeq (dIfS (dTst (dCB gIsi (dCons (dVar 0) (dCons (dC (.raw (.ty "str"))) dNil)))) (dRet (dOp (gIn false) (dVar 0) (dVar 1))) dNx)
  (dRet (dAndV (dCall 2 F_is_integer (dCons (dVar 0) (dCons (dC (.int 0)) dNil))) (dOp (gIn false) (dVar 0) (dVar 1)))))
def F_is_one_of : DF := fun ds Q _ => ∃ v xs, ds = [v, .tup xs] ∧ (dty v).isSome = true ∧ (toVs xs).isSome = true ∧ Q (.bl (isOne v xs))
theorem law_is_one_of (ds : List D) (Q : D → Prop) (R : DX) (h : F_is_one_of ds Q R) : dDef 2 g_is_one_of ds Q R := by
  obtain ⟨v, xs, rfl, hv, hx, q⟩ := h
  simp only [dDef, dRet, dRetL, dSeq, dIfS, dTst, dNotB, dAndB, dOrB, dAndV, dOrV, dNotV, dNeg, dIf, dCB, dCBL, dCons, dNil, dStar, dVar, dC, dCall, dOp, dOpL, dTup, dLst, dL, dSet, dAsg, dPar, dOwn, dExpr, dNx, dFor, dWhile, dRng1, dRng2, dItL, dItT, dSlot, dProp, dMeth, dMk, dMk0, dRaise, dPart, dNoPart, dSlL, dSlT, dRevL, dgName, dgTup, dgSets, dOwnIx, dOwnLen, dOwnTup, dApp, dSetI, dRel, relE, dItZip, dItTab, dItEnK, dItEn, dIsS, dJoinG, dSplit, dFmt, dJs, dIsT2, dIndex, dCallS, dYes, wipeE, dXf, dIsX, List.map_cons, List.map_nil, List.cons_append, List.nil_append, List.append_nil, List.length_cons, List.length_nil, List.replicate_succ, List.replicate_zero, Nat.reduceAdd, Nat.reduceSub, List.getElem?_cons_zero, List.getElem?_cons_succ, List.set_cons_zero, List.set_cons_succ, Nat.zero_add, Nat.add_zero, Nat.sub_self, g_is_one_of]
  refine gIsi_ok hv (.inr (.inr (.inl rfl))) ?_
  cases v <;> simp [dty] at hv <;> simp [isTy]
  case str s => exact gIn_ok rfl rfl hx q
  case int i =>
    refine ⟨_, 0, rfl, rfl, ?_⟩
    by_cases hd : 0 ≤ i
    · simp [isInt, isOne, hd] at q ⊢; exact gIn_ok rfl rfl hx q
    · simp [isInt, isOne, hd] at q ⊢; exact q
  all_goals exact ⟨_, 0, rfl, rfl, q⟩

/-! ### the rule's points -/
def ks_POINTS : List Str := ["size", "way", "first", "aside", "later"]
def kvs_POINTS : List (Str × List D) := [("size", [.int 1, .int 2, .int 3]), ("way", [.str "fro", .str "round", .str "step"]), ("first", [.str "first", .str "last"]), ("aside", [.int 0, .int 2, .int 3, .int 4]), ("later", [.str "anew", .str "on"])]
abbrev aR (K : PySem.W.Frag) : Addr := He.ga K "Rule"
abbrev aP (K : PySem.W.Frag) : Addr := He.ga K "POINTS"
abbrev aIP (K : PySem.W.Frag) : Addr := He.ga K "InvalidPoint"
/-- the first point whose value is none -/
def badAt : List (Str × List D) → List D → Option Str
  | (k, xs) :: r, v :: vs => if isOne v xs = true then badAt r vs else some k
  | _, _ => none
def rows (ds : List D) : Bool := decide (ds.length = 5) && ds.all fun d => (dty d).isSome
def F_Rule (K : PySem.W.Frag) : DF := fun ds Q R => rows ds = true ∧ match badAt kvs_POINTS ds with
  | none => Q (.obj (aR K) [.tup ds])
  | some p => R ⟨aIP K, some [("point", .str p)]⟩
def g1_init : DG := dSet 6 (dTup (dCons (dVar 1) (dCons (dVar 2) (dCons (dVar 3) (dCons (dVar 4) (dCons (dVar 5) dNil))))))
def gb_init (K : PySem.W.Frag) : DG := dIfS (dNotB (dTst (dCall 2 F_is_one_of (dCons (dVar 8) (dCons (dOp (gTabIx (aP K) kvs_POINTS) (dC (.raw (.ref (aP K)))) (dVar 7)) dNil))))) (dRaise (dMk (aIP K) ["point"] (dCons (dVar 7) dNil))) dNx
def g2_init (K : PySem.W.Frag) : DG := dFor (dItZip (aP K) ks_POINTS (dCons (dC (.raw (.ref (aP K)))) (dCons (dVar 6) dNil))) (dgTup [7, 8]) (gb_init K)
theorem init_loop (K : PySem.W.Frag) (x0 e1 e2 e3 e4 e5 e6 : Slot) (k : Kn) : ∀ (kv : List (Str × List D)) (ds : List D) (env : Env'),
    (∃ s7 s8, env = [x0, e1, e2, e3, e4, e5, e6, s7, s8]) → kv.length = ds.length → (∀ p ∈ kv, kvs_POINTS.lookup p.1 = some p.2 ∧ (toVs p.2).isSome = true) → (∀ d ∈ ds, (dty d).isSome = true) →
    (badAt kv ds = none → ∀ s7 s8, k.nx [x0, e1, e2, e3, e4, e5, e6, s7, s8]) → (∀ p, badAt kv ds = some p → ∀ env, k.xc ⟨aIP K, some [("point", .str p)]⟩ env) →
    dForL (dgTup [7, 8]) (gb_init K) (zipD (kv.map (·.1)) ds) env k
  | [], [], env, ⟨s7, s8, e⟩, _, _, _, hn, _ => by subst e; exact hn rfl s7 s8
  | [], _ :: _, _, _, hl, _, _, _, _ => by simp at hl
  | _ :: _, [], _, _, hl, _, _, _, _ => by simp at hl
  | (p, xs) :: kv, d :: ds, env, ⟨s7, s8, e⟩, hl, hk, hd, hn, hx => by
    subst e
    obtain ⟨h1, h2⟩ := hk (p, xs) List.mem_cons_self
    have ez : zipD (((p, xs) :: kv).map (·.1)) (d :: ds) = .tup [.str p, d] :: zipD (kv.map (·.1)) ds := rfl
    rw [ez]
    unfold dForL gb_init
    simp only [dDef, dRet, dRetL, dSeq, dIfS, dTst, dNotB, dAndB, dOrB, dAndV, dOrV, dNotV, dNeg, dIf, dCB, dCBL, dCons, dNil, dStar, dVar, dC, dCall, dOp, dOpL, dTup, dLst, dL, dSet, dAsg, dPar, dOwn, dExpr, dNx, dFor, dWhile, dRng1, dRng2, dItL, dItT, dSlot, dProp, dMeth, dMk, dMk0, dRaise, dPart, dNoPart, dSlL, dSlT, dRevL, dgName, dgTup, dgSets, dOwnIx, dOwnLen, dOwnTup, dApp, dSetI, dRel, relE, dItZip, dItTab, dItEnK, dItEn, dIsS, dJoinG, dSplit, dFmt, dJs, dIsT2, dIndex, dCallS, dYes, wipeE, dXf, dIsX, List.map_cons, List.map_nil, List.cons_append, List.nil_append, List.append_nil, List.length_cons, List.length_nil, List.replicate_succ, List.replicate_zero, Nat.reduceAdd, Nat.reduceSub, List.getElem?_cons_zero, List.getElem?_cons_succ, List.set_cons_zero, List.set_cons_succ, Nat.zero_add, Nat.add_zero, Nat.sub_self, gTabIx]
    refine ⟨trivial, xs, h1, trivial, d, xs, rfl, hd d List.mem_cons_self, h2, ?_⟩
    cases ho : isOne d xs with
    | true =>
      simp
      refine init_loop K x0 e1 e2 e3 e4 e5 e6 k kv ds _ ⟨_, _, rfl⟩ (by simpa using hl) (fun p hp => hk p (List.mem_cons_of_mem _ hp)) (fun d hd' => hd d (List.mem_cons_of_mem _ hd')) (fun hb => hn ?_) (fun q hq => hx q ?_)
      · unfold badAt; rw [ho]; exact hb
      · unfold badAt; rw [ho]; exact hq
    | false =>
      simp
      exact hx p (by unfold badAt; rw [ho]; rfl) _
end Pr

set_option maxHeartbeats 4000000
/-! The class Rule: how an instance is made. -/
namespace Pr
open PySem PySem.Spec PyProof.Rows L2 Dl Dv Dk Gx

theorem reps_flat {K : PySem.W.Frag} {vl : Option (Addr × Addr)} {G : Hp} : ∀ {ds : List D} {vs : List V}, toVs ds = some vs → Reps K vl G vs ds
  | [], vs, h => by simp [toVs] at h; subst h; exact .nil
  | d :: ds, vs, h => by
    unfold toVs at h
    split at h
    · rename_i a b e1 e2
      cases h
      refine .cons _ _ _ _ ?_ (reps_flat e2)
      cases d <;> simp [toV] at e1 <;> subst e1 <;> constructor
    · cases h
/-- behind the store of the one slot -/
theorem slot_stored {K : PySem.W.Frag} {Z : Zn} {O : Own} {H0 H2 : Hp} {C x dx : Addr} {y : V} {ds : List D} (g0 : Good Z H0) (hx : H0 x = none) (hd : H0 dx = none) (hne : dx ≠ x) (g2 : Good (Z.add O) H2) (le : Le (mask Z H0) (mask (Z.add O) H2))
    (ix : mask (Z.add O) H2 x = some (.ins C dx [])) (id_ : mask (Z.add O) H2 dx = some (.own x)) (ry : RepZ K (Z.add O) H2 y (.tup ds)) (fl : (toVs ds).isSome = true) :
    Step Z H0 (SlX.slH H2 x C dx (SlX.putS 0 y [])) ∧ RepZ K Z (SlX.slH H2 x C dx (SlX.putS 0 y [])) (.ref x) (.obj C [.tup ds]) := by
  have hxm := g0.fresh hx
  have hdm := g0.fresh hd
  have same : ∀ b, b ≠ x → b ≠ dx → (SlX.slH H2 x C dx (SlX.putS 0 y [])) b = H2 b := fun b h1 h2 => SlX.slH_ne h1 h2
  have gs := g2.sub
  have stp : Step Z H0 (SlX.slH H2 x C dx (SlX.putS 0 y [])) := by
    refine ⟨fun a o h => ?_, fun a vs h => ?_, fun h c e => ?_, g0.nd⟩
    · have ham : a ∉ Z.msk := fun z => by rw [mask_in z] at h; cases h
      have h0 := mask_le _ _ _ _ h
      rw [mask_of ham, same a (ne_of_none h0 hx) (ne_of_none h0 hd)]
      exact mask_le _ _ _ _ (le a o h)
    · have h0 := g0.own a vs h
      rw [same a (ne_of_none h0 hx) (ne_of_none h0 hd)]
      exact gs.own a vs h
    · obtain ⟨s0, i0, cs0, q1, q2, _⟩ := g0.vol h c e
      obtain ⟨s, i, cs, h1, h2, h3⟩ := gs.vol h c e
      exact ⟨s, i, cs, by rw [same h (ne_of_none q1 hx) (ne_of_none q1 hd)]; exact h1, by rw [same c (ne_of_none q2 hx) (ne_of_none q2 hd)]; exact h2, h3⟩
  refine ⟨stp, ?_⟩
  have hslt : SlX.Slt (mask Z (SlX.slH H2 x C dx (SlX.putS 0 y []))) x C dx ([y].map some) := by
    refine .inr ⟨?_, ?_⟩
    · rw [mask_of hxm]
      exact upd_same
    · rw [mask_of hdm]
      unfold SlX.slH
      rw [upd_ne hne, upd_same]
  refine .obj x C dx [y] [.tup ds] hslt (.one ?_)
  obtain ⟨vs, hvs⟩ := Option.isSome_iff_exists.mp fl
  clear hslt
  generalize SlX.slH H2 x C dx (SlX.putS 0 y []) = H' at same stp ⊢
  cases ry with
  | tup b ws _ hs r =>
    obtain ⟨rfl, _⟩ := toVs_rep r hvs
    refine .tup b ws ds ?_ (reps_flat hvs)
    rcases hs with hs | hs
    · have key : ∀ u, mask (Z.add O) H2 b = some u → u ≠ .ins C dx [] → u ≠ .own x → mask Z H' b = some u := fun u h n1 n2 => by
        have b1 : b ≠ x := fun z => by rw [z, ix] at h; exact n1 (Option.some.inj h).symm
        have b2 : b ≠ dx := fun z => by rw [z, id_] at h; exact n2 (Option.some.inj h).symm
        have h1 := add_le b u h
        have bm : b ∉ Z.msk := fun z => by rw [mask_in z] at h1; cases h1
        rw [mask_of bm, same b b1 b2]
        exact mask_le _ _ _ _ h
      rcases hs with hs | ⟨o, hs⟩
      · exact .inl (.inl (key _ hs (fun z => nomatch z) (fun z => nomatch z)))
      · exact .inl (.inr ⟨o, key _ hs (fun z => nomatch z) (fun z => nomatch z)⟩)
    · exact .inr hs
/-- an __init__ that ends with self.f = (a tuple of flat things), the one slot of its class -/
theorem initOk {P : Program} {w : World} {K : PySem.W.Frag} {mg : Str → Option Value} {base : Heap} {x qual fld : Str} {params : Arguments} {s1 s2 s3 : Stmt} {scope : Scope} {f : Addr} {fd : FuncData} {N ps : List Str} {k i n : Nat} {C p : Addr} {g1 g2 : DG} {F : DF} (FD : FunD K x qual params [s1, s2, s3] scope [] [] f fd) (S : FnScope N ps scope) (hn : ps.length = n + 1)
    (sc : SlX.SCls K C) (sl : SlX.Slot1 K C fld p 0)
    (hbody : ∀ (cdv : Value) (A : Around) (outer : List Env) (s : Shared) (H : Hp) (E : XK), Cn (cxOf (L2.CX P w) P w K mg base N qual scope f cdv A outer s H E) (fun cls d _ H' => E cls d H') k →
      PDS (cxOf (L2.CX P w) P w K mg base N qual scope f cdv A outer s H E) (fun cls d _ H' => E cls d H') s1 g1 ∧ PDS (cxOf (L2.CX P w) P w K mg base N qual scope f cdv A outer s H E) (fun cls d _ H' => E cls d H') s2 g2 ∧
      L2.PS (cxOf (L2.CX P w) P w K mg base N qual scope f cdv A outer s H E) s3 (SlX.sSl K (tVar 0) (tVar i) fld))
    (hF : ∀ (y : Addr) ds Q R, F ds Q R → dSeq g1 g2 (.val (.raw (.ref y)) :: (ds.map .val ++ List.replicate (N.length - (ds.length + 1)) .un)) ⟨fun e => ∃ es, e[0]? = some (.val (.raw (.ref y))) ∧ e[i]? = some (.val (.tup es)) ∧ (toVs es).isSome = true ∧ Q (.obj C [.tup es]), fun _ => False, fun _ => False, fun _ => False, fun _ => False, fun x _ => R x⟩) :
    FnOk P w K mg base (L2.CX P w) (k + 1) f fd ps (spI K C n F) := by
  refine FD.ok S (fun vs H Q E h => by rw [h.1, hn]) fun cdv A outer s H vs Q E hr h => ?_
  obtain ⟨hl, Z, H0, y, dx, ws, ds, Q0, R0, rfl, g0, hy, hd, hne, rfl, r, hFd, hx, hq⟩ := h
  obtain ⟨p1, p2, p3⟩ := hbody cdv A outer s (upd (upd H0 dx (.own y)) y (.ins C dx [])) E ⟨takes_of rfl rfl rfl rfl, passes_of rfl, hr, rfl⟩
  have sa := Step.new g0 (.own y) hd
  have hy' : upd H0 dx (.own y) y = none := by rw [upd_ne (Ne.symm hne)]; exact hy
  have sb := sa.trans (Step.new sa.good (.ins C dx []) hy')
  have hw := r.length
  refine ⟨_, pss_cons p1 (pss_cons p2 (pss_one p3)), ?_⟩
  have hlen : ds.length = n := by simp at hl; omega
  have st0 : StAt K Z [] (upd (upd H0 dx (.own y)) y (.ins C dx [])) (L2.start N (V.ref y :: ws)) (.val (.raw (.ref y)) :: (ds.map .val ++ List.replicate (N.length - (ds.length + 1)) .un)) := by
    refine ⟨by rw [add_nil]; exact sb.good, ?_⟩
    exact start_rep (N := N) (ds := .raw (.ref y) :: ds) (.cons _ _ _ _ (.raw _) (r.step sb))
  have ix0 : mask (Z.add []) (upd (upd H0 dx (.own y)) y (.ins C dx [])) y = some (.ins C dx []) := by
    rw [add_nil, mask_of (g0.fresh hy)]
    exact upd_same
  have id0 : mask (Z.add []) (upd (upd H0 dx (.own y)) y (.ins C dx [])) dx = some (.own y) := by
    rw [add_nil, mask_of (g0.fresh hd), upd_ne hne, upd_same]
  have le0 : Le (mask Z H0) (mask (Z.add []) (upd (upd H0 dx (.own y)) y (.ins C dx []))) := by rw [add_nil]; exact sb.le
  -- the exceptions
  have xc0 : ∀ (O' : Own) (z : Exc), R0 z → ∀ cls d H', Lt Z [] (upd (upd H0 dx (.own y)) y (.ins C dx [])) O' H' → Good (Z.add O') H' → RepX K (Z.add O') H' cls d z → E cls d H' := fun O' z hz cls d H' l g' rx => by
    refine hx z hz cls d H' ⟨fun a o h => add_le _ _ (l a o (le0 a o h)), g'.sub⟩ rx.sub
  have fin : ∀ (O2 : Own) (σ2 : L2.St) (H2 : Hp) (e2 : Env'), Lt Z [] (upd (upd H0 dx (.own y)) y (.ins C dx [])) O2 H2 → StAt K Z O2 H2 σ2 e2 → (∃ es, e2[0]? = some (.val (.raw (.ref y))) ∧ e2[i]? = some (.val (.tup es)) ∧ (toVs es).isSome = true ∧ Q0 (.obj C [.tup es])) →
      SlX.sSl K (tVar 0) (tVar i) fld { nx := fun _ H' => Q .non H', rt := Q } σ2 H2 := fun O2 σ2 H2 e2 l2 a2 ⟨es, h0, hi, fl, hQ⟩ => by
    obtain ⟨v, hv, rv⟩ := a2.env.val hi
    obtain ⟨u, hu, ru⟩ := a2.env.val h0
    cases ru
    refine ⟨v, hv, _, hu, y, C, dx, p, [], 0, rfl, .inl ⟨mask_le _ _ _ _ (l2 _ _ ix0), rfl⟩, sc, sl, ?_⟩
    obtain ⟨q1, q2⟩ := slot_stored g0 hy hd hne a2.good (le0.trans l2) (l2 _ _ ix0) (l2 _ _ id0) rv fl
    exact hq _ hQ _ q1 q2
  have h1 := hF y ds Q0 R0 hFd
  refine ⟨Z, [], _, _, st0, h1, ⟨fun e1 h2 O1 σ1 H1 l1 a1 => ?_, fun _ z => z.elim, fun _ z => z.elim, fun _ z => z.elim, fun _ z => z.elim, fun z _ hz O' cls d σ' H' l a' rx => xc0 O' z hz cls d H' l a'.good rx⟩⟩
  exact ⟨Z, O1, e1, _, a1, h2, ⟨fun e2 h3 O2 σ2 H2 l2 a2 => fin O2 σ2 H2 e2 (l1.trans l2) a2 h3, fun _ z => z.elim, fun _ z => z.elim, fun _ z => z.elim, fun _ z => z.elim, fun z _ hz O' cls d σ' H' l a' rx => xc0 O' z hz cls d H' (l1.trans l) a'.good rx⟩⟩
end Pr

set_option maxHeartbeats 4000000
/-! Own == of an instance and anything; the rule's properties and methods; a drawn rule. -/
namespace Pr
open PySem PySem.Spec PyProof.Rows L2 Dl Dv Dk Gx

structure EqC (P : Program) (w : World) (K : PySem.W.Frag) (mg : Str → Option Value) (base : Heap) (k : Nat) (C : Addr) (F : DF) : Prop where
  ex : ∃ g, FnR P w K mg base (L2.CX P w) k g (spD K 2 F) ∧ PySem.W.findIn K (.ref C) "__eq__" = some (some (.ref g)) ∧ PySem.W.isFn K (.ref g) = true
  nf : ∀ t, t ∈ ["NoneType", "bool", "int", "str", "tuple", "list"] → PySem.W.notFirst K C (.type t) = true
theorem dty_mem {d : D} {t : String} (h : dty d = some t) : t ∈ ["NoneType", "bool", "int", "str", "tuple", "list"] := by
  cases d <;> simp [dty] at h <;> subst h <;> simp
def gEqO (C : Addr) (F : DF) : D2 := fun x y Q => match x with
  | .obj C' os => C' = C ∧ ((dty y).isSome = true ∨ ∃ us, y = .obj C us) ∧ F [.obj C os, y] Q FX
  | _ => False
def rEqO (K : PySem.W.Frag) (C : Addr) (F : DF) : R2 := fun x y H Q => ∃ (a dx : Addr) (ws : List V), x = .ref a ∧ SlX.Slt H a C dx (ws.map some) ∧ ((∃ t, TyX K H y (.type t) ∧ t ∈ ["NoneType", "bool", "int", "str", "tuple", "list"]) ∨ ∃ b dy us, y = .ref b ∧ SlX.Slt H b C dy us) ∧ spD K 2 F [x, y] H Q fun _ _ _ => False
theorem op_eqO {X : Cx} {C : Addr} {k : Nat} {F : DF} (E : EqC X.prog X.w X.K X.mg X.base k C F) (hr : Room k X.A) : OpR X (compareOp .Eq) (rEqO X.K C F) := by
  intro pins s σ H x y v u Q I rx ry h
  obtain ⟨a, dx, ws, rfl, ha, hy, q⟩ := h
  obtain ⟨g, FR, hs, hf⟩ := E.ex
  cases (show v = Value.ref a from rx)
  obtain ⟨sl, od, _, J, _⟩ := SlX.slt_inst I ha
  obtain ⟨m, hF⟩ := I.fr
  have L : ∃ tb, PySem.W.Looks (model X.prog X.w) s.heap (typeOf u) tb ∧ PySem.W.notFirst X.K C tb = true := by
    rcases hy with ⟨t, ty, ht⟩ | ⟨b, dy, us, rfl, hb⟩
    · obtain ⟨Pr, KX, p, _⟩ := kit_of I ry ty
      exact ⟨_, KX.ty _ _ I.kIn p, E.nf t ht⟩
    · cases (show u = Value.ref b from ry)
      obtain ⟨sl', od', _, J', _⟩ := SlX.slt_inst I hb
      exact ⟨_, J'.type, by unfold PySem.W.notFirst; simp⟩
  obtain ⟨tb, hb, hn⟩ := L
  show wpAny _ _ (richCompare .Eq (.ref a) u) _ _ _
  refine PySem.W.cmp_K (op := .Eq) (tb := tb) hr.units0 hF I.ok.mod.kin J hb hn hs hf ?_
  refine wpAny_mono (wpAny_call (run_fnR (us := [.ref a, u]) (vs := [.ref a, y]) (E := fun _ _ _ => False) FR hr (fun _ _ _ _ _ _ _ ⟨_, _, _, _, _, _, _, _, _, _, _, _, z⟩ => z.elim) I (.cons rfl (.cons ry .nil)) q)) (fun w s' z => ?_) fun _ _ x => x
  obtain ⟨z', H', I', rz, qz⟩ := z
  exact SlX.cmpback rz ⟨z', H', I', rz, qz⟩
theorem opd_eqO {K : PySem.W.Frag} {C : Addr} {F : DF} : OpD K (rEqO K C F) (gEqO C F) := fun Z H x y dx dy Q0 Q gd rx ry hg q => by
  cases dx <;> first | exact False.elim hg | skip
  obtain ⟨e, hy, hF⟩ := hg
  subst e
  have rx0 := rx
  cases rx with
  | obj a _ ax ws ds h r =>
    refine ⟨a, ax, ws, rfl, (mask_le Z H).slt h, ?_, rfl, Z, _, Q0, FX, gd, .cons _ _ _ _ rx0 (.one ry), hF, fun _ z => z.elim, fun d hd v H' s rv => q d hd v H' s rv⟩
    rcases hy with hy | ⟨us, rfl⟩
    · obtain ⟨t, ht⟩ := Option.isSome_iff_exists.mp hy
      exact .inl ⟨t, dty_rep ry ht, dty_mem ht⟩
    · cases ry with
      | obj b _ bx ws' us' h' r' => exact .inr ⟨b, bx, _, rfl, (mask_le Z H).slt h'⟩
section
variable {X : Cx} {W : WX} {a b : Expr} {pos : Pos} {fa fb : DE} {C : Addr} {j k : Nat} {F : DF}
theorem cEqO (c : Cn X W j) (E : EqC X.prog X.w X.K X.mg X.base k C F) (ha : PD X W a fa) (hb : PD X W b fb) (hk : k ≤ j := by decide) : PD X W (.Compare a [.Eq] [b] pos) (dOp (gEqO C F) fa fb) := pd_cmp (op_eqO E (c.hr.mono hk)) opd_eqO ha hb (nomark _)
theorem tEqO (c : Cn X W j) (E : EqC X.prog X.w X.K X.mg X.base k C F) (ha : PD X W a fa) (hb : PD X W b fb) (hk : k ≤ j := by decide) : PDB X W (.Compare a [.Eq] [b] pos) (dTst (dOp (gEqO C F) fa fb)) := pdb_cmp (op_eqO E (c.hr.mono hk)) opd_eqO ha hb (nomark _)
/-- isinstance(x, C): an instance or data -/
def gIsU (K : PySem.W.Frag) (c : Addr) : DC1 := fun ds Q => gIsC K c ds Q ∨ gIsD K c ds Q
theorem CallR.or {f : Value} {r1 r2 : List V → Hp → VK → Prop} (h1 : CallR X f r1) (h2 : CallR X f r2) : CallR X f (fun xs H Q => r1 xs H Q ∨ r2 xs H Q) := fun pins s σ H xs us Q I r h => h.elim (h1 pins s σ H xs us Q I r) (h2 pins s σ H xs us Q I r)
theorem cd_isU {K : PySem.W.Frag} {c : Addr} : CallD K (fun xs H Q => SlX.rIsiSl K (.ref c) xs H Q ∨ rIsi K xs H Q) (gIsU K c) := fun Z H vs ds Q0 Q gd r hg q => hg.elim (fun h => .inl (cd_isC Z H vs ds Q0 Q gd r h q)) (fun h => .inr (cd_isD Z H vs ds Q0 Q gd r h q))
theorem bIsC {c : Addr} {e : Expr} {es : List Expr} {fs : DA} {p : Pos} (hm : X.mg "isinstance" = none) (ha : PDA X W (e :: es) fs) (hg : Gl X "isinstance" := by rfl) (h1 : starEach (e :: es) X.env = (false, eval e X.env) :: starEach es X.env := by rfl) (h2 : (backTo pos (starEach es X.env)).any (·.1) = false := by rfl) : PD X W (.Call (.Name "isinstance" p) (e :: es) [] pos) (dCB (gIsU X.K c) fs) := pd_callB ((SlX.call_isiSl (.ref c)).or call_isi) cd_isU hg hm (by kernel_rfl) ha (by decide) (by decide) h1 h2
end
/-- what the class Rule is, in the written part -/
structure RuC (K : PySem.W.Frag) : Prop where
  sc : SlX.SCls K (aR K)
  si : SlX.SIsi K (aR K)
  sl : ∃ p, SlX.Slot1 K (aR K) "row" p 0
  kit : ∀ t, t ∈ ["NoneType", "bool", "int", "str", "tuple", "list"] → PySem.W.kitOne K (.type t) (.ref (aR K)) = some false
/-! ### the getters -/
def g_prop (K : PySem.W.Frag) (n : Int) : DG := dRet (dOp gIx (dSlot (aR K) 0 (dVar 0)) (dC (.int n)))
def F_prop (K : PySem.W.Frag) (n : Nat) : DF := fun ds Q _ => ∃ xs d, ds = [.obj (aR K) [.tup xs]] ∧ xs[n]? = some d ∧ Q d
theorem atI_nat {α : Type} {xs : List α} {n : Nat} {d : α} (h : xs[n]? = some d) : atI xs (n : Int) = some d := by
  have hl := (List.getElem?_eq_some_iff.mp h).1
  unfold atI ixN
  rw [if_pos (by omega), if_pos (by omega)]
  exact h
theorem law_prop (K : PySem.W.Frag) (n : Nat) (ds : List D) (Q : D → Prop) (R : DX) (h : F_prop K n ds Q R) : dDef 1 (g_prop K n) ds Q R := by
  obtain ⟨xs, d, rfl, hd, q⟩ := h
  simp only [dDef, dRet, dRetL, dSeq, dIfS, dTst, dNotB, dAndB, dOrB, dAndV, dOrV, dNotV, dNeg, dIf, dCB, dCBL, dCons, dNil, dStar, dVar, dC, dCall, dOp, dOpL, dTup, dLst, dL, dSet, dAsg, dPar, dOwn, dExpr, dNx, dFor, dWhile, dRng1, dRng2, dItL, dItT, dSlot, dProp, dMeth, dMk, dMk0, dRaise, dPart, dNoPart, dSlL, dSlT, dRevL, dgName, dgTup, dgSets, dOwnIx, dOwnLen, dOwnTup, dApp, dSetI, dRel, relE, dItZip, dItTab, dItEnK, dItEn, dIsS, dJoinG, dSplit, dFmt, dJs, dIsT2, dIndex, dCallS, dYes, wipeE, dXf, dIsX, List.map_cons, List.map_nil, List.cons_append, List.nil_append, List.append_nil, List.length_cons, List.length_nil, List.replicate_succ, List.replicate_zero, Nat.reduceAdd, Nat.reduceSub, List.getElem?_cons_zero, List.getElem?_cons_succ, List.set_cons_zero, List.set_cons_succ, Nat.zero_add, Nat.add_zero, Nat.sub_self, g_prop]
  exact ⟨trivial, _, rfl, d, atI_nat hd, q⟩
def g_parts (K : PySem.W.Frag) : DG := dRet (dSlot (aR K) 0 (dVar 0))
def F_parts (K : PySem.W.Frag) : DF := fun ds Q _ => ∃ xs, ds = [.obj (aR K) [.tup xs]] ∧ Q (.tup xs)
theorem law_parts (K : PySem.W.Frag) (ds : List D) (Q : D → Prop) (R : DX) (h : F_parts K ds Q R) : dDef 1 (g_parts K) ds Q R := by
  obtain ⟨xs, rfl, q⟩ := h
  simp only [dDef, dRet, dRetL, dSeq, dIfS, dTst, dNotB, dAndB, dOrB, dAndV, dOrV, dNotV, dNeg, dIf, dCB, dCBL, dCons, dNil, dStar, dVar, dC, dCall, dOp, dOpL, dTup, dLst, dL, dSet, dAsg, dPar, dOwn, dExpr, dNx, dFor, dWhile, dRng1, dRng2, dItL, dItT, dSlot, dProp, dMeth, dMk, dMk0, dRaise, dPart, dNoPart, dSlL, dSlT, dRevL, dgName, dgTup, dgSets, dOwnIx, dOwnLen, dOwnTup, dApp, dSetI, dRel, relE, dItZip, dItTab, dItEnK, dItEn, dIsS, dJoinG, dSplit, dFmt, dJs, dIsT2, dIndex, dCallS, dYes, wipeE, dXf, dIsX, List.map_cons, List.map_nil, List.cons_append, List.nil_append, List.append_nil, List.length_cons, List.length_nil, List.replicate_succ, List.replicate_zero, Nat.reduceAdd, Nat.reduceSub, List.getElem?_cons_zero, List.getElem?_cons_succ, List.set_cons_zero, List.set_cons_succ, Nat.zero_add, Nat.add_zero, Nat.sub_self, g_parts]
  exact ⟨trivial, _, rfl, q⟩
/-! ### == -/
def g_eq (K : PySem.W.Frag) : DG :=
  dRet (dAndV (dCB (gIsU K (aR K)) (dCons (dVar 1) (dCons (dC (.raw (.ref (aR K)))) dNil))) (dOp gEq (dSlot (aR K) 0 (dVar 0)) (dSlot (aR K) 0 (dVar 1))))
def F_eq (K : PySem.W.Frag) : DF := fun ds Q _ => RuC K ∧ ∃ xs, dats 8 xs = true ∧ ((∃ d, ds = [.obj (aR K) [.tup xs], d] ∧ (dty d).isSome = true ∧ Q (.bl false)) ∨ ∃ ys, ds = [.obj (aR K) [.tup xs], .obj (aR K) [.tup ys]] ∧ dats 8 ys = true ∧ Q (.bl (deq (.tup xs) (.tup ys))))
theorem kit_self (K : PySem.W.Frag) (c : Addr) : PySem.W.kitOne K (.ref c) (.ref c) = some true := by unfold PySem.W.kitOne; simp
theorem law_eq (K : PySem.W.Frag) (ds : List D) (Q : D → Prop) (R : DX) (h : F_eq K ds Q R) : dDef 2 (g_eq K) ds Q R := by
  obtain ⟨C, xs, hx, h⟩ := h
  rcases h with ⟨d, rfl, hd, q⟩ | ⟨ys, rfl, hy, q⟩
  · simp only [dDef, dRet, dRetL, dSeq, dIfS, dTst, dNotB, dAndB, dOrB, dAndV, dOrV, dNotV, dNeg, dIf, dCB, dCBL, dCons, dNil, dStar, dVar, dC, dCall, dOp, dOpL, dTup, dLst, dL, dSet, dAsg, dPar, dOwn, dExpr, dNx, dFor, dWhile, dRng1, dRng2, dItL, dItT, dSlot, dProp, dMeth, dMk, dMk0, dRaise, dPart, dNoPart, dSlL, dSlT, dRevL, dgName, dgTup, dgSets, dOwnIx, dOwnLen, dOwnTup, dApp, dSetI, dRel, relE, dItZip, dItTab, dItEnK, dItEn, dIsS, dJoinG, dSplit, dFmt, dJs, dIsT2, dIndex, dCallS, dYes, wipeE, dXf, dIsX, List.map_cons, List.map_nil, List.cons_append, List.nil_append, List.append_nil, List.length_cons, List.length_nil, List.replicate_succ, List.replicate_zero, Nat.reduceAdd, Nat.reduceSub, List.getElem?_cons_zero, List.getElem?_cons_succ, List.set_cons_zero, List.set_cons_succ, Nat.zero_add, Nat.add_zero, Nat.sub_self, g_eq]
    obtain ⟨t, ht⟩ := Option.isSome_iff_exists.mp hd
    exact .inr ⟨rfl, t, false, ht, C.kit t (dty_mem ht), q⟩
  · simp only [dDef, dRet, dRetL, dSeq, dIfS, dTst, dNotB, dAndB, dOrB, dAndV, dOrV, dNotV, dNeg, dIf, dCB, dCBL, dCons, dNil, dStar, dVar, dC, dCall, dOp, dOpL, dTup, dLst, dL, dSet, dAsg, dPar, dOwn, dExpr, dNx, dFor, dWhile, dRng1, dRng2, dItL, dItT, dSlot, dProp, dMeth, dMk, dMk0, dRaise, dPart, dNoPart, dSlL, dSlT, dRevL, dgName, dgTup, dgSets, dOwnIx, dOwnLen, dOwnTup, dApp, dSetI, dRel, relE, dItZip, dItTab, dItEnK, dItEn, dIsS, dJoinG, dSplit, dFmt, dJs, dIsT2, dIndex, dCallS, dYes, wipeE, dXf, dIsX, List.map_cons, List.map_nil, List.cons_append, List.nil_append, List.append_nil, List.length_cons, List.length_nil, List.replicate_succ, List.replicate_zero, Nat.reduceAdd, Nat.reduceSub, List.getElem?_cons_zero, List.getElem?_cons_succ, List.set_cons_zero, List.set_cons_succ, Nat.zero_add, Nat.add_zero, Nat.sub_self, g_eq]
    refine .inl ⟨rfl, C.sc, C.si, true, kit_self _ _, ?_⟩
    simp only [if_true]
    exact ⟨trivial, _, rfl, trivial, _, rfl, by simpa [dat] using hx, by simpa [dat] using hy, q⟩
end Pr

set_option maxHeartbeats 4000000
/-! A drawn rule, a rule built of it. -/
namespace Pr
open PySem PySem.Spec PyProof.Rows L2 Dl Dv Dk Gx

/-- the values of all rules -/
def drawn : List (List D) := [D.int 1, .int 2, .int 3].flatMap fun s => [D.str "round", .str "fro", .str "step"].flatMap fun w => [D.str "first", .str "last"].flatMap fun f => [D.int 0, .int 2, .int 3, .int 4].flatMap fun a => [D.str "on", .str "anew"].map fun l => [s, w, f, a, l]
theorem drawn_mem {s w f a l : D} (h1 : s ∈ [D.int 1, .int 2, .int 3]) (h2 : w ∈ [D.str "round", .str "fro", .str "step"]) (h3 : f ∈ [D.str "first", .str "last"]) (h4 : a ∈ [D.int 0, .int 2, .int 3, .int 4]) (h5 : l ∈ [D.str "on", .str "anew"]) : [s, w, f, a, l] ∈ drawn :=
  List.mem_flatMap.mpr ⟨s, h1, List.mem_flatMap.mpr ⟨w, h2, List.mem_flatMap.mpr ⟨f, h3, List.mem_flatMap.mpr ⟨a, h4, List.mem_map.mpr ⟨l, h5, rfl⟩⟩⟩⟩⟩
theorem drawn_of {r : List D} (h : r ∈ drawn) : ∃ s w f a l, r = [s, w, f, a, l] ∧ s ∈ [D.int 1, .int 2, .int 3] ∧ w ∈ [D.str "round", .str "fro", .str "step"] ∧ f ∈ [D.str "first", .str "last"] ∧ a ∈ [D.int 0, .int 2, .int 3, .int 4] ∧ l ∈ [D.str "on", .str "anew"] := by
  obtain ⟨s, h1, h⟩ := List.mem_flatMap.mp h
  obtain ⟨w, h2, h⟩ := List.mem_flatMap.mp h
  obtain ⟨f, h3, h⟩ := List.mem_flatMap.mp h
  obtain ⟨a, h4, h⟩ := List.mem_flatMap.mp h
  obtain ⟨l, h5, h⟩ := List.mem_map.mp h
  exact ⟨s, w, f, a, l, h.symm, h1, h2, h3, h4, h5⟩
theorem atI_in {α : Type} {xs : List α} {i : Int} (h0 : 0 ≤ i) (h1 : i < xs.length) : ∃ d, atI xs i = some d ∧ d ∈ xs := by
  have h2 : i.toNat < xs.length := by omega
  refine ⟨xs[i.toNat], ?_, List.getElem_mem h2⟩
  unfold atI ixN
  rw [if_pos h0, if_pos h1]
  exact List.getElem?_eq_getElem h2
theorem ix_draw {xs : List D} {i : Int} {Q : D → Prop} (h0 : 0 ≤ i) (h1 : i < xs.length) (h : ∀ d ∈ xs, Q d) : gIx (.lst xs) (.int i) Q := by
  obtain ⟨d, e, m⟩ := atI_in h0 h1
  exact ⟨d, e, h d m⟩
/-- a draw below a told number -/
theorem next_ok {b : Int} {Q : D → Prop} {R : DX} (hb : 0 < b) (hl : b < 2 ^ 200) (h : ∀ r, 0 ≤ r → r < b → Q (.int r)) : Fnext [.vol, .int b] Q R := by
  refine ⟨b, rfl, hb, ?_, h⟩
  have h1 : b.natAbs < 2 ^ 200 := by omega
  rcases Nat.eq_zero_or_pos b.natAbs with z | z
  · rw [z]; decide
  · have := (Nat.log2_lt (by omega)).mpr h1
    omega
def l1_rule : DA := dLst (dCons (dOp gAddU (dC (.int 1)) (dCall 2 Fnext (dCons (dVar 0) (dCons (dC (.int 3)) dNil)))) (dCons (dOp gIx (dL (dLst (dCons (dC (.str "round")) (dCons (dC (.str "fro")) (dCons (dC (.str "step")) dNil))))) (dCall 2 Fnext (dCons (dVar 0) (dCons (dC (.int 3)) dNil)))) (dCons (dOp gIx (dL (dLst (dCons (dC (.str "first")) (dCons (dC (.str "last")) dNil)))) (dCall 2 Fnext (dCons (dVar 0) (dCons (dC (.int 2)) dNil)))) dNil)))
def l2_rule : DA := dLst (dCons (dOp gIx (dL (dLst (dCons (dC (.int 0)) (dCons (dC (.int 2)) (dCons (dC (.int 3)) (dCons (dC (.int 4)) dNil)))))) (dCall 2 Fnext (dCons (dVar 0) (dCons (dC (.int 4)) dNil)))) (dCons (dOp gIx (dL (dLst (dCons (dC (.str "on")) (dCons (dC (.str "anew")) dNil)))) (dCall 2 Fnext (dCons (dVar 0) (dCons (dC (.int 2)) dNil)))) dNil))
def g_l_rule : DG := dSeq (dSet 1 (dL l1_rule)) (dRetL (dOpL gCatL (dVar 1) (dL l2_rule)))
def F_l_rule : Dh.DFL := fun ds Q _ => ds = [.vol] ∧ ∀ r ∈ drawn, Q r
theorem law_l_rule (ds : List D) (Q : List D → Prop) (R : DX) (h : F_l_rule ds Q R) : Dh.dDefL 2 g_l_rule ds Q R := by
  obtain ⟨rfl, q⟩ := h
  simp only [Dh.dDefL, dDef, dRet, dRetL, dSeq, dIfS, dTst, dNotB, dAndB, dOrB, dAndV, dOrV, dNotV, dNeg, dIf, dCB, dCBL, dCons, dNil, dStar, dVar, dC, dCall, dOp, dOpL, dTup, dLst, dL, dSet, dAsg, dPar, dOwn, dExpr, dNx, dFor, dWhile, dRng1, dRng2, dItL, dItT, dSlot, dProp, dMeth, dMk, dMk0, dRaise, dPart, dNoPart, dSlL, dSlT, dRevL, dgName, dgTup, dgSets, dOwnIx, dOwnLen, dOwnTup, dApp, dSetI, dRel, relE, dItZip, dItTab, dItEnK, dItEn, dIsS, dJoinG, dSplit, dFmt, dJs, dIsT2, dIndex, dCallS, dYes, wipeE, dXf, dIsX, List.map_cons, List.map_nil, List.cons_append, List.nil_append, List.append_nil, List.length_cons, List.length_nil, List.replicate_succ, List.replicate_zero, Nat.reduceAdd, Nat.reduceSub, List.getElem?_cons_zero, List.getElem?_cons_succ, List.set_cons_zero, List.set_cons_succ, Nat.zero_add, Nat.add_zero, Nat.sub_self, g_l_rule, l1_rule]
  refine ⟨trivial, next_ok (by decide) (by decide) fun r1 a1 b1 => .inl ?_⟩
  refine ⟨by decide, trivial, next_ok (by decide) (by decide) fun r2 a2 b2 => ?_⟩
  refine ix_draw a2 (by simpa using b2) fun w hw => ?_
  refine ⟨by decide, trivial, next_ok (by decide) (by decide) fun r3 a3 b3 => ?_⟩
  refine ix_draw a3 (by simpa using b3) fun f hf => ?_
  refine ⟨by decide, ?_⟩
  simp only [dDef, dRet, dRetL, dSeq, dIfS, dTst, dNotB, dAndB, dOrB, dAndV, dOrV, dNotV, dNeg, dIf, dCB, dCBL, dCons, dNil, dStar, dVar, dC, dCall, dOp, dOpL, dTup, dLst, dL, dSet, dAsg, dPar, dOwn, dExpr, dNx, dFor, dWhile, dRng1, dRng2, dItL, dItT, dSlot, dProp, dMeth, dMk, dMk0, dRaise, dPart, dNoPart, dSlL, dSlT, dRevL, dgName, dgTup, dgSets, dOwnIx, dOwnLen, dOwnTup, dApp, dSetI, dRel, relE, dItZip, dItTab, dItEnK, dItEn, dIsS, dJoinG, dSplit, dFmt, dJs, dIsT2, dIndex, dCallS, dYes, wipeE, dXf, dIsX, List.map_cons, List.map_nil, List.cons_append, List.nil_append, List.append_nil, List.length_cons, List.length_nil, List.replicate_succ, List.replicate_zero, Nat.reduceAdd, Nat.reduceSub, List.getElem?_cons_zero, List.getElem?_cons_succ, List.set_cons_zero, List.set_cons_succ, Nat.zero_add, Nat.add_zero, Nat.sub_self, l2_rule]
  refine ⟨by decide, trivial, next_ok (by decide) (by decide) fun r4 a4 b4 => ?_⟩
  refine ix_draw a4 (by simpa using b4) fun a ha => ?_
  refine ⟨by decide, trivial, next_ok (by decide) (by decide) fun r5 a5 b5 => ?_⟩
  refine ix_draw a5 (by simpa using b5) fun l hl => ?_
  refine ⟨by decide, ?_⟩
  refine ⟨(show 5 ≤ sizeLine by decide), q _ (drawn_mem ?_ hw hf ha hl)⟩
  have : r1 = 0 ∨ r1 = 1 ∨ r1 = 2 := by omega
  rcases this with rfl | rfl | rfl <;> simp
/-- Rule(t[0], .., t[4]) -/
def g_l_built (K : PySem.W.Frag) : DG := dRet (dCall 5 (F_Rule K) (dCons (dOp gIx (dVar 0) (dC (.int 0))) (dCons (dOp gIx (dVar 0) (dC (.int 1))) (dCons (dOp gIx (dVar 0) (dC (.int 2))) (dCons (dOp gIx (dVar 0) (dC (.int 3))) (dCons (dOp gIx (dVar 0) (dC (.int 4))) dNil))))))
def ruleD (K : PySem.W.Frag) (r : List D) : D := .obj (aR K) [.tup r]
def F_l_built (K : PySem.W.Frag) : DF := fun ds Q R => ∃ r, ds = [.lst r] ∧ F_Rule K r Q R
theorem rows5 {r : List D} (h : rows r = true) : ∃ a b c d e, r = [a, b, c, d, e] := by
  simp only [rows, Bool.and_eq_true, decide_eq_true_eq] at h
  match r, h.1 with
  | [a, b, c, d, e], _ => exact ⟨a, b, c, d, e, rfl⟩
theorem law_l_built (K : PySem.W.Frag) (ds : List D) (Q : D → Prop) (R : DX) (h : F_l_built K ds Q R) : dDef 1 (g_l_built K) ds Q R := by
  obtain ⟨r, rfl, hF⟩ := h
  obtain ⟨a, b, c, d, e, rfl⟩ := rows5 hF.1
  simp only [dDef, dRet, dRetL, dSeq, dIfS, dTst, dNotB, dAndB, dOrB, dAndV, dOrV, dNotV, dNeg, dIf, dCB, dCBL, dCons, dNil, dStar, dVar, dC, dCall, dOp, dOpL, dTup, dLst, dL, dSet, dAsg, dPar, dOwn, dExpr, dNx, dFor, dWhile, dRng1, dRng2, dItL, dItT, dSlot, dProp, dMeth, dMk, dMk0, dRaise, dPart, dNoPart, dSlL, dSlT, dRevL, dgName, dgTup, dgSets, dOwnIx, dOwnLen, dOwnTup, dApp, dSetI, dRel, relE, dItZip, dItTab, dItEnK, dItEn, dIsS, dJoinG, dSplit, dFmt, dJs, dIsT2, dIndex, dCallS, dYes, wipeE, dXf, dIsX, List.map_cons, List.map_nil, List.cons_append, List.nil_append, List.append_nil, List.length_cons, List.length_nil, List.replicate_succ, List.replicate_zero, Nat.reduceAdd, Nat.reduceSub, List.getElem?_cons_zero, List.getElem?_cons_succ, List.set_cons_zero, List.set_cons_succ, Nat.zero_add, Nat.add_zero, Nat.sub_self, g_l_built]
  exact ⟨a, rfl, b, rfl, c, rfl, d, rfl, e, rfl, trivial, hF⟩
theorem drawn_rows : ∀ r ∈ drawn, rows r = true ∧ badAt kvs_POINTS r = none := by
  have h : (drawn.all fun r => rows r && (badAt kvs_POINTS r).isNone) = true := by decide +kernel
  intro r hr
  have := List.all_eq_true.mp h r hr
  simp only [Bool.and_eq_true, Option.isNone_iff_eq_none] at this
  exact this
theorem F_Rule_ok {K : PySem.W.Frag} {r : List D} {Q : D → Prop} {R : DX} (h : r ∈ drawn) (q : Q (ruleD K r)) : F_Rule K r Q R := by
  obtain ⟨h1, h2⟩ := drawn_rows r h
  exact ⟨h1, by rw [h2]; exact q⟩
end Pr

set_option maxHeartbeats 4000000
/-! The classes of errors: made with and without fields. -/
namespace Pr
open PySem PySem.Spec PyProof.Rows L2 Dl Dv Dk Gx

/-- a class of errors with an __init__ of its own that stores its arguments -/
structure XI (P : Program) (w : World) (K : PySem.W.Frag) (mg : Str → Option Value) (base : Heap) (k : Nat) (x : Str) (C : Addr) (ns : List Str) : Prop where
  ex : ∃ fI fd ps, OexC K C ∧ PySem.W.findIn K (.ref C) "__init__" = some (some (.ref fI)) ∧ PySem.W.typeIn K (.ref fI) = some (.type "function") ∧ FnOk P w K mg base (L2.CX P w) k fI fd ps (spX C ns) ∧ Binds K fd ps [] ∧ mg x = some (.ref C)
structure X0 (K : PySem.W.Frag) (mg : Str → Option Value) (x : Str) (C : Addr) : Prop where
  q : PySem.W.excIn K C He.veBase "ValueError.__new__" = true
  g : mg x = some (.ref C)
  kp : PySem.W.keepIn K (.ref C) = true
  r1 : PySem.W.subIn K (.ref C) (.type "BaseException") = some true
  r2 : PySem.W.typeIn K (.ref C) = some (.type "type")
section
variable {X : Cx} {W : WX} {e : Expr} {es : List Expr} {pos p : Pos} {fs : DA} {x : Str} {C : Addr} {j k : Nat} {ns : List Str}
theorem XI.mk' (I : XI X.prog X.w X.K X.mg X.base k x C ns) (hr : Room (k + 1) X.A) (ha : PDA X W (e :: es) fs) (hn : ns.length ≤ 1000 := by decide) (hg : Gl X x := by rfl)
    (hdb : (x == ("__debug__" : Str)) = false := by decide) (he : starEach (e :: es) X.env = (false, eval e X.env) :: starEach es X.env := by rfl) (hpl : (backTo pos (starEach es X.env)).any (·.1) = false := by rfl) : PDM X W (.Call (.Name x p) (e :: es) [] pos) (dMk C ns fs) := by
  obtain ⟨fI, fd, ps, T, iC, tI, F1, hb, hm⟩ := I.ex
  exact pmd_oex T iC tI F1 hr hb (fun _ _ _ _ _ _ _ ⟨_, _, _, _, _, _, _, _, _, _, _, _, z⟩ => z.elim) hg hm ha hn hdb he hpl
theorem X0.mk' (I : X0 X.K X.mg x C) (hg : Gl X x := by rfl) (hdb : (x == ("__debug__" : Str)) = false := by decide) : PDM X W (.Call (.Name x p) [] [] pos) (dMk0 C) :=
  pmd_own0 PySem.F.excBase_ValueError I.q I.g I.kp (raises_own I.r1 I.r2) hg hdb
theorem nmOf {c : Addr} (h : X.mg x = some (.ref c)) (hg : Gl X x := by rfl) (hdb : (x == ("__debug__" : Str)) = false := by decide) : Names X x (.ref c) := ⟨hg, hdb, .inl h⟩
end
section
variable {P : Program} {w : World} {K : PySem.W.Frag} {mg : Str → Option Value} {base : Heap} {x qual : Str} {params : Arguments} {scope : Scope} {f : Addr} {fd : FuncData} {k : Nat} {C : Addr}
/-- def __init__(self, a): self.a = a -/
theorem initX1 {s1 : Stmt} {a self : Str} (FD : FunD K x qual params [s1] scope [] [] f fd) (S : FnScope [self, a] [self, a] scope) (T : OexC K C) (hno : PySem.W.findIn K (.ref C) a = some none)
    (hb : ∀ (cdv : Value) (A : Around) (outer : List Env) (s : Shared) (H : Hp) (E : XK), L2.PS (cxOf (L2.CX P w) P w K mg base [self, a] qual scope f cdv A outer s H E) s1 (tOst K a (tVar 0) (tVar 1))) :
    FnOk P w K mg base (L2.CX P w) (k + 1) f fd [self, a] (spX C [a]) := by
  refine FD.ok S (fun vs H Q E h => ?_) fun cdv A outer s H vs Q E hr h => ⟨_, pss_one (hb cdv A outer s H E), ?_⟩
  · obtain ⟨b, ys, H1, rfl, hl, _⟩ := h
    simp at hl ⊢
    exact hl
  · obtain ⟨b, ys, H1, rfl, hl, hn, rfl, q⟩ := h
    match ys, hl with
    | [y], _ =>
      refine ⟨y, rfl, .ref b, rfl, b, C, rfl, T, hno, .inl ⟨upd_same, fun dx hdx hne => ?_⟩⟩
      have hdx' : H1 dx = none := by rw [upd_ne hne] at hdx; exact hdx
      refine q dx _ hdx' hne upd_same ?_ (fun c h1 h2 => ?_)
      · rw [upd_ne hne, upd_same]
        rfl
      · rw [upd_ne h1, upd_ne h2, upd_ne h1]
/-- def __init__(self, a, b): self.a = a; self.b = b -/
theorem initX2 {s1 s2 : Stmt} {a b self : Str} (FD : FunD K x qual params [s1, s2] scope [] [] f fd) (S : FnScope [self, a, b] [self, a, b] scope) (T : OexC K C) (hno : PySem.W.findIn K (.ref C) a = some none) (hno2 : PySem.W.findIn K (.ref C) b = some none)
    (hb : ∀ (cdv : Value) (A : Around) (outer : List Env) (s : Shared) (H : Hp) (E : XK), L2.PS (cxOf (L2.CX P w) P w K mg base [self, a, b] qual scope f cdv A outer s H E) s1 (tOst K a (tVar 0) (tVar 1)) ∧ L2.PS (cxOf (L2.CX P w) P w K mg base [self, a, b] qual scope f cdv A outer s H E) s2 (tOst K b (tVar 0) (tVar 2))) :
    FnOk P w K mg base (L2.CX P w) (k + 1) f fd [self, a, b] (spX C [a, b]) := by
  refine FD.ok S (fun vs H Q E h => ?_) fun cdv A outer s H vs Q E hr h => ⟨_, pss_cons (hb cdv A outer s H E).1 (pss_one (hb cdv A outer s H E).2), ?_⟩
  · obtain ⟨b, ys, H1, rfl, hl, _⟩ := h
    simp at hl ⊢
    exact hl
  · obtain ⟨b', ys, H1, rfl, hl, hn, rfl, q⟩ := h
    match ys, hl with
    | [y, z], _ =>
      refine ⟨y, rfl, .ref b', rfl, b', C, rfl, T, hno, .inl ⟨upd_same, fun dx hdx hne => ?_⟩⟩
      have hdx' : H1 dx = none := by rw [upd_ne hne] at hdx; exact hdx
      refine ⟨z, rfl, .ref b', rfl, b', C, rfl, T, hno2, .inr ⟨dx, [(a, y)], upd_same, by rw [upd_ne hne, upd_same], (show 1 ≤ 900 by omega), ?_⟩⟩
      refine q dx _ hdx' hne (by rw [upd_ne (Ne.symm hne), upd_same]) upd_same (fun c h1 h2 => ?_)
      rw [upd_ne h2, upd_ne h1, upd_ne h2, upd_ne h1]
end
/-- isinstance(e, c), e the exception of a suite, whatever its class -/
def dIsY (K : PySem.W.Frag) (a : Addr) (cls : Value) (d : Option Addr) (c : Addr) (i : Nat) : DE := fun env Q R => ∃ D, cls = .ref D ∧ ExcC K D ∧ dIsX K a cls d c i env Q R
theorem isXU {X : Cx} {W : WX} {a c : Addr} {oe : Obj} {cls : Value} {d : Option Addr} {pn : List (Addr × Obj)} {x y : Str} {i : Nat} {p p1 p2 pos : Pos} (hz : Zc cls d oe) (hf : ∃ vs, oe.data = .fields vs) (he : L2.PE (X.suite a ((a, oe) :: pn)) (.Name x p1) (tVar i)) (hmi : X.mg "isinstance" = none) (hm : X.mg y = some (.ref c)) (hgi : Gl X "isinstance" := by rfl) (hg : Gl X y := by rfl) (hdb : (y == ("__debug__" : Str)) = false := by decide)
    (hs : starEach [.Name x p1, .Name y p2] X.env = (false, eval (.Name x p1) X.env) :: starEach [.Name y p2] X.env := by rfl) (hs2 : starEach [.Name y p2] X.env = (false, eval (.Name y p2) X.env) :: starEach [] X.env := by rfl)
    (hpl : (backTo pos (starEach [.Name y p2] X.env)).any (·.1) = false := by rfl) :
    PD (X.suite a ((a, oe) :: pn)) W (.Call (.Name "isinstance" p) [.Name x p1, .Name y p2] [] pos) (dIsY X.K a cls d c i) := by
  refine ⟨fun pins s σ H Q I ⟨Z, O, env, Q0, R0, at_, ⟨D, e, T, hf'⟩, xk, q⟩ => ?_⟩
  subst e
  exact (pd_isX (W := W) T hz hf he hgi hmi hg hm hdb hs hs2 hpl).run pins s σ H Q I ⟨Z, O, env, Q0, R0, at_, hf', xk, q⟩
end Pr

set_option maxHeartbeats 4000000
/-! Rule.__init__, over trees. -/
namespace Pr
open PySem PySem.Spec PyProof.Rows L2 Dl Dv Dk Gx
theorem badAt_flat : ∀ (kv : List (Str × List D)) (ds : List D), kv.length = ds.length → badAt kv ds = none → (∀ p ∈ kv, (toVs p.2).isSome = true) → (toVs ds).isSome = true
  | [], [], _, _, _ => rfl
  | [], _ :: _, h, _, _ => by simp at h
  | _ :: _, [], h, _, _ => by simp at h
  | (k, xs) :: kv, d :: ds, hl, hb, hk => by
    unfold badAt at hb
    cases ho : isOne d xs with
    | false => rw [ho] at hb; cases hb
    | true =>
      rw [ho] at hb
      have ih := badAt_flat kv ds (by simpa using hl) hb fun p hp => hk p (List.mem_cons_of_mem _ hp)
      obtain ⟨vs, hvs⟩ := Option.isSome_iff_exists.mp ih
      have hd : ∃ v, toV d = some v := by
        cases d <;> simp [isOne] at ho <;> exact ⟨_, rfl⟩
      obtain ⟨v, hv⟩ := hd
      unfold toVs
      rw [hv, hvs]
      rfl
theorem kvs_ok : ∀ p ∈ kvs_POINTS, kvs_POINTS.lookup p.1 = some p.2 ∧ (toVs p.2).isSome = true := by
  intro p hp
  simp only [kvs_POINTS, List.mem_cons, List.not_mem_nil, or_false] at hp
  rcases hp with rfl | rfl | rfl | rfl | rfl <;> exact ⟨by kernel_rfl, by kernel_rfl⟩
theorem names_eq : kvs_POINTS.map (·.1) = ks_POINTS := by simp only [kvs_POINTS, ks_POINTS, List.map_cons, List.map_nil]
theorem init_F (K : PySem.W.Frag) (y : Addr) (ds : List D) (Q : D → Prop) (R : DX) (h : F_Rule K ds Q R) :
    dSeq g1_init (g2_init K) (.val (.raw (.ref y)) :: (ds.map .val ++ List.replicate (9 - (ds.length + 1)) .un)) ⟨fun e => ∃ es, e[0]? = some (.val (.raw (.ref y))) ∧ e[6]? = some (.val (.tup es)) ∧ (toVs es).isSome = true ∧ Q (.obj (aR K) [.tup es]), fun _ => False, fun _ => False, fun _ => False, fun _ => False, fun x _ => R x⟩ := by
  obtain ⟨h1, h2⟩ := h
  obtain ⟨a, b, c, d, e, rfl⟩ := rows5 h1
  have hd : ∀ z ∈ [a, b, c, d, e], (dty z).isSome = true := by
    simp only [rows, Bool.and_eq_true] at h1
    exact fun z hz => List.all_eq_true.mp h1.2 z hz
  have hlen : ks_POINTS.length = [a, b, c, d, e].length := by simp only [ks_POINTS, List.length_cons, List.length_nil]
  have hl2 : kvs_POINTS.length = [a, b, c, d, e].length := by simp only [kvs_POINTS, List.length_cons, List.length_nil]
  have loop := fun (k : Kn) (hn : badAt kvs_POINTS [a, b, c, d, e] = none → ∀ s7 s8, k.nx [.val (.raw (.ref y)), .val a, .val b, .val c, .val d, .val e, .val (.tup [a, b, c, d, e]), s7, s8]) hx =>
    init_loop K (.val (.raw (.ref y))) (.val a) (.val b) (.val c) (.val d) (.val e) (.val (.tup [a, b, c, d, e])) k kvs_POINTS [a, b, c, d, e] [.val (.raw (.ref y)), .val a, .val b, .val c, .val d, .val e, .val (.tup [a, b, c, d, e]), .un, .un] ⟨.un, .un, rfl⟩ hl2 kvs_ok hd hn hx
  rw [names_eq] at loop
  generalize hz : zipD ks_POINTS [a, b, c, d, e] = zs at loop
  refine ⟨(show 5 ≤ sizeLine by decide), rfl, hlen, ?_⟩
  show dForL (dgTup [7, 8]) (gb_init K) (zipD ks_POINTS [a, b, c, d, e]) _ _
  rw [hz]
  refine loop _ (fun hb s7 s8 => ?_) (fun p hb env => ?_)
  · rw [hb] at h2
    exact ⟨[a, b, c, d, e], rfl, rfl, badAt_flat kvs_POINTS _ hl2 hb fun p hp => (kvs_ok p hp).2, h2⟩
  · rw [hb] at h2
    exact h2
end Pr

set_option maxHeartbeats 4000000
/-! More short names: subscripts by readings, built-ins over lists, list(range). -/
namespace Gx
open PySem PySem.Spec PyProof.Rows L2 Dl Dv Dk
section
variable {X : Cx} {W : WX} {pos pos' p p2 p3 apos tpos : Pos} {a b e e2 tg iter : Expr} {es : List Expr} {fa fb fe fi : DE} {fs : DA} {x y : Str} {j k n : Nat} {F : DF}
theorem px {ta tb : TE} (ha : L2.PE X a ta) (hb : L2.PE X b tb) (hs : PlainIx b := by exact fun _ _ => rfl) : L2.PE X (.Subscript a b pos) (tOp (rIx X.K) ta tb) := pe_ix ix_seq ha hb hs
theorem ds_retN : PDS X W (.Return none pos) (dRet (dC .non)) := PS.imp ps_retN fun D σ H ⟨Z, O, env, k, a, h, ko⟩ => ko.rt _ h O .non H (Le.refl _) a.good .non
theorem bMaxL (c : Cn X W j) (hm : X.mg "max" = none) (ha : PDA X W [e] fs) (hg : Gl X "max" := by rfl) (h1 : starEach [e] X.env = (false, eval e X.env) :: starEach [] X.env := by rfl) (h2 : (backTo pos (starEach [] X.env)).any (·.1) = false := by rfl) : PD X W (.Call (.Name "max" p) [e] [] pos) (dCB gMaxL fs) := pd_callB (cr_max c.hc) cd_maxL hg hm (by kernel_rfl) ha (by decide) (by decide) h1 h2
theorem bMinL (c : Cn X W j) (hm : X.mg "min" = none) (ha : PDA X W [e] fs) (hg : Gl X "min" := by rfl) (h1 : starEach [e] X.env = (false, eval e X.env) :: starEach [] X.env := by rfl) (h2 : (backTo pos (starEach [] X.env)).any (·.1) = false := by rfl) : PD X W (.Call (.Name "min" p) [e] [] pos) (dCB gMinL fs) := pd_callB (cr_min c.hc) cd_minL hg hm (by kernel_rfl) ha (by decide) (by decide) h1 h2
theorem bSumL (c : Cn X W j) (hm : X.mg "sum" = none) (ha : PDA X W [e] fs) (hg : Gl X "sum" := by rfl) (h1 : starEach [e] X.env = (false, eval e X.env) :: starEach [] X.env := by rfl) (h2 : (backTo pos (starEach [] X.env)).any (·.1) = false := by rfl) : PD X W (.Call (.Name "sum" p) [e] [] pos) (dCB gSumL fs) := pd_callB (cr_sum c.hc) cd_sumL hg hm (by kernel_rfl) ha (by decide) (by decide) h1 h2
theorem bAll (c : Cn X W j) (hm : X.mg "all" = none) (ha : PDA X W [e] fs) (hg : Gl X "all" := by rfl) (h1 : starEach [e] X.env = (false, eval e X.env) :: starEach [] X.env := by rfl) (h2 : (backTo pos (starEach [] X.env)).any (·.1) = false := by rfl) : PD X W (.Call (.Name "all" p) [e] [] pos) (dCB gAll fs) := pd_callB (cr_all c.hc) cd_all hg hm (by kernel_rfl) ha (by decide) (by decide) h1 h2
theorem call_strU : CallR X (.type "str") (fun xs H Q => (∃ i, xs = [V.int i] ∧ i.natAbs.log2 < 1920 ∧ Q (.str (toString i)) H) ∨ ∃ a, xs = [V.str a] ∧ Q (.str a) H) := fun pins s σ H xs us Q I r h => h.elim (call_str_int pins s σ H xs us Q I r) (SkE.call_str_str pins s σ H xs us Q I r)
theorem bTabS {d : Addr} {ks : List Str} (c : Cn X W j) (T : KTab X.K X.w d ks n) (hs : ks.length < 64) (hm : X.mg "sorted" = none) (ha : PDA X W [e] fs) (hg : Gl X "sorted" := by rfl) (h1 : starEach [e] X.env = (false, eval e X.env) :: starEach [] X.env := by rfl) (h2 : (backTo pos (starEach [] X.env)).any (·.1) = false := by rfl) : PDL X W (.Call (.Name "sorted" p) [e] [] pos) (dCBL (gTabS d ks) fs) := pdl_callB (call_tabS T hs c.hc) cdl_tabS hg hm (by kernel_rfl) ha (by decide) (by decide) h1 h2
/-- list(range(..)) -/
def rgD (a b : Int) : List D := (List.range (b - a).toNat).map fun i : Nat => .int (a + (i : Int))
theorem rg_rep {K : PySem.W.Frag} {vl : Option (Addr × Addr)} {G : Hp} (a b : Int) : Reps K vl G (rgV a b) (rgD a b) := by
  unfold rgV rgD
  generalize List.range (b - a).toNat = l
  induction l with
  | nil => exact .nil
  | cons i l ih => exact .cons _ _ _ _ (.int _) ih
def dListR1 (f : DE) : DA := fun env Q R => f env (fun d => match d with
  | .int n => RgOk 0 n ∧ Q (rgD 0 n)
  | _ => False) R
def dListR2 (f g : DE) : DA := fun env Q R => f env (fun d => g env (fun e => match d, e with
  | .int m, .int n => RgOk m n ∧ Q (rgD m n)
  | _, _ => False) R) R
theorem bListR1 (c : Cn X W j) (hl : X.mg "list" = none) (hm : X.mg "range" = none) (ha : PD X W a fa) (hg : Gl X "range" := by rfl) (hgl : Gl X "list" := by rfl) (h1 : starEach [a] X.env = (false, eval a X.env) :: starEach [] X.env := by rfl) (h2 : (backTo p2 (starEach [] X.env)).any (·.1) = false := by rfl)
    (h3 : starEach [.Call (.Name "range" p) [a] [] p2] X.env = (false, eval (.Call (.Name "range" p) [a] [] p2) X.env) :: starEach [] X.env := by rfl) : PDL X W (.Call (.Name "list" p3) [.Call (.Name "range" p) [a] [] p2] [] pos) (dListR1 fa) :=
  PE.imp (pe_listRg c.hc hgl hl (prg_1 hg hm ha h1) h3) fun σ H Q ⟨Z, O, env, Q0, R0, at_, hf, xk, q⟩ => DT.mk at_ hf xk fun d hd v H1 s r => by
    cases d <;> first | exact False.elim hd | skip
    cases r
    exact ⟨_, rfl, hd.1, fun l hl => q _ hd.2 l _ H1 s hl (rg_rep _ _)⟩
end
end Gx

set_option maxHeartbeats 4000000
/-! Facts of the written part, looked at by a Bool: classes with slots, properties, == of one's own, errors with fields, the table's values. -/
namespace Hd
open PySem PySem.Spec PyProof.Rows L2 He Dl Dv Dk Pr

def six : List String := ["NoneType", "bool", "int", "str", "tuple", "list"]
/-- the getter of a property -/
def gAd (K : PySem.W.Frag) (C : Addr) (f : Str) : Addr := match PySem.W.recIn K (ma K C f) "property" with
  | some (.ref g :: _) => g
  | _ => 0
inductive Fx where
  | fa (f : Fa)
  | scls (x : Str)
  | slot (x f : Str) (i : Nat)
  | kit (x : Str)
  | prop (x f : Str)
  | eq (x : Str)
  | oex (x : Str)
  | xf (x : Str)
  | exc (x : Str)
  | kitx (x y : Str) (b : Bool)
  | kitt (x : Str) (t : String) (b : Bool)
  | tabv (kvs : List (Str × List D))
  | dfn (x : Str)
  | kits (xs : List Str)
def oexB (K : PySem.W.Frag) (C : Addr) : Bool := (match K.lookup C with
  | some ⟨.type "type", _, .cls cd, sl⟩ => (match cd.mro, sl.toList with
    | .ref C' :: bm, [_, _, _, _, some (.builtin n), _] => C' == C && (n == "ValueError.__new__" && (!cd.hasDel && (cd.hasDict && PySem.HandSPX.refsVE bm)))
    | _, _ => false)
  | _ => false) && (eqO (PySem.W.findIn K (.ref C) "__setattr__") (some (some (.builtin "object.__setattr__"))) && (decide (PySem.W.subIn K (.ref C) (.type "BaseException") = some true) && (decide (PySem.W.typeIn K (.ref C) = some (.type "type")) && PySem.W.keepIn K (.ref C))))
theorem oexB_ok {K : PySem.W.Frag} {C : Addr} (h : oexB K C = true) : OexC K C := by
  obtain ⟨q, h⟩ := ba h
  obtain ⟨h1, h⟩ := ba h
  obtain ⟨h2, h⟩ := ba h
  obtain ⟨h3, h4⟩ := ba h
  refine ⟨?_, eqO_ok h1, of_decide_eq_true h2, of_decide_eq_true h3, h4⟩
  split at q
  · rename_i dd cd sl ho
    split at q
    · rename_i C' bm k0 k1 k2 k3 n k5 hm hs
      simp only [Bool.and_eq_true, beq_iff_eq, Bool.not_eq_true'] at q
      obtain ⟨rfl, rfl, hdel, hdi, ht⟩ := q
      obtain ⟨nm, bs, mro, ns, qn, hd, sn, sub, ab, col, del⟩ := cd
      dsimp only at hm hdel hdi
      subst hm hdel hdi
      have hsl : sl = #[k0, k1, k2, k3, some (.builtin "ValueError.__new__"), k5] := by
        obtain ⟨l⟩ := sl
        simp only at hs
        rw [hs]
      subst hsl
      exact ⟨_, _, _, _, _, _, _, _, _, _, _, _, _, _, _, ho, ht⟩
    · cases q
  · cases q
def tupA (K : PySem.W.Frag) (a : Addr) (vs : List V) : Bool := match K.lookup a with
  | some ⟨.type c, _, .seq its _, _⟩ => decide (c = "tuple") && (decide (its.size ≤ sizeLine) && relAll vs its.toList)
  | _ => false
theorem tupA_ok {K : PySem.W.Frag} {a : Addr} {vs : List V} (h : tupA K a vs = true) (H : Hp) : SqT K H a vs := by
  unfold tupA at h
  cases q : K.lookup a with
  | none => rw [q] at h; cases h
  | some o =>
    obtain ⟨oc, od, dt, osl⟩ := o
    rw [q] at h
    cases oc with
    | type c =>
      cases dt with
      | seq its n =>
        obtain ⟨h1, h2⟩ := ba (show (decide (c = "tuple") && (decide (its.size ≤ sizeLine) && relAll vs its.toList)) = true from h)
        obtain ⟨h3, h4⟩ := ba h2
        exact .inr ⟨_, its, n, q, congrArg Value.type (of_decide_eq_true h1), rfl, of_decide_eq_true h3, relAll_ok h4⟩
      | _ => cases h
    | _ => cases dt <;> cases h
def tabvB (K : PySem.W.Frag) (a : Addr) (kvs : List (Str × List D)) : Bool := kvs.all fun p => (match PySem.W.nsIn K a p.1, toVs p.2 with
  | some (some (.ref b)), some vs => tupA K b vs
  | _, _ => false)
theorem lookup_mem {α : Type} {z : Str} {v : α} : ∀ {l : List (Str × α)}, l.lookup z = some v → (z, v) ∈ l
  | [], h => by cases h
  | (k, u) :: r, h => by
    by_cases e : z = k
    · subst e
      rw [List.lookup_cons_self] at h
      cases h
      exact List.mem_cons_self
    · have e2 : (z == k) = false := by simpa using e
      rw [List.lookup_cons, e2] at h
      exact List.mem_cons_of_mem _ (lookup_mem h)
theorem tabv_ok {K : PySem.W.Frag} {w : World} {a : Addr} {kvs : List (Str × List D)} (h : tabvB K a kvs = true) (ht : dicW K a = some (keysIn w.params (kvs.map (·.1)))) (nd : (kvs.map (·.1)).Nodup) : TabV K w a kvs := by
  refine ⟨ktab_of ht nd, fun z ds hz => ?_⟩
  obtain ⟨es, n, KD⟩ := dicW_ok ht
  have h2 := List.all_eq_true.mp h _ (lookup_mem hz)
  dsimp only at h2
  split at h2
  · rename_i b vs e1 e2
    exact ⟨b, ⟨es, n, .ref b, KD.at_, KD.lit, e1, rfl⟩, fun vl G => .tup b vs ds (tupA_ok h2 G) (reps_flat e2)⟩
  · cases h2
def Fx.ok (K : PySem.W.Frag) : Fx → Bool
  | .fa f => f.ok K
  | .scls x => PySem.W.plainGet K (ga K x) Str.empty && (PySem.W.isClsIn K (ga K x) && (PySem.W.plainOver K (ga K x) && (eqO (PySem.W.findIn K (.ref (ga K x)) "__setattr__") (some (some (.builtin "object.__setattr__"))) &&
      (eqO (PySem.W.findIn K (.ref (ga K x)) "__class__") (some (some (.builtin "object.__class__"))) && (eqO (PySem.W.specialIn K (.builtin "object.__class__") "__get__") (some (some (.builtin "getset_descriptor.__get__"))) &&
        (decide (PySem.W.takesIn K (.builtin "object.__class__") = some true) && decide (PySem.W.mroIn K (ga K x) (.type "object") = some true)))))))
  | .slot x f i => eqO (PySem.W.findIn K (.ref (ga K x)) f) (some (some (.ref (ma K (ga K x) f)))) && (eqO (PySem.W.specialIn K (.ref (ma K (ga K x) f)) "__get__") (some (some (.builtin "member_descriptor.__get__"))) &&
      (decide (PySem.W.takesIn K (.ref (ma K (ga K x) f)) = some true) && (decide (PySem.W.typeIn K (.ref (ma K (ga K x) f)) = some (.type "member_descriptor")) && (decide (PySem.W.slotIn K (ma K (ga K x) f) (ga K x) = some i) && decide (i < 1000)))))
  | .kit x => six.all fun t => decide (PySem.W.kitOne K (.type t) (.ref (ga K x)) = some false)
  | .prop x f => eqO (PySem.W.findIn K (.ref (ga K x)) f) (some (some (.ref (ma K (ga K x) f)))) && (eqO (PySem.W.specialIn K (.ref (ma K (ga K x) f)) "__get__") (some (some (.builtin "property.__get__"))) &&
      (decide (PySem.W.takesIn K (.ref (ma K (ga K x) f)) = some true) && (match PySem.W.recIn K (ma K (ga K x) f) "property" with | some (.ref _ :: _) => true | _ => false)))
  | .eq x => eqO (PySem.W.findIn K (.ref (ga K x)) "__eq__") (some (some (.ref (ma K (ga K x) "__eq__")))) && (PySem.W.isFn K (.ref (ma K (ga K x) "__eq__")) && six.all fun t => PySem.W.notFirst K (ga K x) (.type t))
  | .oex x => oexB K (ga K x) && (eqO (PySem.W.findIn K (.ref (ga K x)) "__init__") (some (some (.ref (ma K (ga K x) "__init__")))) && decide (PySem.W.typeIn K (.ref (ma K (ga K x) "__init__")) = some (.type "function")))
  | .xf x => xfB K (ga K x)
  | .exc x => eqO (PySem.W.findIn K (.ref (ga K x)) "__getattribute__") (some (some (.builtin "BaseException.__getattribute__"))) && (eqO (PySem.W.findIn K (.ref (ga K x)) "__getattr__") (some none) &&
      (decide (PySem.W.subIn K (.ref (ga K x)) (.type "BaseException") = some true) && (PySem.W.hasDictIn K (ga K x) && (eqO (PySem.W.findIn K (.ref (ga K x)) "__class__") (some (some (.builtin "object.__class__"))) &&
        (eqO (PySem.W.specialIn K (.builtin "object.__class__") "__get__") (some (some (.builtin "getset_descriptor.__get__"))) && (decide (PySem.W.takesIn K (.builtin "object.__class__") = some true) && decide (PySem.W.mroIn K (ga K x) (.type "object") = some true)))))))
  | .kitx x y b => decide (PySem.W.kitOne K (.ref (ga K x)) (.ref (ga K y)) = some b)
  | .kitt x t b => decide (PySem.W.kitOne K (.ref (ga K x)) (.type t) = some b)
  | .tabv kvs => tabvB K (aP K) kvs
  | .dfn x => PySem.W.isFn K (.ref (ga K x))
  | .kits xs => xs.all fun x => xs.all fun y => decide (PySem.W.kitOne K (.ref (ga K x)) (.ref (ga K y)) = some (x == y))
section
variable {K : PySem.W.Frag} {x y f : Str}
theorem scls_ok (h : (Fx.scls x).ok K = true) : SlX.SCls K (ga K x) ∧ SlX.SIsi K (ga K x) := by
  obtain ⟨h1, h⟩ := ba h
  obtain ⟨h2, h⟩ := ba h
  obtain ⟨h3, h⟩ := ba h
  obtain ⟨h4, h⟩ := ba h
  obtain ⟨h5, h⟩ := ba h
  obtain ⟨h6, h⟩ := ba h
  obtain ⟨h7, h8⟩ := ba h
  exact ⟨⟨h1, h2, h3, eqO_ok h4⟩, ⟨eqO_ok h5, eqO_ok h6, of_decide_eq_true h7, of_decide_eq_true h8⟩⟩
theorem slot_ok {i : Nat} (h : (Fx.slot x f i).ok K = true) : SlX.Slot1 K (ga K x) f (ma K (ga K x) f) i := by
  obtain ⟨h1, h⟩ := ba h
  obtain ⟨h2, h⟩ := ba h
  obtain ⟨h3, h⟩ := ba h
  obtain ⟨h4, h⟩ := ba h
  obtain ⟨h5, h6⟩ := ba h
  exact ⟨eqO_ok h1, eqO_ok h2, of_decide_eq_true h3, of_decide_eq_true h4, of_decide_eq_true h5, of_decide_eq_true h6⟩
theorem kit_ok (h : (Fx.kit x).ok K = true) : ∀ t, t ∈ six → PySem.W.kitOne K (.type t) (.ref (ga K x)) = some false := fun t ht => of_decide_eq_true (List.all_eq_true.mp h t ht)
theorem ruc_ok (h1 : (Fx.scls "Rule").ok K = true) (h2 : (Fx.slot "Rule" "row" 0).ok K = true) (h3 : (Fx.kit "Rule").ok K = true) : RuC K := ⟨(scls_ok h1).1, (scls_ok h1).2, ⟨_, slot_ok h2⟩, kit_ok h3⟩
theorem exc_ok' (h : (Fx.exc x).ok K = true) : ExcC K (ga K x) := by
  obtain ⟨h1, h⟩ := ba h
  obtain ⟨h2, h⟩ := ba h
  obtain ⟨h3, h⟩ := ba h
  obtain ⟨h4, h⟩ := ba h
  obtain ⟨h5, h⟩ := ba h
  obtain ⟨h6, h⟩ := ba h
  obtain ⟨h7, h8⟩ := ba h
  exact ⟨eqO_ok h1, eqO_ok h2, of_decide_eq_true h3, h4, eqO_ok h5, eqO_ok h6, of_decide_eq_true h7, of_decide_eq_true h8⟩
theorem kitx_ok {b : Bool} (h : (Fx.kitx x y b).ok K = true) : PySem.W.kitOne K (.ref (ga K x)) (.ref (ga K y)) = some b := of_decide_eq_true h
theorem kitt_ok {t : String} {b : Bool} (h : (Fx.kitt x t b).ok K = true) : PySem.W.kitOne K (.ref (ga K x)) (.type t) = some b := of_decide_eq_true h
theorem kits_ok {xs : List Str} (h : (Fx.kits xs).ok K = true) : ∀ x ∈ xs, ∀ y ∈ xs, PySem.W.kitOne K (.ref (ga K x)) (.ref (ga K y)) = some (x == y) := fun x hx y hy => of_decide_eq_true (List.all_eq_true.mp (List.all_eq_true.mp h x hx) y hy)
theorem xf_ok (h : (Fx.xf x).ok K = true) : XfC K (ga K x) := xfB_ok h
variable {P : Program} {w : World} {mg : Str → Option Value} {base : Heap} {k n : Nat} {fd : FuncData} {ps : List Str} {F G : DF}
theorem raw0 {f : Addr} {sp : Sp} (O : FnOk P w K mg base (L2.CX P w) k f fd ps sp) (hb : Binds K fd ps []) : FnR P w K mg base (L2.CX P w) k f sp := (O.raw hb .nil).imp fun vs H Q E h => by rw [List.append_nil]; exact h
/-- a def of the top: called by its name -/
theorem cal_ok {f : Addr} (O : FnOk P w K mg base (L2.CX P w) k f fd ps (spD K n G)) (h : ∀ ds Q R, F ds Q R → G ds Q R) (hm : mg x = some (.ref f)) (kp : PySem.W.keepIn K (.ref f) = true) (hb : Binds K fd ps []) : Cal P w K mg base k x n F :=
  ⟨f, fd, ps, O.imp (spD_imp h), hm, kp, hb⟩
theorem calL_ok {f : Addr} {F G : Dh.DFL} (O : FnOk P w K mg base (L2.CX P w) k f fd ps (Dh.spL K n G)) (h : ∀ ds Q R, F ds Q R → G ds Q R) (hm : mg x = some (.ref f)) (kp : PySem.W.keepIn K (.ref f) = true) (hb : Binds K fd ps []) : Dh.CalL P w K mg base k x n F :=
  ⟨f, fd, ps, O.imp (Dh.spL_imp h), hm, kp, hb⟩
theorem prop_ok (h : (Fx.prop x f).ok K = true) (sc : SlX.SCls K (ga K x)) (O : FnOk P w K mg base (L2.CX P w) k (gAd K (ga K x) f) fd ps (spD K 1 G)) (hF : ∀ ds Q R, F ds Q R → G ds Q R) (hb : Binds K fd ps []) : PrC P w K mg base k (ga K x) f F := by
  obtain ⟨h1, h⟩ := ba h
  obtain ⟨h2, h⟩ := ba h
  obtain ⟨h3, h4⟩ := ba h
  split at h4
  · rename_i g rest e
    have eg : gAd K (ga K x) f = g := by unfold gAd; rw [e]
    rw [eg] at O
    exact ⟨_, g, rest, (raw0 O hb).imp (spD_imp hF), sc, eqO_ok h1, eqO_ok h2, of_decide_eq_true h3, e⟩
  · cases h4
theorem eq_ok (h : (Fx.eq x).ok K = true) (O : FnOk P w K mg base (L2.CX P w) k (ma K (ga K x) "__eq__") fd ps (spD K 2 G)) (hF : ∀ ds Q R, F ds Q R → G ds Q R) (hb : Binds K fd ps []) : EqC P w K mg base k (ga K x) F := by
  obtain ⟨h1, h⟩ := ba h
  obtain ⟨h2, h3⟩ := ba h
  exact ⟨⟨_, (raw0 O hb).imp (spD_imp hF), eqO_ok h1, h2⟩, fun t ht => List.all_eq_true.mp h3 t ht⟩
theorem oex_ok {ns : List Str} (h : (Fx.oex x).ok K = true) (O : FnOk P w K mg base (L2.CX P w) k (ma K (ga K x) "__init__") fd ps (spX (ga K x) ns)) (hb : Binds K fd ps []) (hm : mg x = some (.ref (ga K x))) : XI P w K mg base k x (ga K x) ns := by
  obtain ⟨h1, h⟩ := ba h
  obtain ⟨h2, h3⟩ := ba h
  exact ⟨_, fd, ps, oexB_ok h1, eqO_ok h2, of_decide_eq_true h3, O, hb, hm⟩
theorem oexc_ok (h : (Fx.oex x).ok K = true) : OexC K (ga K x) := oexB_ok (ba h).1
theorem x0_ok (h : (Fx.fa (.exc x)).ok K = true) (hm : mg x = some (.ref (ga K x))) : X0 K mg x (ga K x) := by
  obtain ⟨h1, h2, h3, h4⟩ := He.exc_ok h
  exact ⟨h1, hm, h2, h3, h4⟩
theorem meth_ok' {m : Str} (h : (Fx.fa (.meth x m)).ok K = true) (sc : SlX.SCls K (ga K x)) (O : FnOk P w K mg base (L2.CX P w) k (ma K (ga K x) m) fd ps (spD K n G)) (hF : ∀ ds Q R, F ds Q R → G ds Q R) (hb : Binds K fd ps []) : MeC P w K mg base k (ga K x) m n F :=
  ⟨_, (raw0 O hb).imp (spD_imp hF), He.meth_ok h, sc⟩
theorem mkc_ok (h : (Fx.fa (.mkr x)).ok K = true) (O : FnOk P w K mg base (L2.CX P w) k (ma K (ga K x) "__init__") fd ps (spI K (ga K x) n F)) (hb : Binds K fd ps []) (hm : mg x = some (.ref (ga K x))) : MkC P w K mg base k x (ga K x) n F :=
  ⟨_, raw0 O hb, He.mkr_ok h, hm⟩
end
/-- all facts at once -/
def exAll (fx : List Fx) (K : PySem.W.Frag) : Bool := fx.all fun f => f.ok K
theorem ex_at {fx : List Fx} {K : PySem.W.Frag} (h : exAll fx K = true) {f : Fx} (hf : f ∈ fx) : f.ok K = true := List.all_eq_true.mp h f hf
theorem ex_ix {fx : List Fx} {K : PySem.W.Frag} (h : exAll fx K = true) (i : Nat) {f : Fx} (hf : fx[i]? = some f := by rfl) : f.ok K = true := List.all_eq_true.mp h f (List.mem_of_getElem? hf)
theorem bits_lt {z : Int} {n : Nat} (h : Builtin.Int.intBits z ≤ n) : z.natAbs < 2 ^ n := by
  unfold Builtin.Int.intBits at h
  by_cases e : z = 0
  · subst e
    exact Nat.two_pow_pos n
  · have e1 : (z == 0) = false := by simpa using e
    rw [e1] at h
    have h2 : z.natAbs.log2 < n := by simp at h; omega
    exact (Nat.log2_lt (by omega)).mp h2
end Hd

set_option maxHeartbeats 4000000
/-! The dealing, in plain numbers: turns, shares, lots; that the closed forms count. -/
namespace Ma
inductive Way where
  | fro | round | step
  deriving DecidableEq
structure Ru where
  s : Int
  w : Way
  f : Bool
  a : Int
  l : Bool
structure Ru.Ok (r : Ru) : Prop where
  s : r.s = 1 ∨ r.s = 2 ∨ r.s = 3
  a : r.a = 0 ∨ r.a = 2 ∨ r.a = 3 ∨ r.a = 4
structure Mo (m : Int) : Prop where
  lo : 2 ≤ m
  hi : m ≤ 12
theorem Mo.cases {m : Int} (h : Mo m) : m = 2 ∨ m = 3 ∨ m = 4 ∨ m = 5 ∨ m = 6 ∨ m = 7 ∨ m = 8 ∨ m = 9 ∨ m = 10 ∨ m = 11 ∨ m = 12 := by
  have := h.lo; have := h.hi; omega
def mir (r : Ru) (m p : Int) : Int := if r.f = true then p else m - 1 - p
def placeIn (r : Ru) (m turns p : Int) : Int := match r.w with
  | .fro => if turns % 2 = 0 then mir r m p else m - 1 - mir r m p
  | .step => (mir r m p - turns) % m
  | .round => mir r m p
def placeAt (r : Ru) (m turns place : Int) : Int := match r.w with
  | .fro => if turns % 2 = 1 then m - 1 - place else place
  | .step => (place + turns) % m
  | .round => place
def personAt (r : Ru) (m turn : Int) : Int := mir r m (placeAt r m (turn / m) (turn % m))
def turnsOf (r : Ru) (m p many : Int) : Int := many / m + if placeIn r m (many / m) p < many % m then 1 else 0
def share (r : Ru) (m p b c : Int) : Int := r.s * (turnsOf r m p (b + c / r.s) - turnsOf r m p b) + if personAt r m (b + c / r.s) = p then c % r.s else 0
def many (r : Ru) (n : Int) : Int := if 0 < r.a then n / r.a else 0
def main (r : Ru) (n : Int) : Int := n - many r n
def begin_ (r : Ru) (n : Int) : Int := if r.l = true then -(-(main r n) / r.s) else 0
def ownLot (r : Ru) (m n p : Int) : Int := share r m p 0 (main r n) + share r m p (begin_ r n) (many r n)
def turnOf (r : Ru) (n spot : Int) : Int := if spot < main r n then spot / r.s else begin_ r n + (spot - main r n) / r.s
def personOf (r : Ru) (m n spot : Int) : Int := personAt r m (turnOf r n spot)
def spotOf (r : Ru) (n thing : Int) : Int := if r.a = 0 then thing else if (thing + 1) % r.a = 0 then main r n + (thing + 1) / r.a - 1 else thing - thing / r.a
def thingAt (r : Ru) (n spot : Int) : Int := if main r n ≤ spot then (spot - main r n + 1) * r.a - 1 else if 0 < r.a then spot + spot / (r.a - 1) else spot
/-! ### where one sits -/
theorem mir_mir (r : Ru) (m p : Int) : mir r m (mir r m p) = p := by
  unfold mir; split <;> omega
theorem mir_range {r : Ru} {m p : Int} (h0 : 0 ≤ p) (h1 : p < m) : 0 ≤ mir r m p ∧ mir r m p < m := by
  unfold mir; split <;> omega
theorem placeAt_range {r : Ru} {m j i : Int} (hm : Mo m) (h0 : 0 ≤ i) (h1 : i < m) : 0 ≤ placeAt r m j i ∧ placeAt r m j i < m := by
  have := hm.lo
  unfold placeAt
  split
  · split <;> omega
  · exact ⟨Int.emod_nonneg _ (by omega), Int.emod_lt_of_pos _ (by omega)⟩
  · exact ⟨h0, h1⟩
theorem placeIn_range {r : Ru} {m j p : Int} (hm : Mo m) (h0 : 0 ≤ p) (h1 : p < m) : 0 ≤ placeIn r m j p ∧ placeIn r m j p < m := by
  have := hm.lo
  obtain ⟨f0, f1⟩ := mir_range (r := r) h0 h1
  unfold placeIn
  split
  · split <;> omega
  · exact ⟨Int.emod_nonneg _ (by omega), Int.emod_lt_of_pos _ (by omega)⟩
  · exact ⟨f0, f1⟩
theorem personAt_range {r : Ru} {m t : Int} (hm : Mo m) : 0 ≤ personAt r m t ∧ personAt r m t < m := by
  have := hm.lo
  have h := placeAt_range (r := r) (j := t / m) hm (Int.emod_nonneg t (show m ≠ 0 by omega)) (Int.emod_lt_of_pos t (show 0 < m by omega))
  exact mir_range h.1 h.2
theorem step_inv {m i j q : Int} (hm : Mo m) (i0 : 0 ≤ i) (i1 : i < m) (q0 : 0 ≤ q) (q1 : q < m) : (i + j) % m = q ↔ (q - j) % m = i := by
  rcases hm.cases with h | h | h | h | h | h | h | h | h | h | h <;> subst h <;> omega
theorem place_iff {r : Ru} {m i j p : Int} (hm : Mo m) (i0 : 0 ≤ i) (i1 : i < m) (p0 : 0 ≤ p) (p1 : p < m) : mir r m (placeAt r m j i) = p ↔ placeIn r m j p = i := by
  obtain ⟨f0, f1⟩ := mir_range (r := r) p0 p1
  have e : mir r m (placeAt r m j i) = p ↔ placeAt r m j i = mir r m p := ⟨fun h => by rw [← h, mir_mir], fun h => by rw [h, mir_mir]⟩
  rw [e]
  unfold placeAt placeIn
  cases r.w with
  | fro =>
    dsimp only
    by_cases h : j % 2 = 1
    · rw [if_pos h, if_neg (by omega)]; omega
    · rw [if_neg h, if_pos (by omega)]; omega
  | step => exact step_inv hm i0 i1 f0 f1
  | round => exact ⟨fun h => h.symm, fun h => h.symm⟩
/-! ### counting -/
def ind (b : Prop) [Decidable b] : Int := if b then 1 else 0
def cnt (g : Nat → Int) (p : Int) : Nat → Int
  | 0 => 0
  | n + 1 => cnt g p n + if g n = p then 1 else 0
theorem cnt_congr {g h : Nat → Int} {p : Int} : ∀ {n : Nat}, (∀ i, i < n → g i = h i) → cnt g p n = cnt h p n
  | 0, _ => rfl
  | n + 1, e => by
    unfold cnt
    rw [cnt_congr fun i hi => e i (by omega), e n (by omega)]
theorem cnt_add (g : Nat → Int) (p : Int) (a : Nat) : ∀ b, cnt g p (a + b) = cnt g p a + cnt (fun k => g (a + k)) p b
  | 0 => by simp [cnt]
  | b + 1 => by
    show cnt g p (a + b) + _ = _
    rw [cnt_add g p a b]
    show _ = _ + (cnt (fun k => g (a + k)) p b + _)
    rw [Int.add_assoc]
    rfl
theorem divmod {x m : Int} (h : 0 < m) : x = m * (x / m) + x % m ∧ 0 ≤ x % m ∧ x % m < m := ⟨(Int.mul_ediv_add_emod x m).symm, Int.emod_nonneg _ (by omega), Int.emod_lt_of_pos _ h⟩
/-- one more: in the round, or the next one -/
theorem succ_div {x m : Int} (h : 0 < m) : (x % m + 1 < m ∧ (x + 1) / m = x / m ∧ (x + 1) % m = x % m + 1) ∨ (x % m = m - 1 ∧ (x + 1) / m = x / m + 1 ∧ (x + 1) % m = 0) := by
  obtain ⟨e, h0, h1⟩ := divmod (x := x) h
  by_cases c : x % m + 1 < m
  · left
    refine ⟨c, ?_⟩
    have : (x + 1) / m = x / m ∧ (x + 1) % m = x % m + 1 := by
      have := (Int.ediv_emod_unique (a := x + 1) (b := m) (q := x / m) (r := x % m + 1) h).mpr ⟨by omega, by omega, c⟩
      exact this
    exact this
  · right
    have e2 : x % m = m - 1 := by omega
    refine ⟨e2, ?_⟩
    have := (Int.ediv_emod_unique (a := x + 1) (b := m) (q := x / m + 1) (r := 0) h).mpr ⟨by rw [Int.mul_add]; omega, by omega, h⟩
    exact this
theorem turns_succ {r : Ru} {m p x : Int} (hm : Mo m) (p0 : 0 ≤ p) (p1 : p < m) : turnsOf r m p (x + 1) = turnsOf r m p x + if personAt r m x = p then 1 else 0 := by
  have hp : 0 < m := by have := hm.lo; omega
  obtain ⟨e, h0, h1⟩ := divmod (x := x) hp
  have key : personAt r m x = p ↔ placeIn r m (x / m) p = x % m := place_iff hm h0 h1 p0 p1
  have rg := placeIn_range (r := r) (j := x / m) hm p0 p1
  have rg2 := placeIn_range (r := r) (j := x / m + 1) hm p0 p1
  unfold turnsOf
  rcases succ_div (x := x) hp with ⟨c, q1, q2⟩ | ⟨c, q1, q2⟩
  · rw [q1, q2]
    by_cases k : placeIn r m (x / m) p = x % m
    · rw [if_pos (key.mpr k), if_pos (by omega), if_neg (by omega)]; omega
    · rw [if_neg (fun z => k (key.mp z))]
      by_cases l : placeIn r m (x / m) p < x % m
      · rw [if_pos (by omega), if_pos l]; omega
      · rw [if_neg (by omega), if_neg l]; omega
  · rw [q1, q2, if_neg (by omega)]
    by_cases k : placeIn r m (x / m) p = x % m
    · rw [if_pos (key.mpr k), if_neg (by omega)]; omega
    · rw [if_neg (fun z => k (key.mp z)), if_pos (by omega)]
theorem turns_zero {r : Ru} {m p : Int} (hm : Mo m) (p0 : 0 ≤ p) (p1 : p < m) : turnsOf r m p 0 = 0 := by
  unfold turnsOf
  have rg := placeIn_range (r := r) (j := 0) hm p0 p1
  have : (0 : Int) / m = 0 := Int.zero_ediv _
  have e2 : (0 : Int) % m = 0 := Int.zero_emod _
  rw [this, e2, if_neg (by omega)]
  rfl
theorem turns_cnt {r : Ru} {m p : Int} (hm : Mo m) (p0 : 0 ≤ p) (p1 : p < m) : ∀ x : Nat, turnsOf r m p x = cnt (fun i => personAt r m i) p x
  | 0 => turns_zero hm p0 p1
  | x + 1 => by
    have e : ((x + 1 : Nat) : Int) = (x : Int) + 1 := by omega
    rw [e, turns_succ hm p0 p1, turns_cnt hm p0 p1 x]
    rfl
theorem Ru.Ok.pos {r : Ru} (h : r.Ok) : 0 < r.s := by rcases h.s with e | e | e <;> omega
theorem share_succ {r : Ru} {m p b c : Int} (hr : r.Ok) (hm : Mo m) (p0 : 0 ≤ p) (p1 : p < m) : share r m p b (c + 1) = share r m p b c + if personAt r m (b + c / r.s) = p then 1 else 0 := by
  unfold share
  rcases succ_div (x := c) hr.pos with ⟨k, q1, q2⟩ | ⟨k, q1, q2⟩
  · rw [q1, q2]
    split <;> omega
  · rw [q1, q2, show b + (c / r.s + 1) = b + c / r.s + 1 by omega, turns_succ hm p0 p1, k]
    have e : r.s * (turnsOf r m p (b + c / r.s) + (if personAt r m (b + c / r.s) = p then 1 else 0) - turnsOf r m p b) = r.s * (turnsOf r m p (b + c / r.s) - turnsOf r m p b) + r.s * (if personAt r m (b + c / r.s) = p then 1 else 0) := by
      rw [← Int.mul_add]; congr 1; omega
    rw [e]
    by_cases h : personAt r m (b + c / r.s) = p
    · simp only [if_pos h, ite_self]; omega
    · simp only [if_neg h, ite_self]; omega
theorem share_cnt {r : Ru} {m p b : Int} (hr : r.Ok) (hm : Mo m) (p0 : 0 ≤ p) (p1 : p < m) : ∀ c : Nat, share r m p b c = cnt (fun k => personAt r m (b + (k : Int) / r.s)) p c
  | 0 => by
    unfold share cnt
    have e1 : ((0 : Nat) : Int) / r.s = 0 := Int.zero_ediv _
    have e2 : ((0 : Nat) : Int) % r.s = 0 := Int.zero_emod _
    rw [e1, e2]
    simp
  | c + 1 => by
    have e : ((c + 1 : Nat) : Int) = (c : Int) + 1 := by omega
    rw [e, share_succ hr hm p0 p1, share_cnt hr hm p0 p1 c]
    rfl
theorem many_range {r : Ru} {n : Int} (hr : r.Ok) (h : 0 ≤ n) : 0 ≤ many r n ∧ many r n ≤ n := by
  unfold many
  rcases hr.a with e | e | e | e <;> rw [e] <;> simp <;> omega
theorem main_range {r : Ru} {n : Int} (hr : r.Ok) (h : 0 ≤ n) : 0 ≤ main r n ∧ main r n ≤ n := by
  have := many_range hr h
  unfold main; omega
theorem begin_nonneg {r : Ru} {n : Int} (hr : r.Ok) (h : 0 ≤ n) : 0 ≤ begin_ r n := by
  have := main_range hr h
  unfold begin_
  split
  · rcases hr.s with e | e | e <;> rw [e] <;> omega
  · omega
/-- the closed form counts -/
theorem lot_cnt {r : Ru} {m p : Int} {n : Nat} (hr : r.Ok) (hm : Mo m) (p0 : 0 ≤ p) (p1 : p < m) : ownLot r m n p = cnt (fun k => personOf r m n k) p n := by
  have h1 := main_range hr (show (0 : Int) ≤ (n : Int) by omega)
  have h2 := many_range hr (show (0 : Int) ≤ (n : Int) by omega)
  obtain ⟨a, ha⟩ := Int.eq_ofNat_of_zero_le h1.1
  obtain ⟨b, hb⟩ := Int.eq_ofNat_of_zero_le h2.1
  have hab : n = a + b := by unfold main at ha; omega
  unfold ownLot
  rw [ha, hb, share_cnt hr hm p0 p1, share_cnt hr hm p0 p1]
  have e3 : cnt (fun k => personOf r m n k) p n = cnt (fun k => personOf r m n k) p (a + b) := by rw [← hab]
  rw [e3, cnt_add]
  congr 1
  · refine cnt_congr fun i hi => ?_
    show _ = personAt r m (turnOf r n i)
    unfold turnOf
    rw [if_pos (by omega)]
    congr 1; omega
  · refine cnt_congr fun i hi => ?_
    show _ = personAt r m (turnOf r n ((a + i : Nat) : Int))
    unfold turnOf
    rw [if_neg (by omega), ha]
    congr 2
    rw [show ((a + i : Nat) : Int) - (a : Int) = (i : Int) by omega]
/-! ### all together -/
def sumTo (g : Nat → Int) : Nat → Int
  | 0 => 0
  | n + 1 => sumTo g n + g n
theorem sumTo_add (g h : Nat → Int) : ∀ n, sumTo (fun p => g p + h p) n = sumTo g n + sumTo h n
  | 0 => rfl
  | n + 1 => by unfold sumTo; rw [sumTo_add g h n]; omega
theorem sumTo_congr {g h : Nat → Int} : ∀ {n : Nat}, (∀ i, i < n → g i = h i) → sumTo g n = sumTo h n
  | 0, _ => rfl
  | n + 1, e => by unfold sumTo; rw [sumTo_congr fun i hi => e i (by omega), e n (by omega)]
theorem sumTo_one {q : Int} : ∀ {m : Nat}, sumTo (fun p => if q = (p : Int) then 1 else 0) m = if 0 ≤ q ∧ q < m then 1 else 0
  | 0 => by unfold sumTo; rw [if_neg (by omega)]
  | m + 1 => by
    unfold sumTo
    rw [sumTo_one (m := m)]
    by_cases h : q = (m : Int)
    · rw [if_pos h, if_neg (by omega), if_pos (by omega)]; rfl
    · rw [if_neg h]
      by_cases k : 0 ≤ q ∧ q < m
      · rw [if_pos k, if_pos (by omega)]; rfl
      · rw [if_neg k, if_neg (by omega)]; rfl
theorem sum_cnt {g : Nat → Int} {m : Nat} : ∀ {n : Nat}, (∀ i, i < n → 0 ≤ g i ∧ g i < m) → sumTo (fun p => cnt g p n) m = n
  | 0, _ => by
    have : ∀ m, sumTo (fun p => cnt g (p : Int) 0) m = 0 := fun m => by
      induction m with
      | zero => rfl
      | succ m ih => unfold sumTo; rw [ih]; rfl
    exact this m
  | n + 1, h => by
    have e : sumTo (fun p => cnt g (p : Int) (n + 1)) m = sumTo (fun p => cnt g (p : Int) n) m + sumTo (fun p => if g n = (p : Int) then 1 else 0) m := sumTo_add _ _ m
    rw [e, sum_cnt fun i hi => h i (by omega), sumTo_one, if_pos (h n (by omega))]
    omega
/-! ### which thing -/
theorem spot_thing {r : Ru} {n k : Int} (hr : r.Ok) (k0 : 0 ≤ k) (k1 : k < n) : spotOf r n (thingAt r n k) = k := by
  unfold thingAt spotOf main many
  rcases hr.a with e | e | e | e <;> rw [e]
  · simp; omega
  · simp
    by_cases h : n - n / 2 ≤ k
    · rw [if_pos h, if_pos (by omega)]; omega
    · rw [if_neg h, if_neg (by omega)]; omega
  · simp
    by_cases h : n - n / 3 ≤ k
    · rw [if_pos h, if_pos (by omega)]; omega
    · rw [if_neg h, if_neg (by omega)]; omega
  · simp
    by_cases h : n - n / 4 ≤ k
    · rw [if_pos h, if_pos (by omega)]; omega
    · rw [if_neg h, if_neg (by omega)]; omega
theorem thing_range {r : Ru} {n k : Int} (hr : r.Ok) (k0 : 0 ≤ k) (k1 : k < n) : 0 ≤ thingAt r n k ∧ thingAt r n k < n := by
  unfold thingAt main many
  rcases hr.a with e | e | e | e <;> rw [e] <;> simp
  · split <;> omega
  · split <;> omega
  · split <;> omega
  · split <;> omega
/-! ### the law's own two lists of things -/
def thingL (r : Ru) (k : Int) : Int := if 0 < r.a then k + k / (r.a - 1) else k
def thingR (r : Ru) (k : Int) : Int := (k + 1) * r.a - 1
def oneB (r : Ru) (k : Int) : Bool := decide (r.a = 0) || decide (0 < (k + 1) % r.a)
def twoB (r : Ru) (k : Int) : Bool := decide (0 < r.a) && decide ((k + 1) % (if 1 < r.a then r.a else 1) = 0)
def upto (n : Nat) : List Int := (List.range n).map fun k : Nat => (k : Int)
theorem upto_succ (n : Nat) : upto (n + 1) = upto n ++ [(n : Int)] := by unfold upto; rw [List.range_succ, List.map_append]; rfl
theorem main_zero {r : Ru} (hr : r.Ok) : (main r ((0 : Nat) : Int)).toNat = 0 := by
  have := main_range (n := ((0 : Nat) : Int)) hr (by omega)
  omega
theorem many_zero {r : Ru} (hr : r.Ok) : (many r ((0 : Nat) : Int)).toNat = 0 := by
  have := many_range (n := ((0 : Nat) : Int)) hr (by omega)
  omega
theorem one_more {r : Ru} (hr : r.Ok) (n : Nat) (h : oneB r (n : Int) = true) : (main r ((n + 1 : Nat) : Int)).toNat = (main r n).toNat + 1 ∧ thingL r ((main r n).toNat : Int) = n := by
  have e0 : ((n + 1 : Nat) : Int) = (n : Int) + 1 := by omega
  rw [e0]
  revert h
  unfold oneB thingL main many
  rcases hr.a with e | e | e | e <;> rw [e]
  · intro _
    rw [if_neg (by omega), if_neg (by omega), if_neg (by omega)]
    omega
  · intro h
    simp only [Bool.or_eq_true, decide_eq_true_eq] at h
    rw [if_pos (by omega), if_pos (by omega), if_pos (by omega)]
    omega
  · intro h
    simp only [Bool.or_eq_true, decide_eq_true_eq] at h
    rw [if_pos (by omega), if_pos (by omega), if_pos (by omega)]
    omega
  · intro h
    simp only [Bool.or_eq_true, decide_eq_true_eq] at h
    rw [if_pos (by omega), if_pos (by omega), if_pos (by omega)]
    omega
theorem one_same {r : Ru} (hr : r.Ok) (n : Nat) (h : ¬ oneB r (n : Int) = true) : main r ((n + 1 : Nat) : Int) = main r n := by
  have e0 : ((n + 1 : Nat) : Int) = (n : Int) + 1 := by omega
  rw [e0]
  revert h
  unfold oneB main many
  rcases hr.a with e | e | e | e <;> rw [e] <;> intro h <;> simp only [Bool.or_eq_true, decide_eq_true_eq] at h <;> simp only [show ¬ ((0 : Int) < 0) by omega, show (0 : Int) < 2 by omega, show (0 : Int) < 3 by omega, show (0 : Int) < 4 by omega, if_true, if_false] <;> omega
theorem ones {r : Ru} (hr : r.Ok) : ∀ n : Nat, (upto n).filter (oneB r) = (upto (main r n).toNat).map (thingL r)
  | 0 => by rw [main_zero hr]; rfl
  | n + 1 => by
    rw [upto_succ, List.filter_append, ones hr n]
    by_cases h : oneB r (n : Int) = true
    · obtain ⟨h1, h2⟩ := one_more hr n h
      rw [h1, upto_succ, List.map_append, List.filter_cons_of_pos h]
      show _ = _ ++ [thingL r _]
      rw [h2]
      rfl
    · rw [one_same hr n h, List.filter_cons_of_neg h]
      exact List.append_nil _
theorem two_more {r : Ru} (hr : r.Ok) (n : Nat) (h : twoB r (n : Int) = true) : (many r ((n + 1 : Nat) : Int)).toNat = (many r n).toNat + 1 ∧ thingR r ((many r n).toNat : Int) = n := by
  have e0 : ((n + 1 : Nat) : Int) = (n : Int) + 1 := by omega
  rw [e0]
  revert h
  unfold twoB thingR many
  rcases hr.a with e | e | e | e <;> rw [e] <;> intro h <;> simp only [Bool.and_eq_true, decide_eq_true_eq, show ¬ ((1 : Int) < 0) by omega, show (1 : Int) < 2 by omega, show (1 : Int) < 3 by omega, show (1 : Int) < 4 by omega, if_true, if_false] at h <;> simp only [show ¬ ((0 : Int) < 0) by omega, show (0 : Int) < 2 by omega, show (0 : Int) < 3 by omega, show (0 : Int) < 4 by omega, if_true, if_false] <;> omega
theorem two_same {r : Ru} (hr : r.Ok) (n : Nat) (h : ¬ twoB r (n : Int) = true) : many r ((n + 1 : Nat) : Int) = many r n := by
  have e0 : ((n + 1 : Nat) : Int) = (n : Int) + 1 := by omega
  rw [e0]
  revert h
  unfold twoB many
  rcases hr.a with e | e | e | e <;> rw [e] <;> intro h <;> simp only [Bool.and_eq_true, decide_eq_true_eq, show ¬ ((1 : Int) < 0) by omega, show (1 : Int) < 2 by omega, show (1 : Int) < 3 by omega, show (1 : Int) < 4 by omega, if_true, if_false] at h <;> simp only [show ¬ ((0 : Int) < 0) by omega, show (0 : Int) < 2 by omega, show (0 : Int) < 3 by omega, show (0 : Int) < 4 by omega, if_true, if_false] <;> omega
theorem twos {r : Ru} (hr : r.Ok) : ∀ n : Nat, (upto n).filter (twoB r) = (upto (many r n).toNat).map (thingR r)
  | 0 => by rw [many_zero hr]; rfl
  | n + 1 => by
    rw [upto_succ, List.filter_append, twos hr n]
    by_cases h : twoB r (n : Int) = true
    · obtain ⟨h1, h2⟩ := two_more hr n h
      rw [h1, upto_succ, List.map_append, List.filter_cons_of_pos h]
      show _ = _ ++ [thingR r _]
      rw [h2]
      rfl
    · rw [two_same hr n h, List.filter_cons_of_neg h]
      exact List.append_nil _
theorem thing_l {r : Ru} {n k : Int} (h : k < main r n) : thingAt r n k = thingL r k := by
  unfold thingAt thingL
  rw [if_neg (by omega)]
theorem thing_r {r : Ru} {n k : Int} (h : 0 ≤ k) : thingAt r n (main r n + k) = thingR r k := by
  unfold thingAt thingR
  rw [if_pos (by omega)]
  congr 2
  omega
end Ma

set_option maxHeartbeats 4000000
/-! Trees of numbers and rules; what the operators answer, as equations. -/
namespace Pr
open PySem PySem.Spec PyProof.Rows L2 Dl Dv Dk Gx Ma

def wS : Way → Str
  | .fro => "fro"
  | .round => "round"
  | .step => "step"
def fS (b : Bool) : Str := if b = true then "first" else "last"
def lS (b : Bool) : Str := if b = true then "on" else "anew"
/-- the five values -/
def row (r : Ru) : List D := [.int r.s, .str (wS r.w), .str (fS r.f), .int r.a, .str (lS r.l)]
abbrev rd (K : PySem.W.Frag) (r : Ru) : D := ruleD K (row r)
theorem drawn_ru {t : List D} (h : t ∈ drawn) : ∃ r : Ru, r.Ok ∧ t = row r := by
  obtain ⟨s, w, f, a, l, rfl, h1, h2, h3, h4, h5⟩ := drawn_of h
  simp only [List.mem_cons, List.not_mem_nil, or_false] at h1 h2 h3 h4 h5
  have e1 : ∃ i : Int, s = .int i ∧ (i = 1 ∨ i = 2 ∨ i = 3) := by rcases h1 with rfl | rfl | rfl <;> exact ⟨_, rfl, by omega⟩
  have e4 : ∃ i : Int, a = .int i ∧ (i = 0 ∨ i = 2 ∨ i = 3 ∨ i = 4) := by rcases h4 with rfl | rfl | rfl | rfl <;> exact ⟨_, rfl, by omega⟩
  obtain ⟨i, rfl, hi⟩ := e1
  obtain ⟨j, rfl, hj⟩ := e4
  have e2 : ∃ v : Way, w = .str (wS v) := by
    rcases h2 with rfl | rfl | rfl
    · exact ⟨.round, rfl⟩
    · exact ⟨.fro, rfl⟩
    · exact ⟨.step, rfl⟩
  have e3 : ∃ v : Bool, f = .str (fS v) := by
    rcases h3 with rfl | rfl
    · exact ⟨true, rfl⟩
    · exact ⟨false, rfl⟩
  have e5 : ∃ v : Bool, l = .str (lS v) := by
    rcases h5 with rfl | rfl
    · exact ⟨true, rfl⟩
    · exact ⟨false, rfl⟩
  obtain ⟨w, rfl⟩ := e2
  obtain ⟨f, rfl⟩ := e3
  obtain ⟨l, rfl⟩ := e5
  exact ⟨⟨i, w, f, j, l⟩, ⟨hi, hj⟩, rfl⟩
section
variable {i j : Int} {Q : D → Prop} {a b c d e : D} {l : List D} {r : Ru} {w : Way} {x y : Bool}
theorem x_add : gAddU (.int i) (.int j) Q = Q (.int (i + j)) := by
  refine propext ⟨fun h => ?_, fun h => .inl h⟩
  rcases h with h | h | h | h
  · exact h
  · exact h.elim
  · exact h.elim
  · exact h.elim
theorem x_addL {xs ys : List D} (h : xs.length + ys.length ≤ sizeLine) : gAddU (.lst xs) (.lst ys) Q = Q (.lst (xs ++ ys)) := by
  refine propext ⟨fun z => ?_, fun z => .inr (.inr (.inr ⟨h, z⟩))⟩
  rcases z with z | z | z | z
  · exact z.elim
  · exact z.elim
  · exact z.elim
  · exact z.2
theorem x_addT {xs ys : List D} (h : xs.length + ys.length ≤ sizeLine) : gAddU (.tup xs) (.tup ys) Q = Q (.tup (xs ++ ys)) := by
  refine propext ⟨fun z => ?_, fun z => .inr (.inr (.inl ⟨h, z⟩))⟩
  rcases z with z | z | z | z
  · exact z.elim
  · exact z.elim
  · exact z.2
  · exact z.elim
theorem x_sub : gSub (.int i) (.int j) Q = Q (.int (i - j)) := rfl
theorem x_mul (h : CMul i j) : gMul (.int i) (.int j) Q = Q (.int (i * j)) := propext ⟨fun z => z.2, fun z => ⟨h, z⟩⟩
theorem x_mulL (h1 : -(2 ^ 64) < i) (h2 : i < 2 ^ 64) : gMul (.int i) (.int j) Q = Q (.int (i * j)) := x_mul (.inl ⟨h1, h2⟩)
theorem x_mulR (h1 : -(2 ^ 64) < j) (h2 : j < 2 ^ 64) : gMul (.int i) (.int j) Q = Q (.int (i * j)) := x_mul (.inr ⟨h1, h2⟩)
theorem x_div (h1 : 0 < j) (h2 : j < 1073741824) : gDiv (.int i) (.int j) Q = Q (.int (i / j)) := propext ⟨fun z => z.2, fun z => ⟨⟨h1, h2⟩, z⟩⟩
theorem x_mod (h1 : 0 < j) : gMod (.int i) (.int j) Q = Q (.int (i % j)) := propext ⟨fun z => z.2, fun z => ⟨h1, z⟩⟩
theorem x_lt : gLt (.int i) (.int j) Q = Q (.bl (decide (i < j))) := rfl
theorem x_le : gLe (.int i) (.int j) Q = Q (.bl (decide (i ≤ j))) := rfl
theorem x_gt : gGt (.int i) (.int j) Q = Q (.bl (decide (j < i))) := rfl
theorem x_ge : gGe (.int i) (.int j) Q = Q (.bl (decide (j ≤ i))) := rfl
theorem deq_int : deq (.int i) (.int j) = decide (i = j) := by
  simp only [deq, py, PyData.eqv]
  first | rfl | (by_cases h : i = j <;> simp [h])
theorem x_eq : gEq (.int i) (.int j) Q = Q (.bl (decide (i = j))) := propext ⟨fun z => by have := z.2.2; rwa [deq_int] at this, fun z => ⟨rfl, rfl, by rw [deq_int]; exact z⟩⟩
theorem x_ne : gNe (.int i) (.int j) Q = Q (.bl (!decide (i = j))) := propext ⟨fun z => by have := z.2.2; rwa [deq_int] at this, fun z => ⟨rfl, rfl, by rw [deq_int]; exact z⟩⟩
theorem str_eq {p q : Str} {b : Bool} (h1 : dat 9 (.str p) = true) (h2 : dat 9 (.str q) = true) (h : deq (.str p) (.str q) = b) : gEq (.str p) (.str q) Q = Q (.bl b) := propext ⟨fun z => by have := z.2.2; rwa [h] at this, fun z => ⟨h1, h2, by rw [h]; exact z⟩⟩
theorem x_fro : gEq (.str (wS w)) (.str "fro") Q = Q (.bl (decide (w = .fro))) := by
  cases w <;> exact str_eq (by decide +kernel) (by decide +kernel) (by decide +kernel)
theorem x_step : gEq (.str (wS w)) (.str "step") Q = Q (.bl (decide (w = .step))) := by
  cases w <;> exact str_eq (by decide +kernel) (by decide +kernel) (by decide +kernel)
theorem x_first : gEq (.str (fS x)) (.str "first") Q = Q (.bl x) := by
  cases x <;> exact str_eq (by decide +kernel) (by decide +kernel) (by decide +kernel)
theorem x_last : gEq (.str (fS x)) (.str "last") Q = Q (.bl (!x)) := by
  cases x <;> exact str_eq (by decide +kernel) (by decide +kernel) (by decide +kernel)
theorem x_on : gEq (.str (lS x)) (.str "on") Q = Q (.bl x) := by
  cases x <;> exact str_eq (by decide +kernel) (by decide +kernel) (by decide +kernel)
theorem atI_pos {α : Type} {xs : List α} {k : Nat} {z : α} (h : xs[k]? = some z) : atI xs (k : Int) = some z := atI_nat h
theorem gIx_l {xs : List D} {z : D} (h : atI xs i = some z) : gIx (.lst xs) (.int i) Q = Q z := propext ⟨fun ⟨u, e, q⟩ => by rw [h] at e; cases e; exact q, fun q => ⟨z, h, q⟩⟩
theorem gIx_t {xs : List D} {z : D} (h : atI xs i = some z) : gIx (.tup xs) (.int i) Q = Q z := propext ⟨fun ⟨u, e, q⟩ => by rw [h] at e; cases e; exact q, fun q => ⟨z, h, q⟩⟩
theorem x_l0 : gIx (.lst (a :: l)) (.int 0) Q = Q a := gIx_l (atI_pos (k := 0) rfl)
theorem x_l1 : gIx (.lst (a :: b :: l)) (.int 1) Q = Q b := gIx_l (atI_pos (k := 1) rfl)
theorem x_l2 : gIx (.lst (a :: b :: c :: l)) (.int 2) Q = Q c := gIx_l (atI_pos (k := 2) rfl)
theorem x_l3 : gIx (.lst (a :: b :: c :: d :: l)) (.int 3) Q = Q d := gIx_l (atI_pos (k := 3) rfl)
theorem x_l4 : gIx (.lst (a :: b :: c :: d :: e :: l)) (.int 4) Q = Q e := gIx_l (atI_pos (k := 4) rfl)
theorem x_t0 : gIx (.tup (a :: l)) (.int 0) Q = Q a := gIx_t (atI_pos (k := 0) rfl)
theorem x_t1 : gIx (.tup (a :: b :: l)) (.int 1) Q = Q b := gIx_t (atI_pos (k := 1) rfl)
theorem x_t2 : gIx (.tup (a :: b :: c :: l)) (.int 2) Q = Q c := gIx_t (atI_pos (k := 2) rfl)
theorem x_t3 : gIx (.tup (a :: b :: c :: d :: l)) (.int 3) Q = Q d := gIx_t (atI_pos (k := 3) rfl)
theorem x_t4 : gIx (.tup (a :: b :: c :: d :: e :: l)) (.int 4) Q = Q e := gIx_t (atI_pos (k := 4) rfl)
theorem x_intB : gInt [.bl x] Q = Q (.int (if x = true then 1 else 0)) := by cases x <;> rfl
theorem x_intI : gInt [.int i] Q = Q (.int i) := rfl
theorem x_max2 : gMax2 [.int i, .int j] Q = Q (.int (if j > i then j else i)) := rfl
theorem x_min2 : gMin2 [.int i, .int j] Q = Q (.int (if j < i then j else i)) := rfl
theorem x_lenL : gLen [.lst l] Q = Q (.int (l.length : Nat)) := propext ⟨fun ⟨xs, e, q⟩ => by cases e; exact q, fun q => ⟨_, rfl, q⟩⟩
theorem x_lenT : gLen [.tup l] Q = Q (.int (l.length : Nat)) := propext ⟨fun ⟨xs, e, q⟩ => by cases e; exact q, fun q => ⟨_, rfl, q⟩⟩
theorem x_ok {P : Prop} (h : P) {q : Prop} : (P ∧ q) = q := propext ⟨fun z => z.2, fun z => ⟨h, z⟩⟩
theorem len_le {n : Nat} (h : n ≤ 1000) : n ≤ sizeLine := Nat.le_trans h (by decide)
theorem x_sz {n : Nat} (h : n ≤ 1000) {q : Prop} : (n ≤ sizeLine ∧ q) = q := x_ok (len_le h)
end
/-- the greatest, the least one -/
def maxL : List Int → Int
  | [] => 0
  | [a] => a
  | a :: b :: l => let m := maxL (b :: l); if a < m then m else a
def minL : List Int → Int
  | [] => 0
  | [a] => a
  | a :: b :: l => let m := minL (b :: l); if m < a then m else a
theorem maxL_spec : ∀ {l : List Int}, l ≠ [] → maxL l ∈ l ∧ ∀ y ∈ l, y ≤ maxL l
  | [], h => (h rfl).elim
  | [a], _ => ⟨by simp [maxL], by simp [maxL]⟩
  | a :: b :: l, _ => by
    obtain ⟨h1, h2⟩ := maxL_spec (l := b :: l) (by simp)
    have e : maxL (a :: b :: l) = if a < maxL (b :: l) then maxL (b :: l) else a := rfl
    rw [e]
    split
    · refine ⟨List.mem_cons_of_mem _ h1, fun y hy => ?_⟩
      rcases List.mem_cons.mp hy with rfl | hy
      · omega
      · exact h2 y hy
    · refine ⟨List.mem_cons_self, fun y hy => ?_⟩
      rcases List.mem_cons.mp hy with rfl | hy
      · omega
      · have := h2 y hy; omega
theorem minL_spec : ∀ {l : List Int}, l ≠ [] → minL l ∈ l ∧ ∀ y ∈ l, minL l ≤ y
  | [], h => (h rfl).elim
  | [a], _ => ⟨by simp [minL], by simp [minL]⟩
  | a :: b :: l, _ => by
    obtain ⟨h1, h2⟩ := minL_spec (l := b :: l) (by simp)
    have e : minL (a :: b :: l) = if minL (b :: l) < a then minL (b :: l) else a := rfl
    rw [e]
    split
    · refine ⟨List.mem_cons_of_mem _ h1, fun y hy => ?_⟩
      rcases List.mem_cons.mp hy with rfl | hy
      · omega
      · exact h2 y hy
    · refine ⟨List.mem_cons_self, fun y hy => ?_⟩
      rcases List.mem_cons.mp hy with rfl | hy
      · omega
      · have := h2 y hy; omega
def il (ns : List Int) : D := .lst (ns.map .int)
theorem int_inj : ∀ {ns ms : List Int}, ns.map D.int = ms.map D.int → ns = ms
  | [], [], _ => rfl
  | [], _ :: _, h => by cases h
  | _ :: _, [], h => by cases h
  | n :: ns, m :: ms, h => by
    simp only [List.map_cons, List.cons.injEq, D.int.injEq] at h
    rw [h.1, int_inj h.2]
theorem il_inj {ns ms : List Int} (h : il ns = il ms) : ns = ms := int_inj (D.lst.inj h)
theorem x_maxL {ns : List Int} {Q : D → Prop} (h : ns ≠ []) : gMaxL [il ns] Q = Q (.int (maxL ns)) := propext
  ⟨fun ⟨ms, e, _, q⟩ => by
    have := il_inj (show il ns = il ms from (List.cons.inj e).1)
    subst this
    exact q _ (maxL_spec h).1 (maxL_spec h).2,
   fun q => ⟨ns, rfl, List.length_pos_iff.mpr h, fun m hm hle => by
    have h1 := hle _ (maxL_spec h).1
    have h2 := (maxL_spec h).2 m hm
    have : m = maxL ns := by omega
    rw [this]; exact q⟩⟩
theorem x_minL {ns : List Int} {Q : D → Prop} (h : ns ≠ []) : gMinL [il ns] Q = Q (.int (minL ns)) := propext
  ⟨fun ⟨ms, e, _, q⟩ => by
    have := il_inj (show il ns = il ms from (List.cons.inj e).1)
    subst this
    exact q _ (minL_spec h).1 (minL_spec h).2,
   fun q => ⟨ns, rfl, List.length_pos_iff.mpr h, fun m hm hle => by
    have h1 := hle _ (minL_spec h).1
    have h2 := (minL_spec h).2 m hm
    have : m = minL ns := by omega
    rw [this]; exact q⟩⟩
theorem x_sumL {ns : List Int} {Q : D → Prop} : gSumL [il ns] Q = Q (.int ns.sum) := propext
  ⟨fun ⟨ms, e, q⟩ => by
    have := il_inj (show il ns = il ms from (List.cons.inj e).1)
    subst this
    exact q, fun q => ⟨ns, rfl, q⟩⟩
end Pr

set_option maxHeartbeats 4000000
/-! lots.py over trees: what each def answers. -/
namespace Pr
open PySem PySem.Spec PyProof.Rows L2 Dl Dv Dk Gx Ma

/-- what comes of it: an answer or an exception -/
def res (x : Except Exc D) (Q : D → Prop) (R : DX) : Prop := match x with
  | .ok d => Q d
  | .error e => R e
theorem res_ok {d : D} {Q : D → Prop} {R : DX} : res (.ok d) Q R = Q d := rfl
theorem res_er {e : Exc} {Q : D → Prop} {R : DX} : res (.error e) Q R = R e := rfl
theorem res_if {c : Prop} [Decidable c] {x y : Except Exc D} {Q : D → Prop} {R : DX} : res (if c then x else y) Q R = if c then res x Q R else res y Q R := by split <;> rfl
/-- a promise by a function -/
def FV {α : Type} (mk : α → List D) (P : α → Prop) (v : α → Except Exc D) : DF := fun ds Q R => ∃ a, ds = mk a ∧ P a ∧ res (v a) Q R
theorem fv_eq {α : Type} {mk : α → List D} {P : α → Prop} {v : α → Except Exc D} (inj : ∀ a b, mk a = mk b → a = b) {a : α} (h : P a) {Q : D → Prop} {R : DX} : FV mk P v (mk a) Q R = res (v a) Q R := propext
  ⟨fun ⟨b, e, _, q⟩ => by rw [inj a b e]; exact q, fun q => ⟨a, rfl, h, q⟩⟩
def FI {α : Type} (mk : α → List D) (P : α → Prop) (v : α → D) : DF := fun ds Q _ => ∃ a, ds = mk a ∧ P a ∧ Q (v a)
theorem fi_eq {α : Type} {mk : α → List D} {P : α → Prop} {v : α → D} (inj : ∀ a b, mk a = mk b → a = b) {a : α} (h : P a) {Q : D → Prop} {R : DX} : FI mk P v (mk a) Q R = Q (v a) := propext
  ⟨fun ⟨b, e, _, q⟩ => by rw [inj a b e]; exact q, fun q => ⟨a, rfl, h, q⟩⟩
theorem wS_inj : ∀ {a b : Way}, wS a = wS b → a = b := by
  intro a b h
  cases a <;> cases b <;> first | rfl | exact absurd h (by decide +kernel)
theorem fS_inj : ∀ {a b : Bool}, fS a = fS b → a = b := by
  intro a b h
  cases a <;> cases b <;> first | rfl | exact absurd h (by decide +kernel)
theorem lS_inj : ∀ {a b : Bool}, lS a = lS b → a = b := by
  intro a b h
  cases a <;> cases b <;> first | rfl | exact absurd h (by decide +kernel)
theorem row_inj {a b : Ru} (h : row a = row b) : a = b := by
  obtain ⟨s, w, f, x, l⟩ := a
  obtain ⟨s', w', f', x', l'⟩ := b
  simp only [row, List.cons.injEq, D.int.injEq, D.str.injEq, and_true] at h
  obtain ⟨rfl, h2, h3, rfl, h5⟩ := h
  rw [wS_inj h2, fS_inj h3, lS_inj h5]
theorem rd_inj {K : PySem.W.Frag} {a b : Ru} (h : rd K a = rd K b) : a = b := by
  unfold rd ruleD at h
  simp only [D.obj.injEq, List.cons.injEq, D.tup.injEq, and_true, true_and] at h
  exact row_inj h
theorem Ru.s3 {r : Ru} (h : r.Ok) : r.s ≤ 3 := by rcases h.s with e | e | e <;> omega
section
variable {K : PySem.W.Frag} {r : Ru} {Q : D → Prop} {R : DX} {m n p t b c i j : Int}
theorem x_rs : gIx (.tup (row r)) (.int 0) Q = Q (.int r.s) := x_t0
theorem x_rw : gIx (.tup (row r)) (.int 1) Q = Q (.str (wS r.w)) := x_t1
theorem x_rf : gIx (.tup (row r)) (.int 2) Q = Q (.str (fS r.f)) := x_t2
theorem x_ra : gIx (.tup (row r)) (.int 3) Q = Q (.int r.a) := x_t3
theorem x_rl : gIx (.tup (row r)) (.int 4) Q = Q (.str (lS r.l)) := x_t4
def slotD (C : Addr) (Q : D → Prop) : D → Prop := fun d => match d with
  | .obj C' ds => C' = C ∧ ∃ y, ds[0]? = some y ∧ Q y
  | _ => False
theorem x_slot {f : DE} {env : Env'} : dSlot (aR K) 0 f env Q R = f env (slotD (aR K) Q) R := rfl
theorem x_slotD : slotD (aR K) Q (rd K r) = Q (.tup (row r)) := propext ⟨fun ⟨_, y, e, q⟩ => by cases e; exact q, fun q => ⟨rfl, _, rfl, q⟩⟩
end
/-! ### the readings -/
def F_place_in (K : PySem.W.Frag) : DF := FI (fun (r, m, t, p) => [rd K r, .int m, .int t, .int p]) (fun (r, m, t, p) => r.Ok ∧ Mo m) (fun (r, m, t, p) => .int (placeIn r m t p))
def F_person_at (K : PySem.W.Frag) : DF := FI (fun (r, m, t) => [rd K r, .int m, .int t]) (fun (r, m, t) => r.Ok ∧ Mo m) (fun (r, m, t) => .int (personAt r m t))
def F_turns_of (K : PySem.W.Frag) : DF := FI (fun (r, m, p, t) => [rd K r, .int m, .int p, .int t]) (fun (r, m, p, t) => r.Ok ∧ Mo m) (fun (r, m, p, t) => .int (turnsOf r m p t))
def F_share (K : PySem.W.Frag) : DF := FI (fun (r, m, p, b, c) => [rd K r, .int m, .int p, .int b, .int c]) (fun (r, m, p, b, c) => r.Ok ∧ Mo m) (fun (r, m, p, b, c) => .int (share r m p b c))
def F_counts_of (K : PySem.W.Frag) : DF := FI (fun (r, n) => [rd K r, .int n]) (fun (r, n) => r.Ok) (fun (r, n) => .tup [.int (main r n), .int (many r n), .int (begin_ r n)])
def F_own_lot (K : PySem.W.Frag) : DF := FI (fun (r, m, n, p) => [rd K r, .int m, .int n, .int p]) (fun (r, m, n, p) => r.Ok ∧ Mo m) (fun (r, m, n, p) => .int (ownLot r m n p))
def lotsL (r : Ru) (m n : Int) : List Int := (upto m.toNat).map (ownLot r m n)
def F_own_lots (K : PySem.W.Frag) : DF := FI (fun (r, m, n) => [rd K r, .int m, .int n]) (fun (r, m, n) => r.Ok ∧ Mo m) (fun (r, m, n) => il (lotsL r m n))
def spreadOf (r : Ru) (m n : Int) : Int := maxL (lotsL r m n) - minL (lotsL r m n)
def F_own_spread (K : PySem.W.Frag) : DF := FI (fun (r, m, n) => [rd K r, .int m, .int n]) (fun (r, m, n) => r.Ok ∧ Mo m) (fun (r, m, n) => .int (spreadOf r m n))
def F_spot_of (K : PySem.W.Frag) : DF := FI (fun (r, n, t) => [rd K r, .int n, .int t]) (fun (r, n, t) => r.Ok) (fun (r, n, t) => .int (spotOf r n t))
def F_thing_at (K : PySem.W.Frag) : DF := FI (fun (r, n, t) => [rd K r, .int n, .int t]) (fun (r, n, t) => r.Ok) (fun (r, n, t) => .int (thingAt r n t))
def F_person_of (K : PySem.W.Frag) : DF := FI (fun (r, m, n, t) => [rd K r, .int m, .int n, .int t]) (fun (r, m, n, t) => r.Ok ∧ Mo m) (fun (r, m, n, t) => .int (personOf r m n t))
theorem li_inj {K : PySem.W.Frag} : ∀ a b : Ru × Int, (fun (r, n) => [rd K r, D.int n]) a = (fun (r, n) => [rd K r, D.int n]) b → a = b := by
  rintro ⟨r, n⟩ ⟨r', n'⟩ h
  simp only [List.cons.injEq, D.int.injEq, and_true] at h
  obtain ⟨h1, rfl⟩ := h
  rw [rd_inj h1]
theorem lii_inj {K : PySem.W.Frag} : ∀ a b : Ru × Int × Int, (fun (r, m, n) => [rd K r, D.int m, D.int n]) a = (fun (r, m, n) => [rd K r, D.int m, D.int n]) b → a = b := by
  rintro ⟨r, m, n⟩ ⟨r', m', n'⟩ h
  simp only [List.cons.injEq, D.int.injEq, and_true] at h
  obtain ⟨h1, rfl, rfl⟩ := h
  rw [rd_inj h1]
theorem liii_inj {K : PySem.W.Frag} : ∀ a b : Ru × Int × Int × Int, (fun (r, m, n, p) => [rd K r, D.int m, D.int n, D.int p]) a = (fun (r, m, n, p) => [rd K r, D.int m, D.int n, D.int p]) b → a = b := by
  rintro ⟨r, m, n, p⟩ ⟨r', m', n', p'⟩ h
  simp only [List.cons.injEq, D.int.injEq, and_true] at h
  obtain ⟨h1, rfl, rfl, rfl⟩ := h
  rw [rd_inj h1]
theorem liiii_inj {K : PySem.W.Frag} : ∀ a b : Ru × Int × Int × Int × Int, (fun (r, m, n, p, q) => [rd K r, D.int m, D.int n, D.int p, D.int q]) a = (fun (r, m, n, p, q) => [rd K r, D.int m, D.int n, D.int p, D.int q]) b → a = b := by
  rintro ⟨r, m, n, p, q⟩ ⟨r', m', n', p', q'⟩ h
  simp only [List.cons.injEq, D.int.injEq, and_true] at h
  obtain ⟨h1, rfl, rfl, rfl, rfl⟩ := h
  rw [rd_inj h1]
section
variable {K : PySem.W.Frag} {r : Ru} {Q : D → Prop} {R : DX} {m n p t b c : Int}
theorem y_place_in (hr : r.Ok) (hm : Mo m) : F_place_in K [rd K r, .int m, .int t, .int p] Q R = Q (.int (placeIn r m t p)) := fi_eq liii_inj (a := (r, m, t, p)) ⟨hr, hm⟩
theorem y_person_at (hr : r.Ok) (hm : Mo m) : F_person_at K [rd K r, .int m, .int t] Q R = Q (.int (personAt r m t)) := fi_eq lii_inj (a := (r, m, t)) ⟨hr, hm⟩
theorem y_turns_of (hr : r.Ok) (hm : Mo m) : F_turns_of K [rd K r, .int m, .int p, .int t] Q R = Q (.int (turnsOf r m p t)) := fi_eq liii_inj (a := (r, m, p, t)) ⟨hr, hm⟩
theorem y_share (hr : r.Ok) (hm : Mo m) : F_share K [rd K r, .int m, .int p, .int b, .int c] Q R = Q (.int (share r m p b c)) := fi_eq liiii_inj (a := (r, m, p, b, c)) ⟨hr, hm⟩
theorem y_counts_of (hr : r.Ok) : F_counts_of K [rd K r, .int n] Q R = Q (.tup [.int (main r n), .int (many r n), .int (begin_ r n)]) := fi_eq li_inj (a := (r, n)) hr
theorem y_own_lot (hr : r.Ok) (hm : Mo m) : F_own_lot K [rd K r, .int m, .int n, .int p] Q R = Q (.int (ownLot r m n p)) := fi_eq liii_inj (a := (r, m, n, p)) ⟨hr, hm⟩
theorem y_own_lots (hr : r.Ok) (hm : Mo m) : F_own_lots K [rd K r, .int m, .int n] Q R = Q (il (lotsL r m n)) := fi_eq lii_inj (a := (r, m, n)) ⟨hr, hm⟩
theorem y_own_spread (hr : r.Ok) (hm : Mo m) : F_own_spread K [rd K r, .int m, .int n] Q R = Q (.int (spreadOf r m n)) := fi_eq lii_inj (a := (r, m, n)) ⟨hr, hm⟩
theorem y_spot_of (hr : r.Ok) : F_spot_of K [rd K r, .int n, .int t] Q R = Q (.int (spotOf r n t)) := fi_eq lii_inj (a := (r, n, t)) hr
theorem y_thing_at (hr : r.Ok) : F_thing_at K [rd K r, .int n, .int t] Q R = Q (.int (thingAt r n t)) := fi_eq lii_inj (a := (r, n, t)) hr
theorem y_person_of (hr : r.Ok) (hm : Mo m) : F_person_of K [rd K r, .int m, .int n, .int t] Q R = Q (.int (personOf r m n t)) := fi_eq liii_inj (a := (r, m, n, t)) ⟨hr, hm⟩
end
def g_place_in (K : PySem.W.Frag) : DG :=
  (dSeq (dSet 4 (dIf (dTst (dOp gEq (dOp gIx (dSlot (aR K) 0 (dVar 0)) (dC (.int 2))) (dC (.str "first")))) (dVar 3) (dOp gSub (dOp gSub (dVar 1) (dC (.int 1))) (dVar 3))))
  (dSeq (dIfS (dTst (dOp gEq (dOp gIx (dSlot (aR K) 0 (dVar 0)) (dC (.int 1))) (dC (.str "fro")))) (dRet (dIf (dTst (dOp gEq (dOp gMod (dVar 2) (dC (.int 2))) (dC (.int 0)))) (dVar 4) (dOp gSub (dOp gSub (dVar 1) (dC (.int 1))) (dVar 4)))) dNx)
  (dRet (dIf (dTst (dOp gEq (dOp gIx (dSlot (aR K) 0 (dVar 0)) (dC (.int 1))) (dC (.str "step")))) (dOp gMod (dOp gSub (dVar 4) (dVar 2)) (dVar 1)) (dVar 4)))))
def g_person_at (K : PySem.W.Frag) : DG :=
  (dSeq (dPar 3 4 (dCons (dOp gDiv (dVar 2) (dVar 1)) (dCons (dOp gMod (dVar 2) (dVar 1)) dNil)))
  (dSeq (dIfS (dAndB (dTst (dOp gEq (dOp gIx (dSlot (aR K) 0 (dVar 0)) (dC (.int 1))) (dC (.str "fro")))) (dTst (dOp gEq (dOp gMod (dVar 3) (dC (.int 2))) (dC (.int 1))))) (dSet 4 (dOp gSub (dOp gSub (dVar 1) (dC (.int 1))) (dVar 4))) dNx)
  (dSeq (dIfS (dTst (dOp gEq (dOp gIx (dSlot (aR K) 0 (dVar 0)) (dC (.int 1))) (dC (.str "step")))) (dSet 4 (dOp gMod (dOp gAddU (dVar 4) (dVar 3)) (dVar 1))) dNx)
  (dRet (dIf (dTst (dOp gEq (dOp gIx (dSlot (aR K) 0 (dVar 0)) (dC (.int 2))) (dC (.str "first")))) (dVar 4) (dOp gSub (dOp gSub (dVar 1) (dC (.int 1))) (dVar 4)))))))
def g_turns_of (K : PySem.W.Frag) : DG :=
  (dRet (dOp gAddU (dOp gDiv (dVar 3) (dVar 1)) (dCB gInt (dCons (dOp gLt (dCall 4 (F_place_in K) (dCons (dVar 0) (dCons (dVar 1) (dCons (dOp gDiv (dVar 3) (dVar 1)) (dCons (dVar 2) dNil))))) (dOp gMod (dVar 3) (dVar 1))) dNil))))
def g_share (K : PySem.W.Frag) : DG :=
  (dSeq (dSet 5 (dOp gIx (dSlot (aR K) 0 (dVar 0)) (dC (.int 0))))
  (dSeq (dPar 6 7 (dCons (dOp gDiv (dVar 4) (dVar 5)) (dCons (dOp gMod (dVar 4) (dVar 5)) dNil)))
  (dSeq (dSet 8 (dOp gMul (dVar 5) (dOp gSub (dCall 4 (F_turns_of K) (dCons (dVar 0) (dCons (dVar 1) (dCons (dVar 2) (dCons (dOp gAddU (dVar 3) (dVar 6)) dNil))))) (dCall 4 (F_turns_of K) (dCons (dVar 0) (dCons (dVar 1) (dCons (dVar 2) (dCons (dVar 3) dNil))))))))
  (dRet (dOp gAddU (dVar 8) (dIf (dTst (dOp gEq (dCall 3 (F_person_at K) (dCons (dVar 0) (dCons (dVar 1) (dCons (dOp gAddU (dVar 3) (dVar 6)) dNil)))) (dVar 2))) (dVar 7) (dC (.int 0))))))))
def g_counts_of (K : PySem.W.Frag) : DG :=
  (dSeq (dSet 2 (dIf (dTst (dOp gGt (dOp gIx (dSlot (aR K) 0 (dVar 0)) (dC (.int 3))) (dC (.int 0)))) (dOp gDiv (dVar 1) (dOp gIx (dSlot (aR K) 0 (dVar 0)) (dC (.int 3)))) (dC (.int 0))))
  (dSeq (dSet 3 (dOp gSub (dVar 1) (dVar 2)))
  (dSeq (dSet 4 (dIf (dTst (dOp gEq (dOp gIx (dSlot (aR K) 0 (dVar 0)) (dC (.int 4))) (dC (.str "on")))) (dNeg (dOp gDiv (dNeg (dVar 3)) (dOp gIx (dSlot (aR K) 0 (dVar 0)) (dC (.int 0))))) (dC (.int 0))))
  (dRet (dTup (dCons (dVar 3) (dCons (dVar 2) (dCons (dVar 4) dNil))))))))
def g_own_lot (K : PySem.W.Frag) : DG :=
  (dSeq (dAsg (dCall 2 (F_counts_of K) (dCons (dVar 0) (dCons (dVar 2) dNil))) (dgTup [4, 5, 6]))
  (dRet (dOp gAddU (dCall 5 (F_share K) (dCons (dVar 0) (dCons (dVar 1) (dCons (dVar 3) (dCons (dC (.int 0)) (dCons (dVar 4) dNil)))))) (dCall 5 (F_share K) (dCons (dVar 0) (dCons (dVar 1) (dCons (dVar 3) (dCons (dVar 6) (dCons (dVar 5) dNil)))))))))
def g_own_lots (K : PySem.W.Frag) : DG :=
  (dRet (dL (dLc (dRng1 (dCons (dVar 1) dNil)) [3] (dgName 3) dYes (dCall 4 (F_own_lot K) (dCons (dVar 0) (dCons (dVar 1) (dCons (dVar 2) (dCons (dVar 3) dNil))))))))
def g_own_spread (K : PySem.W.Frag) : DG :=
  (dSeq (dSet 3 (dCall 3 (F_own_lots K) (dCons (dVar 0) (dCons (dVar 1) (dCons (dVar 2) dNil)))))
  (dRet (dOp gSub (dCB gMaxL (dCons (dVar 3) dNil)) (dCB gMinL (dCons (dVar 3) dNil)))))
def g_spot_of (K : PySem.W.Frag) : DG :=
  (dSeq (dSet 3 (dOp gIx (dSlot (aR K) 0 (dVar 0)) (dC (.int 3))))
  (dSeq (dIfS (dTst (dOp gEq (dVar 3) (dC (.int 0)))) (dRet (dVar 2)) dNx)
  (dSeq (dIfS (dTst (dOp gEq (dOp gMod (dOp gAddU (dVar 2) (dC (.int 1))) (dVar 3)) (dC (.int 0)))) (dRet (dOp gSub (dOp gAddU (dOp gIx (dCall 2 (F_counts_of K) (dCons (dVar 0) (dCons (dVar 1) dNil))) (dC (.int 0))) (dOp gDiv (dOp gAddU (dVar 2) (dC (.int 1))) (dVar 3))) (dC (.int 1)))) dNx)
  (dRet (dOp gSub (dVar 2) (dOp gDiv (dVar 2) (dVar 3)))))))
def g_person_of (K : PySem.W.Frag) : DG :=
  (dSeq (dAsg (dCall 2 (F_counts_of K) (dCons (dVar 0) (dCons (dVar 2) dNil))) (dgTup [4, 5, 6]))
  (dSeq (dSet 7 (dIf (dTst (dOp gLt (dVar 3) (dVar 4))) (dOp gDiv (dVar 3) (dOp gIx (dSlot (aR K) 0 (dVar 0)) (dC (.int 0)))) (dOp gAddU (dVar 6) (dOp gDiv (dOp gSub (dVar 3) (dVar 4)) (dOp gIx (dSlot (aR K) 0 (dVar 0)) (dC (.int 0)))))))
  (dRet (dCall 3 (F_person_at K) (dCons (dVar 0) (dCons (dVar 1) (dCons (dVar 7) dNil)))))))
theorem law_place_in (K : PySem.W.Frag) (ds : List D) (Q : D → Prop) (R : DX) (h : F_place_in K ds Q R) : dDef 5 (g_place_in K) ds Q R := by
  obtain ⟨⟨r, m, t, p⟩, rfl, ⟨hr, hm⟩, q⟩ := h
  have h1 := hm.lo; have h2 := hm.hi; have h3 := hr.pos; have h4 := Ru.s3 hr
  dsimp only at q
  simp (disch := first | assumption | omega) only [dDef, dRet, dRetL, dSeq, dIfS, dTst, dNotB, dAndB, dOrB, dAndV, dOrV, dNotV, dNeg, dIf, dCB, dCBL, dCons, dNil, dStar, dVar, dC, dCall, dOp, dOpL, dTup, dLst, dL, dSet, dAsg, dPar, dOwn, dExpr, dNx, dFor, dWhile, dItL, dItT, dProp, dMeth, dMk, dMk0, dRaise, dPart, dNoPart, dSlL, dSlT, dRevL, dgName, dgTup, dgSets, dOwnIx, dOwnLen, dOwnTup, dApp, dSetI, dRel, relE, dItZip, dItTab, dItEnK, dItEn, dIsS, dJoinG, dSplit, dFmt, dJs, dIsT2, dIndex, dCallS, dYes, wipeE, dXf, dIsX, List.map_cons, List.map_nil, List.cons_append, List.nil_append, List.append_nil, List.length_cons, List.length_nil, List.replicate_succ, List.replicate_zero, Nat.reduceAdd, Nat.reduceSub, List.getElem?_cons_zero, List.getElem?_cons_succ, List.set_cons_zero, List.set_cons_succ, Nat.zero_add, Nat.add_zero, Nat.sub_self, x_add, x_sub, x_mulL, x_mulR, x_div, x_mod, x_lt, x_le, x_gt, x_ge, x_eq, x_ne, x_fro, x_step, x_first, x_last, x_on, x_l0, x_l1, x_l2, x_l3, x_l4, x_t0, x_t1, x_t2, x_t3, x_t4, x_intB, x_intI, x_max2, x_min2, x_lenL, x_lenT, x_sz, x_rs, x_rw, x_rf, x_ra, x_rl, x_slot, x_slotD, true_and, and_true, eq_self, decide_eq_true_eq, Bool.not_eq_true', decide_eq_false_iff_not, res_ok, res_er, Bool.and_eq_true, if_true, if_false, Bool.false_eq_true, g_place_in]
  unfold placeIn mir at q
  by_cases e : t % 2 = 0 <;> cases hw : r.w <;> cases hf : r.f <;> simp_all
theorem law_person_at (K : PySem.W.Frag) (ds : List D) (Q : D → Prop) (R : DX) (h : F_person_at K ds Q R) : dDef 5 (g_person_at K) ds Q R := by
  obtain ⟨⟨r, m, t⟩, rfl, ⟨hr, hm⟩, q⟩ := h
  have h1 := hm.lo; have h2 := hm.hi; have h3 := hr.pos; have h4 := Ru.s3 hr
  dsimp only at q
  simp (disch := first | assumption | omega) only [dDef, dRet, dRetL, dSeq, dIfS, dTst, dNotB, dAndB, dOrB, dAndV, dOrV, dNotV, dNeg, dIf, dCB, dCBL, dCons, dNil, dStar, dVar, dC, dCall, dOp, dOpL, dTup, dLst, dL, dSet, dAsg, dPar, dOwn, dExpr, dNx, dFor, dWhile, dItL, dItT, dProp, dMeth, dMk, dMk0, dRaise, dPart, dNoPart, dSlL, dSlT, dRevL, dgName, dgTup, dgSets, dOwnIx, dOwnLen, dOwnTup, dApp, dSetI, dRel, relE, dItZip, dItTab, dItEnK, dItEn, dIsS, dJoinG, dSplit, dFmt, dJs, dIsT2, dIndex, dCallS, dYes, wipeE, dXf, dIsX, List.map_cons, List.map_nil, List.cons_append, List.nil_append, List.append_nil, List.length_cons, List.length_nil, List.replicate_succ, List.replicate_zero, Nat.reduceAdd, Nat.reduceSub, List.getElem?_cons_zero, List.getElem?_cons_succ, List.set_cons_zero, List.set_cons_succ, Nat.zero_add, Nat.add_zero, Nat.sub_self, x_add, x_sub, x_mulL, x_mulR, x_div, x_mod, x_lt, x_le, x_gt, x_ge, x_eq, x_ne, x_fro, x_step, x_first, x_last, x_on, x_l0, x_l1, x_l2, x_l3, x_l4, x_t0, x_t1, x_t2, x_t3, x_t4, x_intB, x_intI, x_max2, x_min2, x_lenL, x_lenT, x_sz, x_rs, x_rw, x_rf, x_ra, x_rl, x_slot, x_slotD, true_and, and_true, eq_self, decide_eq_true_eq, Bool.not_eq_true', decide_eq_false_iff_not, res_ok, res_er, Bool.and_eq_true, if_true, if_false, Bool.false_eq_true, g_person_at, dPar]
  unfold personAt placeAt mir at q
  by_cases e : t / m % 2 = 1 <;> cases hw : r.w <;> cases hf : r.f <;> simp_all
theorem law_turns_of (K : PySem.W.Frag) (ds : List D) (Q : D → Prop) (R : DX) (h : F_turns_of K ds Q R) : dDef 4 (g_turns_of K) ds Q R := by
  obtain ⟨⟨r, m, p, t⟩, rfl, ⟨hr, hm⟩, q⟩ := h
  have h1 := hm.lo; have h2 := hm.hi; have h3 := hr.pos; have h4 := Ru.s3 hr
  dsimp only at q
  simp (disch := first | assumption | omega) only [dDef, dRet, dRetL, dSeq, dIfS, dTst, dNotB, dAndB, dOrB, dAndV, dOrV, dNotV, dNeg, dIf, dCB, dCBL, dCons, dNil, dStar, dVar, dC, dCall, dOp, dOpL, dTup, dLst, dL, dSet, dAsg, dPar, dOwn, dExpr, dNx, dFor, dWhile, dItL, dItT, dProp, dMeth, dMk, dMk0, dRaise, dPart, dNoPart, dSlL, dSlT, dRevL, dgName, dgTup, dgSets, dOwnIx, dOwnLen, dOwnTup, dApp, dSetI, dRel, relE, dItZip, dItTab, dItEnK, dItEn, dIsS, dJoinG, dSplit, dFmt, dJs, dIsT2, dIndex, dCallS, dYes, wipeE, dXf, dIsX, List.map_cons, List.map_nil, List.cons_append, List.nil_append, List.append_nil, List.length_cons, List.length_nil, List.replicate_succ, List.replicate_zero, Nat.reduceAdd, Nat.reduceSub, List.getElem?_cons_zero, List.getElem?_cons_succ, List.set_cons_zero, List.set_cons_succ, Nat.zero_add, Nat.add_zero, Nat.sub_self, x_add, x_sub, x_mulL, x_mulR, x_div, x_mod, x_lt, x_le, x_gt, x_ge, x_eq, x_ne, x_fro, x_step, x_first, x_last, x_on, x_l0, x_l1, x_l2, x_l3, x_l4, x_t0, x_t1, x_t2, x_t3, x_t4, x_intB, x_intI, x_max2, x_min2, x_lenL, x_lenT, x_sz, x_rs, x_rw, x_rf, x_ra, x_rl, x_slot, x_slotD, true_and, and_true, eq_self, decide_eq_true_eq, Bool.not_eq_true', decide_eq_false_iff_not, res_ok, res_er, Bool.and_eq_true, if_true, if_false, Bool.false_eq_true, g_turns_of, y_place_in]
  exact q
theorem law_share (K : PySem.W.Frag) (ds : List D) (Q : D → Prop) (R : DX) (h : F_share K ds Q R) : dDef 9 (g_share K) ds Q R := by
  obtain ⟨⟨r, m, p, b, c⟩, rfl, ⟨hr, hm⟩, q⟩ := h
  have h1 := hm.lo; have h2 := hm.hi; have h3 := hr.pos; have h4 := Ru.s3 hr
  dsimp only at q
  simp (disch := first | assumption | omega) only [dDef, dRet, dRetL, dSeq, dIfS, dTst, dNotB, dAndB, dOrB, dAndV, dOrV, dNotV, dNeg, dIf, dCB, dCBL, dCons, dNil, dStar, dVar, dC, dCall, dOp, dOpL, dTup, dLst, dL, dSet, dAsg, dPar, dOwn, dExpr, dNx, dFor, dWhile, dItL, dItT, dProp, dMeth, dMk, dMk0, dRaise, dPart, dNoPart, dSlL, dSlT, dRevL, dgName, dgTup, dgSets, dOwnIx, dOwnLen, dOwnTup, dApp, dSetI, dRel, relE, dItZip, dItTab, dItEnK, dItEn, dIsS, dJoinG, dSplit, dFmt, dJs, dIsT2, dIndex, dCallS, dYes, wipeE, dXf, dIsX, List.map_cons, List.map_nil, List.cons_append, List.nil_append, List.append_nil, List.length_cons, List.length_nil, List.replicate_succ, List.replicate_zero, Nat.reduceAdd, Nat.reduceSub, List.getElem?_cons_zero, List.getElem?_cons_succ, List.set_cons_zero, List.set_cons_succ, Nat.zero_add, Nat.add_zero, Nat.sub_self, x_add, x_sub, x_mulL, x_mulR, x_div, x_mod, x_lt, x_le, x_gt, x_ge, x_eq, x_ne, x_fro, x_step, x_first, x_last, x_on, x_l0, x_l1, x_l2, x_l3, x_l4, x_t0, x_t1, x_t2, x_t3, x_t4, x_intB, x_intI, x_max2, x_min2, x_lenL, x_lenT, x_sz, x_rs, x_rw, x_rf, x_ra, x_rl, x_slot, x_slotD, true_and, and_true, eq_self, decide_eq_true_eq, Bool.not_eq_true', decide_eq_false_iff_not, res_ok, res_er, Bool.and_eq_true, if_true, if_false, Bool.false_eq_true, g_share, y_turns_of, y_person_at, dPar]
  unfold share at q
  by_cases e : personAt r m (b + c / r.s) = p <;> simp_all
theorem law_counts_of (K : PySem.W.Frag) (ds : List D) (Q : D → Prop) (R : DX) (h : F_counts_of K ds Q R) : dDef 5 (g_counts_of K) ds Q R := by
  obtain ⟨⟨r, n⟩, rfl, hr, q⟩ := h
  have h3 := hr.pos; have h4 := Ru.s3 hr
  have h5 : r.a ≤ 4 := by rcases hr.a with e | e | e | e <;> omega
  dsimp only at q
  unfold begin_ main many at q
  by_cases e : 0 < r.a
  · rw [if_pos e] at q
    simp (disch := first | assumption | omega) only [dDef, dRet, dRetL, dSeq, dIfS, dTst, dNotB, dAndB, dOrB, dAndV, dOrV, dNotV, dNeg, dIf, dCB, dCBL, dCons, dNil, dStar, dVar, dC, dCall, dOp, dOpL, dTup, dLst, dL, dSet, dAsg, dPar, dOwn, dExpr, dNx, dFor, dWhile, dItL, dItT, dProp, dMeth, dMk, dMk0, dRaise, dPart, dNoPart, dSlL, dSlT, dRevL, dgName, dgTup, dgSets, dOwnIx, dOwnLen, dOwnTup, dApp, dSetI, dRel, relE, dItZip, dItTab, dItEnK, dItEn, dIsS, dJoinG, dSplit, dFmt, dJs, dIsT2, dIndex, dCallS, dYes, wipeE, dXf, dIsX, List.map_cons, List.map_nil, List.cons_append, List.nil_append, List.append_nil, List.length_cons, List.length_nil, List.replicate_succ, List.replicate_zero, Nat.reduceAdd, Nat.reduceSub, List.getElem?_cons_zero, List.getElem?_cons_succ, List.set_cons_zero, List.set_cons_succ, Nat.zero_add, Nat.add_zero, Nat.sub_self, x_add, x_sub, x_mulL, x_mulR, x_div, x_mod, x_lt, x_le, x_gt, x_ge, x_eq, x_ne, x_fro, x_step, x_first, x_last, x_on, x_l0, x_l1, x_l2, x_l3, x_l4, x_t0, x_t1, x_t2, x_t3, x_t4, x_intB, x_intI, x_max2, x_min2, x_lenL, x_lenT, x_sz, x_rs, x_rw, x_rf, x_ra, x_rl, x_slot, x_slotD, true_and, and_true, eq_self, decide_eq_true_eq, Bool.not_eq_true', decide_eq_false_iff_not, res_ok, res_er, Bool.and_eq_true, if_true, if_false, Bool.false_eq_true, g_counts_of, dPar, e]
    cases hl : r.l <;> simp_all
  · rw [if_neg e] at q
    simp (disch := first | assumption | omega) only [dDef, dRet, dRetL, dSeq, dIfS, dTst, dNotB, dAndB, dOrB, dAndV, dOrV, dNotV, dNeg, dIf, dCB, dCBL, dCons, dNil, dStar, dVar, dC, dCall, dOp, dOpL, dTup, dLst, dL, dSet, dAsg, dPar, dOwn, dExpr, dNx, dFor, dWhile, dItL, dItT, dProp, dMeth, dMk, dMk0, dRaise, dPart, dNoPart, dSlL, dSlT, dRevL, dgName, dgTup, dgSets, dOwnIx, dOwnLen, dOwnTup, dApp, dSetI, dRel, relE, dItZip, dItTab, dItEnK, dItEn, dIsS, dJoinG, dSplit, dFmt, dJs, dIsT2, dIndex, dCallS, dYes, wipeE, dXf, dIsX, List.map_cons, List.map_nil, List.cons_append, List.nil_append, List.append_nil, List.length_cons, List.length_nil, List.replicate_succ, List.replicate_zero, Nat.reduceAdd, Nat.reduceSub, List.getElem?_cons_zero, List.getElem?_cons_succ, List.set_cons_zero, List.set_cons_succ, Nat.zero_add, Nat.add_zero, Nat.sub_self, x_add, x_sub, x_mulL, x_mulR, x_div, x_mod, x_lt, x_le, x_gt, x_ge, x_eq, x_ne, x_fro, x_step, x_first, x_last, x_on, x_l0, x_l1, x_l2, x_l3, x_l4, x_t0, x_t1, x_t2, x_t3, x_t4, x_intB, x_intI, x_max2, x_min2, x_lenL, x_lenT, x_sz, x_rs, x_rw, x_rf, x_ra, x_rl, x_slot, x_slotD, true_and, and_true, eq_self, decide_eq_true_eq, Bool.not_eq_true', decide_eq_false_iff_not, res_ok, res_er, Bool.and_eq_true, if_true, if_false, Bool.false_eq_true, g_counts_of, dPar, e]
    cases hl : r.l <;> simp_all
theorem law_own_lot (K : PySem.W.Frag) (ds : List D) (Q : D → Prop) (R : DX) (h : F_own_lot K ds Q R) : dDef 7 (g_own_lot K) ds Q R := by
  obtain ⟨⟨r, m, n, p⟩, rfl, ⟨hr, hm⟩, q⟩ := h
  dsimp only at q
  simp (disch := first | assumption | omega) only [dDef, dRet, dRetL, dSeq, dIfS, dTst, dNotB, dAndB, dOrB, dAndV, dOrV, dNotV, dNeg, dIf, dCB, dCBL, dCons, dNil, dStar, dVar, dC, dCall, dOp, dOpL, dTup, dLst, dL, dSet, dAsg, dPar, dOwn, dExpr, dNx, dFor, dWhile, dItL, dItT, dProp, dMeth, dMk, dMk0, dRaise, dPart, dNoPart, dSlL, dSlT, dRevL, dgName, dgTup, dgSets, dOwnIx, dOwnLen, dOwnTup, dApp, dSetI, dRel, relE, dItZip, dItTab, dItEnK, dItEn, dIsS, dJoinG, dSplit, dFmt, dJs, dIsT2, dIndex, dCallS, dYes, wipeE, dXf, dIsX, List.map_cons, List.map_nil, List.cons_append, List.nil_append, List.append_nil, List.length_cons, List.length_nil, List.replicate_succ, List.replicate_zero, Nat.reduceAdd, Nat.reduceSub, List.getElem?_cons_zero, List.getElem?_cons_succ, List.set_cons_zero, List.set_cons_succ, Nat.zero_add, Nat.add_zero, Nat.sub_self, x_add, x_sub, x_mulL, x_mulR, x_div, x_mod, x_lt, x_le, x_gt, x_ge, x_eq, x_ne, x_fro, x_step, x_first, x_last, x_on, x_l0, x_l1, x_l2, x_l3, x_l4, x_t0, x_t1, x_t2, x_t3, x_t4, x_intB, x_intI, x_max2, x_min2, x_lenL, x_lenT, x_sz, x_rs, x_rw, x_rf, x_ra, x_rl, x_slot, x_slotD, true_and, and_true, eq_self, decide_eq_true_eq, Bool.not_eq_true', decide_eq_false_iff_not, res_ok, res_er, Bool.and_eq_true, if_true, if_false, Bool.false_eq_true, g_own_lot, y_counts_of, y_share]
  exact q
theorem law_spot_of (K : PySem.W.Frag) (ds : List D) (Q : D → Prop) (R : DX) (h : F_spot_of K ds Q R) : dDef 4 (g_spot_of K) ds Q R := by
  obtain ⟨⟨r, n, t⟩, rfl, hr, q⟩ := h
  have h5 : r.a ≤ 4 ∧ 0 ≤ r.a := by rcases hr.a with e | e | e | e <;> omega
  dsimp only at q
  unfold spotOf at q
  by_cases e : r.a = 0
  · rw [if_pos e] at q
    simp (disch := first | assumption | omega) only [dDef, dRet, dRetL, dSeq, dIfS, dTst, dNotB, dAndB, dOrB, dAndV, dOrV, dNotV, dNeg, dIf, dCB, dCBL, dCons, dNil, dStar, dVar, dC, dCall, dOp, dOpL, dTup, dLst, dL, dSet, dAsg, dPar, dOwn, dExpr, dNx, dFor, dWhile, dItL, dItT, dProp, dMeth, dMk, dMk0, dRaise, dPart, dNoPart, dSlL, dSlT, dRevL, dgName, dgTup, dgSets, dOwnIx, dOwnLen, dOwnTup, dApp, dSetI, dRel, relE, dItZip, dItTab, dItEnK, dItEn, dIsS, dJoinG, dSplit, dFmt, dJs, dIsT2, dIndex, dCallS, dYes, wipeE, dXf, dIsX, List.map_cons, List.map_nil, List.cons_append, List.nil_append, List.append_nil, List.length_cons, List.length_nil, List.replicate_succ, List.replicate_zero, Nat.reduceAdd, Nat.reduceSub, List.getElem?_cons_zero, List.getElem?_cons_succ, List.set_cons_zero, List.set_cons_succ, Nat.zero_add, Nat.add_zero, Nat.sub_self, x_add, x_sub, x_mulL, x_mulR, x_div, x_mod, x_lt, x_le, x_gt, x_ge, x_eq, x_ne, x_fro, x_step, x_first, x_last, x_on, x_l0, x_l1, x_l2, x_l3, x_l4, x_t0, x_t1, x_t2, x_t3, x_t4, x_intB, x_intI, x_max2, x_min2, x_lenL, x_lenT, x_sz, x_rs, x_rw, x_rf, x_ra, x_rl, x_slot, x_slotD, true_and, and_true, eq_self, decide_eq_true_eq, Bool.not_eq_true', decide_eq_false_iff_not, res_ok, res_er, Bool.and_eq_true, if_true, if_false, Bool.false_eq_true, g_spot_of, e]
    exact q
  · rw [if_neg e] at q
    simp (disch := first | assumption | omega) only [dDef, dRet, dRetL, dSeq, dIfS, dTst, dNotB, dAndB, dOrB, dAndV, dOrV, dNotV, dNeg, dIf, dCB, dCBL, dCons, dNil, dStar, dVar, dC, dCall, dOp, dOpL, dTup, dLst, dL, dSet, dAsg, dPar, dOwn, dExpr, dNx, dFor, dWhile, dItL, dItT, dProp, dMeth, dMk, dMk0, dRaise, dPart, dNoPart, dSlL, dSlT, dRevL, dgName, dgTup, dgSets, dOwnIx, dOwnLen, dOwnTup, dApp, dSetI, dRel, relE, dItZip, dItTab, dItEnK, dItEn, dIsS, dJoinG, dSplit, dFmt, dJs, dIsT2, dIndex, dCallS, dYes, wipeE, dXf, dIsX, List.map_cons, List.map_nil, List.cons_append, List.nil_append, List.append_nil, List.length_cons, List.length_nil, List.replicate_succ, List.replicate_zero, Nat.reduceAdd, Nat.reduceSub, List.getElem?_cons_zero, List.getElem?_cons_succ, List.set_cons_zero, List.set_cons_succ, Nat.zero_add, Nat.add_zero, Nat.sub_self, x_add, x_sub, x_mulL, x_mulR, x_div, x_mod, x_lt, x_le, x_gt, x_ge, x_eq, x_ne, x_fro, x_step, x_first, x_last, x_on, x_l0, x_l1, x_l2, x_l3, x_l4, x_t0, x_t1, x_t2, x_t3, x_t4, x_intB, x_intI, x_max2, x_min2, x_lenL, x_lenT, x_sz, x_rs, x_rw, x_rf, x_ra, x_rl, x_slot, x_slotD, true_and, and_true, eq_self, decide_eq_true_eq, Bool.not_eq_true', decide_eq_false_iff_not, res_ok, res_er, Bool.and_eq_true, if_true, if_false, Bool.false_eq_true, g_spot_of, e, y_counts_of]
    split <;> simp_all
theorem law_person_of (K : PySem.W.Frag) (ds : List D) (Q : D → Prop) (R : DX) (h : F_person_of K ds Q R) : dDef 8 (g_person_of K) ds Q R := by
  obtain ⟨⟨r, m, n, t⟩, rfl, ⟨hr, hm⟩, q⟩ := h
  have h3 := hr.pos; have h4 := Ru.s3 hr
  dsimp only at q
  unfold personOf turnOf at q
  simp (disch := first | assumption | omega) only [dDef, dRet, dRetL, dSeq, dIfS, dTst, dNotB, dAndB, dOrB, dAndV, dOrV, dNotV, dNeg, dIf, dCB, dCBL, dCons, dNil, dStar, dVar, dC, dCall, dOp, dOpL, dTup, dLst, dL, dSet, dAsg, dPar, dOwn, dExpr, dNx, dFor, dWhile, dItL, dItT, dProp, dMeth, dMk, dMk0, dRaise, dPart, dNoPart, dSlL, dSlT, dRevL, dgName, dgTup, dgSets, dOwnIx, dOwnLen, dOwnTup, dApp, dSetI, dRel, relE, dItZip, dItTab, dItEnK, dItEn, dIsS, dJoinG, dSplit, dFmt, dJs, dIsT2, dIndex, dCallS, dYes, wipeE, dXf, dIsX, List.map_cons, List.map_nil, List.cons_append, List.nil_append, List.append_nil, List.length_cons, List.length_nil, List.replicate_succ, List.replicate_zero, Nat.reduceAdd, Nat.reduceSub, List.getElem?_cons_zero, List.getElem?_cons_succ, List.set_cons_zero, List.set_cons_succ, Nat.zero_add, Nat.add_zero, Nat.sub_self, x_add, x_sub, x_mulL, x_mulR, x_div, x_mod, x_lt, x_le, x_gt, x_ge, x_eq, x_ne, x_fro, x_step, x_first, x_last, x_on, x_l0, x_l1, x_l2, x_l3, x_l4, x_t0, x_t1, x_t2, x_t3, x_t4, x_intB, x_intI, x_max2, x_min2, x_lenL, x_lenT, x_sz, x_rs, x_rw, x_rf, x_ra, x_rl, x_slot, x_slotD, true_and, and_true, eq_self, decide_eq_true_eq, Bool.not_eq_true', decide_eq_false_iff_not, res_ok, res_er, Bool.and_eq_true, if_true, if_false, Bool.false_eq_true, g_person_of, y_counts_of, y_person_at]
  split <;> simp_all
end Pr

set_option maxHeartbeats 4000000
/-! Comprehensions and loops over lists of any kind; ranges; the rows of turns. -/
namespace Pr
open PySem PySem.Spec PyProof.Rows L2 Dl Dv Dk Gx Ma

theorem lc_gen {α : Type} {gt : DTg} {ft : DB} {fe : DE} {env : Env'} {f g : α → D} {p : α → Bool} {Q : List D → Prop} : ∀ (xs : List α) (acc : List D),
    (∀ x ∈ xs, ∀ (Q1 : D → Prop) (Q2 : Prop), (p x = true → Q1 (g x)) → (p x = false → Q2) → gt (f x) env fun e1 => ft e1 (fun b => if b = true then fe e1 Q1 FX else Q2) FX) →
    acc.length + xs.length ≤ sizeLine → Q (acc ++ (xs.filter p).map g) → dLcL gt ft fe env (xs.map f) acc Q
  | [], acc, _, _, q => by simpa [dLcL] using q
  | x :: xs, acc, hs, hl, q => by
    rw [List.map_cons]
    unfold dLcL
    simp only [List.length_cons] at hl
    refine hs x List.mem_cons_self _ _ (fun e => ⟨by omega, lc_gen xs _ (fun x hx => hs x (List.mem_cons_of_mem _ hx)) (by simp; omega) ?_⟩) (fun e => lc_gen xs _ (fun x hx => hs x (List.mem_cons_of_mem _ hx)) (by omega) ?_)
    · simpa [List.filter_cons, e] using q
    · simpa [List.filter_cons, e] using q
/-- [g x for x in xs if p x] -/
theorem lc_if {α : Type} {gt : DTg} {ft : DB} {fe : DE} {env : Env'} {ds : List D} {Q : List D → Prop} {xs : List α} (f g : α → D) (p : α → Bool) (e : ds = xs.map f) (hl : xs.length ≤ sizeLine)
    (hs : ∀ x ∈ xs, ∀ (Q1 : D → Prop) (Q2 : Prop), (p x = true → Q1 (g x)) → (p x = false → Q2) → gt (f x) env fun e1 => ft e1 (fun b => if b = true then fe e1 Q1 FX else Q2) FX) (q : Q ((xs.filter p).map g)) : dLcL gt ft fe env ds [] Q := by
  subst e
  exact lc_gen xs [] hs (by simpa using hl) (by simpa using q)
/-- [g x for x in xs] -/
theorem lc_map {α : Type} {gt : DTg} {fe : DE} {env : Env'} {ds : List D} {Q : List D → Prop} {xs : List α} (f g : α → D) (e : ds = xs.map f) (hl : xs.length ≤ sizeLine)
    (hs : ∀ x ∈ xs, ∀ (Q1 : D → Prop), Q1 (g x) → gt (f x) env fun e1 => fe e1 Q1 FX) (q : Q (xs.map g)) : dLcL gt dYes fe env ds [] Q := by
  subst e
  refine lc_gen (p := fun _ => true) (f := f) (g := g) xs [] (fun x hx Q1 Q2 h1 _ => ?_) (by simpa using hl) (by rw [List.nil_append, List.filter_eq_self.mpr fun _ _ => rfl]; exact q)
  exact hs x hx Q1 (h1 rfl)
theorem for_inv {α : Type} {gt : DTg} {gb : DG} {k : Kn} (f : α → D) (all : List α) (Inv : List α → Env' → Prop)
    (step : ∀ pre x post, all = pre ++ x :: post → ∀ e (N : Env' → Prop), Inv pre e → (∀ e', Inv (pre ++ [x]) e' → N e') → gt (f x) e fun e1 => gb e1 { k with nx := N, ct := N, bk := k.nx })
    (fin : ∀ e, Inv all e → k.nx e) : ∀ (post pre : List α) (env : Env'), all = pre ++ post → Inv pre env → dForL gt gb (post.map f) env k
  | [], pre, env, ha, h => fin env (by rw [ha, List.append_nil]; exact h)
  | x :: post, pre, env, ha, h => by
    rw [List.map_cons]
    unfold dForL
    exact step pre x post ha env _ h fun e' h' => for_inv f all Inv step fin post (pre ++ [x]) e' (by rw [ha]; simp) h'
/-- for x in xs -/
theorem for_list {α : Type} {gt : DTg} {gb : DG} {k : Kn} {ds : List D} {env : Env'} (f : α → D) (all : List α) (Inv : List α → Env' → Prop) (ed : ds = all.map f) (h0 : Inv [] env)
    (step : ∀ pre x post, all = pre ++ x :: post → ∀ e (N : Env' → Prop), Inv pre e → (∀ e', Inv (pre ++ [x]) e' → N e') → gt (f x) e fun e1 => gb e1 { k with nx := N, ct := N, bk := k.nx })
    (fin : ∀ e, Inv all e → k.nx e) : dForL gt gb ds env k := by
  subst ed
  exact for_inv f all Inv step fin all [] env rfl h0
theorem while_inv {ft : DB} {gb : DG} {k : Kn} (Inv : Nat → Env' → Prop)
    (hs : ∀ n e (N : Env' → Prop), Inv n e → (∀ m e', m < n → Inv m e' → N e') → ft e (fun b => if b = true then gb e { k with nx := N, ct := N, bk := k.nx } else k.nx e) (fun x => k.xc x e)) :
    ∀ (F n : Nat) (e : Env'), n ≤ F → Inv n e → dWhileN ft gb (F + 1) e k
  | 0, n, e, hn, h => by
    unfold dWhileN
    exact hs n e _ h fun m e' hm h' => by omega
  | F + 1, n, e, hn, h => by
    unfold dWhileN
    exact hs n e _ h fun m e' hm h' => while_inv Inv hs F m e' (by omega) h'
theorem while_ok {ft : DB} {gb : DG} {k : Kn} {env : Env'} (n : Nat) (Inv : Nat → Env' → Prop) (h : Inv n env)
    (hs : ∀ n e (N : Env' → Prop), Inv n e → (∀ m e', m < n → Inv m e' → N e') → ft e (fun b => if b = true then gb e { k with nx := N, ct := N, bk := k.nx } else k.nx e) (fun x => k.xc x e)) : dWhile ft gb env k :=
  ⟨n + 1, while_inv Inv hs n n env (Nat.le_refl _) h⟩
/-! ### ranges -/
theorem upto_length (n : Nat) : (upto n).length = n := by unfold upto; rw [List.length_map, List.length_range]
theorem upto_get {n i : Nat} (h : i < n) : (upto n)[i]? = some (i : Int) := by
  unfold upto
  rw [List.getElem?_map, List.getElem?_range h]
  rfl
theorem upto_mem {n : Nat} {x : Int} : x ∈ upto n ↔ 0 ≤ x ∧ x < n := by
  unfold upto
  constructor
  · intro h
    obtain ⟨k, hk, rfl⟩ := List.mem_map.mp h
    have := List.mem_range.mp hk
    omega
  · intro h
    exact List.mem_map.mpr ⟨x.toNat, List.mem_range.mpr (by omega), by omega⟩
theorem rng_upto (n : Nat) : rng 0 n = (upto n).map D.int := by
  unfold rng upto
  rw [List.map_map]
  refine List.map_congr_left fun k _ => ?_
  show D.int (0 + (k : Int)) = D.int (k : Int)
  rw [Int.zero_add]
theorem rgD_upto (m : Int) : rgD 0 m = (upto m.toNat).map D.int := by
  unfold rgD upto
  rw [List.map_map, Int.sub_zero]
  refine List.map_congr_left fun k _ => ?_
  show D.int (0 + (k : Int)) = D.int (k : Int)
  rw [Int.zero_add]
section
variable {Q : List D → Prop} {R : DX} {env : Env'} {f g : DE} {n m : Int}
def rng1D (Q : List D → Prop) : D → Prop := fun d => match d with
  | .int j => -(2 ^ 62) ≤ j ∧ j < 2 ^ 62 ∧ Q (rng 0 j.toNat)
  | _ => False
theorem x_rng1 : dRng1 (dCons f dNil) env Q R = f env (rng1D Q) R := by
  show f env _ R = _
  congr 1
  funext d
  unfold rng1D
  cases d <;> rfl
theorem x_rng1D (h0 : -4000000000000000000 ≤ n) (h1 : n ≤ 4000000000000000000) : rng1D Q (.int n) = Q ((upto n.toNat).map .int) := propext ⟨fun h => by rw [← rng_upto]; exact h.2.2, fun h => ⟨by omega, by omega, by rw [rng_upto]; exact h⟩⟩
def rangeL (i j : Int) : List Int := (upto (j - i).toNat).map fun k => i + k
theorem rng_range (i j : Int) : rng i (j - i).toNat = (rangeL i j).map .int := by
  unfold rng rangeL upto
  rw [List.map_map, List.map_map]
  rfl
def rng2D (Q : List D → Prop) (i : Int) : D → Prop := fun d => match d with
  | .int j => (-(2 ^ 62) ≤ i ∧ i < 2 ^ 62 ∧ -(2 ^ 62) ≤ j ∧ j < 2 ^ 62) ∧ Q (rng i (j - i).toNat)
  | _ => False
def rng2E (g : DE) (env : Env') (Q : List D → Prop) (R : DX) : D → Prop := fun d => match d with
  | .int i => g env (rng2D Q i) R
  | _ => g env (fun _ => False) R
theorem x_rng2 : dRng2 (dCons f (dCons g dNil)) env Q R = f env (rng2E g env Q R) R := by
  show f env _ R = _
  congr 1
  funext d
  unfold rng2E
  cases d <;> (show g env _ R = g env _ R) <;> congr 1 <;> funext e <;> (try unfold rng2D) <;> cases e <;> rfl
theorem x_rng2E : rng2E g env Q R (.int n) = g env (rng2D Q n) R := rfl
theorem x_rng2D (h0 : -4000000000000000000 ≤ n) (h1 : n ≤ 4000000000000000000) (h2 : -4000000000000000000 ≤ m) (h3 : m ≤ 4000000000000000000) : rng2D Q n (.int m) = Q ((rangeL n m).map .int) := propext ⟨fun h => by rw [← rng_range]; exact h.2, fun h => ⟨⟨by omega, by omega, by omega, by omega⟩, by rw [rng_range]; exact h⟩⟩
end
/-! ### the rows of turns -/
def rowJ (r : Ru) (m j : Int) : List Int := (upto m.toNat).map fun i => mir r m (placeAt r m j i)
theorem list_ext {xs ys : List Int} {n : Nat} (h1 : xs.length = n) (h2 : ys.length = n) (h : ∀ i, i < n → xs[i]? = ys[i]?) : xs = ys := by
  refine List.ext_getElem? fun i => ?_
  by_cases hi : i < n
  · exact h i hi
  · rw [List.getElem?_eq_none (by omega), List.getElem?_eq_none (by omega)]
theorem rev_upto (n : Nat) : (upto n).reverse = (upto n).map fun i => (n : Int) - 1 - i := by
  refine list_ext (n := n) (by rw [List.length_reverse, upto_length]) (by rw [List.length_map, upto_length]) fun i hi => ?_
  rw [List.getElem?_reverse (by rw [upto_length]; exact hi), upto_length, upto_get (by omega), List.getElem?_map, upto_get hi]
  simp
  omega
theorem rot_upto {n k : Nat} (h : k < n) : (upto n).drop k ++ (upto n).take k = (upto n).map fun i => (i + (k : Int)) % (n : Int) := by
  refine list_ext (n := n) (by simp [upto_length]; omega) (by rw [List.length_map, upto_length]) fun i hi => ?_
  rw [List.getElem?_map, upto_get hi]
  by_cases c : i < n - k
  · rw [List.getElem?_append_left (by rw [List.length_drop, upto_length]; exact c), List.getElem?_drop, upto_get (by omega)]
    show some _ = some (((i : Int) + (k : Int)) % (n : Int))
    rw [Int.emod_eq_of_lt (by omega) (by omega)]
    congr 1; omega
  · rw [List.getElem?_append_right (by rw [List.length_drop, upto_length]; omega), List.length_drop, upto_length, List.getElem?_take, if_pos (by omega), upto_get (by omega)]
    show some _ = some (((i : Int) + (k : Int)) % (n : Int))
    rw [← Int.sub_emod_right, Int.emod_eq_of_lt (by omega) (by omega)]
    congr 1; omega
/-- all persons of the first turns -/
def turnsL (r : Ru) (m : Int) (n : Nat) : List Int := (upto n).map (personAt r m)
theorem upto_add (a b : Nat) : upto (a + b) = upto a ++ (upto b).map fun i => (a : Int) + i := by
  induction b with
  | zero => simp [upto]
  | succ b ih =>
    rw [← Nat.add_assoc, upto_succ, upto_succ, ih, List.map_append, List.append_assoc]
    congr 2
theorem turnsL_next {r : Ru} {m : Nat} (j : Nat) (hm : Mo m) : turnsL r m ((j + 1) * m) = turnsL r m (j * m) ++ rowJ r m j := by
  have h1 := hm.lo
  unfold turnsL rowJ
  rw [show (j + 1) * m = j * m + m by rw [Nat.succ_mul], upto_add, List.map_append, List.map_map]
  congr 1
  rw [show ((m : Nat) : Int).toNat = m by omega]
  refine List.map_congr_left fun i hi => ?_
  have hi2 := upto_mem.mp hi
  show personAt r m (((j * m : Nat) : Int) + i) = _
  unfold personAt
  have e : (((j * m : Nat) : Int) + i) / (m : Int) = j ∧ (((j * m : Nat) : Int) + i) % (m : Int) = i :=
    (Int.ediv_emod_unique (by omega)).mpr ⟨by rw [Int.natCast_mul, Int.mul_comm]; omega, by omega, by omega⟩
  rw [e.1, e.2]
end Pr

set_option maxHeartbeats 4000000
/-! lots.py: the lists, what is refused. -/
namespace Pr
open PySem PySem.Spec PyProof.Rows L2 Dl Dv Dk Gx Ma
theorem law_own_lots (K : PySem.W.Frag) (ds : List D) (Q : D → Prop) (R : DX) (h : F_own_lots K ds Q R) : dDef 4 (g_own_lots K) ds Q R := by
  obtain ⟨⟨r, m, n⟩, rfl, ⟨hr, hm⟩, q⟩ := h
  have h1 := hm.lo; have h2 := hm.hi
  dsimp only at q
  simp (disch := first | assumption | omega) only [dDef, dRet, dRetL, dSeq, dIfS, dTst, dNotB, dAndB, dOrB, dAndV, dOrV, dNotV, dNeg, dIf, dCB, dCBL, dCons, dNil, dStar, dVar, dC, dCall, dOp, dOpL, dTup, dLst, dL, dSet, dAsg, dPar, dOwn, dExpr, dNx, dFor, dWhile, dItL, dItT, dProp, dMeth, dMk, dMk0, dRaise, dPart, dNoPart, dSlL, dSlT, dRevL, dgName, dgTup, dgSets, dOwnIx, dOwnLen, dOwnTup, dApp, dSetI, dRel, relE, dItZip, dItTab, dItEnK, dItEn, dIsS, dJoinG, dSplit, dFmt, dJs, dIsT2, dIndex, dCallS, dYes, wipeE, dXf, dIsX, List.map_cons, List.map_nil, List.cons_append, List.nil_append, List.append_nil, List.length_cons, List.length_nil, List.replicate_succ, List.replicate_zero, Nat.reduceAdd, Nat.reduceSub, List.getElem?_cons_zero, List.getElem?_cons_succ, List.set_cons_zero, List.set_cons_succ, Nat.zero_add, Nat.add_zero, Nat.sub_self, x_add, x_sub, x_mulL, x_mulR, x_div, x_mod, x_lt, x_le, x_gt, x_ge, x_eq, x_ne, x_fro, x_step, x_first, x_last, x_on, x_l0, x_l1, x_l2, x_l3, x_l4, x_t0, x_t1, x_t2, x_t3, x_t4, x_intB, x_intI, x_max2, x_min2, x_lenL, x_lenT, x_sz, x_rs, x_rw, x_rf, x_ra, x_rl, x_slot, x_slotD, true_and, and_true, eq_self, decide_eq_true_eq, Bool.not_eq_true', decide_eq_false_iff_not, res_ok, res_er, x_rng1, x_rng1D, x_rng2, x_rng2E, x_rng2D, Bool.and_eq_true, if_true, if_false, Bool.false_eq_true, g_own_lots, dLc]
  refine lc_map (xs := upto m.toNat) D.int (fun x => .int (ownLot r m n x)) rfl (len_le (by rw [upto_length]; omega)) (fun x hx Q1 h => ?_) ?_
  · simp (disch := first | assumption | omega) only [dDef, dRet, dRetL, dSeq, dIfS, dTst, dNotB, dAndB, dOrB, dAndV, dOrV, dNotV, dNeg, dIf, dCB, dCBL, dCons, dNil, dStar, dVar, dC, dCall, dOp, dOpL, dTup, dLst, dL, dSet, dAsg, dPar, dOwn, dExpr, dNx, dFor, dWhile, dItL, dItT, dProp, dMeth, dMk, dMk0, dRaise, dPart, dNoPart, dSlL, dSlT, dRevL, dgName, dgTup, dgSets, dOwnIx, dOwnLen, dOwnTup, dApp, dSetI, dRel, relE, dItZip, dItTab, dItEnK, dItEn, dIsS, dJoinG, dSplit, dFmt, dJs, dIsT2, dIndex, dCallS, dYes, wipeE, dXf, dIsX, List.map_cons, List.map_nil, List.cons_append, List.nil_append, List.append_nil, List.length_cons, List.length_nil, List.replicate_succ, List.replicate_zero, Nat.reduceAdd, Nat.reduceSub, List.getElem?_cons_zero, List.getElem?_cons_succ, List.set_cons_zero, List.set_cons_succ, Nat.zero_add, Nat.add_zero, Nat.sub_self, x_add, x_sub, x_mulL, x_mulR, x_div, x_mod, x_lt, x_le, x_gt, x_ge, x_eq, x_ne, x_fro, x_step, x_first, x_last, x_on, x_l0, x_l1, x_l2, x_l3, x_l4, x_t0, x_t1, x_t2, x_t3, x_t4, x_intB, x_intI, x_max2, x_min2, x_lenL, x_lenT, x_sz, x_rs, x_rw, x_rf, x_ra, x_rl, x_slot, x_slotD, true_and, and_true, eq_self, decide_eq_true_eq, Bool.not_eq_true', decide_eq_false_iff_not, res_ok, res_er, x_rng1, x_rng1D, x_rng2, x_rng2E, x_rng2D, Bool.and_eq_true, if_true, if_false, Bool.false_eq_true, y_own_lot, wipeE]
    exact h
  · have e : (upto m.toNat).map (fun x => D.int (ownLot r m n x)) = (lotsL r m n).map D.int := by unfold lotsL; rw [List.map_map]; rfl
    rw [e]
    exact q
theorem lotsL_ne {r : Ru} {m n : Int} (hm : Mo m) : lotsL r m n ≠ [] := fun h => by
  have h1 := hm.lo
  have : (lotsL r m n).length = m.toNat := by unfold lotsL; rw [List.length_map, upto_length]
  rw [h] at this
  simp at this
  omega
theorem law_own_spread (K : PySem.W.Frag) (ds : List D) (Q : D → Prop) (R : DX) (h : F_own_spread K ds Q R) : dDef 4 (g_own_spread K) ds Q R := by
  obtain ⟨⟨r, m, n⟩, rfl, ⟨hr, hm⟩, q⟩ := h
  dsimp only at q
  simp (disch := first | assumption | omega) only [dDef, dRet, dRetL, dSeq, dIfS, dTst, dNotB, dAndB, dOrB, dAndV, dOrV, dNotV, dNeg, dIf, dCB, dCBL, dCons, dNil, dStar, dVar, dC, dCall, dOp, dOpL, dTup, dLst, dL, dSet, dAsg, dPar, dOwn, dExpr, dNx, dFor, dWhile, dItL, dItT, dProp, dMeth, dMk, dMk0, dRaise, dPart, dNoPart, dSlL, dSlT, dRevL, dgName, dgTup, dgSets, dOwnIx, dOwnLen, dOwnTup, dApp, dSetI, dRel, relE, dItZip, dItTab, dItEnK, dItEn, dIsS, dJoinG, dSplit, dFmt, dJs, dIsT2, dIndex, dCallS, dYes, wipeE, dXf, dIsX, List.map_cons, List.map_nil, List.cons_append, List.nil_append, List.append_nil, List.length_cons, List.length_nil, List.replicate_succ, List.replicate_zero, Nat.reduceAdd, Nat.reduceSub, List.getElem?_cons_zero, List.getElem?_cons_succ, List.set_cons_zero, List.set_cons_succ, Nat.zero_add, Nat.add_zero, Nat.sub_self, x_add, x_sub, x_mulL, x_mulR, x_div, x_mod, x_lt, x_le, x_gt, x_ge, x_eq, x_ne, x_fro, x_step, x_first, x_last, x_on, x_l0, x_l1, x_l2, x_l3, x_l4, x_t0, x_t1, x_t2, x_t3, x_t4, x_intB, x_intI, x_max2, x_min2, x_lenL, x_lenT, x_sz, x_rs, x_rw, x_rf, x_ra, x_rl, x_slot, x_slotD, true_and, and_true, eq_self, decide_eq_true_eq, Bool.not_eq_true', decide_eq_false_iff_not, res_ok, res_er, x_rng1, x_rng1D, x_rng2, x_rng2E, x_rng2D, Bool.and_eq_true, if_true, if_false, Bool.false_eq_true, g_own_spread, y_own_lots, x_maxL (lotsL_ne hm), x_minL (lotsL_ne hm)]
  exact q
/-! ### what is refused -/
abbrev eP (K : PySem.W.Frag) : Exc := ⟨He.ga K "InvalidPeople", none⟩
abbrev eT (K : PySem.W.Frag) : Exc := ⟨He.ga K "InvalidThings", none⟩
abbrev ePn (K : PySem.W.Frag) : Exc := ⟨He.ga K "InvalidPerson", none⟩
abbrev eTg (K : PySem.W.Frag) : Exc := ⟨He.ga K "InvalidThing", none⟩
def isD (d : D) : Bool := (dty d).isSome
/-- what look_at answers -/
def lookAt (K : PySem.W.Frag) (m n : D) (most : Int) : Except Exc D := if isIn m 2 12 = true then (if isIn n 0 most = true then .ok .non else .error (eT K)) else .error (eP K)
def F_look_at (K : PySem.W.Frag) : DF := fun ds Q R => ∃ m n most, ds = [m, n, .int most] ∧ isD m = true ∧ isD n = true ∧ res (lookAt K m n most) Q R
def F_look_at_person (K : PySem.W.Frag) : DF := fun ds Q R => ∃ m p, ds = [.int m, p] ∧ isD p = true ∧ res (if isIn p 0 (m - 1) = true then .ok .non else .error (ePn K)) Q R
section
variable {K : PySem.W.Frag} {r : Ru} {Q : D → Prop} {R : DX} {m n p v : D} {most i l : Int}
theorem y_within (h : isD v = true) : F_is_within [v, .int l, .int i] Q R = Q (.bl (isIn v l i)) := propext ⟨fun ⟨v', l', m', e, _, q⟩ => by
    simp only [List.cons.injEq, D.int.injEq, and_true] at e
    obtain ⟨rfl, rfl, rfl⟩ := e
    exact q, fun q => ⟨v, l, i, rfl, h, q⟩⟩
theorem y_integer (h : isD v = true) : F_is_integer [v, .int l] Q R = Q (.bl (isInt v l)) := propext ⟨fun ⟨v', l', e, _, q⟩ => by
    simp only [List.cons.injEq, D.int.injEq, and_true] at e
    obtain ⟨rfl, rfl⟩ := e
    exact q, fun q => ⟨v, l, rfl, h, q⟩⟩
theorem y_look_at (h1 : isD m = true) (h2 : isD n = true) : F_look_at K [m, n, .int most] Q R = res (lookAt K m n most) Q R := propext ⟨fun ⟨m', n', o', e, _, _, q⟩ => by
    simp only [List.cons.injEq, D.int.injEq, and_true] at e
    obtain ⟨rfl, rfl, rfl⟩ := e
    exact q, fun q => ⟨m, n, most, rfl, h1, h2, q⟩⟩
theorem y_look_at_person (h : isD p = true) : F_look_at_person K [.int i, p] Q R = res (if isIn p 0 (i - 1) = true then .ok .non else .error (ePn K)) Q R := propext ⟨fun ⟨m', p', e, _, q⟩ => by
    simp only [List.cons.injEq, D.int.injEq, and_true] at e
    obtain ⟨rfl, rfl⟩ := e
    exact q, fun q => ⟨i, p, rfl, h, q⟩⟩
theorem isIn_int {a b : Int} (h : isIn v a b = true) : ∃ i, v = .int i ∧ a ≤ i ∧ i ≤ b := by
  cases v <;> simp [isIn] at h
  exact ⟨_, rfl, h⟩
theorem isIn_i {a b : Int} : isIn (.int i) a b = (decide (a ≤ i) && decide (i ≤ b)) := rfl
theorem isD_int : isD (.int i) = true := rfl
end
def g_look_at (K : PySem.W.Frag) : DG :=
  (dSeq (dIfS (dNotB (dTst (dCall 3 F_is_within (dCons (dVar 0) (dCons (dC (.int 2)) (dCons (dC (.int 12)) dNil)))))) (dRaise (dMk0 (He.ga K "InvalidPeople"))) dNx)
  (dIfS (dNotB (dTst (dCall 3 F_is_within (dCons (dVar 1) (dCons (dC (.int 0)) (dCons (dVar 2) dNil)))))) (dRaise (dMk0 (He.ga K "InvalidThings"))) dNx))
def g_look_at_person (K : PySem.W.Frag) : DG :=
  (dIfS (dNotB (dTst (dCall 3 F_is_within (dCons (dVar 1) (dCons (dC (.int 0)) (dCons (dOp gSub (dVar 0) (dC (.int 1))) dNil)))))) (dRaise (dMk0 (He.ga K "InvalidPerson"))) dNx)
def g_lot (K : PySem.W.Frag) : DG :=
  (dSeq (dExpr (dCall 3 (F_look_at K) (dCons (dVar 1) (dCons (dVar 2) (dCons (dC (.int 1000000000000000000000000000000)) dNil)))))
  (dSeq (dExpr (dCall 2 (F_look_at_person K) (dCons (dVar 1) (dCons (dVar 3) dNil))))
  (dRet (dCall 4 (F_own_lot K) (dCons (dVar 0) (dCons (dVar 1) (dCons (dVar 2) (dCons (dVar 3) dNil))))))))
def g_lots (K : PySem.W.Frag) : DG :=
  (dSeq (dExpr (dCall 3 (F_look_at K) (dCons (dVar 1) (dCons (dVar 2) (dCons (dC (.int 1000000000000000000000000000000)) dNil)))))
  (dRet (dCall 3 (F_own_lots K) (dCons (dVar 0) (dCons (dVar 1) (dCons (dVar 2) dNil))))))
def g_spread (K : PySem.W.Frag) : DG :=
  (dSeq (dExpr (dCall 3 (F_look_at K) (dCons (dVar 1) (dCons (dVar 2) (dCons (dC (.int 1000000000000000000000000000000)) dNil)))))
  (dRet (dCall 3 (F_own_spread K) (dCons (dVar 0) (dCons (dVar 1) (dCons (dVar 2) dNil))))))
def g_whose (K : PySem.W.Frag) : DG :=
  (dSeq (dExpr (dCall 3 (F_look_at K) (dCons (dVar 1) (dCons (dVar 2) (dCons (dC (.int 1000000000000000000000000000000)) dNil)))))
  (dSeq (dIfS (dNotB (dTst (dCall 3 F_is_within (dCons (dVar 3) (dCons (dC (.int 0)) (dCons (dOp gSub (dVar 2) (dC (.int 1))) dNil)))))) (dRaise (dMk0 (He.ga K "InvalidThing"))) dNx)
  (dRet (dCall 4 (F_person_of K) (dCons (dVar 0) (dCons (dVar 1) (dCons (dVar 2) (dCons (dCall 3 (F_spot_of K) (dCons (dVar 0) (dCons (dVar 2) (dCons (dVar 3) dNil)))) dNil))))))))
def g_final (K : PySem.W.Frag) : DG :=
  (dSeq (dExpr (dCall 3 (F_look_at K) (dCons (dVar 1) (dCons (dVar 2) (dCons (dC (.int 1000000000000000000000000000000)) dNil)))))
  (dRet (dIf (dTst (dOp gGt (dVar 2) (dC (.int 0)))) (dCall 4 (F_person_of K) (dCons (dVar 0) (dCons (dVar 1) (dCons (dVar 2) (dCons (dOp gSub (dVar 2) (dC (.int 1))) dNil))))) (dC .non))))
theorem law_look_at (K : PySem.W.Frag) (ds : List D) (Q : D → Prop) (R : DX) (h : F_look_at K ds Q R) : dDef 3 (g_look_at K) ds Q R := by
  obtain ⟨m, n, most, rfl, hm, hn, q⟩ := h
  unfold lookAt at q
  rw [res_if] at q
  simp (disch := first | assumption | omega) only [dDef, dRet, dRetL, dSeq, dIfS, dTst, dNotB, dAndB, dOrB, dAndV, dOrV, dNotV, dNeg, dIf, dCB, dCBL, dCons, dNil, dStar, dVar, dC, dCall, dOp, dOpL, dTup, dLst, dL, dSet, dAsg, dPar, dOwn, dExpr, dNx, dFor, dWhile, dItL, dItT, dProp, dMeth, dMk, dMk0, dRaise, dPart, dNoPart, dSlL, dSlT, dRevL, dgName, dgTup, dgSets, dOwnIx, dOwnLen, dOwnTup, dApp, dSetI, dRel, relE, dItZip, dItTab, dItEnK, dItEn, dIsS, dJoinG, dSplit, dFmt, dJs, dIsT2, dIndex, dCallS, dYes, wipeE, dXf, dIsX, List.map_cons, List.map_nil, List.cons_append, List.nil_append, List.append_nil, List.length_cons, List.length_nil, List.replicate_succ, List.replicate_zero, Nat.reduceAdd, Nat.reduceSub, List.getElem?_cons_zero, List.getElem?_cons_succ, List.set_cons_zero, List.set_cons_succ, Nat.zero_add, Nat.add_zero, Nat.sub_self, x_add, x_sub, x_mulL, x_mulR, x_div, x_mod, x_lt, x_le, x_gt, x_ge, x_eq, x_ne, x_fro, x_step, x_first, x_last, x_on, x_l0, x_l1, x_l2, x_l3, x_l4, x_t0, x_t1, x_t2, x_t3, x_t4, x_intB, x_intI, x_max2, x_min2, x_lenL, x_lenT, x_sz, x_rs, x_rw, x_rf, x_ra, x_rl, x_slot, x_slotD, true_and, and_true, eq_self, decide_eq_true_eq, Bool.not_eq_true', decide_eq_false_iff_not, res_ok, res_er, x_rng1, x_rng1D, x_rng2, x_rng2E, x_rng2D, Bool.and_eq_true, if_true, if_false, Bool.false_eq_true, g_look_at, y_within, dMk0]
  cases h1 : isIn m 2 12 <;> cases h2 : isIn n 0 most <;> simp [h1, h2, res] at q ⊢ <;> exact q
theorem law_look_at_person (K : PySem.W.Frag) (ds : List D) (Q : D → Prop) (R : DX) (h : F_look_at_person K ds Q R) : dDef 2 (g_look_at_person K) ds Q R := by
  obtain ⟨m, p, rfl, hp, q⟩ := h
  rw [res_if] at q
  simp (disch := first | assumption | omega) only [dDef, dRet, dRetL, dSeq, dIfS, dTst, dNotB, dAndB, dOrB, dAndV, dOrV, dNotV, dNeg, dIf, dCB, dCBL, dCons, dNil, dStar, dVar, dC, dCall, dOp, dOpL, dTup, dLst, dL, dSet, dAsg, dPar, dOwn, dExpr, dNx, dFor, dWhile, dItL, dItT, dProp, dMeth, dMk, dMk0, dRaise, dPart, dNoPart, dSlL, dSlT, dRevL, dgName, dgTup, dgSets, dOwnIx, dOwnLen, dOwnTup, dApp, dSetI, dRel, relE, dItZip, dItTab, dItEnK, dItEn, dIsS, dJoinG, dSplit, dFmt, dJs, dIsT2, dIndex, dCallS, dYes, wipeE, dXf, dIsX, List.map_cons, List.map_nil, List.cons_append, List.nil_append, List.append_nil, List.length_cons, List.length_nil, List.replicate_succ, List.replicate_zero, Nat.reduceAdd, Nat.reduceSub, List.getElem?_cons_zero, List.getElem?_cons_succ, List.set_cons_zero, List.set_cons_succ, Nat.zero_add, Nat.add_zero, Nat.sub_self, x_add, x_sub, x_mulL, x_mulR, x_div, x_mod, x_lt, x_le, x_gt, x_ge, x_eq, x_ne, x_fro, x_step, x_first, x_last, x_on, x_l0, x_l1, x_l2, x_l3, x_l4, x_t0, x_t1, x_t2, x_t3, x_t4, x_intB, x_intI, x_max2, x_min2, x_lenL, x_lenT, x_sz, x_rs, x_rw, x_rf, x_ra, x_rl, x_slot, x_slotD, true_and, and_true, eq_self, decide_eq_true_eq, Bool.not_eq_true', decide_eq_false_iff_not, res_ok, res_er, x_rng1, x_rng1D, x_rng2, x_rng2E, x_rng2D, Bool.and_eq_true, if_true, if_false, Bool.false_eq_true, g_look_at_person, y_within, dMk0]
  cases h1 : isIn p 0 (m - 1) <;> simp [h1, res] at q ⊢ <;> exact q
/-- behind the looks -/
def F_lot (K : PySem.W.Frag) : DF := fun ds Q R => ∃ r m n p, ds = [rd K r, m, n, p] ∧ r.Ok ∧ isD m = true ∧ isD n = true ∧ isD p = true ∧ match lookAt K m n (10 ^ 30) with
  | .error e => R e
  | .ok _ => ∀ i j, m = .int i → n = .int j → res (if isIn p 0 (i - 1) = true then .ok (match p with | .int k => .int (ownLot r i j k) | _ => .non) else .error (ePn K)) Q R
def F_lots (K : PySem.W.Frag) : DF := fun ds Q R => ∃ r m n, ds = [rd K r, m, n] ∧ r.Ok ∧ isD m = true ∧ isD n = true ∧ match lookAt K m n (10 ^ 30) with
  | .error e => R e
  | .ok _ => ∀ i j, m = .int i → n = .int j → Q (il (lotsL r i j))
def F_spread (K : PySem.W.Frag) : DF := fun ds Q R => ∃ r m n, ds = [rd K r, m, n] ∧ r.Ok ∧ isD m = true ∧ isD n = true ∧ match lookAt K m n (10 ^ 30) with
  | .error e => R e
  | .ok _ => ∀ i j, m = .int i → n = .int j → Q (.int (spreadOf r i j))
def F_whose (K : PySem.W.Frag) : DF := fun ds Q R => ∃ r m n p, ds = [rd K r, m, n, p] ∧ r.Ok ∧ isD m = true ∧ isD n = true ∧ isD p = true ∧ match lookAt K m n (10 ^ 30) with
  | .error e => R e
  | .ok _ => ∀ i j, m = .int i → n = .int j → res (if isIn p 0 (j - 1) = true then .ok (match p with | .int k => .int (personOf r i j (spotOf r j k)) | _ => .non) else .error (eTg K)) Q R
def F_final (K : PySem.W.Frag) : DF := fun ds Q R => ∃ r m n, ds = [rd K r, m, n] ∧ r.Ok ∧ isD m = true ∧ isD n = true ∧ match lookAt K m n (10 ^ 30) with
  | .error e => R e
  | .ok _ => ∀ i j, m = .int i → n = .int j → Q (if 0 < j then .int (personOf r i j (j - 1)) else .non)
theorem look_cases {K : PySem.W.Frag} {m n : D} {most : Int} : (∃ e, lookAt K m n most = .error e) ∨ (lookAt K m n most = .ok .non ∧ ∃ i j, m = .int i ∧ n = .int j ∧ Mo i ∧ 0 ≤ j ∧ j ≤ most) := by
  unfold lookAt
  cases h1 : isIn m 2 12 with
  | false => exact .inl ⟨_, rfl⟩
  | true =>
    cases h2 : isIn n 0 most with
    | false => exact .inl ⟨_, rfl⟩
    | true =>
      obtain ⟨i, rfl, a, b⟩ := isIn_int h1
      obtain ⟨j, rfl, c, d⟩ := isIn_int h2
      exact .inr ⟨rfl, i, j, rfl, rfl, ⟨a, b⟩, c, d⟩
theorem law_lots (K : PySem.W.Frag) (ds : List D) (Q : D → Prop) (R : DX) (h : F_lots K ds Q R) : dDef 3 (g_lots K) ds Q R := by
  obtain ⟨r, m, n, rfl, hr, hm, hn, q⟩ := h
  simp (disch := first | assumption | omega) only [dDef, dRet, dRetL, dSeq, dIfS, dTst, dNotB, dAndB, dOrB, dAndV, dOrV, dNotV, dNeg, dIf, dCB, dCBL, dCons, dNil, dStar, dVar, dC, dCall, dOp, dOpL, dTup, dLst, dL, dSet, dAsg, dPar, dOwn, dExpr, dNx, dFor, dWhile, dItL, dItT, dProp, dMeth, dMk, dMk0, dRaise, dPart, dNoPart, dSlL, dSlT, dRevL, dgName, dgTup, dgSets, dOwnIx, dOwnLen, dOwnTup, dApp, dSetI, dRel, relE, dItZip, dItTab, dItEnK, dItEn, dIsS, dJoinG, dSplit, dFmt, dJs, dIsT2, dIndex, dCallS, dYes, wipeE, dXf, dIsX, List.map_cons, List.map_nil, List.cons_append, List.nil_append, List.append_nil, List.length_cons, List.length_nil, List.replicate_succ, List.replicate_zero, Nat.reduceAdd, Nat.reduceSub, List.getElem?_cons_zero, List.getElem?_cons_succ, List.set_cons_zero, List.set_cons_succ, Nat.zero_add, Nat.add_zero, Nat.sub_self, x_add, x_sub, x_mulL, x_mulR, x_div, x_mod, x_lt, x_le, x_gt, x_ge, x_eq, x_ne, x_fro, x_step, x_first, x_last, x_on, x_l0, x_l1, x_l2, x_l3, x_l4, x_t0, x_t1, x_t2, x_t3, x_t4, x_intB, x_intI, x_max2, x_min2, x_lenL, x_lenT, x_sz, x_rs, x_rw, x_rf, x_ra, x_rl, x_slot, x_slotD, true_and, and_true, eq_self, decide_eq_true_eq, Bool.not_eq_true', decide_eq_false_iff_not, res_ok, res_er, x_rng1, x_rng1D, x_rng2, x_rng2E, x_rng2D, Bool.and_eq_true, if_true, if_false, Bool.false_eq_true, g_lots, y_look_at]
  rw [show (1000000000000000000000000000000 : Int) = 10 ^ 30 by decide]
  rcases look_cases (K := K) (m := m) (n := n) (most := 10 ^ 30) with ⟨e, he⟩ | ⟨he, i, j, rfl, rfl, hi, _, _⟩
  · rw [he] at q ⊢
    exact q
  · rw [he] at q ⊢
    simp (disch := first | assumption | omega) only [dDef, dRet, dRetL, dSeq, dIfS, dTst, dNotB, dAndB, dOrB, dAndV, dOrV, dNotV, dNeg, dIf, dCB, dCBL, dCons, dNil, dStar, dVar, dC, dCall, dOp, dOpL, dTup, dLst, dL, dSet, dAsg, dPar, dOwn, dExpr, dNx, dFor, dWhile, dItL, dItT, dProp, dMeth, dMk, dMk0, dRaise, dPart, dNoPart, dSlL, dSlT, dRevL, dgName, dgTup, dgSets, dOwnIx, dOwnLen, dOwnTup, dApp, dSetI, dRel, relE, dItZip, dItTab, dItEnK, dItEn, dIsS, dJoinG, dSplit, dFmt, dJs, dIsT2, dIndex, dCallS, dYes, wipeE, dXf, dIsX, List.map_cons, List.map_nil, List.cons_append, List.nil_append, List.append_nil, List.length_cons, List.length_nil, List.replicate_succ, List.replicate_zero, Nat.reduceAdd, Nat.reduceSub, List.getElem?_cons_zero, List.getElem?_cons_succ, List.set_cons_zero, List.set_cons_succ, Nat.zero_add, Nat.add_zero, Nat.sub_self, x_add, x_sub, x_mulL, x_mulR, x_div, x_mod, x_lt, x_le, x_gt, x_ge, x_eq, x_ne, x_fro, x_step, x_first, x_last, x_on, x_l0, x_l1, x_l2, x_l3, x_l4, x_t0, x_t1, x_t2, x_t3, x_t4, x_intB, x_intI, x_max2, x_min2, x_lenL, x_lenT, x_sz, x_rs, x_rw, x_rf, x_ra, x_rl, x_slot, x_slotD, true_and, and_true, eq_self, decide_eq_true_eq, Bool.not_eq_true', decide_eq_false_iff_not, res_ok, res_er, x_rng1, x_rng1D, x_rng2, x_rng2E, x_rng2D, Bool.and_eq_true, if_true, if_false, Bool.false_eq_true, y_own_lots]
    exact q i j rfl rfl
theorem law_spread (K : PySem.W.Frag) (ds : List D) (Q : D → Prop) (R : DX) (h : F_spread K ds Q R) : dDef 3 (g_spread K) ds Q R := by
  obtain ⟨r, m, n, rfl, hr, hm, hn, q⟩ := h
  simp (disch := first | assumption | omega) only [dDef, dRet, dRetL, dSeq, dIfS, dTst, dNotB, dAndB, dOrB, dAndV, dOrV, dNotV, dNeg, dIf, dCB, dCBL, dCons, dNil, dStar, dVar, dC, dCall, dOp, dOpL, dTup, dLst, dL, dSet, dAsg, dPar, dOwn, dExpr, dNx, dFor, dWhile, dItL, dItT, dProp, dMeth, dMk, dMk0, dRaise, dPart, dNoPart, dSlL, dSlT, dRevL, dgName, dgTup, dgSets, dOwnIx, dOwnLen, dOwnTup, dApp, dSetI, dRel, relE, dItZip, dItTab, dItEnK, dItEn, dIsS, dJoinG, dSplit, dFmt, dJs, dIsT2, dIndex, dCallS, dYes, wipeE, dXf, dIsX, List.map_cons, List.map_nil, List.cons_append, List.nil_append, List.append_nil, List.length_cons, List.length_nil, List.replicate_succ, List.replicate_zero, Nat.reduceAdd, Nat.reduceSub, List.getElem?_cons_zero, List.getElem?_cons_succ, List.set_cons_zero, List.set_cons_succ, Nat.zero_add, Nat.add_zero, Nat.sub_self, x_add, x_sub, x_mulL, x_mulR, x_div, x_mod, x_lt, x_le, x_gt, x_ge, x_eq, x_ne, x_fro, x_step, x_first, x_last, x_on, x_l0, x_l1, x_l2, x_l3, x_l4, x_t0, x_t1, x_t2, x_t3, x_t4, x_intB, x_intI, x_max2, x_min2, x_lenL, x_lenT, x_sz, x_rs, x_rw, x_rf, x_ra, x_rl, x_slot, x_slotD, true_and, and_true, eq_self, decide_eq_true_eq, Bool.not_eq_true', decide_eq_false_iff_not, res_ok, res_er, x_rng1, x_rng1D, x_rng2, x_rng2E, x_rng2D, Bool.and_eq_true, if_true, if_false, Bool.false_eq_true, g_spread, y_look_at]
  rw [show (1000000000000000000000000000000 : Int) = 10 ^ 30 by decide]
  rcases look_cases (K := K) (m := m) (n := n) (most := 10 ^ 30) with ⟨e, he⟩ | ⟨he, i, j, rfl, rfl, hi, _, _⟩
  · rw [he] at q ⊢
    exact q
  · rw [he] at q ⊢
    simp (disch := first | assumption | omega) only [dDef, dRet, dRetL, dSeq, dIfS, dTst, dNotB, dAndB, dOrB, dAndV, dOrV, dNotV, dNeg, dIf, dCB, dCBL, dCons, dNil, dStar, dVar, dC, dCall, dOp, dOpL, dTup, dLst, dL, dSet, dAsg, dPar, dOwn, dExpr, dNx, dFor, dWhile, dItL, dItT, dProp, dMeth, dMk, dMk0, dRaise, dPart, dNoPart, dSlL, dSlT, dRevL, dgName, dgTup, dgSets, dOwnIx, dOwnLen, dOwnTup, dApp, dSetI, dRel, relE, dItZip, dItTab, dItEnK, dItEn, dIsS, dJoinG, dSplit, dFmt, dJs, dIsT2, dIndex, dCallS, dYes, wipeE, dXf, dIsX, List.map_cons, List.map_nil, List.cons_append, List.nil_append, List.append_nil, List.length_cons, List.length_nil, List.replicate_succ, List.replicate_zero, Nat.reduceAdd, Nat.reduceSub, List.getElem?_cons_zero, List.getElem?_cons_succ, List.set_cons_zero, List.set_cons_succ, Nat.zero_add, Nat.add_zero, Nat.sub_self, x_add, x_sub, x_mulL, x_mulR, x_div, x_mod, x_lt, x_le, x_gt, x_ge, x_eq, x_ne, x_fro, x_step, x_first, x_last, x_on, x_l0, x_l1, x_l2, x_l3, x_l4, x_t0, x_t1, x_t2, x_t3, x_t4, x_intB, x_intI, x_max2, x_min2, x_lenL, x_lenT, x_sz, x_rs, x_rw, x_rf, x_ra, x_rl, x_slot, x_slotD, true_and, and_true, eq_self, decide_eq_true_eq, Bool.not_eq_true', decide_eq_false_iff_not, res_ok, res_er, x_rng1, x_rng1D, x_rng2, x_rng2E, x_rng2D, Bool.and_eq_true, if_true, if_false, Bool.false_eq_true, y_own_spread]
    exact q i j rfl rfl
theorem law_final (K : PySem.W.Frag) (ds : List D) (Q : D → Prop) (R : DX) (h : F_final K ds Q R) : dDef 3 (g_final K) ds Q R := by
  obtain ⟨r, m, n, rfl, hr, hm, hn, q⟩ := h
  simp (disch := first | assumption | omega) only [dDef, dRet, dRetL, dSeq, dIfS, dTst, dNotB, dAndB, dOrB, dAndV, dOrV, dNotV, dNeg, dIf, dCB, dCBL, dCons, dNil, dStar, dVar, dC, dCall, dOp, dOpL, dTup, dLst, dL, dSet, dAsg, dPar, dOwn, dExpr, dNx, dFor, dWhile, dItL, dItT, dProp, dMeth, dMk, dMk0, dRaise, dPart, dNoPart, dSlL, dSlT, dRevL, dgName, dgTup, dgSets, dOwnIx, dOwnLen, dOwnTup, dApp, dSetI, dRel, relE, dItZip, dItTab, dItEnK, dItEn, dIsS, dJoinG, dSplit, dFmt, dJs, dIsT2, dIndex, dCallS, dYes, wipeE, dXf, dIsX, List.map_cons, List.map_nil, List.cons_append, List.nil_append, List.append_nil, List.length_cons, List.length_nil, List.replicate_succ, List.replicate_zero, Nat.reduceAdd, Nat.reduceSub, List.getElem?_cons_zero, List.getElem?_cons_succ, List.set_cons_zero, List.set_cons_succ, Nat.zero_add, Nat.add_zero, Nat.sub_self, x_add, x_sub, x_mulL, x_mulR, x_div, x_mod, x_lt, x_le, x_gt, x_ge, x_eq, x_ne, x_fro, x_step, x_first, x_last, x_on, x_l0, x_l1, x_l2, x_l3, x_l4, x_t0, x_t1, x_t2, x_t3, x_t4, x_intB, x_intI, x_max2, x_min2, x_lenL, x_lenT, x_sz, x_rs, x_rw, x_rf, x_ra, x_rl, x_slot, x_slotD, true_and, and_true, eq_self, decide_eq_true_eq, Bool.not_eq_true', decide_eq_false_iff_not, res_ok, res_er, x_rng1, x_rng1D, x_rng2, x_rng2E, x_rng2D, Bool.and_eq_true, if_true, if_false, Bool.false_eq_true, g_final, y_look_at]
  rw [show (1000000000000000000000000000000 : Int) = 10 ^ 30 by decide]
  rcases look_cases (K := K) (m := m) (n := n) (most := 10 ^ 30) with ⟨e, he⟩ | ⟨he, i, j, rfl, rfl, hi, _, _⟩
  · rw [he] at q ⊢
    exact q
  · rw [he] at q ⊢
    simp (disch := first | assumption | omega) only [dDef, dRet, dRetL, dSeq, dIfS, dTst, dNotB, dAndB, dOrB, dAndV, dOrV, dNotV, dNeg, dIf, dCB, dCBL, dCons, dNil, dStar, dVar, dC, dCall, dOp, dOpL, dTup, dLst, dL, dSet, dAsg, dPar, dOwn, dExpr, dNx, dFor, dWhile, dItL, dItT, dProp, dMeth, dMk, dMk0, dRaise, dPart, dNoPart, dSlL, dSlT, dRevL, dgName, dgTup, dgSets, dOwnIx, dOwnLen, dOwnTup, dApp, dSetI, dRel, relE, dItZip, dItTab, dItEnK, dItEn, dIsS, dJoinG, dSplit, dFmt, dJs, dIsT2, dIndex, dCallS, dYes, wipeE, dXf, dIsX, List.map_cons, List.map_nil, List.cons_append, List.nil_append, List.append_nil, List.length_cons, List.length_nil, List.replicate_succ, List.replicate_zero, Nat.reduceAdd, Nat.reduceSub, List.getElem?_cons_zero, List.getElem?_cons_succ, List.set_cons_zero, List.set_cons_succ, Nat.zero_add, Nat.add_zero, Nat.sub_self, x_add, x_sub, x_mulL, x_mulR, x_div, x_mod, x_lt, x_le, x_gt, x_ge, x_eq, x_ne, x_fro, x_step, x_first, x_last, x_on, x_l0, x_l1, x_l2, x_l3, x_l4, x_t0, x_t1, x_t2, x_t3, x_t4, x_intB, x_intI, x_max2, x_min2, x_lenL, x_lenT, x_sz, x_rs, x_rw, x_rf, x_ra, x_rl, x_slot, x_slotD, true_and, and_true, eq_self, decide_eq_true_eq, Bool.not_eq_true', decide_eq_false_iff_not, res_ok, res_er, x_rng1, x_rng1D, x_rng2, x_rng2E, x_rng2D, Bool.and_eq_true, if_true, if_false, Bool.false_eq_true, y_person_of]
    have q2 := q i j rfl rfl
    split <;> simp_all
theorem law_lot (K : PySem.W.Frag) (ds : List D) (Q : D → Prop) (R : DX) (h : F_lot K ds Q R) : dDef 4 (g_lot K) ds Q R := by
  obtain ⟨r, m, n, p, rfl, hr, hm, hn, hp, q⟩ := h
  simp (disch := first | assumption | omega) only [dDef, dRet, dRetL, dSeq, dIfS, dTst, dNotB, dAndB, dOrB, dAndV, dOrV, dNotV, dNeg, dIf, dCB, dCBL, dCons, dNil, dStar, dVar, dC, dCall, dOp, dOpL, dTup, dLst, dL, dSet, dAsg, dPar, dOwn, dExpr, dNx, dFor, dWhile, dItL, dItT, dProp, dMeth, dMk, dMk0, dRaise, dPart, dNoPart, dSlL, dSlT, dRevL, dgName, dgTup, dgSets, dOwnIx, dOwnLen, dOwnTup, dApp, dSetI, dRel, relE, dItZip, dItTab, dItEnK, dItEn, dIsS, dJoinG, dSplit, dFmt, dJs, dIsT2, dIndex, dCallS, dYes, wipeE, dXf, dIsX, List.map_cons, List.map_nil, List.cons_append, List.nil_append, List.append_nil, List.length_cons, List.length_nil, List.replicate_succ, List.replicate_zero, Nat.reduceAdd, Nat.reduceSub, List.getElem?_cons_zero, List.getElem?_cons_succ, List.set_cons_zero, List.set_cons_succ, Nat.zero_add, Nat.add_zero, Nat.sub_self, x_add, x_sub, x_mulL, x_mulR, x_div, x_mod, x_lt, x_le, x_gt, x_ge, x_eq, x_ne, x_fro, x_step, x_first, x_last, x_on, x_l0, x_l1, x_l2, x_l3, x_l4, x_t0, x_t1, x_t2, x_t3, x_t4, x_intB, x_intI, x_max2, x_min2, x_lenL, x_lenT, x_sz, x_rs, x_rw, x_rf, x_ra, x_rl, x_slot, x_slotD, true_and, and_true, eq_self, decide_eq_true_eq, Bool.not_eq_true', decide_eq_false_iff_not, res_ok, res_er, x_rng1, x_rng1D, x_rng2, x_rng2E, x_rng2D, Bool.and_eq_true, if_true, if_false, Bool.false_eq_true, g_lot, y_look_at]
  rw [show (1000000000000000000000000000000 : Int) = 10 ^ 30 by decide]
  rcases look_cases (K := K) (m := m) (n := n) (most := 10 ^ 30) with ⟨e, he⟩ | ⟨he, i, j, rfl, rfl, hi, _, _⟩
  · rw [he] at q ⊢
    exact q
  · rw [he] at q ⊢
    have q2 := q i j rfl rfl
    simp (disch := first | assumption | omega) only [dDef, dRet, dRetL, dSeq, dIfS, dTst, dNotB, dAndB, dOrB, dAndV, dOrV, dNotV, dNeg, dIf, dCB, dCBL, dCons, dNil, dStar, dVar, dC, dCall, dOp, dOpL, dTup, dLst, dL, dSet, dAsg, dPar, dOwn, dExpr, dNx, dFor, dWhile, dItL, dItT, dProp, dMeth, dMk, dMk0, dRaise, dPart, dNoPart, dSlL, dSlT, dRevL, dgName, dgTup, dgSets, dOwnIx, dOwnLen, dOwnTup, dApp, dSetI, dRel, relE, dItZip, dItTab, dItEnK, dItEn, dIsS, dJoinG, dSplit, dFmt, dJs, dIsT2, dIndex, dCallS, dYes, wipeE, dXf, dIsX, List.map_cons, List.map_nil, List.cons_append, List.nil_append, List.append_nil, List.length_cons, List.length_nil, List.replicate_succ, List.replicate_zero, Nat.reduceAdd, Nat.reduceSub, List.getElem?_cons_zero, List.getElem?_cons_succ, List.set_cons_zero, List.set_cons_succ, Nat.zero_add, Nat.add_zero, Nat.sub_self, x_add, x_sub, x_mulL, x_mulR, x_div, x_mod, x_lt, x_le, x_gt, x_ge, x_eq, x_ne, x_fro, x_step, x_first, x_last, x_on, x_l0, x_l1, x_l2, x_l3, x_l4, x_t0, x_t1, x_t2, x_t3, x_t4, x_intB, x_intI, x_max2, x_min2, x_lenL, x_lenT, x_sz, x_rs, x_rw, x_rf, x_ra, x_rl, x_slot, x_slotD, true_and, and_true, eq_self, decide_eq_true_eq, Bool.not_eq_true', decide_eq_false_iff_not, res_ok, res_er, x_rng1, x_rng1D, x_rng2, x_rng2E, x_rng2D, Bool.and_eq_true, if_true, if_false, Bool.false_eq_true, y_look_at_person]
    cases h1 : isIn p 0 (i - 1) with
    | false => rw [h1] at q2; exact q2
    | true =>
      rw [h1] at q2
      obtain ⟨k, rfl, _, _⟩ := isIn_int h1
      simp (disch := first | assumption | omega) only [dDef, dRet, dRetL, dSeq, dIfS, dTst, dNotB, dAndB, dOrB, dAndV, dOrV, dNotV, dNeg, dIf, dCB, dCBL, dCons, dNil, dStar, dVar, dC, dCall, dOp, dOpL, dTup, dLst, dL, dSet, dAsg, dPar, dOwn, dExpr, dNx, dFor, dWhile, dItL, dItT, dProp, dMeth, dMk, dMk0, dRaise, dPart, dNoPart, dSlL, dSlT, dRevL, dgName, dgTup, dgSets, dOwnIx, dOwnLen, dOwnTup, dApp, dSetI, dRel, relE, dItZip, dItTab, dItEnK, dItEn, dIsS, dJoinG, dSplit, dFmt, dJs, dIsT2, dIndex, dCallS, dYes, wipeE, dXf, dIsX, List.map_cons, List.map_nil, List.cons_append, List.nil_append, List.append_nil, List.length_cons, List.length_nil, List.replicate_succ, List.replicate_zero, Nat.reduceAdd, Nat.reduceSub, List.getElem?_cons_zero, List.getElem?_cons_succ, List.set_cons_zero, List.set_cons_succ, Nat.zero_add, Nat.add_zero, Nat.sub_self, x_add, x_sub, x_mulL, x_mulR, x_div, x_mod, x_lt, x_le, x_gt, x_ge, x_eq, x_ne, x_fro, x_step, x_first, x_last, x_on, x_l0, x_l1, x_l2, x_l3, x_l4, x_t0, x_t1, x_t2, x_t3, x_t4, x_intB, x_intI, x_max2, x_min2, x_lenL, x_lenT, x_sz, x_rs, x_rw, x_rf, x_ra, x_rl, x_slot, x_slotD, true_and, and_true, eq_self, decide_eq_true_eq, Bool.not_eq_true', decide_eq_false_iff_not, res_ok, res_er, x_rng1, x_rng1D, x_rng2, x_rng2E, x_rng2D, Bool.and_eq_true, if_true, if_false, Bool.false_eq_true, y_own_lot]
      exact q2
theorem law_whose (K : PySem.W.Frag) (ds : List D) (Q : D → Prop) (R : DX) (h : F_whose K ds Q R) : dDef 4 (g_whose K) ds Q R := by
  obtain ⟨r, m, n, p, rfl, hr, hm, hn, hp, q⟩ := h
  simp (disch := first | assumption | omega) only [dDef, dRet, dRetL, dSeq, dIfS, dTst, dNotB, dAndB, dOrB, dAndV, dOrV, dNotV, dNeg, dIf, dCB, dCBL, dCons, dNil, dStar, dVar, dC, dCall, dOp, dOpL, dTup, dLst, dL, dSet, dAsg, dPar, dOwn, dExpr, dNx, dFor, dWhile, dItL, dItT, dProp, dMeth, dMk, dMk0, dRaise, dPart, dNoPart, dSlL, dSlT, dRevL, dgName, dgTup, dgSets, dOwnIx, dOwnLen, dOwnTup, dApp, dSetI, dRel, relE, dItZip, dItTab, dItEnK, dItEn, dIsS, dJoinG, dSplit, dFmt, dJs, dIsT2, dIndex, dCallS, dYes, wipeE, dXf, dIsX, List.map_cons, List.map_nil, List.cons_append, List.nil_append, List.append_nil, List.length_cons, List.length_nil, List.replicate_succ, List.replicate_zero, Nat.reduceAdd, Nat.reduceSub, List.getElem?_cons_zero, List.getElem?_cons_succ, List.set_cons_zero, List.set_cons_succ, Nat.zero_add, Nat.add_zero, Nat.sub_self, x_add, x_sub, x_mulL, x_mulR, x_div, x_mod, x_lt, x_le, x_gt, x_ge, x_eq, x_ne, x_fro, x_step, x_first, x_last, x_on, x_l0, x_l1, x_l2, x_l3, x_l4, x_t0, x_t1, x_t2, x_t3, x_t4, x_intB, x_intI, x_max2, x_min2, x_lenL, x_lenT, x_sz, x_rs, x_rw, x_rf, x_ra, x_rl, x_slot, x_slotD, true_and, and_true, eq_self, decide_eq_true_eq, Bool.not_eq_true', decide_eq_false_iff_not, res_ok, res_er, x_rng1, x_rng1D, x_rng2, x_rng2E, x_rng2D, Bool.and_eq_true, if_true, if_false, Bool.false_eq_true, g_whose, y_look_at]
  rw [show (1000000000000000000000000000000 : Int) = 10 ^ 30 by decide]
  rcases look_cases (K := K) (m := m) (n := n) (most := 10 ^ 30) with ⟨e, he⟩ | ⟨he, i, j, rfl, rfl, hi, _, _⟩
  · rw [he] at q ⊢
    exact q
  · rw [he] at q ⊢
    have q2 := q i j rfl rfl
    simp (disch := first | assumption | omega) only [dDef, dRet, dRetL, dSeq, dIfS, dTst, dNotB, dAndB, dOrB, dAndV, dOrV, dNotV, dNeg, dIf, dCB, dCBL, dCons, dNil, dStar, dVar, dC, dCall, dOp, dOpL, dTup, dLst, dL, dSet, dAsg, dPar, dOwn, dExpr, dNx, dFor, dWhile, dItL, dItT, dProp, dMeth, dMk, dMk0, dRaise, dPart, dNoPart, dSlL, dSlT, dRevL, dgName, dgTup, dgSets, dOwnIx, dOwnLen, dOwnTup, dApp, dSetI, dRel, relE, dItZip, dItTab, dItEnK, dItEn, dIsS, dJoinG, dSplit, dFmt, dJs, dIsT2, dIndex, dCallS, dYes, wipeE, dXf, dIsX, List.map_cons, List.map_nil, List.cons_append, List.nil_append, List.append_nil, List.length_cons, List.length_nil, List.replicate_succ, List.replicate_zero, Nat.reduceAdd, Nat.reduceSub, List.getElem?_cons_zero, List.getElem?_cons_succ, List.set_cons_zero, List.set_cons_succ, Nat.zero_add, Nat.add_zero, Nat.sub_self, x_add, x_sub, x_mulL, x_mulR, x_div, x_mod, x_lt, x_le, x_gt, x_ge, x_eq, x_ne, x_fro, x_step, x_first, x_last, x_on, x_l0, x_l1, x_l2, x_l3, x_l4, x_t0, x_t1, x_t2, x_t3, x_t4, x_intB, x_intI, x_max2, x_min2, x_lenL, x_lenT, x_sz, x_rs, x_rw, x_rf, x_ra, x_rl, x_slot, x_slotD, true_and, and_true, eq_self, decide_eq_true_eq, Bool.not_eq_true', decide_eq_false_iff_not, res_ok, res_er, x_rng1, x_rng1D, x_rng2, x_rng2E, x_rng2D, Bool.and_eq_true, if_true, if_false, Bool.false_eq_true, y_within, dMk0]
    cases h1 : isIn p 0 (j - 1) with
    | false => rw [h1] at q2; exact q2
    | true =>
      rw [h1] at q2
      obtain ⟨k, rfl, _, _⟩ := isIn_int h1
      simp (disch := first | assumption | omega) only [dDef, dRet, dRetL, dSeq, dIfS, dTst, dNotB, dAndB, dOrB, dAndV, dOrV, dNotV, dNeg, dIf, dCB, dCBL, dCons, dNil, dStar, dVar, dC, dCall, dOp, dOpL, dTup, dLst, dL, dSet, dAsg, dPar, dOwn, dExpr, dNx, dFor, dWhile, dItL, dItT, dProp, dMeth, dMk, dMk0, dRaise, dPart, dNoPart, dSlL, dSlT, dRevL, dgName, dgTup, dgSets, dOwnIx, dOwnLen, dOwnTup, dApp, dSetI, dRel, relE, dItZip, dItTab, dItEnK, dItEn, dIsS, dJoinG, dSplit, dFmt, dJs, dIsT2, dIndex, dCallS, dYes, wipeE, dXf, dIsX, List.map_cons, List.map_nil, List.cons_append, List.nil_append, List.append_nil, List.length_cons, List.length_nil, List.replicate_succ, List.replicate_zero, Nat.reduceAdd, Nat.reduceSub, List.getElem?_cons_zero, List.getElem?_cons_succ, List.set_cons_zero, List.set_cons_succ, Nat.zero_add, Nat.add_zero, Nat.sub_self, x_add, x_sub, x_mulL, x_mulR, x_div, x_mod, x_lt, x_le, x_gt, x_ge, x_eq, x_ne, x_fro, x_step, x_first, x_last, x_on, x_l0, x_l1, x_l2, x_l3, x_l4, x_t0, x_t1, x_t2, x_t3, x_t4, x_intB, x_intI, x_max2, x_min2, x_lenL, x_lenT, x_sz, x_rs, x_rw, x_rf, x_ra, x_rl, x_slot, x_slotD, true_and, and_true, eq_self, decide_eq_true_eq, Bool.not_eq_true', decide_eq_false_iff_not, res_ok, res_er, x_rng1, x_rng1D, x_rng2, x_rng2E, x_rng2D, Bool.and_eq_true, if_true, if_false, Bool.false_eq_true, y_spot_of, y_person_of]
      exact q2
end Pr

set_option maxHeartbeats 4000000
/-! The laws' own dealing: turns, what is dealt, lots. -/
namespace Pr
open PySem PySem.Spec PyProof.Rows L2 Dl Dv Dk Gx Ma
def F_l_rest (K : PySem.W.Frag) : DF := fun ds Q _ => ∃ i j, ds = [.int i, .int j] ∧ 0 < j ∧ j < 1073741824 ∧ Q (.int (i % j))
theorem y_rest {K : PySem.W.Frag} {i j : Int} {Q : D → Prop} {R : DX} (h1 : 0 < j) (h2 : j < 1073741824) : F_l_rest K [.int i, .int j] Q R = Q (.int (i % j)) := propext ⟨fun ⟨i', j', e, _, _, q⟩ => by
    simp only [List.cons.injEq, D.int.injEq, and_true] at e
    obtain ⟨rfl, rfl⟩ := e
    exact q, fun q => ⟨i, j, rfl, h1, h2, q⟩⟩
abbrev rl (r : Ru) : D := .lst (row r)
def F_l_turns (K : PySem.W.Frag) : DF := fun ds Q _ => ∃ (r : Ru) (m n : Nat), ds = [rl r, .int m, .int n] ∧ r.Ok ∧ Mo m ∧ n ≤ 100000 ∧ ∀ j : Nat, n ≤ j * m → j * m < n + m → Q (il (turnsL r m (j * m)))
def prD (p : Int × Int) : D := .tup [.int p.1, .int p.2]
/-- thing by thing -/
def dealtL (r : Ru) (m : Int) (n : Nat) : List (Int × Int) := (upto n).map fun k => (thingAt r n k, personOf r m n k)
def F_l_dealt (K : PySem.W.Frag) : DF := fun ds Q _ => ∃ (r : Ru) (m n : Nat), ds = [rl r, .int m, .int n] ∧ r.Ok ∧ Mo m ∧ n ≤ 10000 ∧ Q (.lst ((dealtL r m n).map prD))
def F_l_lots (K : PySem.W.Frag) : DF := fun ds Q _ => ∃ (r : Ru) (m n : Nat), ds = [rl r, .int m, .int n] ∧ r.Ok ∧ Mo m ∧ n ≤ 10000 ∧ Q (il (lotsL r m n))
theorem rl_inj {a b : Ru} (h : rl a = rl b) : a = b := row_inj (D.lst.inj h)
section
variable {K : PySem.W.Frag} {r : Ru} {m n : Nat} {Q : D → Prop} {R : DX}
theorem y_dealt (hr : r.Ok) (hm : Mo m) (hn : n ≤ 10000) : F_l_dealt K [rl r, .int m, .int n] Q R = Q (.lst ((dealtL r m n).map prD)) := propext ⟨fun ⟨r', m', n', e, _, _, _, q⟩ => by
    simp only [List.cons.injEq, D.int.injEq, and_true] at e
    obtain ⟨e1, e2, e3⟩ := e
    obtain rfl := rl_inj e1
    obtain rfl : m = m' := by omega
    obtain rfl : n = n' := by omega
    exact q, fun q => ⟨r, m, n, rfl, hr, hm, hn, q⟩⟩
theorem y_lots (hr : r.Ok) (hm : Mo m) (hn : n ≤ 10000) : F_l_lots K [rl r, .int m, .int n] Q R = Q (il (lotsL r m n)) := propext ⟨fun ⟨r', m', n', e, _, _, _, q⟩ => by
    simp only [List.cons.injEq, D.int.injEq, and_true] at e
    obtain ⟨e1, e2, e3⟩ := e
    obtain rfl := rl_inj e1
    obtain rfl : m = m' := by omega
    obtain rfl : n = n' := by omega
    exact q, fun q => ⟨r, m, n, rfl, hr, hm, hn, q⟩⟩
theorem z_s : gIx (rl r) (.int 0) Q = Q (.int r.s) := x_l0
theorem z_w : gIx (rl r) (.int 1) Q = Q (.str (wS r.w)) := x_l1
theorem z_f : gIx (rl r) (.int 2) Q = Q (.str (fS r.f)) := x_l2
theorem z_a : gIx (rl r) (.int 3) Q = Q (.int r.a) := x_l3
theorem z_l : gIx (rl r) (.int 4) Q = Q (.str (lS r.l)) := x_l4
end
def g_l_rest (K : PySem.W.Frag) : DG :=
  (dRet (dOp gSub (dVar 0) (dOp gMul (dOp gDiv (dVar 0) (dVar 1)) (dVar 1))))
def g_l_turns (K : PySem.W.Frag) : DG :=
  (dSeq (dSet 3 (dL (dLst dNil)))
  (dSeq (dSet 4 (dC (.int 0)))
  (dSeq (dWhile (dTst (dOp gLt (dCB gLen (dCons (dVar 3) dNil)) (dVar 2))) (dSeq (dSet 5 (dL (dListR1 (dVar 1))))
  (dSeq (dIfS (dAndB (dTst (dOp gEq (dOp gIx (dVar 0) (dC (.int 1))) (dC (.str "fro")))) (dTst (dOp gEq (dCall 2 (F_l_rest K) (dCons (dVar 4) (dCons (dC (.int 2)) dNil))) (dC (.int 1))))) (dSet 5 (dL (dRevL (dVar 5)))) dNx)
  (dSeq (dIfS (dTst (dOp gEq (dOp gIx (dVar 0) (dC (.int 1))) (dC (.str "step")))) (dSeq (dSet 6 (dCall 2 (F_l_rest K) (dCons (dVar 4) (dCons (dVar 1) dNil))))
  (dSet 5 (dOp gAddU (dL (dSlL (dVar 5) (dPart (dVar 6)) dNoPart)) (dL (dSlL (dVar 5) dNoPart (dPart (dVar 6))))))) dNx)
  (dSeq (dIfS (dTst (dOp gEq (dOp gIx (dVar 0) (dC (.int 2))) (dC (.str "last")))) (dSet 5 (dL (dLc (dItL (dVar 5)) [7] (dgName 7) dYes (dOp gSub (dOp gSub (dVar 1) (dC (.int 1))) (dVar 7))))) dNx)
  (dSeq (dSet 3 (dOp gAddU (dVar 3) (dVar 5)))
  (dSet 4 (dOp gAddU (dVar 4) (dC (.int 1))))))))))
  (dRet (dVar 3)))))
def g_l_dealt (K : PySem.W.Frag) : DG :=
  (dSeq (dSet 3 (dL (dLc (dRng1 (dCons (dVar 2) dNil)) [4] (dgName 4) (dOrB (dTst (dOp gEq (dOp gIx (dVar 0) (dC (.int 3))) (dC (.int 0)))) (dTst (dOp gGt (dCall 2 (F_l_rest K) (dCons (dOp gAddU (dVar 4) (dC (.int 1))) (dCons (dOp gIx (dVar 0) (dC (.int 3))) dNil))) (dC (.int 0))))) (dVar 4))))
  (dSeq (dSet 5 (dL (dLc (dRng1 (dCons (dVar 2) dNil)) [4] (dgName 4) (dAndB (dTst (dOp gGt (dOp gIx (dVar 0) (dC (.int 3))) (dC (.int 0)))) (dTst (dOp gEq (dCall 2 (F_l_rest K) (dCons (dOp gAddU (dVar 4) (dC (.int 1))) (dCons (dCB gMax2 (dCons (dOp gIx (dVar 0) (dC (.int 3))) (dCons (dC (.int 1)) dNil))) dNil))) (dC (.int 0))))) (dVar 4))))
  (dSeq (dSet 6 (dCall 3 (F_l_turns K) (dCons (dVar 0) (dCons (dVar 1) (dCons (dOp gAddU (dOp gMul (dC (.int 2)) (dVar 2)) (dC (.int 4))) dNil)))))
  (dSeq (dSet 7 (dL (dLc (dRng1 (dCons (dCB gLen (dCons (dVar 3) dNil)) dNil)) [4] (dgName 4) dYes (dTup (dCons (dOp gIx (dVar 3) (dVar 4)) (dCons (dOp gIx (dVar 6) (dOp gDiv (dVar 4) (dOp gIx (dVar 0) (dC (.int 0))))) dNil))))))
  (dSeq (dSet 8 (dIf (dTst (dOp gEq (dOp gIx (dVar 0) (dC (.int 4))) (dC (.str "on")))) (dOp gDiv (dOp gSub (dOp gAddU (dCB gLen (dCons (dVar 3) dNil)) (dOp gIx (dVar 0) (dC (.int 0)))) (dC (.int 1))) (dOp gIx (dVar 0) (dC (.int 0)))) (dC (.int 0))))
  (dRet (dOp gAddU (dVar 7) (dL (dLc (dRng1 (dCons (dCB gLen (dCons (dVar 5) dNil)) dNil)) [4] (dgName 4) dYes (dTup (dCons (dOp gIx (dVar 5) (dVar 4)) (dCons (dOp gIx (dVar 6) (dOp gAddU (dVar 8) (dOp gDiv (dVar 4) (dOp gIx (dVar 0) (dC (.int 0)))))) dNil))))))))))))
def g_l_lots (K : PySem.W.Frag) : DG :=
  (dSeq (dOwn 3 (dOpL gRepL (dL (dLst (dCons (dC (.int 0)) dNil))) (dVar 1)))
  (dSeq (dFor (dItL (dCall 3 (F_l_dealt K) (dCons (dVar 0) (dCons (dVar 1) (dCons (dVar 2) dNil))))) (dgTup [4, 5]) (dSetI 3 (dOp gAddU (dOwnIx 3 (dVar 5)) (dC (.int 1))) (dVar 5)))
  (dRel 3 (dRet (dVar 3)))))
theorem law_l_rest (K : PySem.W.Frag) (ds : List D) (Q : D → Prop) (R : DX) (h : F_l_rest K ds Q R) : dDef 2 (g_l_rest K) ds Q R := by
  obtain ⟨i, j, rfl, h1, h2, q⟩ := h
  simp (maxSteps := 10000000) (disch := first | assumption | omega) only [dDef, dRet, dRetL, dSeq, dIfS, dTst, dNotB, dAndB, dOrB, dAndV, dOrV, dNotV, dNeg, dIf, dCB, dCBL, dCons, dNil, dStar, dVar, dC, dCall, dOp, dOpL, dTup, dLst, dL, dSet, dAsg, dPar, dOwn, dExpr, dNx, dFor, dItL, dItT, dProp, dMeth, dMk, dMk0, dRaise, dPart, dNoPart, dSlL, dSlT, dRevL, dgName, dgTup, dgSets, dOwnIx, dOwnLen, dOwnTup, dApp, dSetI, dRel, relE, dItZip, dItTab, dItEnK, dItEn, dIsS, dJoinG, dSplit, dFmt, dJs, dIsT2, dIndex, dCallS, dYes, wipeE, dXf, dIsX, List.map_cons, List.map_nil, List.cons_append, List.nil_append, List.append_nil, List.length_cons, List.length_nil, List.replicate_succ, List.replicate_zero, Nat.reduceAdd, Nat.reduceSub, List.getElem?_cons_zero, List.getElem?_cons_succ, List.set_cons_zero, List.set_cons_succ, Nat.zero_add, Nat.add_zero, Nat.sub_self, x_add, x_sub, x_mulL, x_mulR, x_div, x_mod, x_lt, x_le, x_gt, x_ge, x_eq, x_ne, x_fro, x_step, x_first, x_last, x_on, x_l0, x_l1, x_l2, x_l3, x_l4, x_t0, x_t1, x_t2, x_t3, x_t4, x_intB, x_intI, x_max2, x_min2, x_lenL, x_lenT, x_sz, x_rs, x_rw, x_rf, x_ra, x_rl, x_slot, x_slotD, true_and, and_true, eq_self, decide_eq_true_eq, Bool.not_eq_true', decide_eq_false_iff_not, res_ok, res_er, x_rng1, x_rng1D, x_rng2, x_rng2E, x_rng2D, z_s, z_w, z_f, z_a, z_l, Bool.and_eq_true, if_true, if_false, Bool.false_eq_true, reduceCtorEq, decide_true, decide_false, Bool.not_true, Bool.not_false, Bool.true_eq_false, not_true_eq_false, not_false_eq_true, g_l_rest]
  have e : i - i / j * j = i % j := by rw [Int.emod_def, Int.mul_comm]
  rw [e]
  exact q
def turnEnv (r : Ru) (m n j : Nat) (a b c : Slot) : Env' := [.val (rl r), .val (.int m), .val (.int n), .val (il (turnsL r m (j * m))), .val (.int j), a, b, c]
theorem seqE {g1 g2 : DG} {env : Env'} {k : Kn} (E : Env') (h1 : ∀ N : Env' → Prop, N E → g1 env { k with nx := N }) (h2 : g2 E k) : dSeq g1 g2 env k := h1 _ h2
theorem cutD_lo {t : List D} {n : Nat} (h : n ≤ t.length) : Dl.cutD t none (some (n : Int)) = t.take n := by
  unfold Dl.cutD
  have e1 : HT.sIx t.length 0 none = 0 := by simp [HT.sIx]
  have e2 : HT.sIx t.length t.length (some (n : Int)) = n := by simp [HT.sIx]; rw [if_neg (by omega)]; omega
  rw [e1, e2]
  simp
theorem cutD_hi {t : List D} {n : Nat} (h : n ≤ t.length) : Dl.cutD t (some (n : Int)) none = t.drop n := by
  unfold Dl.cutD
  have e1 : HT.sIx t.length 0 (some (n : Int)) = n := by simp [HT.sIx]; rw [if_neg (by omega)]; omega
  have e2 : HT.sIx t.length t.length none = t.length := by simp [HT.sIx]
  rw [e1, e2]
  exact List.take_of_length_le (by simp)
/-- the row of a round, as the law makes it -/
def rowW (r : Ru) (m : Nat) (j : Nat) : List Int := match r.w with
  | .fro => if j % 2 = 1 then (upto m).reverse else upto m
  | .step => (upto m).drop (j % m) ++ (upto m).take (j % m)
  | .round => upto m
theorem rowW_eq (r : Ru) {m : Nat} (j : Nat) (hm : 0 < m) : rowW r m j = (upto m).map fun i => placeAt r m j i := by
  unfold rowW placeAt
  cases r.w with
  | fro =>
    dsimp only
    by_cases h : j % 2 = 1
    · rw [if_pos h, rev_upto]
      refine List.map_congr_left fun i _ => ?_
      rw [if_pos (by omega)]
    · rw [if_neg h]
      have : (upto m).map (fun i => if (j : Int) % 2 = 1 then (m : Int) - 1 - i else i) = (upto m).map id := List.map_congr_left fun i _ => by rw [if_neg (by omega)]; rfl
      rw [this, List.map_id]
  | step =>
    dsimp only
    rw [rot_upto (Nat.mod_lt _ hm)]
    refine List.map_congr_left fun i _ => ?_
    rw [Int.natCast_emod, Int.add_emod_emod]
  | round =>
    dsimp only
    exact (List.map_id _).symm
theorem row_mir (r : Ru) {m : Nat} (j : Nat) (hm : 0 < m) : (if r.f = true then rowW r m j else (rowW r m j).map fun p => (m : Int) - 1 - p) = rowJ r m j := by
  rw [rowW_eq r j hm]
  unfold rowJ mir
  rw [show ((m : Nat) : Int).toNat = m by omega]
  split
  · exact List.map_congr_left fun i _ => rfl
  · rw [List.map_map]
    exact List.map_congr_left fun i _ => rfl
theorem rowW_len (r : Ru) {m : Nat} (j : Nat) (hm : 0 < m) : (rowW r m j).length = m := by rw [rowW_eq r j hm, List.length_map, upto_length]
theorem turnsL_len {r : Ru} {m : Int} {n : Nat} : (turnsL r m n).length = n := by unfold turnsL; rw [List.length_map, upto_length]
theorem law_l_turns (K : PySem.W.Frag) (ds : List D) (Q : D → Prop) (R : DX) (h : F_l_turns K ds Q R) : dDef 8 (g_l_turns K) ds Q R := by
  obtain ⟨r, m, n, rfl, hr, hm, hn, q⟩ := h
  have h1 := hm.lo; have h2 := hm.hi
  have m0 : 0 < m := by omega
  unfold dDef g_l_turns
  refine seqE [.val (rl r), .val (.int m), .val (.int n), .val (il []), .un, .un, .un, .un] (fun N hN => ?_) ?_
  · simp (maxSteps := 10000000) (disch := first | assumption | omega) only [dDef, dRet, dRetL, dSeq, dIfS, dTst, dNotB, dAndB, dOrB, dAndV, dOrV, dNotV, dNeg, dIf, dCB, dCBL, dCons, dNil, dStar, dVar, dC, dCall, dOp, dOpL, dTup, dLst, dL, dSet, dAsg, dPar, dOwn, dExpr, dNx, dFor, dItL, dItT, dProp, dMeth, dMk, dMk0, dRaise, dPart, dNoPart, dSlL, dSlT, dRevL, dgName, dgTup, dgSets, dOwnIx, dOwnLen, dOwnTup, dApp, dSetI, dRel, relE, dItZip, dItTab, dItEnK, dItEn, dIsS, dJoinG, dSplit, dFmt, dJs, dIsT2, dIndex, dCallS, dYes, wipeE, dXf, dIsX, List.map_cons, List.map_nil, List.cons_append, List.nil_append, List.append_nil, List.length_cons, List.length_nil, List.replicate_succ, List.replicate_zero, Nat.reduceAdd, Nat.reduceSub, List.getElem?_cons_zero, List.getElem?_cons_succ, List.set_cons_zero, List.set_cons_succ, Nat.zero_add, Nat.add_zero, Nat.sub_self, x_add, x_sub, x_mulL, x_mulR, x_div, x_mod, x_lt, x_le, x_gt, x_ge, x_eq, x_ne, x_fro, x_step, x_first, x_last, x_on, x_l0, x_l1, x_l2, x_l3, x_l4, x_t0, x_t1, x_t2, x_t3, x_t4, x_intB, x_intI, x_max2, x_min2, x_lenL, x_lenT, x_sz, x_rs, x_rw, x_rf, x_ra, x_rl, x_slot, x_slotD, true_and, and_true, eq_self, decide_eq_true_eq, Bool.not_eq_true', decide_eq_false_iff_not, res_ok, res_er, x_rng1, x_rng1D, x_rng2, x_rng2E, x_rng2D, z_s, z_w, z_f, z_a, z_l, Bool.and_eq_true, if_true, if_false, Bool.false_eq_true, reduceCtorEq, decide_true, decide_false, Bool.not_true, Bool.not_false, Bool.true_eq_false, not_true_eq_false, not_false_eq_true]
    exact hN
  refine seqE (turnEnv r m n 0 .un .un .un) (fun N hN => ?_) ?_
  · simp (maxSteps := 10000000) (disch := first | assumption | omega) only [dDef, dRet, dRetL, dSeq, dIfS, dTst, dNotB, dAndB, dOrB, dAndV, dOrV, dNotV, dNeg, dIf, dCB, dCBL, dCons, dNil, dStar, dVar, dC, dCall, dOp, dOpL, dTup, dLst, dL, dSet, dAsg, dPar, dOwn, dExpr, dNx, dFor, dItL, dItT, dProp, dMeth, dMk, dMk0, dRaise, dPart, dNoPart, dSlL, dSlT, dRevL, dgName, dgTup, dgSets, dOwnIx, dOwnLen, dOwnTup, dApp, dSetI, dRel, relE, dItZip, dItTab, dItEnK, dItEn, dIsS, dJoinG, dSplit, dFmt, dJs, dIsT2, dIndex, dCallS, dYes, wipeE, dXf, dIsX, List.map_cons, List.map_nil, List.cons_append, List.nil_append, List.append_nil, List.length_cons, List.length_nil, List.replicate_succ, List.replicate_zero, Nat.reduceAdd, Nat.reduceSub, List.getElem?_cons_zero, List.getElem?_cons_succ, List.set_cons_zero, List.set_cons_succ, Nat.zero_add, Nat.add_zero, Nat.sub_self, x_add, x_sub, x_mulL, x_mulR, x_div, x_mod, x_lt, x_le, x_gt, x_ge, x_eq, x_ne, x_fro, x_step, x_first, x_last, x_on, x_l0, x_l1, x_l2, x_l3, x_l4, x_t0, x_t1, x_t2, x_t3, x_t4, x_intB, x_intI, x_max2, x_min2, x_lenL, x_lenT, x_sz, x_rs, x_rw, x_rf, x_ra, x_rl, x_slot, x_slotD, true_and, and_true, eq_self, decide_eq_true_eq, Bool.not_eq_true', decide_eq_false_iff_not, res_ok, res_er, x_rng1, x_rng1D, x_rng2, x_rng2E, x_rng2D, z_s, z_w, z_f, z_a, z_l, Bool.and_eq_true, if_true, if_false, Bool.false_eq_true, reduceCtorEq, decide_true, decide_false, Bool.not_true, Bool.not_false, Bool.true_eq_false, not_true_eq_false, not_false_eq_true]
    unfold turnEnv at hN
    rw [Nat.zero_mul] at hN
    exact hN
  show dWhile _ _ (turnEnv r m n 0 .un .un .un) _
  refine while_ok n (fun f e => ∃ (j : Nat) (a b c : Slot), e = turnEnv r m n j a b c ∧ f = n - j * m ∧ j * m < n + m) ⟨0, .un, .un, .un, rfl, by omega, by omega⟩ ?_
  rintro f e N ⟨j, a, b, c, rfl, rfl, hj⟩ hN
  have el : ((List.map D.int (turnsL r m (j * m))).length : Int) = ((j * m : Nat) : Int) := by rw [List.length_map, turnsL_len]
  have ht : ∀ Q' : Bool → Prop, Q' (decide (((j * m : Nat) : Int) < n)) → (dTst (dOp gLt (dCB gLen (dCons (dVar 3) dNil)) (dVar 2))) (turnEnv r m n j a b c) Q' R := fun Q' hq => by
    unfold turnEnv il
    simp (maxSteps := 10000000) (disch := first | assumption | omega) only [dDef, dRet, dRetL, dSeq, dIfS, dTst, dNotB, dAndB, dOrB, dAndV, dOrV, dNotV, dNeg, dIf, dCB, dCBL, dCons, dNil, dStar, dVar, dC, dCall, dOp, dOpL, dTup, dLst, dL, dSet, dAsg, dPar, dOwn, dExpr, dNx, dFor, dItL, dItT, dProp, dMeth, dMk, dMk0, dRaise, dPart, dNoPart, dSlL, dSlT, dRevL, dgName, dgTup, dgSets, dOwnIx, dOwnLen, dOwnTup, dApp, dSetI, dRel, relE, dItZip, dItTab, dItEnK, dItEn, dIsS, dJoinG, dSplit, dFmt, dJs, dIsT2, dIndex, dCallS, dYes, wipeE, dXf, dIsX, List.map_cons, List.map_nil, List.cons_append, List.nil_append, List.append_nil, List.length_cons, List.length_nil, List.replicate_succ, List.replicate_zero, Nat.reduceAdd, Nat.reduceSub, List.getElem?_cons_zero, List.getElem?_cons_succ, List.set_cons_zero, List.set_cons_succ, Nat.zero_add, Nat.add_zero, Nat.sub_self, x_add, x_sub, x_mulL, x_mulR, x_div, x_mod, x_lt, x_le, x_gt, x_ge, x_eq, x_ne, x_fro, x_step, x_first, x_last, x_on, x_l0, x_l1, x_l2, x_l3, x_l4, x_t0, x_t1, x_t2, x_t3, x_t4, x_intB, x_intI, x_max2, x_min2, x_lenL, x_lenT, x_sz, x_rs, x_rw, x_rf, x_ra, x_rl, x_slot, x_slotD, true_and, and_true, eq_self, decide_eq_true_eq, Bool.not_eq_true', decide_eq_false_iff_not, res_ok, res_er, x_rng1, x_rng1D, x_rng2, x_rng2E, x_rng2D, z_s, z_w, z_f, z_a, z_l, Bool.and_eq_true, if_true, if_false, Bool.false_eq_true, reduceCtorEq, decide_true, decide_false, Bool.not_true, Bool.not_false, Bool.true_eq_false, not_true_eq_false, not_false_eq_true, el]
    exact hq
  refine ht _ ?_
  by_cases hlt : j * m < n
  · rw [decide_eq_true (by omega)]
    rw [if_pos rfl]
    refine seqE [.val (rl r), .val (.int m), .val (.int n), .val (il (turnsL r m (j * m))), .val (.int j), .val (il (upto m)), b, c] (fun N hN => ?_) ?_
    · unfold turnEnv
      simp (maxSteps := 10000000) (disch := first | assumption | omega) only [dDef, dRet, dRetL, dSeq, dIfS, dTst, dNotB, dAndB, dOrB, dAndV, dOrV, dNotV, dNeg, dIf, dCB, dCBL, dCons, dNil, dStar, dVar, dC, dCall, dOp, dOpL, dTup, dLst, dL, dSet, dAsg, dPar, dOwn, dExpr, dNx, dFor, dItL, dItT, dProp, dMeth, dMk, dMk0, dRaise, dPart, dNoPart, dSlL, dSlT, dRevL, dgName, dgTup, dgSets, dOwnIx, dOwnLen, dOwnTup, dApp, dSetI, dRel, relE, dItZip, dItTab, dItEnK, dItEn, dIsS, dJoinG, dSplit, dFmt, dJs, dIsT2, dIndex, dCallS, dYes, wipeE, dXf, dIsX, List.map_cons, List.map_nil, List.cons_append, List.nil_append, List.append_nil, List.length_cons, List.length_nil, List.replicate_succ, List.replicate_zero, Nat.reduceAdd, Nat.reduceSub, List.getElem?_cons_zero, List.getElem?_cons_succ, List.set_cons_zero, List.set_cons_succ, Nat.zero_add, Nat.add_zero, Nat.sub_self, x_add, x_sub, x_mulL, x_mulR, x_div, x_mod, x_lt, x_le, x_gt, x_ge, x_eq, x_ne, x_fro, x_step, x_first, x_last, x_on, x_l0, x_l1, x_l2, x_l3, x_l4, x_t0, x_t1, x_t2, x_t3, x_t4, x_intB, x_intI, x_max2, x_min2, x_lenL, x_lenT, x_sz, x_rs, x_rw, x_rf, x_ra, x_rl, x_slot, x_slotD, true_and, and_true, eq_self, decide_eq_true_eq, Bool.not_eq_true', decide_eq_false_iff_not, res_ok, res_er, x_rng1, x_rng1D, x_rng2, x_rng2E, x_rng2D, z_s, z_w, z_f, z_a, z_l, Bool.and_eq_true, if_true, if_false, Bool.false_eq_true, reduceCtorEq, decide_true, decide_false, Bool.not_true, Bool.not_false, Bool.true_eq_false, not_true_eq_false, not_false_eq_true, dListR1]
      have e : rgD 0 (m : Int) = (upto m).map .int := by rw [rgD_upto]; congr 1
      rw [e]
      exact ⟨RgOk.of_le (by omega) (by omega) (by omega) (by omega), hN⟩
    -- the row turned round
    refine seqE [.val (rl r), .val (.int m), .val (.int n), .val (il (turnsL r m (j * m))), .val (.int j), .val (il (if r.w = .fro ∧ j % 2 = 1 then (upto m).reverse else upto m)), b, c] (fun N hN => ?_) ?_
    · unfold il at hN ⊢
      simp (maxSteps := 10000000) (disch := first | assumption | omega) only [dDef, dRet, dRetL, dSeq, dIfS, dTst, dNotB, dAndB, dOrB, dAndV, dOrV, dNotV, dNeg, dIf, dCB, dCBL, dCons, dNil, dStar, dVar, dC, dCall, dOp, dOpL, dTup, dLst, dL, dSet, dAsg, dPar, dOwn, dExpr, dNx, dFor, dItL, dItT, dProp, dMeth, dMk, dMk0, dRaise, dPart, dNoPart, dSlL, dSlT, dRevL, dgName, dgTup, dgSets, dOwnIx, dOwnLen, dOwnTup, dApp, dSetI, dRel, relE, dItZip, dItTab, dItEnK, dItEn, dIsS, dJoinG, dSplit, dFmt, dJs, dIsT2, dIndex, dCallS, dYes, wipeE, dXf, dIsX, List.map_cons, List.map_nil, List.cons_append, List.nil_append, List.append_nil, List.length_cons, List.length_nil, List.replicate_succ, List.replicate_zero, Nat.reduceAdd, Nat.reduceSub, List.getElem?_cons_zero, List.getElem?_cons_succ, List.set_cons_zero, List.set_cons_succ, Nat.zero_add, Nat.add_zero, Nat.sub_self, x_add, x_sub, x_mulL, x_mulR, x_div, x_mod, x_lt, x_le, x_gt, x_ge, x_eq, x_ne, x_fro, x_step, x_first, x_last, x_on, x_l0, x_l1, x_l2, x_l3, x_l4, x_t0, x_t1, x_t2, x_t3, x_t4, x_intB, x_intI, x_max2, x_min2, x_lenL, x_lenT, x_sz, x_rs, x_rw, x_rf, x_ra, x_rl, x_slot, x_slotD, true_and, and_true, eq_self, decide_eq_true_eq, Bool.not_eq_true', decide_eq_false_iff_not, res_ok, res_er, x_rng1, x_rng1D, x_rng2, x_rng2E, x_rng2D, z_s, z_w, z_f, z_a, z_l, Bool.and_eq_true, if_true, if_false, Bool.false_eq_true, reduceCtorEq, decide_true, decide_false, Bool.not_true, Bool.not_false, Bool.true_eq_false, not_true_eq_false, not_false_eq_true, y_rest]
      by_cases h1 : r.w = .fro
      · by_cases h2 : j % 2 = 1
        · rw [if_pos ⟨h1, h2⟩] at hN
          rw [if_pos h1, if_pos (by omega), ← List.map_reverse]
          exact hN
        · rw [if_neg (fun z => h2 z.2)] at hN
          rw [if_pos h1, if_neg (by omega)]
          exact hN
      · rw [if_neg (fun z => h1 z.1)] at hN
        rw [if_neg h1]
        exact hN
    -- moved on
    refine seqE [.val (rl r), .val (.int m), .val (.int n), .val (il (turnsL r m (j * m))), .val (.int j), .val (il (rowW r m j)), (if r.w = .step then .val (.int ((j % m : Nat) : Int)) else b), c] (fun N hN => ?_) ?_
    · unfold il at hN ⊢
      have ej : (j : Int) % (m : Int) = ((j % m : Nat) : Int) := (Int.natCast_emod j m).symm
      simp (maxSteps := 10000000) (disch := first | assumption | omega) only [dDef, dRet, dRetL, dSeq, dIfS, dTst, dNotB, dAndB, dOrB, dAndV, dOrV, dNotV, dNeg, dIf, dCB, dCBL, dCons, dNil, dStar, dVar, dC, dCall, dOp, dOpL, dTup, dLst, dL, dSet, dAsg, dPar, dOwn, dExpr, dNx, dFor, dItL, dItT, dProp, dMeth, dMk, dMk0, dRaise, dPart, dNoPart, dSlL, dSlT, dRevL, dgName, dgTup, dgSets, dOwnIx, dOwnLen, dOwnTup, dApp, dSetI, dRel, relE, dItZip, dItTab, dItEnK, dItEn, dIsS, dJoinG, dSplit, dFmt, dJs, dIsT2, dIndex, dCallS, dYes, wipeE, dXf, dIsX, List.map_cons, List.map_nil, List.cons_append, List.nil_append, List.append_nil, List.length_cons, List.length_nil, List.replicate_succ, List.replicate_zero, Nat.reduceAdd, Nat.reduceSub, List.getElem?_cons_zero, List.getElem?_cons_succ, List.set_cons_zero, List.set_cons_succ, Nat.zero_add, Nat.add_zero, Nat.sub_self, x_add, x_sub, x_mulL, x_mulR, x_div, x_mod, x_lt, x_le, x_gt, x_ge, x_eq, x_ne, x_fro, x_step, x_first, x_last, x_on, x_l0, x_l1, x_l2, x_l3, x_l4, x_t0, x_t1, x_t2, x_t3, x_t4, x_intB, x_intI, x_max2, x_min2, x_lenL, x_lenT, x_sz, x_rs, x_rw, x_rf, x_ra, x_rl, x_slot, x_slotD, true_and, and_true, eq_self, decide_eq_true_eq, Bool.not_eq_true', decide_eq_false_iff_not, res_ok, res_er, x_rng1, x_rng1D, x_rng2, x_rng2E, x_rng2D, z_s, z_w, z_f, z_a, z_l, Bool.and_eq_true, if_true, if_false, Bool.false_eq_true, reduceCtorEq, decide_true, decide_false, Bool.not_true, Bool.not_false, Bool.true_eq_false, not_true_eq_false, not_false_eq_true, y_rest, ej]
      unfold rowW at hN
      cases hw : r.w with
      | fro =>
        rw [hw] at hN
        simp only [reduceCtorEq, if_false, true_and] at hN ⊢
        exact hN
      | round =>
        rw [hw] at hN
        simp only [reduceCtorEq, if_false, false_and] at hN ⊢
        exact hN
      | step =>
        rw [hw] at hN
        have k1 : j % m < m := Nat.mod_lt _ m0
        simp only [reduceCtorEq, if_false, false_and, if_true] at hN ⊢
        rw [cutD_hi (by rw [List.length_map, upto_length]; omega), cutD_lo (by rw [List.length_map, upto_length]; omega), ← List.map_drop, ← List.map_take, x_addL (len_le (by simp only [List.length_map, List.length_drop, List.length_take, upto_length]; omega)), ← List.map_append]
        exact hN
    refine seqE [.val (rl r), .val (.int m), .val (.int n), .val (il (turnsL r m (j * m))), .val (.int j), .val (il (rowJ r m j)), (if r.w = .step then .val (.int ((j % m : Nat) : Int)) else b), c] (fun N hN => ?_) ?_
    · rw [← row_mir r j m0] at hN
      generalize (if r.w = .step then Slot.val (.int ((j % m : Nat) : Int)) else b) = b' at hN ⊢
      unfold il at hN ⊢
      simp (maxSteps := 10000000) (disch := first | assumption | omega) only [dDef, dRet, dRetL, dSeq, dIfS, dTst, dNotB, dAndB, dOrB, dAndV, dOrV, dNotV, dNeg, dIf, dCB, dCBL, dCons, dNil, dStar, dVar, dC, dCall, dOp, dOpL, dTup, dLst, dL, dSet, dAsg, dPar, dOwn, dExpr, dNx, dFor, dItL, dItT, dProp, dMeth, dMk, dMk0, dRaise, dPart, dNoPart, dSlL, dSlT, dRevL, dgName, dgTup, dgSets, dOwnIx, dOwnLen, dOwnTup, dApp, dSetI, dRel, relE, dItZip, dItTab, dItEnK, dItEn, dIsS, dJoinG, dSplit, dFmt, dJs, dIsT2, dIndex, dCallS, dYes, wipeE, dXf, dIsX, List.map_cons, List.map_nil, List.cons_append, List.nil_append, List.append_nil, List.length_cons, List.length_nil, List.replicate_succ, List.replicate_zero, Nat.reduceAdd, Nat.reduceSub, List.getElem?_cons_zero, List.getElem?_cons_succ, List.set_cons_zero, List.set_cons_succ, Nat.zero_add, Nat.add_zero, Nat.sub_self, x_add, x_sub, x_mulL, x_mulR, x_div, x_mod, x_lt, x_le, x_gt, x_ge, x_eq, x_ne, x_fro, x_step, x_first, x_last, x_on, x_l0, x_l1, x_l2, x_l3, x_l4, x_t0, x_t1, x_t2, x_t3, x_t4, x_intB, x_intI, x_max2, x_min2, x_lenL, x_lenT, x_sz, x_rs, x_rw, x_rf, x_ra, x_rl, x_slot, x_slotD, true_and, and_true, eq_self, decide_eq_true_eq, Bool.not_eq_true', decide_eq_false_iff_not, res_ok, res_er, x_rng1, x_rng1D, x_rng2, x_rng2E, x_rng2D, z_s, z_w, z_f, z_a, z_l, Bool.and_eq_true, if_true, if_false, Bool.false_eq_true, reduceCtorEq, decide_true, decide_false, Bool.not_true, Bool.not_false, Bool.true_eq_false, not_true_eq_false, not_false_eq_true, dLc]
      cases hf : r.f with
      | true =>
        rw [hf] at hN
        exact hN
      | false =>
        rw [hf] at hN
        refine lc_map (xs := rowW r m j) D.int (fun p => .int ((m : Int) - 1 - p)) rfl (len_le (by rw [rowW_len r j m0]; omega)) (fun x hx Q1 h => ?_) ?_
        · simp (maxSteps := 10000000) (disch := first | assumption | omega) only [dDef, dRet, dRetL, dSeq, dIfS, dTst, dNotB, dAndB, dOrB, dAndV, dOrV, dNotV, dNeg, dIf, dCB, dCBL, dCons, dNil, dStar, dVar, dC, dCall, dOp, dOpL, dTup, dLst, dL, dSet, dAsg, dPar, dOwn, dExpr, dNx, dFor, dItL, dItT, dProp, dMeth, dMk, dMk0, dRaise, dPart, dNoPart, dSlL, dSlT, dRevL, dgName, dgTup, dgSets, dOwnIx, dOwnLen, dOwnTup, dApp, dSetI, dRel, relE, dItZip, dItTab, dItEnK, dItEn, dIsS, dJoinG, dSplit, dFmt, dJs, dIsT2, dIndex, dCallS, dYes, wipeE, dXf, dIsX, List.map_cons, List.map_nil, List.cons_append, List.nil_append, List.append_nil, List.length_cons, List.length_nil, List.replicate_succ, List.replicate_zero, Nat.reduceAdd, Nat.reduceSub, List.getElem?_cons_zero, List.getElem?_cons_succ, List.set_cons_zero, List.set_cons_succ, Nat.zero_add, Nat.add_zero, Nat.sub_self, x_add, x_sub, x_mulL, x_mulR, x_div, x_mod, x_lt, x_le, x_gt, x_ge, x_eq, x_ne, x_fro, x_step, x_first, x_last, x_on, x_l0, x_l1, x_l2, x_l3, x_l4, x_t0, x_t1, x_t2, x_t3, x_t4, x_intB, x_intI, x_max2, x_min2, x_lenL, x_lenT, x_sz, x_rs, x_rw, x_rf, x_ra, x_rl, x_slot, x_slotD, true_and, and_true, eq_self, decide_eq_true_eq, Bool.not_eq_true', decide_eq_false_iff_not, res_ok, res_er, x_rng1, x_rng1D, x_rng2, x_rng2E, x_rng2D, z_s, z_w, z_f, z_a, z_l, Bool.and_eq_true, if_true, if_false, Bool.false_eq_true, reduceCtorEq, decide_true, decide_false, Bool.not_true, Bool.not_false, Bool.true_eq_false, not_true_eq_false, not_false_eq_true]
          exact h
        · rw [show (rowW r m j).map (fun p => D.int ((m : Int) - 1 - p)) = ((rowW r m j).map fun p => (m : Int) - 1 - p).map D.int by rw [List.map_map]; rfl]
          exact hN
    generalize (if r.w = .step then Slot.val (.int ((j % m : Nat) : Int)) else b) = b'
    refine seqE [.val (rl r), .val (.int m), .val (.int n), .val (il (turnsL r m ((j + 1) * m))), .val (.int j), .val (il (rowJ r m j)), b', c] (fun N hN => ?_) ?_
    · rw [turnsL_next j hm] at hN
      unfold il at hN ⊢
      simp (maxSteps := 10000000) (disch := first | assumption | omega) only [dDef, dRet, dRetL, dSeq, dIfS, dTst, dNotB, dAndB, dOrB, dAndV, dOrV, dNotV, dNeg, dIf, dCB, dCBL, dCons, dNil, dStar, dVar, dC, dCall, dOp, dOpL, dTup, dLst, dL, dSet, dAsg, dPar, dOwn, dExpr, dNx, dFor, dItL, dItT, dProp, dMeth, dMk, dMk0, dRaise, dPart, dNoPart, dSlL, dSlT, dRevL, dgName, dgTup, dgSets, dOwnIx, dOwnLen, dOwnTup, dApp, dSetI, dRel, relE, dItZip, dItTab, dItEnK, dItEn, dIsS, dJoinG, dSplit, dFmt, dJs, dIsT2, dIndex, dCallS, dYes, wipeE, dXf, dIsX, List.map_cons, List.map_nil, List.cons_append, List.nil_append, List.append_nil, List.length_cons, List.length_nil, List.replicate_succ, List.replicate_zero, Nat.reduceAdd, Nat.reduceSub, List.getElem?_cons_zero, List.getElem?_cons_succ, List.set_cons_zero, List.set_cons_succ, Nat.zero_add, Nat.add_zero, Nat.sub_self, x_add, x_sub, x_mulL, x_mulR, x_div, x_mod, x_lt, x_le, x_gt, x_ge, x_eq, x_ne, x_fro, x_step, x_first, x_last, x_on, x_l0, x_l1, x_l2, x_l3, x_l4, x_t0, x_t1, x_t2, x_t3, x_t4, x_intB, x_intI, x_max2, x_min2, x_lenL, x_lenT, x_sz, x_rs, x_rw, x_rf, x_ra, x_rl, x_slot, x_slotD, true_and, and_true, eq_self, decide_eq_true_eq, Bool.not_eq_true', decide_eq_false_iff_not, res_ok, res_er, x_rng1, x_rng1D, x_rng2, x_rng2E, x_rng2D, z_s, z_w, z_f, z_a, z_l, Bool.and_eq_true, if_true, if_false, Bool.false_eq_true, reduceCtorEq, decide_true, decide_false, Bool.not_true, Bool.not_false, Bool.true_eq_false, not_true_eq_false, not_false_eq_true]
      rw [x_addL (Nat.le_trans (m := 200000) (by
        have : (rowJ r m j).length = m := by unfold rowJ; rw [List.length_map, upto_length]; omega
        simp only [List.length_map, turnsL_len, this]; omega) (by decide)), ← List.map_append]
      exact hN
    simp (maxSteps := 10000000) (disch := first | assumption | omega) only [dDef, dRet, dRetL, dSeq, dIfS, dTst, dNotB, dAndB, dOrB, dAndV, dOrV, dNotV, dNeg, dIf, dCB, dCBL, dCons, dNil, dStar, dVar, dC, dCall, dOp, dOpL, dTup, dLst, dL, dSet, dAsg, dPar, dOwn, dExpr, dNx, dFor, dItL, dItT, dProp, dMeth, dMk, dMk0, dRaise, dPart, dNoPart, dSlL, dSlT, dRevL, dgName, dgTup, dgSets, dOwnIx, dOwnLen, dOwnTup, dApp, dSetI, dRel, relE, dItZip, dItTab, dItEnK, dItEn, dIsS, dJoinG, dSplit, dFmt, dJs, dIsT2, dIndex, dCallS, dYes, wipeE, dXf, dIsX, List.map_cons, List.map_nil, List.cons_append, List.nil_append, List.append_nil, List.length_cons, List.length_nil, List.replicate_succ, List.replicate_zero, Nat.reduceAdd, Nat.reduceSub, List.getElem?_cons_zero, List.getElem?_cons_succ, List.set_cons_zero, List.set_cons_succ, Nat.zero_add, Nat.add_zero, Nat.sub_self, x_add, x_sub, x_mulL, x_mulR, x_div, x_mod, x_lt, x_le, x_gt, x_ge, x_eq, x_ne, x_fro, x_step, x_first, x_last, x_on, x_l0, x_l1, x_l2, x_l3, x_l4, x_t0, x_t1, x_t2, x_t3, x_t4, x_intB, x_intI, x_max2, x_min2, x_lenL, x_lenT, x_sz, x_rs, x_rw, x_rf, x_ra, x_rl, x_slot, x_slotD, true_and, and_true, eq_self, decide_eq_true_eq, Bool.not_eq_true', decide_eq_false_iff_not, res_ok, res_er, x_rng1, x_rng1D, x_rng2, x_rng2E, x_rng2D, z_s, z_w, z_f, z_a, z_l, Bool.and_eq_true, if_true, if_false, Bool.false_eq_true, reduceCtorEq, decide_true, decide_false, Bool.not_true, Bool.not_false, Bool.true_eq_false, not_true_eq_false, not_false_eq_true]
    exact hN (n - (j + 1) * m) _ (by rw [Nat.succ_mul]; omega) ⟨j + 1, .val (il (rowJ r m j)), b', c, rfl, rfl, by rw [Nat.succ_mul]; omega⟩
  · rw [decide_eq_false (by omega)]
    rw [if_neg Bool.false_ne_true]
    simp (maxSteps := 10000000) (disch := first | assumption | omega) only [dDef, dRet, dRetL, dSeq, dIfS, dTst, dNotB, dAndB, dOrB, dAndV, dOrV, dNotV, dNeg, dIf, dCB, dCBL, dCons, dNil, dStar, dVar, dC, dCall, dOp, dOpL, dTup, dLst, dL, dSet, dAsg, dPar, dOwn, dExpr, dNx, dFor, dItL, dItT, dProp, dMeth, dMk, dMk0, dRaise, dPart, dNoPart, dSlL, dSlT, dRevL, dgName, dgTup, dgSets, dOwnIx, dOwnLen, dOwnTup, dApp, dSetI, dRel, relE, dItZip, dItTab, dItEnK, dItEn, dIsS, dJoinG, dSplit, dFmt, dJs, dIsT2, dIndex, dCallS, dYes, wipeE, dXf, dIsX, List.map_cons, List.map_nil, List.cons_append, List.nil_append, List.append_nil, List.length_cons, List.length_nil, List.replicate_succ, List.replicate_zero, Nat.reduceAdd, Nat.reduceSub, List.getElem?_cons_zero, List.getElem?_cons_succ, List.set_cons_zero, List.set_cons_succ, Nat.zero_add, Nat.add_zero, Nat.sub_self, x_add, x_sub, x_mulL, x_mulR, x_div, x_mod, x_lt, x_le, x_gt, x_ge, x_eq, x_ne, x_fro, x_step, x_first, x_last, x_on, x_l0, x_l1, x_l2, x_l3, x_l4, x_t0, x_t1, x_t2, x_t3, x_t4, x_intB, x_intI, x_max2, x_min2, x_lenL, x_lenT, x_sz, x_rs, x_rw, x_rf, x_ra, x_rl, x_slot, x_slotD, true_and, and_true, eq_self, decide_eq_true_eq, Bool.not_eq_true', decide_eq_false_iff_not, res_ok, res_er, x_rng1, x_rng1D, x_rng2, x_rng2E, x_rng2D, z_s, z_w, z_f, z_a, z_l, Bool.and_eq_true, if_true, if_false, Bool.false_eq_true, reduceCtorEq, decide_true, decide_false, Bool.not_true, Bool.not_false, Bool.true_eq_false, not_true_eq_false, not_false_eq_true, turnEnv]
    exact q j (by omega) hj
end Pr

set_option maxHeartbeats 4000000
/-! The laws' own dealing: what is dealt, lots. -/
namespace Pr
open PySem PySem.Spec PyProof.Rows L2 Dl Dv Dk Gx Ma
theorem gIx_map {xs : List Int} {i v : Int} {Q : D → Prop} (h0 : 0 ≤ i) (h : xs[i.toNat]? = some v) : gIx (.lst (xs.map .int)) (.int i) Q = Q (.int v) := by
  refine gIx_l ?_
  have : i = ((i.toNat : Nat) : Int) := by omega
  rw [this]
  refine atI_pos ?_
  rw [List.getElem?_map, h]
  rfl
theorem upto_map_get {f : Int → Int} {n : Nat} {i : Int} (h0 : 0 ≤ i) (h1 : i < n) : ((upto n).map f)[i.toNat]? = some (f i) := by
  rw [List.getElem?_map, upto_get (by omega)]
  show some (f _) = _
  congr 2
  omega
theorem y_turns {K : PySem.W.Frag} {r : Ru} {m n : Nat} {Q : D → Prop} {R : DX} (hr : r.Ok) (hm : Mo m) (hn : n ≤ 100000) (h : ∀ j : Nat, n ≤ j * m → j * m < n + m → Q (il (turnsL r m (j * m)))) : F_l_turns K [rl r, .int m, .int n] Q R := ⟨r, m, n, rfl, hr, hm, hn, h⟩
theorem dealt_parts {r : Ru} {m n : Nat} (hr : r.Ok) : dealtL r m n = ((upto (main r n).toNat).map fun k => (thingL r k, personAt r m (k / r.s))) ++ (upto (many r n).toNat).map fun k => (thingR r k, personAt r m (begin_ r n + k / r.s)) := by
  have h1 := main_range hr (show (0 : Int) ≤ (n : Int) by omega)
  have h2 := many_range hr (show (0 : Int) ≤ (n : Int) by omega)
  have h3 : n = (main r n).toNat + (many r n).toNat := by unfold main at h1 ⊢; omega
  unfold dealtL
  conv => lhs; rw [show upto n = upto ((main r n).toNat + (many r n).toNat) by rw [← h3]]
  rw [upto_add, List.map_append, List.map_map]
  congr 1
  · refine List.map_congr_left fun k hk => ?_
    have hk2 := upto_mem.mp hk
    rw [thing_l (by omega)]
    unfold personOf turnOf
    rw [if_pos (by omega)]
  · refine List.map_congr_left fun k hk => ?_
    have hk2 := upto_mem.mp hk
    show (thingAt r n (((main r n).toNat : Int) + k), personOf r m n (((main r n).toNat : Int) + k)) = _
    rw [show ((main r n).toNat : Int) = main r n by omega, thing_r hk2.1]
    unfold personOf turnOf
    rw [if_neg (by omega), show main r n + k - main r n = k by omega]
theorem begin_law {r : Ru} {n : Int} (hr : r.Ok) : (main r n + r.s - 1) / r.s = -(-(main r n) / r.s) := by
  rcases hr.s with e | e | e <;> rw [e] <;> omega
theorem seqP {g1 g2 : DG} {env : Env'} {k : Kn} (P : Env' → Prop) (h1 : ∀ N : Env' → Prop, (∀ e, P e → N e) → g1 env { k with nx := N }) (h2 : ∀ e, P e → g2 e k) : dSeq g1 g2 env k := h1 _ h2
theorem law_l_dealt (K : PySem.W.Frag) (ds : List D) (Q : D → Prop) (R : DX) (h : F_l_dealt K ds Q R) : dDef 9 (g_l_dealt K) ds Q R := by
  obtain ⟨r, m, n, rfl, hr, hm, hn, q⟩ := h
  have h1 := hm.lo; have h2 := hm.hi; have s0 := hr.pos; have s3 := Ru.s3 hr
  have a5 : 0 ≤ r.a ∧ r.a ≤ 4 := by rcases hr.a with e | e | e | e <;> omega
  have k1 := main_range hr (show (0 : Int) ≤ (n : Int) by omega)
  have k2 := many_range hr (show (0 : Int) ≤ (n : Int) by omega)
  unfold dDef g_l_dealt
  refine seqE [.val (rl r), .val (.int m), .val (.int n), .val (il ((upto (main r n).toNat).map (thingL r))), .un, .un, .un, .un, .un] (fun N hN => ?_) ?_
  · simp (maxSteps := 10000000) (disch := first | assumption | omega) only [dDef, dRet, dRetL, dSeq, dIfS, dTst, dNotB, dAndB, dOrB, dAndV, dOrV, dNotV, dNeg, dIf, dCB, dCBL, dCons, dNil, dStar, dVar, dC, dCall, dOp, dOpL, dTup, dLst, dL, dSet, dAsg, dPar, dOwn, dExpr, dNx, dFor, dItL, dItT, dProp, dMeth, dMk, dMk0, dRaise, dPart, dNoPart, dSlL, dSlT, dRevL, dgName, dgTup, dgSets, dOwnIx, dOwnLen, dOwnTup, dApp, dSetI, dRel, relE, dItZip, dItTab, dItEnK, dItEn, dIsS, dJoinG, dSplit, dFmt, dJs, dIsT2, dIndex, dCallS, dYes, wipeE, dXf, dIsX, List.map_cons, List.map_nil, List.cons_append, List.nil_append, List.append_nil, List.length_cons, List.length_nil, List.replicate_succ, List.replicate_zero, Nat.reduceAdd, Nat.reduceSub, List.getElem?_cons_zero, List.getElem?_cons_succ, List.set_cons_zero, List.set_cons_succ, Nat.zero_add, Nat.add_zero, Nat.sub_self, x_add, x_sub, x_mulL, x_mulR, x_div, x_mod, x_lt, x_le, x_gt, x_ge, x_eq, x_ne, x_fro, x_step, x_first, x_last, x_on, x_l0, x_l1, x_l2, x_l3, x_l4, x_t0, x_t1, x_t2, x_t3, x_t4, x_intB, x_intI, x_max2, x_min2, x_lenL, x_lenT, x_sz, x_rs, x_rw, x_rf, x_ra, x_rl, x_slot, x_slotD, true_and, and_true, eq_self, decide_eq_true_eq, Bool.not_eq_true', decide_eq_false_iff_not, res_ok, res_er, x_rng1, x_rng1D, x_rng2, x_rng2E, x_rng2D, z_s, z_w, z_f, z_a, z_l, Bool.and_eq_true, if_true, if_false, Bool.false_eq_true, reduceCtorEq, decide_true, decide_false, Bool.not_true, Bool.not_false, Bool.true_eq_false, not_true_eq_false, not_false_eq_true, dLc]
    rw [show ((n : Int).toNat) = n by omega]
    refine lc_if D.int D.int (oneB r) rfl (Nat.le_trans (m := 10000) (by rw [upto_length]; omega) (by decide)) (fun x hx Q1 Q2 q1 q2 => ?_) ?_
    · have hx2 := upto_mem.mp hx
      by_cases ha : r.a = 0
      · simp (maxSteps := 10000000) (disch := first | assumption | omega) only [dDef, dRet, dRetL, dSeq, dIfS, dTst, dNotB, dAndB, dOrB, dAndV, dOrV, dNotV, dNeg, dIf, dCB, dCBL, dCons, dNil, dStar, dVar, dC, dCall, dOp, dOpL, dTup, dLst, dL, dSet, dAsg, dPar, dOwn, dExpr, dNx, dFor, dItL, dItT, dProp, dMeth, dMk, dMk0, dRaise, dPart, dNoPart, dSlL, dSlT, dRevL, dgName, dgTup, dgSets, dOwnIx, dOwnLen, dOwnTup, dApp, dSetI, dRel, relE, dItZip, dItTab, dItEnK, dItEn, dIsS, dJoinG, dSplit, dFmt, dJs, dIsT2, dIndex, dCallS, dYes, wipeE, dXf, dIsX, List.map_cons, List.map_nil, List.cons_append, List.nil_append, List.append_nil, List.length_cons, List.length_nil, List.replicate_succ, List.replicate_zero, Nat.reduceAdd, Nat.reduceSub, List.getElem?_cons_zero, List.getElem?_cons_succ, List.set_cons_zero, List.set_cons_succ, Nat.zero_add, Nat.add_zero, Nat.sub_self, x_add, x_sub, x_mulL, x_mulR, x_div, x_mod, x_lt, x_le, x_gt, x_ge, x_eq, x_ne, x_fro, x_step, x_first, x_last, x_on, x_l0, x_l1, x_l2, x_l3, x_l4, x_t0, x_t1, x_t2, x_t3, x_t4, x_intB, x_intI, x_max2, x_min2, x_lenL, x_lenT, x_sz, x_rs, x_rw, x_rf, x_ra, x_rl, x_slot, x_slotD, true_and, and_true, eq_self, decide_eq_true_eq, Bool.not_eq_true', decide_eq_false_iff_not, res_ok, res_er, x_rng1, x_rng1D, x_rng2, x_rng2E, x_rng2D, z_s, z_w, z_f, z_a, z_l, Bool.and_eq_true, if_true, if_false, Bool.false_eq_true, reduceCtorEq, decide_true, decide_false, Bool.not_true, Bool.not_false, Bool.true_eq_false, not_true_eq_false, not_false_eq_true, ha]
        exact q1 (by unfold oneB; simp [ha])
      · simp (maxSteps := 10000000) (disch := first | assumption | omega) only [dDef, dRet, dRetL, dSeq, dIfS, dTst, dNotB, dAndB, dOrB, dAndV, dOrV, dNotV, dNeg, dIf, dCB, dCBL, dCons, dNil, dStar, dVar, dC, dCall, dOp, dOpL, dTup, dLst, dL, dSet, dAsg, dPar, dOwn, dExpr, dNx, dFor, dItL, dItT, dProp, dMeth, dMk, dMk0, dRaise, dPart, dNoPart, dSlL, dSlT, dRevL, dgName, dgTup, dgSets, dOwnIx, dOwnLen, dOwnTup, dApp, dSetI, dRel, relE, dItZip, dItTab, dItEnK, dItEn, dIsS, dJoinG, dSplit, dFmt, dJs, dIsT2, dIndex, dCallS, dYes, wipeE, dXf, dIsX, List.map_cons, List.map_nil, List.cons_append, List.nil_append, List.append_nil, List.length_cons, List.length_nil, List.replicate_succ, List.replicate_zero, Nat.reduceAdd, Nat.reduceSub, List.getElem?_cons_zero, List.getElem?_cons_succ, List.set_cons_zero, List.set_cons_succ, Nat.zero_add, Nat.add_zero, Nat.sub_self, x_add, x_sub, x_mulL, x_mulR, x_div, x_mod, x_lt, x_le, x_gt, x_ge, x_eq, x_ne, x_fro, x_step, x_first, x_last, x_on, x_l0, x_l1, x_l2, x_l3, x_l4, x_t0, x_t1, x_t2, x_t3, x_t4, x_intB, x_intI, x_max2, x_min2, x_lenL, x_lenT, x_sz, x_rs, x_rw, x_rf, x_ra, x_rl, x_slot, x_slotD, true_and, and_true, eq_self, decide_eq_true_eq, Bool.not_eq_true', decide_eq_false_iff_not, res_ok, res_er, x_rng1, x_rng1D, x_rng2, x_rng2E, x_rng2D, z_s, z_w, z_f, z_a, z_l, Bool.and_eq_true, if_true, if_false, Bool.false_eq_true, reduceCtorEq, decide_true, decide_false, Bool.not_true, Bool.not_false, Bool.true_eq_false, not_true_eq_false, not_false_eq_true, ha, y_rest]
        by_cases hb : 0 < (x + 1) % r.a
        · rw [if_pos hb]
          exact q1 (by unfold oneB; simp [hb])
        · rw [if_neg hb]
          exact q2 (by unfold oneB; simp [ha, hb])
    · rw [ones hr]
      exact hN
  refine seqE [.val (rl r), .val (.int m), .val (.int n), .val (il ((upto (main r n).toNat).map (thingL r))), .un, .val (il ((upto (many r n).toNat).map (thingR r))), .un, .un, .un] (fun N hN => ?_) ?_
  · simp (maxSteps := 10000000) (disch := first | assumption | omega) only [dDef, dRet, dRetL, dSeq, dIfS, dTst, dNotB, dAndB, dOrB, dAndV, dOrV, dNotV, dNeg, dIf, dCB, dCBL, dCons, dNil, dStar, dVar, dC, dCall, dOp, dOpL, dTup, dLst, dL, dSet, dAsg, dPar, dOwn, dExpr, dNx, dFor, dItL, dItT, dProp, dMeth, dMk, dMk0, dRaise, dPart, dNoPart, dSlL, dSlT, dRevL, dgName, dgTup, dgSets, dOwnIx, dOwnLen, dOwnTup, dApp, dSetI, dRel, relE, dItZip, dItTab, dItEnK, dItEn, dIsS, dJoinG, dSplit, dFmt, dJs, dIsT2, dIndex, dCallS, dYes, wipeE, dXf, dIsX, List.map_cons, List.map_nil, List.cons_append, List.nil_append, List.append_nil, List.length_cons, List.length_nil, List.replicate_succ, List.replicate_zero, Nat.reduceAdd, Nat.reduceSub, List.getElem?_cons_zero, List.getElem?_cons_succ, List.set_cons_zero, List.set_cons_succ, Nat.zero_add, Nat.add_zero, Nat.sub_self, x_add, x_sub, x_mulL, x_mulR, x_div, x_mod, x_lt, x_le, x_gt, x_ge, x_eq, x_ne, x_fro, x_step, x_first, x_last, x_on, x_l0, x_l1, x_l2, x_l3, x_l4, x_t0, x_t1, x_t2, x_t3, x_t4, x_intB, x_intI, x_max2, x_min2, x_lenL, x_lenT, x_sz, x_rs, x_rw, x_rf, x_ra, x_rl, x_slot, x_slotD, true_and, and_true, eq_self, decide_eq_true_eq, Bool.not_eq_true', decide_eq_false_iff_not, res_ok, res_er, x_rng1, x_rng1D, x_rng2, x_rng2E, x_rng2D, z_s, z_w, z_f, z_a, z_l, Bool.and_eq_true, if_true, if_false, Bool.false_eq_true, reduceCtorEq, decide_true, decide_false, Bool.not_true, Bool.not_false, Bool.true_eq_false, not_true_eq_false, not_false_eq_true, dLc]
    rw [show ((n : Int).toNat) = n by omega]
    refine lc_if D.int D.int (twoB r) rfl (Nat.le_trans (m := 10000) (by rw [upto_length]; omega) (by decide)) (fun x hx Q1 Q2 q1 q2 => ?_) ?_
    · have hx2 := upto_mem.mp hx
      by_cases ha : 0 < r.a
      · have a2 : 1 < r.a := by rcases hr.a with e | e | e | e <;> omega
        simp (maxSteps := 10000000) (disch := first | assumption | omega) only [dDef, dRet, dRetL, dSeq, dIfS, dTst, dNotB, dAndB, dOrB, dAndV, dOrV, dNotV, dNeg, dIf, dCB, dCBL, dCons, dNil, dStar, dVar, dC, dCall, dOp, dOpL, dTup, dLst, dL, dSet, dAsg, dPar, dOwn, dExpr, dNx, dFor, dItL, dItT, dProp, dMeth, dMk, dMk0, dRaise, dPart, dNoPart, dSlL, dSlT, dRevL, dgName, dgTup, dgSets, dOwnIx, dOwnLen, dOwnTup, dApp, dSetI, dRel, relE, dItZip, dItTab, dItEnK, dItEn, dIsS, dJoinG, dSplit, dFmt, dJs, dIsT2, dIndex, dCallS, dYes, wipeE, dXf, dIsX, List.map_cons, List.map_nil, List.cons_append, List.nil_append, List.append_nil, List.length_cons, List.length_nil, List.replicate_succ, List.replicate_zero, Nat.reduceAdd, Nat.reduceSub, List.getElem?_cons_zero, List.getElem?_cons_succ, List.set_cons_zero, List.set_cons_succ, Nat.zero_add, Nat.add_zero, Nat.sub_self, x_add, x_sub, x_mulL, x_mulR, x_div, x_mod, x_lt, x_le, x_gt, x_ge, x_eq, x_ne, x_fro, x_step, x_first, x_last, x_on, x_l0, x_l1, x_l2, x_l3, x_l4, x_t0, x_t1, x_t2, x_t3, x_t4, x_intB, x_intI, x_max2, x_min2, x_lenL, x_lenT, x_sz, x_rs, x_rw, x_rf, x_ra, x_rl, x_slot, x_slotD, true_and, and_true, eq_self, decide_eq_true_eq, Bool.not_eq_true', decide_eq_false_iff_not, res_ok, res_er, x_rng1, x_rng1D, x_rng2, x_rng2E, x_rng2D, z_s, z_w, z_f, z_a, z_l, Bool.and_eq_true, if_true, if_false, Bool.false_eq_true, reduceCtorEq, decide_true, decide_false, Bool.not_true, Bool.not_false, Bool.true_eq_false, not_true_eq_false, not_false_eq_true, ha]
        rw [if_neg (show ¬ (1 : Int) > r.a by omega)]
        simp (maxSteps := 10000000) (disch := first | assumption | omega) only [dDef, dRet, dRetL, dSeq, dIfS, dTst, dNotB, dAndB, dOrB, dAndV, dOrV, dNotV, dNeg, dIf, dCB, dCBL, dCons, dNil, dStar, dVar, dC, dCall, dOp, dOpL, dTup, dLst, dL, dSet, dAsg, dPar, dOwn, dExpr, dNx, dFor, dItL, dItT, dProp, dMeth, dMk, dMk0, dRaise, dPart, dNoPart, dSlL, dSlT, dRevL, dgName, dgTup, dgSets, dOwnIx, dOwnLen, dOwnTup, dApp, dSetI, dRel, relE, dItZip, dItTab, dItEnK, dItEn, dIsS, dJoinG, dSplit, dFmt, dJs, dIsT2, dIndex, dCallS, dYes, wipeE, dXf, dIsX, List.map_cons, List.map_nil, List.cons_append, List.nil_append, List.append_nil, List.length_cons, List.length_nil, List.replicate_succ, List.replicate_zero, Nat.reduceAdd, Nat.reduceSub, List.getElem?_cons_zero, List.getElem?_cons_succ, List.set_cons_zero, List.set_cons_succ, Nat.zero_add, Nat.add_zero, Nat.sub_self, x_add, x_sub, x_mulL, x_mulR, x_div, x_mod, x_lt, x_le, x_gt, x_ge, x_eq, x_ne, x_fro, x_step, x_first, x_last, x_on, x_l0, x_l1, x_l2, x_l3, x_l4, x_t0, x_t1, x_t2, x_t3, x_t4, x_intB, x_intI, x_max2, x_min2, x_lenL, x_lenT, x_sz, x_rs, x_rw, x_rf, x_ra, x_rl, x_slot, x_slotD, true_and, and_true, eq_self, decide_eq_true_eq, Bool.not_eq_true', decide_eq_false_iff_not, res_ok, res_er, x_rng1, x_rng1D, x_rng2, x_rng2E, x_rng2D, z_s, z_w, z_f, z_a, z_l, Bool.and_eq_true, if_true, if_false, Bool.false_eq_true, reduceCtorEq, decide_true, decide_false, Bool.not_true, Bool.not_false, Bool.true_eq_false, not_true_eq_false, not_false_eq_true, y_rest]
        by_cases hb : (x + 1) % r.a = 0
        · rw [if_pos hb]
          exact q1 (by unfold twoB; rw [if_pos a2]; simp [ha, hb])
        · rw [if_neg hb]
          exact q2 (by unfold twoB; rw [if_pos a2]; simp [hb])
      · simp (maxSteps := 10000000) (disch := first | assumption | omega) only [dDef, dRet, dRetL, dSeq, dIfS, dTst, dNotB, dAndB, dOrB, dAndV, dOrV, dNotV, dNeg, dIf, dCB, dCBL, dCons, dNil, dStar, dVar, dC, dCall, dOp, dOpL, dTup, dLst, dL, dSet, dAsg, dPar, dOwn, dExpr, dNx, dFor, dItL, dItT, dProp, dMeth, dMk, dMk0, dRaise, dPart, dNoPart, dSlL, dSlT, dRevL, dgName, dgTup, dgSets, dOwnIx, dOwnLen, dOwnTup, dApp, dSetI, dRel, relE, dItZip, dItTab, dItEnK, dItEn, dIsS, dJoinG, dSplit, dFmt, dJs, dIsT2, dIndex, dCallS, dYes, wipeE, dXf, dIsX, List.map_cons, List.map_nil, List.cons_append, List.nil_append, List.append_nil, List.length_cons, List.length_nil, List.replicate_succ, List.replicate_zero, Nat.reduceAdd, Nat.reduceSub, List.getElem?_cons_zero, List.getElem?_cons_succ, List.set_cons_zero, List.set_cons_succ, Nat.zero_add, Nat.add_zero, Nat.sub_self, x_add, x_sub, x_mulL, x_mulR, x_div, x_mod, x_lt, x_le, x_gt, x_ge, x_eq, x_ne, x_fro, x_step, x_first, x_last, x_on, x_l0, x_l1, x_l2, x_l3, x_l4, x_t0, x_t1, x_t2, x_t3, x_t4, x_intB, x_intI, x_max2, x_min2, x_lenL, x_lenT, x_sz, x_rs, x_rw, x_rf, x_ra, x_rl, x_slot, x_slotD, true_and, and_true, eq_self, decide_eq_true_eq, Bool.not_eq_true', decide_eq_false_iff_not, res_ok, res_er, x_rng1, x_rng1D, x_rng2, x_rng2E, x_rng2D, z_s, z_w, z_f, z_a, z_l, Bool.and_eq_true, if_true, if_false, Bool.false_eq_true, reduceCtorEq, decide_true, decide_false, Bool.not_true, Bool.not_false, Bool.true_eq_false, not_true_eq_false, not_false_eq_true, ha]
        exact q2 (by unfold twoB; simp [ha])
    · rw [twos hr]
      exact hN
  refine seqP (fun e => ∃ j : Nat, 2 * n + 4 ≤ j * m ∧ e = [.val (rl r), .val (.int m), .val (.int n), .val (il ((upto (main r n).toNat).map (thingL r))), .un, .val (il ((upto (many r n).toNat).map (thingR r))), .val (il (turnsL r m (j * m))), .un, .un]) (fun N hN => ?_) ?_
  · simp (maxSteps := 10000000) (disch := first | assumption | omega) only [dDef, dRet, dRetL, dSeq, dIfS, dTst, dNotB, dAndB, dOrB, dAndV, dOrV, dNotV, dNeg, dIf, dCB, dCBL, dCons, dNil, dStar, dVar, dC, dCall, dOp, dOpL, dTup, dLst, dL, dSet, dAsg, dPar, dOwn, dExpr, dNx, dFor, dItL, dItT, dProp, dMeth, dMk, dMk0, dRaise, dPart, dNoPart, dSlL, dSlT, dRevL, dgName, dgTup, dgSets, dOwnIx, dOwnLen, dOwnTup, dApp, dSetI, dRel, relE, dItZip, dItTab, dItEnK, dItEn, dIsS, dJoinG, dSplit, dFmt, dJs, dIsT2, dIndex, dCallS, dYes, wipeE, dXf, dIsX, List.map_cons, List.map_nil, List.cons_append, List.nil_append, List.append_nil, List.length_cons, List.length_nil, List.replicate_succ, List.replicate_zero, Nat.reduceAdd, Nat.reduceSub, List.getElem?_cons_zero, List.getElem?_cons_succ, List.set_cons_zero, List.set_cons_succ, Nat.zero_add, Nat.add_zero, Nat.sub_self, x_add, x_sub, x_mulL, x_mulR, x_div, x_mod, x_lt, x_le, x_gt, x_ge, x_eq, x_ne, x_fro, x_step, x_first, x_last, x_on, x_l0, x_l1, x_l2, x_l3, x_l4, x_t0, x_t1, x_t2, x_t3, x_t4, x_intB, x_intI, x_max2, x_min2, x_lenL, x_lenT, x_sz, x_rs, x_rw, x_rf, x_ra, x_rl, x_slot, x_slotD, true_and, and_true, eq_self, decide_eq_true_eq, Bool.not_eq_true', decide_eq_false_iff_not, res_ok, res_er, x_rng1, x_rng1D, x_rng2, x_rng2E, x_rng2D, z_s, z_w, z_f, z_a, z_l, Bool.and_eq_true, if_true, if_false, Bool.false_eq_true, reduceCtorEq, decide_true, decide_false, Bool.not_true, Bool.not_false, Bool.true_eq_false, not_true_eq_false, not_false_eq_true]
    rw [show (2 : Int) * (n : Int) + 4 = ((2 * n + 4 : Nat) : Int) by omega]
    exact y_turns hr hm (by omega) fun j hj1 hj2 => hN _ ⟨j, hj1, rfl⟩
  rintro e ⟨j, hj, rfl⟩
  have tn : ∀ {x : Int}, 0 ≤ x → x < j * m → (turnsL r m (j * m))[x.toNat]? = some (personAt r m x) := fun {x} h0 h1 => upto_map_get h0 (by rw [Int.natCast_mul]; exact h1)
  have l1 : ((upto (main r n).toNat).map fun k => D.int (thingL r k)) = ((upto (main r n).toNat).map (thingL r)).map D.int := by rw [List.map_map]; rfl
  have hjm : (2 * (n : Int) + 4) ≤ (j : Int) * (m : Int) := by rw [← Int.natCast_mul]; omega
  have dv : ∀ {x : Int}, 0 ≤ x → x / r.s ≤ x ∧ 0 ≤ x / r.s := fun {x} h => by rcases hr.s with e | e | e <;> rw [e] <;> omega
  refine seqE [.val (rl r), .val (.int m), .val (.int n), .val (il ((upto (main r n).toNat).map (thingL r))), .un, .val (il ((upto (many r n).toNat).map (thingR r))), .val (il (turnsL r m (j * m))), .val (.lst (((upto (main r n).toNat).map fun k => (thingL r k, personAt r m (k / r.s))).map prD)), .un] (fun N hN => ?_) ?_
  · unfold il at hN ⊢
    simp (maxSteps := 10000000) (disch := first | assumption | omega) only [dDef, dRet, dRetL, dSeq, dIfS, dTst, dNotB, dAndB, dOrB, dAndV, dOrV, dNotV, dNeg, dIf, dCB, dCBL, dCons, dNil, dStar, dVar, dC, dCall, dOp, dOpL, dTup, dLst, dL, dSet, dAsg, dPar, dOwn, dExpr, dNx, dFor, dItL, dItT, dProp, dMeth, dMk, dMk0, dRaise, dPart, dNoPart, dSlL, dSlT, dRevL, dgName, dgTup, dgSets, dOwnIx, dOwnLen, dOwnTup, dApp, dSetI, dRel, relE, dItZip, dItTab, dItEnK, dItEn, dIsS, dJoinG, dSplit, dFmt, dJs, dIsT2, dIndex, dCallS, dYes, wipeE, dXf, dIsX, List.map_cons, List.map_nil, List.cons_append, List.nil_append, List.append_nil, List.length_cons, List.length_nil, List.replicate_succ, List.replicate_zero, Nat.reduceAdd, Nat.reduceSub, List.getElem?_cons_zero, List.getElem?_cons_succ, List.set_cons_zero, List.set_cons_succ, Nat.zero_add, Nat.add_zero, Nat.sub_self, x_add, x_sub, x_mulL, x_mulR, x_div, x_mod, x_lt, x_le, x_gt, x_ge, x_eq, x_ne, x_fro, x_step, x_first, x_last, x_on, x_l0, x_l1, x_l2, x_l3, x_l4, x_t0, x_t1, x_t2, x_t3, x_t4, x_intB, x_intI, x_max2, x_min2, x_lenL, x_lenT, x_sz, x_rs, x_rw, x_rf, x_ra, x_rl, x_slot, x_slotD, true_and, and_true, eq_self, decide_eq_true_eq, Bool.not_eq_true', decide_eq_false_iff_not, res_ok, res_er, x_rng1, x_rng1D, x_rng2, x_rng2E, x_rng2D, z_s, z_w, z_f, z_a, z_l, Bool.and_eq_true, if_true, if_false, Bool.false_eq_true, reduceCtorEq, decide_true, decide_false, Bool.not_true, Bool.not_false, Bool.true_eq_false, not_true_eq_false, not_false_eq_true, dLc, List.length_map, upto_length]
    refine lc_map (xs := upto (main r n).toNat) D.int (fun k => prD (thingL r k, personAt r m (k / r.s))) (by congr 2) (Nat.le_trans (m := 10000) (by rw [upto_length]; omega) (by decide)) (fun x hx Q1 h => ?_) ?_
    · have hx2 := upto_mem.mp hx
      have d1 := dv hx2.1
      simp (maxSteps := 10000000) (disch := first | assumption | omega) only [dDef, dRet, dRetL, dSeq, dIfS, dTst, dNotB, dAndB, dOrB, dAndV, dOrV, dNotV, dNeg, dIf, dCB, dCBL, dCons, dNil, dStar, dVar, dC, dCall, dOp, dOpL, dTup, dLst, dL, dSet, dAsg, dPar, dOwn, dExpr, dNx, dFor, dItL, dItT, dProp, dMeth, dMk, dMk0, dRaise, dPart, dNoPart, dSlL, dSlT, dRevL, dgName, dgTup, dgSets, dOwnIx, dOwnLen, dOwnTup, dApp, dSetI, dRel, relE, dItZip, dItTab, dItEnK, dItEn, dIsS, dJoinG, dSplit, dFmt, dJs, dIsT2, dIndex, dCallS, dYes, wipeE, dXf, dIsX, List.map_cons, List.map_nil, List.cons_append, List.nil_append, List.append_nil, List.length_cons, List.length_nil, List.replicate_succ, List.replicate_zero, Nat.reduceAdd, Nat.reduceSub, List.getElem?_cons_zero, List.getElem?_cons_succ, List.set_cons_zero, List.set_cons_succ, Nat.zero_add, Nat.add_zero, Nat.sub_self, x_add, x_sub, x_mulL, x_mulR, x_div, x_mod, x_lt, x_le, x_gt, x_ge, x_eq, x_ne, x_fro, x_step, x_first, x_last, x_on, x_l0, x_l1, x_l2, x_l3, x_l4, x_t0, x_t1, x_t2, x_t3, x_t4, x_intB, x_intI, x_max2, x_min2, x_lenL, x_lenT, x_sz, x_rs, x_rw, x_rf, x_ra, x_rl, x_slot, x_slotD, true_and, and_true, eq_self, decide_eq_true_eq, Bool.not_eq_true', decide_eq_false_iff_not, res_ok, res_er, x_rng1, x_rng1D, x_rng2, x_rng2E, x_rng2D, z_s, z_w, z_f, z_a, z_l, Bool.and_eq_true, if_true, if_false, Bool.false_eq_true, reduceCtorEq, decide_true, decide_false, Bool.not_true, Bool.not_false, Bool.true_eq_false, not_true_eq_false, not_false_eq_true]
      rw [gIx_map hx2.1 (upto_map_get hx2.1 hx2.2)]
      rw [gIx_map d1.2 (tn d1.2 (by omega))]
      exact h
    · rw [show (((upto (main r n).toNat).map fun k => (thingL r k, personAt r m (k / r.s))).map prD) = (upto (main r n).toNat).map fun k => prD (thingL r k, personAt r m (k / r.s)) from List.map_map] at hN
      exact hN
  refine seqE [.val (rl r), .val (.int m), .val (.int n), .val (il ((upto (main r n).toNat).map (thingL r))), .un, .val (il ((upto (many r n).toNat).map (thingR r))), .val (il (turnsL r m (j * m))), .val (.lst (((upto (main r n).toNat).map fun k => (thingL r k, personAt r m (k / r.s))).map prD)), .val (.int (begin_ r n))] (fun N hN => ?_) ?_
  · generalize List.map prD _ = zs at hN ⊢
    unfold il at hN ⊢
    simp (maxSteps := 10000000) (disch := first | assumption | omega) only [dDef, dRet, dRetL, dSeq, dIfS, dTst, dNotB, dAndB, dOrB, dAndV, dOrV, dNotV, dNeg, dIf, dCB, dCBL, dCons, dNil, dStar, dVar, dC, dCall, dOp, dOpL, dTup, dLst, dL, dSet, dAsg, dPar, dOwn, dExpr, dNx, dFor, dItL, dItT, dProp, dMeth, dMk, dMk0, dRaise, dPart, dNoPart, dSlL, dSlT, dRevL, dgName, dgTup, dgSets, dOwnIx, dOwnLen, dOwnTup, dApp, dSetI, dRel, relE, dItZip, dItTab, dItEnK, dItEn, dIsS, dJoinG, dSplit, dFmt, dJs, dIsT2, dIndex, dCallS, dYes, wipeE, dXf, dIsX, List.map_cons, List.map_nil, List.cons_append, List.nil_append, List.append_nil, List.length_cons, List.length_nil, List.replicate_succ, List.replicate_zero, Nat.reduceAdd, Nat.reduceSub, List.getElem?_cons_zero, List.getElem?_cons_succ, List.set_cons_zero, List.set_cons_succ, Nat.zero_add, Nat.add_zero, Nat.sub_self, x_add, x_sub, x_mulL, x_mulR, x_div, x_mod, x_lt, x_le, x_gt, x_ge, x_eq, x_ne, x_fro, x_step, x_first, x_last, x_on, x_l0, x_l1, x_l2, x_l3, x_l4, x_t0, x_t1, x_t2, x_t3, x_t4, x_intB, x_intI, x_max2, x_min2, x_lenL, x_lenT, x_sz, x_rs, x_rw, x_rf, x_ra, x_rl, x_slot, x_slotD, true_and, and_true, eq_self, decide_eq_true_eq, Bool.not_eq_true', decide_eq_false_iff_not, res_ok, res_er, x_rng1, x_rng1D, x_rng2, x_rng2E, x_rng2D, z_s, z_w, z_f, z_a, z_l, Bool.and_eq_true, if_true, if_false, Bool.false_eq_true, reduceCtorEq, decide_true, decide_false, Bool.not_true, Bool.not_false, Bool.true_eq_false, not_true_eq_false, not_false_eq_true, List.length_map, upto_length]
    unfold begin_ at hN
    rw [show (((main r n).toNat : Nat) : Int) = main r n by omega, begin_law hr]
    cases hl : r.l with
    | true => rw [hl] at hN; exact hN
    | false => rw [hl] at hN; exact hN
  have bg : begin_ r n ≤ n ∧ 0 ≤ begin_ r n := by
    refine ⟨?_, begin_nonneg hr (by omega)⟩
    unfold begin_
    split
    · rcases hr.s with e | e | e <;> rw [e] <;> omega
    · omega
  rw [dealt_parts hr, List.map_append] at q
  have hz : (((upto (main r n).toNat).map fun k => (thingL r k, personAt r m (k / r.s))).map prD).length = (main r n).toNat := by rw [List.length_map, List.length_map, upto_length]
  generalize ((upto (main r n).toNat).map fun k => (thingL r k, personAt r m (k / r.s))).map prD = zs at hz q ⊢
  unfold il
  simp (maxSteps := 10000000) (disch := first | assumption | omega) only [dDef, dRet, dRetL, dSeq, dIfS, dTst, dNotB, dAndB, dOrB, dAndV, dOrV, dNotV, dNeg, dIf, dCB, dCBL, dCons, dNil, dStar, dVar, dC, dCall, dOp, dOpL, dTup, dLst, dL, dSet, dAsg, dPar, dOwn, dExpr, dNx, dFor, dItL, dItT, dProp, dMeth, dMk, dMk0, dRaise, dPart, dNoPart, dSlL, dSlT, dRevL, dgName, dgTup, dgSets, dOwnIx, dOwnLen, dOwnTup, dApp, dSetI, dRel, relE, dItZip, dItTab, dItEnK, dItEn, dIsS, dJoinG, dSplit, dFmt, dJs, dIsT2, dIndex, dCallS, dYes, wipeE, dXf, dIsX, List.map_cons, List.map_nil, List.cons_append, List.nil_append, List.append_nil, List.length_cons, List.length_nil, List.replicate_succ, List.replicate_zero, Nat.reduceAdd, Nat.reduceSub, List.getElem?_cons_zero, List.getElem?_cons_succ, List.set_cons_zero, List.set_cons_succ, Nat.zero_add, Nat.add_zero, Nat.sub_self, x_add, x_sub, x_mulL, x_mulR, x_div, x_mod, x_lt, x_le, x_gt, x_ge, x_eq, x_ne, x_fro, x_step, x_first, x_last, x_on, x_l0, x_l1, x_l2, x_l3, x_l4, x_t0, x_t1, x_t2, x_t3, x_t4, x_intB, x_intI, x_max2, x_min2, x_lenL, x_lenT, x_sz, x_rs, x_rw, x_rf, x_ra, x_rl, x_slot, x_slotD, true_and, and_true, eq_self, decide_eq_true_eq, Bool.not_eq_true', decide_eq_false_iff_not, res_ok, res_er, x_rng1, x_rng1D, x_rng2, x_rng2E, x_rng2D, z_s, z_w, z_f, z_a, z_l, Bool.and_eq_true, if_true, if_false, Bool.false_eq_true, reduceCtorEq, decide_true, decide_false, Bool.not_true, Bool.not_false, Bool.true_eq_false, not_true_eq_false, not_false_eq_true, dLc, List.length_map, upto_length]
  refine lc_map (xs := upto (many r n).toNat) D.int (fun k => prD (thingR r k, personAt r m (begin_ r n + k / r.s))) (by congr 2) (Nat.le_trans (m := 10000) (by rw [upto_length]; omega) (by decide)) (fun x hx Q1 h => ?_) ?_
  · have hx2 := upto_mem.mp hx
    have d1 := dv hx2.1
    simp (maxSteps := 10000000) (disch := first | assumption | omega) only [dDef, dRet, dRetL, dSeq, dIfS, dTst, dNotB, dAndB, dOrB, dAndV, dOrV, dNotV, dNeg, dIf, dCB, dCBL, dCons, dNil, dStar, dVar, dC, dCall, dOp, dOpL, dTup, dLst, dL, dSet, dAsg, dPar, dOwn, dExpr, dNx, dFor, dItL, dItT, dProp, dMeth, dMk, dMk0, dRaise, dPart, dNoPart, dSlL, dSlT, dRevL, dgName, dgTup, dgSets, dOwnIx, dOwnLen, dOwnTup, dApp, dSetI, dRel, relE, dItZip, dItTab, dItEnK, dItEn, dIsS, dJoinG, dSplit, dFmt, dJs, dIsT2, dIndex, dCallS, dYes, wipeE, dXf, dIsX, List.map_cons, List.map_nil, List.cons_append, List.nil_append, List.append_nil, List.length_cons, List.length_nil, List.replicate_succ, List.replicate_zero, Nat.reduceAdd, Nat.reduceSub, List.getElem?_cons_zero, List.getElem?_cons_succ, List.set_cons_zero, List.set_cons_succ, Nat.zero_add, Nat.add_zero, Nat.sub_self, x_add, x_sub, x_mulL, x_mulR, x_div, x_mod, x_lt, x_le, x_gt, x_ge, x_eq, x_ne, x_fro, x_step, x_first, x_last, x_on, x_l0, x_l1, x_l2, x_l3, x_l4, x_t0, x_t1, x_t2, x_t3, x_t4, x_intB, x_intI, x_max2, x_min2, x_lenL, x_lenT, x_sz, x_rs, x_rw, x_rf, x_ra, x_rl, x_slot, x_slotD, true_and, and_true, eq_self, decide_eq_true_eq, Bool.not_eq_true', decide_eq_false_iff_not, res_ok, res_er, x_rng1, x_rng1D, x_rng2, x_rng2E, x_rng2D, z_s, z_w, z_f, z_a, z_l, Bool.and_eq_true, if_true, if_false, Bool.false_eq_true, reduceCtorEq, decide_true, decide_false, Bool.not_true, Bool.not_false, Bool.true_eq_false, not_true_eq_false, not_false_eq_true]
    rw [gIx_map hx2.1 (upto_map_get hx2.1 hx2.2)]
    rw [gIx_map (by omega) (tn (by omega) (by omega))]
    exact h
  · rw [x_addL (Nat.le_trans (m := 20000) (by rw [hz, List.length_map, upto_length]; omega) (by decide))]
    rw [List.map_map] at q
    exact q
/-! ### the lots by an own dealing -/
theorem set_map {f : Int → Int} {n : Nat} {p : Int} (h0 : 0 ≤ p) (h1 : p < n) : ((upto n).map f).set p.toNat (f p + 1) = (upto n).map fun x => f x + if p = x then 1 else 0 := by
  refine list_ext (n := n) (by rw [List.length_set, List.length_map, upto_length]) (by rw [List.length_map, upto_length]) fun i hi => ?_
  rw [List.getElem?_map, upto_get hi]
  by_cases c : p.toNat = i
  · subst c
    rw [List.getElem?_set_self (by rw [List.length_map, upto_length]; exact hi)]
    show some (f p + 1) = some (f ((p.toNat : Nat) : Int) + if p = ((p.toNat : Nat) : Int) then 1 else 0)
    rw [show ((p.toNat : Nat) : Int) = p by omega, if_pos rfl]
  · rw [List.getElem?_set_ne c, List.getElem?_map, upto_get hi]
    show some (f (i : Int)) = some (f (i : Int) + if p = (i : Int) then 1 else 0)
    rw [if_neg (by omega), Int.add_zero]
theorem lotsL_cnt {r : Ru} {m n : Nat} (hr : r.Ok) (hm : Mo m) : lotsL r m n = (upto m).map fun p => cnt (fun k => personOf r m n k) p n := by
  unfold lotsL
  rw [show ((m : Nat) : Int).toNat = m by omega]
  refine List.map_congr_left fun p hp => ?_
  have := upto_mem.mp hp
  exact lot_cnt hr hm this.1 this.2
theorem law_l_lots (K : PySem.W.Frag) (ds : List D) (Q : D → Prop) (R : DX) (h : F_l_lots K ds Q R) : dDef 6 (g_l_lots K) ds Q R := by
  obtain ⟨r, m, n, rfl, hr, hm, hn, q⟩ := h
  have h1 := hm.lo; have h2 := hm.hi
  unfold dDef g_l_lots
  refine seqE [.val (rl r), .val (.int m), .val (.int n), .own (((upto m).map fun p => cnt (fun k => personOf r m n k) p 0).map .int), .un, .un] (fun N hN => ?_) ?_
  · show dOwn 3 _ _ _
    unfold dOwn
    simp (maxSteps := 10000000) (disch := first | assumption | omega) only [dDef, dRet, dRetL, dSeq, dIfS, dTst, dNotB, dAndB, dOrB, dAndV, dOrV, dNotV, dNeg, dIf, dCB, dCBL, dCons, dNil, dStar, dVar, dC, dCall, dOp, dOpL, dTup, dLst, dL, dSet, dAsg, dPar, dOwn, dExpr, dNx, dFor, dItL, dItT, dProp, dMeth, dMk, dMk0, dRaise, dPart, dNoPart, dSlL, dSlT, dRevL, dgName, dgTup, dgSets, dOwnIx, dOwnLen, dOwnTup, dApp, dSetI, dRel, relE, dItZip, dItTab, dItEnK, dItEn, dIsS, dJoinG, dSplit, dFmt, dJs, dIsT2, dIndex, dCallS, dYes, wipeE, dXf, dIsX, List.map_cons, List.map_nil, List.cons_append, List.nil_append, List.append_nil, List.length_cons, List.length_nil, List.replicate_succ, List.replicate_zero, Nat.reduceAdd, Nat.reduceSub, List.getElem?_cons_zero, List.getElem?_cons_succ, List.set_cons_zero, List.set_cons_succ, Nat.zero_add, Nat.add_zero, Nat.sub_self, x_add, x_sub, x_mulL, x_mulR, x_div, x_mod, x_lt, x_le, x_gt, x_ge, x_eq, x_ne, x_fro, x_step, x_first, x_last, x_on, x_l0, x_l1, x_l2, x_l3, x_l4, x_t0, x_t1, x_t2, x_t3, x_t4, x_intB, x_intI, x_max2, x_min2, x_lenL, x_lenT, x_sz, x_rs, x_rw, x_rf, x_ra, x_rl, x_slot, x_slotD, true_and, and_true, eq_self, decide_eq_true_eq, Bool.not_eq_true', decide_eq_false_iff_not, res_ok, res_er, x_rng1, x_rng1D, x_rng2, x_rng2E, x_rng2D, z_s, z_w, z_f, z_a, z_l, Bool.and_eq_true, if_true, if_false, Bool.false_eq_true, reduceCtorEq, decide_true, decide_false, Bool.not_true, Bool.not_false, Bool.true_eq_false, not_true_eq_false, not_false_eq_true]
    refine ⟨by omega, by omega, Nat.le_trans (m := 100) (by simp; omega) (by decide), ?_⟩
    have e : (List.replicate (m : Int).toNat [D.int 0]).flatten = ((upto m).map fun p => cnt (fun k => personOf r m n k) p 0).map .int := by
      rw [show ((m : Nat) : Int).toNat = m by omega, List.flatten_replicate_singleton, List.map_map]
      refine (List.eq_replicate_iff.mpr ⟨by rw [List.length_map, upto_length], fun b hb => ?_⟩).symm
      obtain ⟨x, _, rfl⟩ := List.mem_map.mp hb
      rfl
    rw [e]
    exact hN
  refine seqP (fun e => ∃ a b : Slot, (∀ es, a ≠ .own es) ∧ (∀ es, b ≠ .own es) ∧ e = [.val (rl r), .val (.int m), .val (.int n), .own (((upto m).map fun p => cnt (fun k => personOf r m n k) p n).map .int), a, b]) (fun N hN => ?_) ?_
  · simp (maxSteps := 10000000) (disch := first | assumption | omega) only [dDef, dRet, dRetL, dSeq, dIfS, dTst, dNotB, dAndB, dOrB, dAndV, dOrV, dNotV, dNeg, dIf, dCB, dCBL, dCons, dNil, dStar, dVar, dC, dCall, dOp, dOpL, dTup, dLst, dL, dSet, dAsg, dPar, dOwn, dExpr, dNx, dFor, dItL, dItT, dProp, dMeth, dMk, dMk0, dRaise, dPart, dNoPart, dSlL, dSlT, dRevL, dgName, dgTup, dgSets, dOwnIx, dOwnLen, dOwnTup, dApp, dSetI, dRel, relE, dItZip, dItTab, dItEnK, dItEn, dIsS, dJoinG, dSplit, dFmt, dJs, dIsT2, dIndex, dCallS, dYes, wipeE, dXf, dIsX, List.map_cons, List.map_nil, List.cons_append, List.nil_append, List.append_nil, List.length_cons, List.length_nil, List.replicate_succ, List.replicate_zero, Nat.reduceAdd, Nat.reduceSub, List.getElem?_cons_zero, List.getElem?_cons_succ, List.set_cons_zero, List.set_cons_succ, Nat.zero_add, Nat.add_zero, Nat.sub_self, x_add, x_sub, x_mulL, x_mulR, x_div, x_mod, x_lt, x_le, x_gt, x_ge, x_eq, x_ne, x_fro, x_step, x_first, x_last, x_on, x_l0, x_l1, x_l2, x_l3, x_l4, x_t0, x_t1, x_t2, x_t3, x_t4, x_intB, x_intI, x_max2, x_min2, x_lenL, x_lenT, x_sz, x_rs, x_rw, x_rf, x_ra, x_rl, x_slot, x_slotD, true_and, and_true, eq_self, decide_eq_true_eq, Bool.not_eq_true', decide_eq_false_iff_not, res_ok, res_er, x_rng1, x_rng1D, x_rng2, x_rng2E, x_rng2D, z_s, z_w, z_f, z_a, z_l, Bool.and_eq_true, if_true, if_false, Bool.false_eq_true, reduceCtorEq, decide_true, decide_false, Bool.not_true, Bool.not_false, Bool.true_eq_false, not_true_eq_false, not_false_eq_true, y_dealt]
    refine for_list prD (dealtL r m n) (fun pre e => ∃ a b : Slot, (∀ es, a ≠ .own es) ∧ (∀ es, b ≠ .own es) ∧ e = [.val (rl r), .val (.int m), .val (.int n), .own (((upto m).map fun p => cnt (fun k => personOf r m n k) p pre.length).map .int), a, b]) rfl ⟨.un, .un, fun _ z => (nomatch z), fun _ z => (nomatch z), rfl⟩ ?_ ?_
    · rintro pre x post hall e N ⟨a, b, ha, hb, rfl⟩ hN
      have hlen : (dealtL r m n).length = n := by unfold dealtL; rw [List.length_map, upto_length]
      have hx : x = (thingAt r n pre.length, personOf r m n pre.length) := by
        have h0 : (dealtL r m n)[pre.length]? = some x := by rw [hall]; simp
        have hl : pre.length < n := by rw [← hlen, hall]; simp
        unfold dealtL at h0
        rw [List.getElem?_map, upto_get hl] at h0
        exact (Option.some.inj h0).symm
      obtain ⟨p, hp⟩ : ∃ p, p = personOf r m n pre.length := ⟨_, rfl⟩
      have rg : 0 ≤ p ∧ p < m := by rw [hp]; exact personAt_range hm
      rw [hx, ← hp]
      unfold prD
      simp (maxSteps := 10000000) (disch := first | assumption | omega) only [dDef, dRet, dRetL, dSeq, dIfS, dTst, dNotB, dAndB, dOrB, dAndV, dOrV, dNotV, dNeg, dIf, dCB, dCBL, dCons, dNil, dStar, dVar, dC, dCall, dOp, dOpL, dTup, dLst, dL, dSet, dAsg, dPar, dOwn, dExpr, dNx, dFor, dItL, dItT, dProp, dMeth, dMk, dMk0, dRaise, dPart, dNoPart, dSlL, dSlT, dRevL, dgName, dgTup, dgSets, dOwnIx, dOwnLen, dOwnTup, dApp, dSetI, dRel, relE, dItZip, dItTab, dItEnK, dItEn, dIsS, dJoinG, dSplit, dFmt, dJs, dIsT2, dIndex, dCallS, dYes, wipeE, dXf, dIsX, List.map_cons, List.map_nil, List.cons_append, List.nil_append, List.append_nil, List.length_cons, List.length_nil, List.replicate_succ, List.replicate_zero, Nat.reduceAdd, Nat.reduceSub, List.getElem?_cons_zero, List.getElem?_cons_succ, List.set_cons_zero, List.set_cons_succ, Nat.zero_add, Nat.add_zero, Nat.sub_self, x_add, x_sub, x_mulL, x_mulR, x_div, x_mod, x_lt, x_le, x_gt, x_ge, x_eq, x_ne, x_fro, x_step, x_first, x_last, x_on, x_l0, x_l1, x_l2, x_l3, x_l4, x_t0, x_t1, x_t2, x_t3, x_t4, x_intB, x_intI, x_max2, x_min2, x_lenL, x_lenT, x_sz, x_rs, x_rw, x_rf, x_ra, x_rl, x_slot, x_slotD, true_and, and_true, eq_self, decide_eq_true_eq, Bool.not_eq_true', decide_eq_false_iff_not, res_ok, res_er, x_rng1, x_rng1D, x_rng2, x_rng2E, x_rng2D, z_s, z_w, z_f, z_a, z_l, Bool.and_eq_true, if_true, if_false, Bool.false_eq_true, reduceCtorEq, decide_true, decide_false, Bool.not_true, Bool.not_false, Bool.true_eq_false, not_true_eq_false, not_false_eq_true]
      refine ⟨p, D.int (cnt (fun k => personOf r m n k) p pre.length), rfl, ?_, ?_⟩
      · have e0 := upto_map_get (f := fun p => cnt (fun k => personOf r m n k) p pre.length) rg.1 rg.2
        generalize (upto m).map (fun p => cnt (fun k => personOf r m n k) p pre.length) = L at e0 ⊢
        generalize cnt (fun k => personOf r m n k) p pre.length = cc at e0 ⊢
        rw [show p = ((p.toNat : Nat) : Int) by omega]
        refine atI_pos ?_
        rw [List.getElem?_map, e0]
        rfl
      · simp (maxSteps := 10000000) (disch := first | assumption | omega) only [dDef, dRet, dRetL, dSeq, dIfS, dTst, dNotB, dAndB, dOrB, dAndV, dOrV, dNotV, dNeg, dIf, dCB, dCBL, dCons, dNil, dStar, dVar, dC, dCall, dOp, dOpL, dTup, dLst, dL, dSet, dAsg, dPar, dOwn, dExpr, dNx, dFor, dItL, dItT, dProp, dMeth, dMk, dMk0, dRaise, dPart, dNoPart, dSlL, dSlT, dRevL, dgName, dgTup, dgSets, dOwnIx, dOwnLen, dOwnTup, dApp, dSetI, dRel, relE, dItZip, dItTab, dItEnK, dItEn, dIsS, dJoinG, dSplit, dFmt, dJs, dIsT2, dIndex, dCallS, dYes, wipeE, dXf, dIsX, List.map_cons, List.map_nil, List.cons_append, List.nil_append, List.append_nil, List.length_cons, List.length_nil, List.replicate_succ, List.replicate_zero, Nat.reduceAdd, Nat.reduceSub, List.getElem?_cons_zero, List.getElem?_cons_succ, List.set_cons_zero, List.set_cons_succ, Nat.zero_add, Nat.add_zero, Nat.sub_self, x_add, x_sub, x_mulL, x_mulR, x_div, x_mod, x_lt, x_le, x_gt, x_ge, x_eq, x_ne, x_fro, x_step, x_first, x_last, x_on, x_l0, x_l1, x_l2, x_l3, x_l4, x_t0, x_t1, x_t2, x_t3, x_t4, x_intB, x_intI, x_max2, x_min2, x_lenL, x_lenT, x_sz, x_rs, x_rw, x_rf, x_ra, x_rl, x_slot, x_slotD, true_and, and_true, eq_self, decide_eq_true_eq, Bool.not_eq_true', decide_eq_false_iff_not, res_ok, res_er, x_rng1, x_rng1D, x_rng2, x_rng2E, x_rng2D, z_s, z_w, z_f, z_a, z_l, Bool.and_eq_true, if_true, if_false, Bool.false_eq_true, reduceCtorEq, decide_true, decide_false, Bool.not_true, Bool.not_false, Bool.true_eq_false, not_true_eq_false, not_false_eq_true]
        refine ⟨p, p.toNat, rfl, ?_, ?_⟩
        · unfold ixN
          rw [if_pos rg.1, if_pos (by rw [List.length_map, List.length_map, upto_length]; omega)]
        · refine hN _ ⟨.val (.int (thingAt r n pre.length)), .val (.int p), fun _ z => (nomatch z), fun _ z => (nomatch z), ?_⟩
          have e1 := set_map (f := fun p => cnt (fun k => personOf r m n k) p pre.length) rg.1 rg.2
          rw [← List.map_set, e1]
          simp only [List.length_append, List.length_cons, List.length_nil]
          congr 5
          refine congrArg (List.map D.int) (List.map_congr_left fun x hx => ?_)
          rw [hp]
          rfl
    · rintro e ⟨a, b, ha, hb, rfl⟩
      have hlen : (dealtL r m n).length = n := by unfold dealtL; rw [List.length_map, upto_length]
      rw [hlen]
      exact hN _ ⟨a, b, ha, hb, rfl⟩
  rintro e ⟨a, b, ha, hb, rfl⟩
  rw [lotsL_cnt hr hm] at q
  simp (maxSteps := 10000000) (disch := first | assumption | omega) only [dDef, dRet, dRetL, dSeq, dIfS, dTst, dNotB, dAndB, dOrB, dAndV, dOrV, dNotV, dNeg, dIf, dCB, dCBL, dCons, dNil, dStar, dVar, dC, dCall, dOp, dOpL, dTup, dLst, dL, dSet, dAsg, dPar, dOwn, dExpr, dNx, dFor, dItL, dItT, dProp, dMeth, dMk, dMk0, dRaise, dPart, dNoPart, dSlL, dSlT, dRevL, dgName, dgTup, dgSets, dOwnIx, dOwnLen, dOwnTup, dApp, dSetI, dRel, relE, dItZip, dItTab, dItEnK, dItEn, dIsS, dJoinG, dSplit, dFmt, dJs, dIsT2, dIndex, dCallS, dYes, wipeE, dXf, dIsX, List.map_cons, List.map_nil, List.cons_append, List.nil_append, List.append_nil, List.length_cons, List.length_nil, List.replicate_succ, List.replicate_zero, Nat.reduceAdd, Nat.reduceSub, List.getElem?_cons_zero, List.getElem?_cons_succ, List.set_cons_zero, List.set_cons_succ, Nat.zero_add, Nat.add_zero, Nat.sub_self, x_add, x_sub, x_mulL, x_mulR, x_div, x_mod, x_lt, x_le, x_gt, x_ge, x_eq, x_ne, x_fro, x_step, x_first, x_last, x_on, x_l0, x_l1, x_l2, x_l3, x_l4, x_t0, x_t1, x_t2, x_t3, x_t4, x_intB, x_intI, x_max2, x_min2, x_lenL, x_lenT, x_sz, x_rs, x_rw, x_rf, x_ra, x_rl, x_slot, x_slotD, true_and, and_true, eq_self, decide_eq_true_eq, Bool.not_eq_true', decide_eq_false_iff_not, res_ok, res_er, x_rng1, x_rng1D, x_rng2, x_rng2E, x_rng2D, z_s, z_w, z_f, z_a, z_l, Bool.and_eq_true, if_true, if_false, Bool.false_eq_true, reduceCtorEq, decide_true, decide_false, Bool.not_true, Bool.not_false, Bool.true_eq_false, not_true_eq_false, not_false_eq_true]
  refine ⟨?_, q⟩
  have ea : ∀ (s : Slot) (i j : Nat) (t : Env'), (∀ es, s ≠ .own es) → noOwnB i j (s :: t) = noOwnB i (j + 1) t := fun s i j t hs => by
    cases s with
    | own es => exact (hs es rfl).elim
    | _ => rfl
  show noOwnB 3 4 [a, b] = true
  rw [ea a _ _ _ ha, ea b _ _ _ hb]
  rfl
end Pr

set_option maxHeartbeats 4000000
/-! What the laws' own texts lean on: drawn rules, equal things, lists. -/
namespace Pr
open PySem PySem.Spec PyProof.Rows L2 Dl Dv Dk Gx Ma
mutual
theorem deq_same : ∀ {n : Nat} {d : D}, dat n d = true → PyData.eqv (py d) (py d) = true
  | _, .non, _ => by simp [py, PyData.eqv]
  | _, .bl b, _ => by simp [py, PyData.eqv]
  | _, .int b, _ => by simp [py, PyData.eqv]
  | _, .str b, _ => by simp [py, PyData.eqv]
  | 0, .tup ds, h => by simp [dat] at h
  | n + 1, .tup ds, h => by
    simp only [py, PyData.eqv]
    exact deqs_same (n := n) (by simpa [dat] using h)
  | 0, .lst ds, h => by simp [dat] at h
  | n + 1, .lst ds, h => by
    simp only [py, PyData.eqv]
    exact deqs_same (n := n) (by simpa [dat] using h)
  | _, .obj _ _, h => by simp [dat] at h
  | _, .raw _, h => by simp [dat] at h
  | _, .vol, h => by simp [dat] at h
theorem deqs_same : ∀ {n : Nat} {ds : List D}, dats n ds = true → PyData.eqvAll (pys ds) (pys ds) = true
  | _, [], _ => by simp [pys, PyData.eqvAll]
  | n, d :: ds, h => by
    simp only [dats, Bool.and_eq_true] at h
    simp only [pys, PyData.eqvAll, Bool.and_eq_true]
    exact ⟨deq_same (n := n) h.1, deqs_same (n := n) h.2⟩
end
theorem x_neS {x : D} {Q : D → Prop} (h : dat 9 x = true) : gNe x x Q = Q (.bl false) := propext ⟨fun z => by have := z.2.2; unfold deq at this; rwa [deq_same h] at this, fun q => ⟨h, h, by unfold deq; rw [deq_same h]; exact q⟩⟩
theorem x_eqS {x : D} {Q : D → Prop} (h : dat 9 x = true) : gEq x x Q = Q (.bl true) := propext ⟨fun z => by have := z.2.2; unfold deq at this; rwa [deq_same h] at this, fun q => ⟨h, h, by unfold deq; rw [deq_same h]; exact q⟩⟩
theorem dats_all : ∀ {n : Nat} {ds : List D}, dats n ds = true ↔ ∀ d ∈ ds, dat n d = true
  | n, [] => by simp [dats]
  | n, d :: ds => by simp [dats, dats_all (ds := ds)]
theorem dat_lst {n : Nat} {ds : List D} (h : ∀ d ∈ ds, dat n d = true) : dat (n + 1) (.lst ds) = true := by
  unfold dat
  exact dats_all.mpr h
theorem dat_tup {n : Nat} {ds : List D} (h : ∀ d ∈ ds, dat n d = true) : dat (n + 1) (.tup ds) = true := by
  unfold dat
  exact dats_all.mpr h
theorem dat_int {n : Nat} {i : Int} : dat n (.int i) = true := by cases n <;> rfl
theorem dat_bl {n : Nat} {i : Bool} : dat n (.bl i) = true := by cases n <;> rfl
theorem dat_non {n : Nat} : dat n .non = true := by cases n <;> rfl
theorem dat_il {ns : List Int} : dat 9 (il ns) = true := dat_lst fun d hd => by
  obtain ⟨x, _, rfl⟩ := List.mem_map.mp hd
  exact dat_int
theorem dat_str {n : Nat} {x : Str} (h : PyData.strOk x = true) : dat n (.str x) = true := by cases n <;> exact h
theorem dat_wS {n : Nat} {w : Way} : dat n (.str (wS w)) = true := dat_str (by cases w <;> decide +kernel)
theorem dat_fS {n : Nat} {w : Bool} : dat n (.str (fS w)) = true := dat_str (by cases w <;> decide +kernel)
theorem dat_lS {n : Nat} {w : Bool} : dat n (.str (lS w)) = true := dat_str (by cases w <;> decide +kernel)
theorem dats_row {n : Nat} {r : Ru} : dats n (row r) = true := by
  unfold row
  simp only [dats, dat_int, dat_wS, dat_fS, dat_lS, Bool.and_true]
theorem row_drawn {r : Ru} (h : r.Ok) : row r ∈ drawn := by
  refine drawn_mem ?_ ?_ ?_ ?_ ?_
  · rcases h.s with e | e | e <;> rw [e] <;> simp
  · cases r.w <;> simp [wS]
  · cases r.f <;> simp [fS]
  · rcases h.a with e | e | e | e <;> rw [e] <;> simp
  · cases r.l <;> simp [lS]
section
variable {K : PySem.W.Frag} {r : Ru} {Q : D → Prop} {R : DX}
theorem y_rule {Q : List D → Prop} (h : ∀ r : Ru, r.Ok → Q (row r)) : F_l_rule [.vol] Q R := ⟨rfl, fun t ht => by
  obtain ⟨r, hr, rfl⟩ := drawn_ru ht
  exact h r hr⟩
theorem y_Rule (hr : r.Ok) : F_Rule K (row r) Q R = Q (rd K r) := propext ⟨fun ⟨h1, h2⟩ => by rw [(drawn_rows _ (row_drawn hr)).2] at h2; exact h2, fun q => F_Rule_ok (row_drawn hr) q⟩
theorem y_built (hr : r.Ok) : F_l_built K [rl r] Q R = Q (rd K r) := propext ⟨fun ⟨t, e, h⟩ => by
    have e2 := D.lst.inj (List.cons.inj e).1
    subst e2
    rwa [y_Rule hr] at h, fun q => ⟨row r, rfl, by rw [y_Rule hr]; exact q⟩⟩
theorem gIx_last {xs : List D} {z : D} (h : xs[xs.length - 1]? = some z) : gIx (.lst xs) (.int (-1)) Q = Q z := by
  refine gIx_l ?_
  have hl : 0 < xs.length := by
    cases xs with
    | nil => simp at h
    | cons => simp
  unfold atI ixN
  rw [if_neg (by omega), if_pos (by omega)]
  show xs[((xs.length : Int) + -1).toNat]? = _
  rw [show ((xs.length : Int) + -1).toNat = xs.length - 1 by omega]
  exact h
theorem x_all {bs : List Bool} : gAll [.lst (bs.map .bl)] Q = Q (.bl (bs.all id)) := propext ⟨fun ⟨cs, e, q⟩ => by
    have e2 : ∀ {as bs : List Bool}, as.map D.bl = bs.map D.bl → as = bs := by
      intro as
      induction as with
      | nil => intro bs h; cases bs <;> simp at h ⊢
      | cons a as ih =>
        intro bs h
        cases bs with
        | nil => simp at h
        | cons b bs =>
          simp only [List.map_cons, List.cons.injEq, D.bl.injEq] at h
          rw [h.1, ih h.2]
    have := e2 (D.lst.inj (List.cons.inj e).1)
    subst this
    exact q, fun q => ⟨bs, rfl, q⟩⟩
/-- one of a written list, drawn -/
theorem y_pick {xs : List D} {b : Int} (hb : 0 < b) (hl : b ≤ xs.length) (h2 : b < 1000) (h : ∀ d ∈ xs, Q d) : Fnext [.vol, .int b] (fun y => gIx (.lst xs) y Q) R :=
  next_ok hb (by omega) fun i h0 h1 => ix_draw h0 (by omega) h
end
end Pr

set_option maxHeartbeats 4000000
/-! lots.py asked rightly, as equations. -/
namespace Pr
open PySem PySem.Spec PyProof.Rows L2 Dl Dv Dk Gx Ma
structure Nu (n : Int) : Prop where
  lo : 0 ≤ n
  hi : n ≤ 10 ^ 30
theorem look_ok {K : PySem.W.Frag} {m n : Int} (hm : Mo m) (hn : Nu n) : lookAt K (.int m) (.int n) (10 ^ 30) = .ok .non := by
  have h1 := hm.lo; have h2 := hm.hi; have h3 := hn.lo; have h4 := hn.hi
  unfold lookAt isIn
  simp [h1, h2, h3]
  omega
section
variable {K : PySem.W.Frag} {r : Ru} {Q : D → Prop} {R : DX} {m n p : Int}
theorem v_lots (hr : r.Ok) (hm : Mo m) (hn : Nu n) : F_lots K [rd K r, .int m, .int n] Q R = Q (il (lotsL r m n)) := propext
  ⟨fun ⟨r', m', n', e, _, _, _, q⟩ => by
    simp only [List.cons.injEq, and_true] at e
    obtain ⟨e1, rfl, rfl⟩ := e
    obtain rfl := rd_inj e1
    rw [look_ok hm hn] at q
    exact q _ _ rfl rfl, fun q => ⟨r, _, _, rfl, hr, rfl, rfl, by rw [look_ok hm hn]; intro i j ei ej; cases ei; cases ej; exact q⟩⟩
theorem v_spread (hr : r.Ok) (hm : Mo m) (hn : Nu n) : F_spread K [rd K r, .int m, .int n] Q R = Q (.int (spreadOf r m n)) := propext
  ⟨fun ⟨r', m', n', e, _, _, _, q⟩ => by
    simp only [List.cons.injEq, and_true] at e
    obtain ⟨e1, rfl, rfl⟩ := e
    obtain rfl := rd_inj e1
    rw [look_ok hm hn] at q
    exact q _ _ rfl rfl, fun q => ⟨r, _, _, rfl, hr, rfl, rfl, by rw [look_ok hm hn]; intro i j ei ej; cases ei; cases ej; exact q⟩⟩
theorem v_final (hr : r.Ok) (hm : Mo m) (hn : Nu n) : F_final K [rd K r, .int m, .int n] Q R = Q (if 0 < n then .int (personOf r m n (n - 1)) else .non) := propext
  ⟨fun ⟨r', m', n', e, _, _, _, q⟩ => by
    simp only [List.cons.injEq, and_true] at e
    obtain ⟨e1, rfl, rfl⟩ := e
    obtain rfl := rd_inj e1
    rw [look_ok hm hn] at q
    exact q _ _ rfl rfl, fun q => ⟨r, _, _, rfl, hr, rfl, rfl, by rw [look_ok hm hn]; intro i j ei ej; cases ei; cases ej; exact q⟩⟩
theorem v_lot (hr : r.Ok) (hm : Mo m) (hn : Nu n) (p0 : 0 ≤ p) (p1 : p < m) : F_lot K [rd K r, .int m, .int n, .int p] Q R = Q (.int (ownLot r m n p)) := by
  have hp : isIn (.int p) 0 (m - 1) = true := by unfold isIn; simp [p0]; omega
  refine propext ⟨fun ⟨r', m', n', p', e, _, _, _, _, q⟩ => by
    simp only [List.cons.injEq, and_true] at e
    obtain ⟨e1, rfl, rfl, rfl⟩ := e
    obtain rfl := rd_inj e1
    rw [look_ok hm hn] at q
    have q2 := q _ _ rfl rfl
    rw [if_pos hp] at q2
    exact q2, fun q => ⟨r, _, _, _, rfl, hr, rfl, rfl, rfl, by rw [look_ok hm hn]; intro i j ei ej; cases ei; cases ej; rw [if_pos hp]; exact q⟩⟩
theorem v_whose (hr : r.Ok) (hm : Mo m) (hn : Nu n) (p0 : 0 ≤ p) (p1 : p < n) : F_whose K [rd K r, .int m, .int n, .int p] Q R = Q (.int (personOf r m n (spotOf r n p))) := by
  have hp : isIn (.int p) 0 (n - 1) = true := by unfold isIn; simp [p0]; omega
  refine propext ⟨fun ⟨r', m', n', p', e, _, _, _, _, q⟩ => by
    simp only [List.cons.injEq, and_true] at e
    obtain ⟨e1, rfl, rfl, rfl⟩ := e
    obtain rfl := rd_inj e1
    rw [look_ok hm hn] at q
    have q2 := q _ _ rfl rfl
    rw [if_pos hp] at q2
    exact q2, fun q => ⟨r, _, _, _, rfl, hr, rfl, rfl, rfl, by rw [look_ok hm hn]; intro i j ei ej; cases ei; cases ej; rw [if_pos hp]; exact q⟩⟩
end
theorem Nu.small {n : Int} (h0 : 0 ≤ n) (h1 : n ≤ 1000000) : Nu n := ⟨h0, Int.le_trans h1 (by decide)⟩
theorem seq' {g1 g2 : DG} {env : Env'} {k : Kn} (h : g1 env { k with nx := fun e => g2 e k }) : dSeq g1 g2 env k := h
end Pr

set_option maxHeartbeats 4000000
/-! Whole rounds more: the same number more for everybody. -/
namespace Ma
def rnd (r : Ru) (m : Int) : Int := match r.w with
  | .round => 1
  | .fro => 2
  | .step => m
def mx (r : Ru) : Int := if 1 < r.a then r.a else 1
def whole (r : Ru) (m : Int) : Int := m * rnd r m * r.s * mx r
theorem rnd_pos {r : Ru} {m : Int} (hm : Mo m) : 1 ≤ rnd r m ∧ rnd r m ≤ 12 := by
  have := hm.lo; have := hm.hi
  unfold rnd
  split <;> omega
theorem mx_range {r : Ru} (hr : r.Ok) : 1 ≤ mx r ∧ mx r ≤ 4 := by
  unfold mx
  rcases hr.a with e | e | e | e <;> rw [e] <;> simp
theorem placeIn_more {r : Ru} {m t p j : Int} (hm : Mo m) : placeIn r m (t + rnd r m * j) p = placeIn r m t p := by
  have := hm.lo
  unfold placeIn rnd
  cases r.w with
  | fro =>
    dsimp only
    have e : (t + 2 * j) % 2 = t % 2 := by omega
    rw [e]
  | step =>
    dsimp only
    rw [show mir r m p - (t + m * j) = (mir r m p - t) + m * (-j) by rw [Int.mul_neg]; omega, Int.add_mul_emod_self_left]
  | round => rfl
theorem placeAt_more {r : Ru} {m t p j : Int} (hm : Mo m) : placeAt r m (t + rnd r m * j) p = placeAt r m t p := by
  have := hm.lo
  unfold placeAt rnd
  cases r.w with
  | fro =>
    dsimp only
    have e : (t + 2 * j) % 2 = t % 2 := by omega
    rw [e]
  | step =>
    dsimp only
    rw [← Int.add_assoc, Int.add_mul_emod_self_left]
  | round => rfl
theorem div_more {m x y : Int} (hm : 0 < m) : (x + m * y) / m = x / m + y ∧ (x + m * y) % m = x % m := ⟨by rw [Int.add_mul_ediv_left _ _ (by omega)], by rw [Int.add_mul_emod_self_left]⟩
theorem turns_more {r : Ru} {m p x j : Int} (hm : Mo m) : turnsOf r m p (x + m * (rnd r m * j)) = turnsOf r m p x + rnd r m * j := by
  have h0 : 0 < m := by have := hm.lo; omega
  obtain ⟨e1, e2⟩ := div_more (x := x) (y := rnd r m * j) h0
  unfold turnsOf
  rw [e1, e2, placeIn_more hm]
  omega
theorem person_more {r : Ru} {m x j : Int} (hm : Mo m) : personAt r m (x + m * (rnd r m * j)) = personAt r m x := by
  have h0 : 0 < m := by have := hm.lo; omega
  obtain ⟨e1, e2⟩ := div_more (x := x) (y := rnd r m * j) h0
  unfold personAt
  rw [e1, e2, placeAt_more hm]
theorem share_more {r : Ru} {m p b c j : Int} (hr : r.Ok) (hm : Mo m) : share r m p b (c + r.s * (m * (rnd r m * j))) = share r m p b c + r.s * (rnd r m * j) := by
  obtain ⟨e1, e2⟩ := div_more (x := c) (y := m * (rnd r m * j)) hr.pos
  unfold share
  rw [e1, e2, ← Int.add_assoc, turns_more hm, person_more hm, show turnsOf r m p (b + c / r.s) + rnd r m * j - turnsOf r m p b = (turnsOf r m p (b + c / r.s) - turnsOf r m p b) + rnd r m * j by omega, Int.mul_add]
  omega
theorem share_from {r : Ru} {m p b c j : Int} (hm : Mo m) : share r m p (b + m * (rnd r m * j)) c = share r m p b c := by
  unfold share
  rw [show b + m * (rnd r m * j) + c / r.s = (b + c / r.s) + m * (rnd r m * j) by omega, turns_more hm, turns_more hm, person_more hm]
  rw [show turnsOf r m p (b + c / r.s) + rnd r m * j - (turnsOf r m p b + rnd r m * j) = turnsOf r m p (b + c / r.s) - turnsOf r m p b by omega]
theorem share_none {r : Ru} {m p b : Int} : share r m p b 0 = 0 := by
  unfold share
  rw [Int.zero_ediv, Int.zero_emod, Int.add_zero, Int.sub_self, Int.mul_zero, ite_self]
  rfl
theorem whole_pos {r : Ru} {m : Int} (hr : r.Ok) (hm : Mo m) : 0 < whole r m := by
  have := hm.lo; have h2 := rnd_pos (r := r) hm; have h3 := hr.pos; have h4 := mx_range hr
  unfold whole
  exact Int.mul_pos (Int.mul_pos (Int.mul_pos (by omega) (by omega)) h3) (by omega)
/-- with whole rounds more -/
theorem lot_more {r : Ru} {m p n t : Int} (hr : r.Ok) (hm : Mo m) : ownLot r m (t * whole r m + n) p = ownLot r m n p + rnd r m * r.s * mx r * t := by
  obtain ⟨P, hP⟩ : ∃ P, P = m * (rnd r m * t) := ⟨_, rfl⟩
  have e0 : t * whole r m = mx r * (r.s * P) := by
    unfold whole; rw [hP]
    simp only [Int.mul_comm, Int.mul_left_comm, Int.mul_assoc]
  have e1 : rnd r m * r.s * mx r * t = mx r * (r.s * (rnd r m * t)) := by
    simp only [Int.mul_comm, Int.mul_left_comm, Int.mul_assoc]
  rw [e0, e1]
  by_cases ha : 0 < r.a
  · have hx : mx r = r.a := by unfold mx; rcases hr.a with e | e | e | e <;> rw [e] <;> rw [e] at ha <;> first | omega | rfl
    rw [hx]
    have k1 : many r (r.a * (r.s * P) + n) = many r n + r.s * P := by
      unfold many
      rw [if_pos ha, if_pos ha, Int.add_comm, Int.add_mul_ediv_left _ _ (by omega)]
    have k2 : main r (r.a * (r.s * P) + n) = main r n + r.s * (m * (rnd r m * (t * (r.a - 1)))) := by
      unfold main
      rw [k1]
      have : r.s * (m * (rnd r m * (t * (r.a - 1)))) = r.a * (r.s * P) - r.s * P := by
        rw [hP]
        have : r.s * (m * (rnd r m * (t * (r.a - 1)))) = (r.a - 1) * (r.s * (m * (rnd r m * t))) := by
          simp only [Int.mul_comm, Int.mul_left_comm, Int.mul_assoc]
        rw [this, Int.sub_mul, Int.one_mul]
      rw [this]
      omega
    have k3 : begin_ r (r.a * (r.s * P) + n) = begin_ r n + (if r.l = true then m * (rnd r m * (t * (r.a - 1))) else 0) := by
      unfold begin_
      rw [k2]
      split
      · rw [show -(main r n + r.s * (m * (rnd r m * (t * (r.a - 1))))) = -(main r n) + r.s * (-(m * (rnd r m * (t * (r.a - 1))))) by rw [Int.mul_neg]; omega, Int.add_mul_ediv_left _ _ (by have := hr.pos; omega)]
        omega
      · omega
    unfold ownLot
    rw [k1, k2, share_more hr hm, k3, hP, share_more hr hm]
    have k4 : share r m p (begin_ r n + (if r.l = true then m * (rnd r m * (t * (r.a - 1))) else 0)) (many r n) = share r m p (begin_ r n) (many r n) := by
      split
      · exact share_from hm
      · rw [Int.add_zero]
    rw [k4]
    have k5 : r.s * (rnd r m * (t * (r.a - 1))) = r.a * (r.s * (rnd r m * t)) - r.s * (rnd r m * t) := by
      have : r.s * (rnd r m * (t * (r.a - 1))) = (r.a - 1) * (r.s * (rnd r m * t)) := by simp only [Int.mul_comm, Int.mul_left_comm, Int.mul_assoc]
      rw [this, Int.sub_mul, Int.one_mul]
    rw [k5]
    omega
  · have ha0 : r.a = 0 := by rcases hr.a with e | e | e | e <;> omega
    have hx : mx r = 1 := by unfold mx; rw [if_neg (by omega)]
    rw [hx, Int.one_mul, Int.one_mul]
    have k1 : ∀ x, many r x = 0 := fun x => by unfold many; rw [if_neg ha]
    unfold ownLot main
    rw [k1, k1, share_none, share_none, Int.sub_zero, Int.sub_zero, show r.s * P + n = n + r.s * P by omega, hP, share_more hr hm]
    omega
theorem whole_div {r : Ru} {m t : Int} (hm : Mo m) : t * whole r m / m = rnd r m * r.s * mx r * t := by
  have : t * whole r m = m * (rnd r m * r.s * mx r * t) := by
    unfold whole; simp only [Int.mul_comm, Int.mul_left_comm, Int.mul_assoc]
  rw [this, Int.mul_ediv_cancel_left _ (by have := hm.lo; omega)]
/-! ### all lots together -/
theorem sum_map {g : Int → Int} : ∀ m : Nat, ((upto m).map g).sum = sumTo (fun p => g p) m
  | 0 => rfl
  | m + 1 => by
    rw [upto_succ, List.map_append, List.sum_append, sum_map m]
    show sumTo (fun p => g p) m + (g (m : Int) + 0) = sumTo (fun p => g p) m + g (m : Int)
    omega
theorem lots_sum {r : Ru} {m n : Nat} (hr : r.Ok) (hm : Mo m) : ((upto m).map (ownLot r m n)).sum = n := by
  rw [sum_map]
  have e : sumTo (fun p => ownLot r m n (p : Int)) m = sumTo (fun p => cnt (fun k => personOf r m n k) p n) m := sumTo_congr fun i hi => lot_cnt hr hm (by omega) (by omega)
  rw [e]
  exact sum_cnt (g := fun k => personOf r m n k) fun i hi => personAt_range hm
/-! ### one thing more, with nothing laid aside -/
theorem lot_last {r : Ru} {m p : Int} {n : Nat} (hr : r.Ok) (hm : Mo m) (ha : r.a = 0) (p0 : 0 ≤ p) (p1 : p < m) (hn : 0 < n) : ownLot r m n p - ownLot r m ((n : Int) - 1) p = if p = personOf r m n ((n : Int) - 1) then 1 else 0 := by
  have km : ∀ x : Int, many r x = 0 := fun x => by unfold many; rw [if_neg (by omega)]
  have e1 : (n : Int) - 1 = ((n - 1 : Nat) : Int) := by omega
  rw [e1, lot_cnt hr hm p0 p1, lot_cnt hr hm p0 p1]
  obtain ⟨k, rfl⟩ : ∃ k, n = k + 1 := ⟨n - 1, by omega⟩
  have e2 : cnt (fun i => personOf r m ((k + 1 : Nat) : Int) i) p k = cnt (fun i => personOf r m ((k : Nat) : Int) i) p k := cnt_congr fun i hi => by
    show personAt r m (turnOf r ((k + 1 : Nat) : Int) i) = personAt r m (turnOf r ((k : Nat) : Int) i)
    unfold turnOf main
    rw [km, km, if_pos (by omega), if_pos (by omega)]
  show (cnt (fun i => personOf r m ((k + 1 : Nat) : Int) i) p k + (if personOf r m ((k + 1 : Nat) : Int) (k : Int) = p then 1 else 0)) - cnt (fun i => personOf r m ((k : Nat) : Int) i) p k = if p = personOf r m ((k + 1 : Nat) : Int) (k : Int) then 1 else 0
  rw [e2]
  by_cases h : personOf r m ((k + 1 : Nat) : Int) (k : Int) = p
  · rw [if_pos h, if_pos h.symm]; omega
  · rw [if_neg h, if_neg (fun z => h z.symm)]; omega
end Ma

set_option maxHeartbeats 4000000
/-! {"a": i, "b": j, "c": k}[z]; powers; sums. -/
namespace Gx
open PySem PySem.Spec PyProof.Rows L2 Dl Dv Dk
theorem step_fix {Z : Zn} {H H3 : Hp} {p : Addr} {o : HO} (g : Good Z H) (s : Step Z H H3) (hp : H p = none) : Step Z H (upd H3 p o) := by
  have hm := g.fresh hp
  refine ⟨fun a u e => ?_, ⟨fun a vs q => ?_, fun h c q => ?_, g.nd⟩⟩
  · have h1 := s.le a u e
    have ha : a ∉ Z.msk := fun z => by rw [mask_in z] at e; cases e
    have h0 := mask_le _ _ _ _ e
    rw [mask_of ha, upd_ne (ne_of_none h0 hp)]
    exact mask_le _ _ _ _ h1
  · have h1 := s.good.own a vs q
    rw [upd_ne (fun z => hm (by rw [← z]; exact List.mem_append_left _ (List.mem_map.mpr ⟨_, q, rfl⟩)))]
    exact h1
  · obtain ⟨s', i, cs, h1, h2, h3⟩ := s.good.vol h c q
    have e1 : h ∈ Z.msk ∧ c ∈ Z.msk := by
      refine ⟨List.mem_append_right _ ?_, List.mem_append_right _ ?_⟩ <;> unfold Zn.vs <;> rw [q] <;> simp
    exact ⟨s', i, cs, by rw [upd_ne (fun z => hm (by rw [← z]; exact e1.1))]; exact h1, by rw [upd_ne (fun z => hm (by rw [← z]; exact e1.2))]; exact h2, h3⟩
def dDict3 (s1 s2 s3 : Str) (f1 f2 f3 fi : DE) : DE := fun env Q R => f1 env (fun d1 => f2 env (fun d2 => f3 env (fun d3 => fi env (fun x => match d1, d2, d3, x with
  | .int i, .int j, .int k, .str z => (z = s1 ∧ Q (.int i)) ∨ (z = s2 ∧ z ≠ s1 ∧ Q (.int j)) ∨ (z = s3 ∧ z ≠ s1 ∧ z ≠ s2 ∧ Q (.int k))
  | _, _, _, _ => False) R) R) R) R
section
variable {X : Cx} {W : WX} {j : Nat} {e1 e2 e3 ei : Expr} {f1 f2 f3 fi : DE} {s1 s2 s3 : Str} {p1 p2 p3 dpos pos : Pos} {j1 j2 j3 : Nat}
theorem pd_dict3 (c : Cn X W j) (h1 : PD X W e1 f1) (h2 : PD X W e2 f2) (h3 : PD X W e3 f3) (hi : PD X W ei fi) (nd : s1 ≠ s2 ∧ s1 ≠ s3 ∧ s2 ≠ s3 := by decide +kernel) (hs : NoSl ei := by exact fun _ _ => rfl) :
    PD X W (.Subscript (.Dict [some (.Constant (.str s1) j1 p1), some (.Constant (.str s2) j2 p2), some (.Constant (.str s3) j3 p3)] [e1, e2, e3] dpos) ei pos) (dDict3 s1 s2 s3 f1 f2 f3 fi) := by
  obtain ⟨n1, n2, n3⟩ := nd
  refine PE.imp (pe_dget (by have := c.hr.units; omega) (pe_disp (pps_cons pe_str h1 (pps_cons pe_str h2 (pps_cons pe_str h3 pps_nil))) rfl rfl (by simp) (by simp)) hi hs) fun σ H Q ⟨Z, O, env, Q0, R0, at_, hf, xk, q⟩ => ?_
  intro p hp
  have st0 := Step.new at_.good (.dK []) hp
  have hm := at_.good.fresh hp
  have ip : mask Z (upd H p (.dK [])) p = some (.dK []) := mask_new at_.good hp
  refine DT.mk (at_.step st0) hf (xk.step st0) fun d1 hd1 v1 H1 t1 r1 => ?_
  refine DT.mk ((at_.step st0).step t1) hd1 ((xk.step st0).step t1) fun d2 hd2 v2 H2 t2 r2 => ?_
  refine DT.mk (((at_.step st0).step t1).step t2) hd2 (((xk.step st0).step t1).step t2) fun d3 hd3 v3 H3 t3 r3 => ?_
  have ip3 := mask_le _ _ _ _ (t3.le _ _ (t2.le _ _ (t1.le _ _ ip)))
  refine ⟨ip3, [(.inr s1, v1), (.inr s2, v2), (.inr s3, v3)], rfl, by simp, ?_⟩
  have st3 : Step Z H H3 := ((st0.trans t1).trans t2).trans t3
  have st4 : Step Z H (upd H3 p (.dK (mergeK [] [(.inr s1, v1), (.inr s2, v2), (.inr s3, v3)]))) := step_fix at_.good st3 hp
  have im : mask Z (upd H3 p (.dK (mergeK [] [(.inr s1, v1), (.inr s2, v2), (.inr s3, v3)]))) p = some (.dK (mergeK [] [(.inr s1, v1), (.inr s2, v2), (.inr s3, v3)])) := by rw [mask_of hm, upd_same]
  have em : mergeK [] [((.inr s1 : Key), v1), (.inr s2, v2), (.inr s3, v3)] = [(.inr s1, v1), (.inr s2, v2), (.inr s3, v3)] := by
    simp [mergeK, putK, n1, n2, n3]
  rw [em] at st4 im ⊢
  refine DT.mk (at_.step st4) hd3 (xk.step st4) fun x hx y H5 t5 r5 => ?_
  cases d1 <;> first | exact hx.elim | skip
  cases d2 <;> first | exact hx.elim | skip
  cases d3 <;> first | exact hx.elim | skip
  cases x <;> first | exact hx.elim | skip
  rename_i i1 i2 i3 z
  cases r1; cases r2; cases r3; cases r5
  have i5 := mask_le _ _ _ _ (t5.le _ _ im)
  have st5 := st4.trans t5
  rcases hx with ⟨rfl, hq⟩ | ⟨rfl, a1, hq⟩ | ⟨rfl, a1, a2, hq⟩
  · exact ⟨p, .int i1, rfl, .inl ⟨_, .inr z, .inl i5, rfl, by simp [valV]⟩, q _ hq _ H5 st5 (.int _)⟩
  · exact ⟨p, .int i2, rfl, .inl ⟨_, .inr z, .inl i5, rfl, by simp [valV, n1]⟩, q _ hq _ H5 st5 (.int _)⟩
  · exact ⟨p, .int i3, rfl, .inl ⟨_, .inr z, .inl i5, rfl, by simp [valV, n2, n3]⟩, q _ hq _ H5 st5 (.int _)⟩
end
end Gx
namespace Pr
open PySem PySem.Spec PyProof.Rows L2 Dl Dv Dk Gx Ma
theorem rounds_ok {r : Ru} {m : Int} {Q : D → Prop} (h : Q (.int (rnd r m))) : ((wS r.w) = "round" ∧ Q (.int 1)) ∨ ((wS r.w) = "fro" ∧ (wS r.w) ≠ "round" ∧ Q (.int 2)) ∨ ((wS r.w) = "step" ∧ (wS r.w) ≠ "round" ∧ (wS r.w) ≠ "fro" ∧ Q (.int m)) := by
  unfold rnd at h
  cases hw : r.w with
  | round => rw [hw] at h; exact .inl ⟨rfl, h⟩
  | fro => rw [hw] at h; exact .inr (.inl ⟨rfl, by decide +kernel, h⟩)
  | step => rw [hw] at h; exact .inr (.inr ⟨rfl, by decide +kernel, by decide +kernel, h⟩)
theorem x_rounds {r : Ru} {m : Int} {Q : D → Prop} : (((wS r.w) = "round" ∧ Q (.int 1)) ∨ ((wS r.w) = "fro" ∧ (wS r.w) ≠ "round" ∧ Q (.int 2)) ∨ ((wS r.w) = "step" ∧ (wS r.w) ≠ "round" ∧ (wS r.w) ≠ "fro" ∧ Q (.int m))) = Q (.int (rnd r m)) := propext ⟨fun h => by
    unfold rnd
    cases hw : r.w with
    | round =>
      rw [hw] at h
      rcases h with ⟨_, h⟩ | ⟨e, _, _⟩ | ⟨e, _, _, _⟩
      · exact h
      · exact absurd e (by decide +kernel)
      · exact absurd e (by decide +kernel)
    | fro =>
      rw [hw] at h
      rcases h with ⟨e, _⟩ | ⟨_, _, h⟩ | ⟨e, _, _, _⟩
      · exact absurd e (by decide +kernel)
      · exact h
      · exact absurd e (by decide +kernel)
    | step =>
      rw [hw] at h
      rcases h with ⟨e, _⟩ | ⟨e, _, _⟩ | ⟨_, _, _, h⟩
      · exact absurd e (by decide +kernel)
      · exact absurd e (by decide +kernel)
      · exact h, rounds_ok⟩
theorem x_pow {i : Int} {n : Nat} {Q : D → Prop} (h : CPow i n) : gPow (.int i) (.int n) Q = Q (.int (i ^ n)) := propext ⟨fun z => z.2, fun z => ⟨h, z⟩⟩
theorem max_mx {r : Ru} (hr : r.Ok) : (if (1 : Int) > r.a then (1 : Int) else r.a) = mx r := by
  unfold mx
  rcases hr.a with e | e | e | e <;> rw [e] <;> rfl
theorem whole_big {r : Ru} {m : Int} (hr : r.Ok) (hm : Mo m) : 2 ≤ whole r m ∧ whole r m ≤ 1728 := by
  have h1 := hm.lo; have h2 := hm.hi; have h3 := rnd_pos (r := r) hm; have h4 := hr.pos; have h5 := Ru.s3 hr; have h6 := mx_range hr
  unfold whole
  have a1 : 2 ≤ m * rnd r m := by
    have := Int.mul_le_mul h1 h3.1 (by omega) (by omega); omega
  have a2 : m * rnd r m ≤ 144 := by
    have := Int.mul_le_mul h2 h3.2 (by omega) (by omega); omega
  have b1 : 2 ≤ m * rnd r m * r.s := by
    have := Int.mul_le_mul a1 (show 1 ≤ r.s by omega) (by omega) (by omega); omega
  have b2 : m * rnd r m * r.s ≤ 432 := by
    have := Int.mul_le_mul a2 h5 (by omega) (by omega); omega
  refine ⟨?_, ?_⟩
  · have := Int.mul_le_mul b1 h6.1 (by omega) (by omega); omega
  · have := Int.mul_le_mul b2 h6.2 (by omega) (by omega); omega
end Pr

set_option maxHeartbeats 4000000
/-! len(set(..)) of a list of ints. -/
namespace Gx
open PySem PySem.Spec PyProof.Rows L2 Dl Dv Dk
/-- the different ones, as they are met -/
def distinct (zs : List Int) : List Int := firstMet (fun j => zs.getD j 0) zs.length
def tLs (K : PySem.W.Frag) (t : TE) : TE := fun σ H Q => t σ H fun z G => ∃ (b : Addr) (zs : List Int), z = .ref b ∧ SqL K G b (zs.map V.int) ∧ zs.length ≤ 4000 ∧ Q (.int ((distinct zs).length : Nat)) G
theorem ints_vals : ∀ {zs : List Int} {us : List Value}, Vals (zs.map V.int) us → IntsAre us zs
  | [], _, .nil => .nil
  | z :: zs, _, .cons h r => by
    obtain ⟨c, rfl⟩ := h
    exact .cons z c (ints_vals r)
theorem met_le (g : Nat → Int) : ∀ j, (firstMet g j).length ≤ j
  | 0 => Nat.le_refl 0
  | j + 1 => by
    rw [firstMet_succ]
    have := met_le g j
    unfold step_dedup
    split
    · omega
    · rw [List.length_append, List.length_singleton]; omega
theorem pe_ls {X : Cx} {e : Expr} {t : TE} {c1 c2 c3 c4 : Pos} (l1 : Gl X "len") (l2 : X.mg "len" = none) (t1 : Gl X "set") (t2 : X.mg "set" = none) (he : L2.PE X e t) (calm : X.calm = true)
    (one : starEach [e] X.env = (false, eval e X.env) :: starEach [] X.env := by rfl) : L2.PE X (.Call (.Name "len" c1) [.Call (.Name "set" c2) [e] [] c3] [] c4) (tLs X.K t) := by
  constructor
  intro pins s σ H Q I0 h
  refine Call_ (ld_blt I0 l1 l2 boot_len (callWith_builtin1 (args_cons (Call_ (ld_blt I0 t1 t2 boot_set ?A)) rfl) rfl rfl))
  refine callWith_type1 (args_cons ?B one) one rfl
  refine thn (he.run pins s σ H _ I0 h) fun v s1 ⟨z, G, Ia, rz, w0⟩ => ?_
  refine args_nil ?_
  obtain ⟨b, zs, ez, hs, hl, w0⟩ := w0
  subst ez
  cases rz
  obtain ⟨its, rv, pl, hz⟩ := Ia.list hs
  have sz : its.toArray.size = zs.length := by
    rw [List.size_toArray, ← rv.length, List.length_map]
  have md := met_le (fun j => zs.getD j 0) zs.length
  refine call_set_list (Ia.ok.hd calm) pl.isList (by simpa using ints_vals rv) (by rw [sz]; unfold scanBound; omega) ?_
  intro h' tk hS hk
  refine args_nil ?_
  rw [sz] at hS
  obtain ⟨o, es, ep, tt, ho, hex, hd, _, _, _, hf, hn⟩ := hS
  have Ib : Inv X pins σ G { s1 with heap := h', toks := tk } := Ia.kept fun a u q => hk a u (Heap.lt_size q) q
  have hn2 : es.size = (distinct zs).length := hn
  refine call_len_set ho hex hd hf (by rw [hn2]; unfold distinct; omega) ?_
  exact ⟨.int ((distinct zs).length : Nat), G, Ib.tok _, ⟨_, by rw [hn2]⟩, w0⟩
def dLenSet (f : DE) : DE := fun env Q R => f env (fun d => ∃ zs : List Int, d = .lst (zs.map .int) ∧ zs.length ≤ 4000 ∧ Q (.int ((distinct zs).length : Nat))) R
theorem bLenSet {X : Cx} {W : WX} {j : Nat} {e : Expr} {f : DE} {c1 c2 c3 c4 : Pos} (c : Cn X W j) (l2 : X.mg "len" = none) (t2 : X.mg "set" = none) (he : PD X W e f) (l1 : Gl X "len" := by rfl) (t1 : Gl X "set" := by rfl)
    (one : starEach [e] X.env = (false, eval e X.env) :: starEach [] X.env := by rfl) : PD X W (.Call (.Name "len" c1) [.Call (.Name "set" c2) [e] [] c3] [] c4) (dLenSet f) :=
  PE.imp (pe_ls l1 l2 t1 t2 he c.hc one) fun σ H Q ⟨Z, O, env, Q0, R0, at_, hf, xk, q⟩ => DT.mk at_ hf xk fun d ⟨zs, e, hl, hq⟩ v H1 s r => by
    subst e
    obtain ⟨a, rfl, hs⟩ := ints_rep r
    exact ⟨a, zs, rfl, hs, hl, q _ hq _ H1 s (.int _)⟩
end Gx
namespace Pr
open PySem PySem.Spec PyProof.Rows L2 Dl Dv Dk Gx Ma
theorem met_mem (g : Nat → Int) : ∀ (j : Nat) (x : Int), x ∈ firstMet g j ↔ ∃ i, i < j ∧ g i = x
  | 0, x => by
    constructor
    · intro h; cases h
    · rintro ⟨i, hi, _⟩; omega
  | j + 1, x => by
    rw [firstMet_succ]
    have ih := met_mem g j
    unfold step_dedup
    split
    · rename_i h
      rw [ih]
      constructor
      · rintro ⟨i, hi, e⟩; exact ⟨i, by omega, e⟩
      · rintro ⟨i, hi, e⟩
        by_cases hij : i < j
        · exact ⟨i, hij, e⟩
        · obtain rfl : i = j := by omega
          obtain ⟨y, hy, ey⟩ := List.any_eq_true.mp h
          rw [beq_iff_eq] at ey
          rw [ey] at hy
          obtain ⟨k, hk, ek⟩ := (ih _).mp hy
          exact ⟨k, hk, by rw [ek, e]⟩
    · rw [List.mem_append, ih, List.mem_singleton]
      constructor
      · rintro (⟨i, hi, e⟩ | e)
        · exact ⟨i, by omega, e⟩
        · exact ⟨j, by omega, e.symm⟩
      · rintro ⟨i, hi, e⟩
        by_cases hij : i < j
        · exact .inl ⟨i, hij, e⟩
        · obtain rfl : i = j := by omega
          exact .inr e.symm
theorem met_nodup (g : Nat → Int) : ∀ j, (firstMet g j).Nodup
  | 0 => by show ([] : List Int).Nodup; exact List.nodup_nil
  | j + 1 => by
    rw [firstMet_succ]
    unfold step_dedup
    split
    · exact met_nodup g j
    · rename_i h
      refine List.nodup_append.mpr ⟨met_nodup g j, by simp, fun a ha b hb => ?_⟩
      rw [List.mem_singleton] at hb
      subst hb
      intro e
      subst e
      exact h (List.any_eq_true.mpr ⟨_, ha, by simp⟩)
theorem distinct_mem {zs : List Int} {x : Int} : x ∈ distinct zs ↔ x ∈ zs := by
  unfold distinct
  rw [met_mem]
  constructor
  · rintro ⟨i, hi, rfl⟩
    show zs.getD i 0 ∈ zs
    rw [List.getD_eq_getElem?_getD, List.getElem?_eq_getElem hi]
    exact List.getElem_mem hi
  · intro h
    obtain ⟨i, hi, e⟩ := List.mem_iff_getElem.mp h
    refine ⟨i, hi, ?_⟩
    show zs.getD i 0 = x
    rw [List.getD_eq_getElem?_getD, List.getElem?_eq_getElem hi]
    exact e
/-- one alone: all are the same -/
theorem distinct_one {zs : List Int} : (distinct zs).length = 1 ↔ ∃ x, x ∈ zs ∧ ∀ y ∈ zs, y = x := by
  have nd : (distinct zs).Nodup := met_nodup _ _
  constructor
  · intro h
    obtain ⟨x, hx⟩ := List.length_eq_one_iff.mp h
    refine ⟨x, distinct_mem.mp (by rw [hx]; simp), fun y hy => ?_⟩
    have := distinct_mem.mpr hy
    rw [hx] at this
    simpa using this
  · rintro ⟨x, hx, h⟩
    have hm := distinct_mem.mpr hx
    match hd : distinct zs with
    | [] => rw [hd] at hm; cases hm
    | [a] => rfl
    | a :: b :: l =>
      exfalso
      rw [hd] at nd
      have ha := h a (distinct_mem.mp (by rw [hd]; simp))
      have hb := h b (distinct_mem.mp (by rw [hd]; simp))
      rw [ha, hb] at nd
      simp at nd
/-- more than one: two are unlike -/
theorem distinct_more {zs : List Int} : 1 < (distinct zs).length ↔ ∃ x ∈ zs, ∃ y ∈ zs, x ≠ y := by
  have nd : (distinct zs).Nodup := met_nodup _ _
  constructor
  · intro h
    match hd : distinct zs with
    | [] => rw [hd] at h; simp at h
    | [a] => rw [hd] at h; simp at h
    | a :: b :: l =>
      rw [hd] at nd
      refine ⟨a, distinct_mem.mp (by rw [hd]; simp), b, distinct_mem.mp (by rw [hd]; simp), fun e => ?_⟩
      rw [e] at nd
      simp at nd
  · rintro ⟨x, hx, y, hy, e⟩
    have h1 := distinct_mem.mpr hx
    have h2 := distinct_mem.mpr hy
    match hd : distinct zs with
    | [] => rw [hd] at h1; cases h1
    | [a] =>
      rw [hd] at h1 h2
      simp at h1 h2
      exact (e (by rw [h1, h2])).elim
    | a :: b :: l => simp
theorem x_lenSet {f : DE} {env : Env'} {Q : D → Prop} {R : DX} : dLenSet f env Q R = f env (fun d => ∃ zs : List Int, d = .lst (zs.map .int) ∧ zs.length ≤ 4000 ∧ Q (.int ((distinct zs).length : Nat))) R := rfl
end Pr

set_option maxHeartbeats 4000000
/-! The least period. -/
namespace Ma
def perB (L : Int → Int) (W : Nat) (q : Int) : Bool := ((upto W).map fun n => decide (L (n + q) - L n = L q - L 0)).all id
def firstPer (L : Int → Int) (W : Nat) : Int := (((upto W).map fun n => n + 1).find? (perB L W)).getD W
theorem upto_mem' {n : Nat} {x : Int} : x ∈ upto n ↔ 0 ≤ x ∧ x < n := by
  unfold upto
  constructor
  · intro h
    obtain ⟨k, hk, rfl⟩ := List.mem_map.mp h
    have := List.mem_range.mp hk
    omega
  · intro h
    exact List.mem_map.mpr ⟨x.toNat, List.mem_range.mpr (by omega), by omega⟩
theorem perB_iff {L : Int → Int} {W : Nat} {q : Int} : perB L W q = true ↔ ∀ n : Int, 0 ≤ n → n < W → L (n + q) - L n = L q - L 0 := by
  unfold perB
  rw [List.all_eq_true]
  constructor
  · intro h n h0 h1
    have := h _ (List.mem_map.mpr ⟨n, upto_mem'.mpr ⟨h0, h1⟩, rfl⟩)
    simpa using this
  · intro h b hb
    obtain ⟨n, hn, rfl⟩ := List.mem_map.mp hb
    have := upto_mem'.mp hn
    simpa using h n this.1 this.2
theorem shift_all {L : Int → Int} {W G : Int} (hG : ∀ n : Int, 0 ≤ n → L (n + W) = L n + G) (h0 : 0 ≤ W) : ∀ (k : Nat) (n : Int), 0 ≤ n → L (n + W * k) = L n + G * k
  | 0, n, _ => by simp
  | k + 1, n, hn => by
    have e1 : n + W * ((k + 1 : Nat) : Int) = (n + W * k) + W := by rw [Int.natCast_succ, Int.mul_add]; omega
    have e2 : G * ((k + 1 : Nat) : Int) = G * k + G := by rw [Int.natCast_succ, Int.mul_add]; omega
    have e3 : 0 ≤ W * (k : Int) := Int.mul_nonneg h0 (by omega)
    rw [e1, e2, hG _ (by omega), shift_all hG h0 k n hn]
    omega
/-- what holds in a whole holds always -/
theorem per_all {L : Int → Int} {W : Nat} {G q : Int} (hW : 0 < W) (hG : ∀ n : Int, 0 ≤ n → L (n + W) = L n + G) (q0 : 0 ≤ q) (h : perB L W q = true) (n : Int) (hn : 0 ≤ n) : L (n + q) = L n + (L q - L 0) := by
  have hd := divmod (x := n) (m := (W : Int)) (by omega)
  obtain ⟨k, hk⟩ : ∃ k : Nat, n / (W : Int) = k := Int.eq_ofNat_of_zero_le (Int.ediv_nonneg hn (by omega))
  obtain ⟨i, hi⟩ : ∃ i, i = n % (W : Int) := ⟨_, rfl⟩
  rw [hk, ← hi] at hd
  have e := perB_iff.mp h i hd.2.1 hd.2.2
  have s1 := shift_all hG (by omega) k i hd.2.1
  have s2 := shift_all hG (by omega) k (i + q) (by omega)
  rw [show n = i + (W : Int) * k by omega, s1, show i + (W : Int) * k + q = (i + q) + (W : Int) * k by omega, s2]
  omega
theorem per_of {L : Int → Int} {W : Nat} {q g : Int} (h : ∀ n : Int, 0 ≤ n → L (n + q) = L n + g) : perB L W q = true := perB_iff.mpr fun n h0 _ => by
  have h1 := h n h0
  have h2 := h 0 (Int.le_refl 0)
  rw [Int.zero_add] at h2
  omega
structure Least (L : Int → Int) (W : Nat) (q : Int) : Prop where
  lo : 1 ≤ q
  hi : q ≤ W
  per : perB L W q = true
  min : ∀ x : Int, 1 ≤ x → x < q → perB L W x = false
  dv : (W : Int) % q = 0
theorem find_asc (p : Int → Bool) : ∀ (W : Nat) (i : Nat), ((upto W).map fun n => n + 1)[i]? = some ((i : Int) + 1) ∨ W ≤ i
  | W, i => by
    by_cases h : i < W
    · left
      unfold upto
      rw [List.map_map, List.getElem?_map, List.getElem?_range h]
      rfl
    · exact .inr (by omega)
theorem find_first (p : Int → Bool) : ∀ W : Nat, (∃ q, ((upto W).map fun n => n + 1).find? p = some q ∧ 1 ≤ q ∧ q ≤ W ∧ p q = true ∧ ∀ x : Int, 1 ≤ x → x < q → p x = false) ∨ (((upto W).map fun n => n + 1).find? p = none ∧ ∀ x : Int, 1 ≤ x → x ≤ W → p x = false)
  | 0 => .inr ⟨rfl, fun x h1 h2 => by omega⟩
  | W + 1 => by
    rw [upto_succ, List.map_append, List.find?_append]
    rcases find_first p W with ⟨q, h1, h2, h3, h4, h5⟩ | ⟨h1, h2⟩
    · left
      exact ⟨q, by rw [h1]; rfl, h2, by omega, h4, h5⟩
    · rw [h1]
      by_cases hp : p ((W : Int) + 1) = true
      · left
        refine ⟨(W : Int) + 1, ?_, by omega, by omega, hp, fun x hx1 hx2 => h2 x hx1 (by omega)⟩
        show List.find? p [(W : Int) + 1] = _
        rw [List.find?_cons_of_pos hp]
      · right
        refine ⟨?_, fun x hx1 hx2 => ?_⟩
        · show List.find? p [(W : Int) + 1] = _
          rw [List.find?_cons_of_neg hp]
          rfl
        · by_cases hx : x ≤ W
          · exact h2 x hx1 hx
          · have : x = (W : Int) + 1 := by omega
            subst this
            simpa using hp
theorem firstPer_least {L : Int → Int} {W : Nat} {G : Int} (hW : 0 < W) (hG : ∀ n : Int, 0 ≤ n → L (n + W) = L n + G) : Least L W (firstPer L W) := by
  have pw : perB L W W = true := per_of hG
  rcases find_first (perB L W) W with ⟨q, h1, h2, h3, h4, h5⟩ | ⟨h1, h2⟩
  · have e : firstPer L W = q := by unfold firstPer; rw [h1]; rfl
    rw [e]
    refine ⟨h2, h3, h4, h5, ?_⟩
    have hd := divmod (x := (W : Int)) (m := q) (by omega)
    obtain ⟨k, hk⟩ : ∃ k : Nat, (W : Int) / q = k := Int.eq_ofNat_of_zero_le (Int.ediv_nonneg (by omega) (by omega))
    obtain ⟨i, hi⟩ : ∃ i, i = (W : Int) % q := ⟨_, rfl⟩
    rw [hk, ← hi] at hd
    rw [← hi]
    by_cases h0 : i = 0
    · exact h0
    · exfalso
      have pq := per_all hW hG (by omega) h4
      have pr : perB L W i = true := per_of (g := G - (L q - L 0) * k) fun n hn => by
        have s := shift_all (L := L) (W := q) (G := L q - L 0) pq (by omega) k (n + i) (by omega)
        have t := hG n hn
        rw [show n + i + q * (k : Int) = n + (W : Int) by omega, t] at s
        omega
      rw [h5 i (by omega) hd.2.2] at pr
      cases pr
  · rw [h2 W (by omega) (Int.le_refl _)] at pw
    cases pw
/-- shifted maxima -/
theorem lot_one_more {r : Ru} {m p n : Int} (hr : r.Ok) (hm : Mo m) : ownLot r m (n + whole r m) p = ownLot r m n p + rnd r m * r.s * mx r := by
  have := lot_more (p := p) (n := n) (t := 1) hr hm
  rw [Int.one_mul, Int.mul_one, Int.add_comm] at this
  exact this
end Ma

set_option maxHeartbeats 4000000
/-! lots.py: periods, courses, who is never behind. -/
namespace Pr
open PySem PySem.Spec PyProof.Rows L2 Dl Dv Dk Gx Ma
def F_period_of (K : PySem.W.Frag) : DF := FI (fun (r, m) => [rd K r, .int m]) (fun (r, m) => r.Ok ∧ Mo m) (fun (r, m) => .int (whole r m))
theorem y_period_of {K : PySem.W.Frag} {r : Ru} {m : Int} {Q : D → Prop} {R : DX} (hr : r.Ok) (hm : Mo m) : F_period_of K [rd K r, .int m] Q R = Q (.int (whole r m)) := fi_eq li_inj (a := (r, m)) ⟨hr, hm⟩
/-- the course's answer -/
def courseD (r : Ru) (m p : Int) : D := .tup [.int (firstPer (fun n => ownLot r m n p) (whole r m).toNat), .int (ownLot r m (firstPer (fun n => ownLot r m n p) (whole r m).toNat) p - ownLot r m 0 p), .tup (((upto (firstPer (fun n => ownLot r m n p) (whole r m).toNat).toNat).map fun n => ownLot r m n p).map .int)]
def F_course (K : PySem.W.Frag) : DF := fun ds Q R => ∃ r m p, ds = [rd K r, m, p] ∧ r.Ok ∧ isD m = true ∧ isD p = true ∧ match lookAt K m (.int 0) 0 with
  | .error e => R e
  | .ok _ => ∀ i, m = .int i → if isIn p 0 (i - 1) = true then ∀ k, p = .int k → Q (courseD r i k) else R (ePn K)
/-- never behind -/
def favB (r : Ru) (m : Int) (W : Nat) (p : Int) : Bool := ((upto W).map fun n => decide (ownLot r m n p = maxL (lotsL r m n))).all id
def favL (r : Ru) (m : Int) : List Int := (upto m.toNat).filter (favB r m (whole r m).toNat)
def F_favoured (K : PySem.W.Frag) : DF := fun ds Q R => ∃ r m, ds = [rd K r, m] ∧ r.Ok ∧ isD m = true ∧ match lookAt K m (.int 0) 0 with
  | .error e => R e
  | .ok _ => ∀ i, m = .int i → Q (il (favL r i))
def g_period_of (K : PySem.W.Frag) : DG :=
  (dSeq (dSet 2 (dDict3 "round" "fro" "step" (dC (.int 1)) (dC (.int 2)) (dVar 1) (dOp gIx (dSlot (aR K) 0 (dVar 0)) (dC (.int 1)))))
  (dRet (dOp gMul (dOp gMul (dOp gMul (dVar 1) (dVar 2)) (dOp gIx (dSlot (aR K) 0 (dVar 0)) (dC (.int 0)))) (dCB gMax2 (dCons (dOp gIx (dSlot (aR K) 0 (dVar 0)) (dC (.int 3))) (dCons (dC (.int 1)) dNil))))))
def g_course (K : PySem.W.Frag) : DG :=
  (dSeq (dExpr (dCall 3 (F_look_at K) (dCons (dVar 1) (dCons (dC (.int 0)) (dCons (dC (.int 0)) dNil)))))
  (dSeq (dExpr (dCall 2 (F_look_at_person K) (dCons (dVar 1) (dCons (dVar 2) dNil))))
  (dSeq (dSet 3 (dCall 2 (F_period_of K) (dCons (dVar 0) (dCons (dVar 1) dNil))))
  (dSeq (dSet 4 (dL (dLc (dRng1 (dCons (dOp gMul (dC (.int 2)) (dVar 3)) dNil)) [5] (dgName 5) dYes (dCall 4 (F_own_lot K) (dCons (dVar 0) (dCons (dVar 1) (dCons (dVar 5) (dCons (dVar 2) dNil))))))))
  (dSeq (dFor (dItL (dL (dLc (dRng2 (dCons (dC (.int 1)) (dCons (dOp gAddU (dVar 3) (dC (.int 1))) dNil))) [7] (dgName 7) (dTst (dOp gEq (dOp gMod (dVar 3) (dVar 7)) (dC (.int 0)))) (dVar 7)))) (dgName 6) (dSeq (dSet 8 (dOp gSub (dOp gIx (dVar 4) (dVar 6)) (dOp gIx (dVar 4) (dC (.int 0)))))
  (dIfS (dTst (dCB gAll (dCons (dL (dLc (dRng1 (dCons (dVar 3) dNil)) [5] (dgName 5) dYes (dOp gEq (dOp gSub (dOp gIx (dVar 4) (dOp gAddU (dVar 5) (dVar 6))) (dOp gIx (dVar 4) (dVar 5))) (dVar 8)))) dNil))) (dRet (dTup (dCons (dVar 6) (dCons (dVar 8) (dCons (dCB gTupleOf (dCons (dL (dSlL (dVar 4) dNoPart (dPart (dVar 6)))) dNil)) dNil))))) dNx)))
  (dRet (dTup (dCons (dVar 3) (dCons (dOp gSub (dOp gIx (dVar 4) (dVar 3)) (dOp gIx (dVar 4) (dC (.int 0)))) (dCons (dCB gTupleOf (dCons (dL (dSlL (dVar 4) dNoPart (dPart (dVar 3)))) dNil)) dNil))))))))))
def g_favoured (K : PySem.W.Frag) : DG :=
  (dSeq (dExpr (dCall 3 (F_look_at K) (dCons (dVar 1) (dCons (dC (.int 0)) (dCons (dC (.int 0)) dNil)))))
  (dSeq (dSet 2 (dL (dLc (dRng1 (dCons (dCall 2 (F_period_of K) (dCons (dVar 0) (dCons (dVar 1) dNil))) dNil)) [3] (dgName 3) dYes (dCall 3 (F_own_lots K) (dCons (dVar 0) (dCons (dVar 1) (dCons (dVar 3) dNil)))))))
  (dRet (dL (dLc (dRng1 (dCons (dVar 1) dNil)) [4] (dgName 4) (dTst (dCB gAll (dCons (dL (dLc (dItL (dVar 2)) [5] (dgName 5) dYes (dOp gEq (dOp gIx (dVar 5) (dVar 4)) (dCB gMaxL (dCons (dVar 5) dNil))))) dNil))) (dVar 4))))))
theorem law_period_of (K : PySem.W.Frag) (ds : List D) (Q : D → Prop) (R : DX) (h : F_period_of K ds Q R) : dDef 3 (g_period_of K) ds Q R := by
  obtain ⟨⟨r, m⟩, rfl, ⟨hr, hm⟩, q⟩ := h
  have h1 := hm.lo; have h2 := hm.hi; have h3 := hr.pos; have h4 := Ru.s3 hr; have h5 := mx_range hr
  dsimp only at q
  unfold dDef g_period_of
  refine seqE [.val (rd K r), .val (.int m), .val (.int (rnd r m))] (fun N hN => ?_) ?_
  · simp (maxSteps := 10000000) (disch := first | assumption | omega) only [dDef, dRet, dRetL, dSeq, dIfS, dTst, dNotB, dAndB, dOrB, dAndV, dOrV, dNotV, dNeg, dIf, dCB, dCBL, dCons, dNil, dStar, dVar, dC, dCall, dOp, dOpL, dTup, dLst, dL, dSet, dAsg, dPar, dOwn, dExpr, dNx, dFor, dItL, dItT, dProp, dMeth, dMk, dMk0, dRaise, dPart, dNoPart, dSlL, dSlT, dRevL, dgName, dgTup, dgSets, dOwnIx, dOwnLen, dOwnTup, dApp, dSetI, dRel, relE, dItZip, dItTab, dItEnK, dItEn, dIsS, dJoinG, dSplit, dFmt, dJs, dIsT2, dIndex, dCallS, dYes, wipeE, dXf, dIsX, List.map_cons, List.map_nil, List.cons_append, List.nil_append, List.append_nil, List.length_cons, List.length_nil, List.replicate_succ, List.replicate_zero, Nat.reduceAdd, Nat.reduceSub, List.getElem?_cons_zero, List.getElem?_cons_succ, List.set_cons_zero, List.set_cons_succ, Nat.zero_add, Nat.add_zero, Nat.sub_self, x_add, x_sub, x_mulL, x_mulR, x_div, x_mod, x_lt, x_le, x_gt, x_ge, x_eq, x_ne, x_fro, x_step, x_first, x_last, x_on, x_l0, x_l1, x_l2, x_l3, x_l4, x_t0, x_t1, x_t2, x_t3, x_t4, x_intB, x_intI, x_max2, x_min2, x_lenL, x_lenT, x_sz, x_rs, x_rw, x_rf, x_ra, x_rl, x_slot, x_slotD, true_and, and_true, eq_self, decide_eq_true_eq, Bool.not_eq_true', decide_eq_false_iff_not, res_ok, res_er, x_rng1, x_rng1D, x_rng2, x_rng2E, x_rng2D, z_s, z_w, z_f, z_a, z_l, Bool.and_eq_true, if_true, if_false, Bool.false_eq_true, reduceCtorEq, decide_true, decide_false, Bool.not_true, Bool.not_false, Bool.true_eq_false, not_true_eq_false, not_false_eq_true, dDict3]
    exact rounds_ok (r := r) (m := m) (Q := fun d => N [.val (rd K r), .val (.int m), .val d]) hN
  simp (maxSteps := 10000000) (disch := first | assumption | omega) only [dDef, dRet, dRetL, dSeq, dIfS, dTst, dNotB, dAndB, dOrB, dAndV, dOrV, dNotV, dNeg, dIf, dCB, dCBL, dCons, dNil, dStar, dVar, dC, dCall, dOp, dOpL, dTup, dLst, dL, dSet, dAsg, dPar, dOwn, dExpr, dNx, dFor, dItL, dItT, dProp, dMeth, dMk, dMk0, dRaise, dPart, dNoPart, dSlL, dSlT, dRevL, dgName, dgTup, dgSets, dOwnIx, dOwnLen, dOwnTup, dApp, dSetI, dRel, relE, dItZip, dItTab, dItEnK, dItEn, dIsS, dJoinG, dSplit, dFmt, dJs, dIsT2, dIndex, dCallS, dYes, wipeE, dXf, dIsX, List.map_cons, List.map_nil, List.cons_append, List.nil_append, List.append_nil, List.length_cons, List.length_nil, List.replicate_succ, List.replicate_zero, Nat.reduceAdd, Nat.reduceSub, List.getElem?_cons_zero, List.getElem?_cons_succ, List.set_cons_zero, List.set_cons_succ, Nat.zero_add, Nat.add_zero, Nat.sub_self, x_add, x_sub, x_mulL, x_mulR, x_div, x_mod, x_lt, x_le, x_gt, x_ge, x_eq, x_ne, x_fro, x_step, x_first, x_last, x_on, x_l0, x_l1, x_l2, x_l3, x_l4, x_t0, x_t1, x_t2, x_t3, x_t4, x_intB, x_intI, x_max2, x_min2, x_lenL, x_lenT, x_sz, x_rs, x_rw, x_rf, x_ra, x_rl, x_slot, x_slotD, true_and, and_true, eq_self, decide_eq_true_eq, Bool.not_eq_true', decide_eq_false_iff_not, res_ok, res_er, x_rng1, x_rng1D, x_rng2, x_rng2E, x_rng2D, z_s, z_w, z_f, z_a, z_l, Bool.and_eq_true, if_true, if_false, Bool.false_eq_true, reduceCtorEq, decide_true, decide_false, Bool.not_true, Bool.not_false, Bool.true_eq_false, not_true_eq_false, not_false_eq_true, max_mx hr]
  exact q
theorem look0 {K : PySem.W.Frag} {m : D} : (∃ e, lookAt K m (.int 0) 0 = .error e) ∨ (lookAt K m (.int 0) 0 = .ok .non ∧ ∃ i, m = .int i ∧ Mo i) := by
  rcases look_cases (K := K) (m := m) (n := .int 0) (most := 0) with h | ⟨h, i, j, e, _, hi, _⟩
  · exact .inl h
  · exact .inr ⟨h, i, e, hi⟩
theorem whole_nat {r : Ru} {m : Int} (hr : r.Ok) (hm : Mo m) : ∃ W : Nat, whole r m = (W : Int) ∧ 2 ≤ W ∧ W ≤ 1728 := by
  obtain ⟨a, b⟩ := whole_big hr hm
  obtain ⟨W, hW⟩ := Int.eq_ofNat_of_zero_le (show 0 ≤ whole r m by omega)
  exact ⟨W, hW, by omega, by omega⟩
theorem lot_per {r : Ru} {m : Int} (hr : r.Ok) (hm : Mo m) {W : Nat} (hW : whole r m = (W : Int)) (p : Int) : Least (fun n => ownLot r m n p) W (firstPer (fun n => ownLot r m n p) W) := by
  have := whole_pos hr hm
  refine firstPer_least (G := rnd r m * r.s * mx r) (by omega) fun n hn => ?_
  show ownLot r m (n + (W : Int)) p = _
  rw [← hW]
  exact lot_one_more hr hm
theorem bl_map {α : Type} {xs : List α} {f : α → Bool} : xs.map (fun x => D.bl (f x)) = (xs.map f).map D.bl := by rw [List.map_map]; rfl
theorem int_map {α : Type} {xs : List α} {f : α → Int} : xs.map (fun x => D.int (f x)) = (xs.map f).map D.int := by rw [List.map_map]; rfl
theorem take_upto {n k : Nat} {f : Int → Int} (h : k ≤ n) : ((upto n).map f).take k = (upto k).map f := by
  rw [← List.map_take]
  congr 1
  refine list_ext (n := k) (by rw [List.length_take, upto_length]; omega) (upto_length k) fun i hi => ?_
  rw [List.getElem?_take, if_pos hi, upto_get (by omega), upto_get hi]
theorem rangeL_mem {i j x : Int} : x ∈ rangeL i j ↔ i ≤ x ∧ x < j := by
  unfold rangeL
  constructor
  · intro h
    obtain ⟨k, hk, rfl⟩ := List.mem_map.mp h
    have := upto_mem.mp hk
    omega
  · intro h
    exact List.mem_map.mpr ⟨x - i, upto_mem.mpr (by omega), by omega⟩
theorem rangeL_length {i j : Int} : (rangeL i j).length = (j - i).toNat := by unfold rangeL; rw [List.length_map, upto_length]
theorem upto_asc (n : Nat) : (upto n).Pairwise (· < ·) := by
  unfold upto
  rw [List.pairwise_map]
  exact List.pairwise_lt_range.imp fun h => by omega
theorem rangeL_asc (i j : Int) : (rangeL i j).Pairwise (· < ·) := by
  unfold rangeL
  rw [List.pairwise_map]
  exact (upto_asc _).imp fun h => by omega
theorem law_course (K : PySem.W.Frag) (ds : List D) (Q : D → Prop) (R : DX) (h : F_course K ds Q R) : dDef 9 (g_course K) ds Q R := by
  obtain ⟨r, m, p, rfl, hr, hm, hp, q⟩ := h
  have z0 : isD (.int 0) = true := rfl
  unfold dDef g_course
  show dSeq (dExpr _) _ _ _
  rcases look0 (K := K) (m := m) with ⟨e, he⟩ | ⟨he, i, rfl, hi⟩
  · rw [he] at q
    simp (maxSteps := 10000000) (disch := first | assumption | omega) only [dDef, dRet, dRetL, dSeq, dIfS, dTst, dNotB, dAndB, dOrB, dAndV, dOrV, dNotV, dNeg, dIf, dCB, dCBL, dCons, dNil, dStar, dVar, dC, dCall, dOp, dOpL, dTup, dLst, dL, dSet, dAsg, dPar, dOwn, dExpr, dNx, dFor, dItL, dItT, dProp, dMeth, dMk, dMk0, dRaise, dPart, dNoPart, dSlL, dSlT, dRevL, dgName, dgTup, dgSets, dOwnIx, dOwnLen, dOwnTup, dApp, dSetI, dRel, relE, dItZip, dItTab, dItEnK, dItEn, dIsS, dJoinG, dSplit, dFmt, dJs, dIsT2, dIndex, dCallS, dYes, wipeE, dXf, dIsX, List.map_cons, List.map_nil, List.cons_append, List.nil_append, List.append_nil, List.length_cons, List.length_nil, List.replicate_succ, List.replicate_zero, Nat.reduceAdd, Nat.reduceSub, List.getElem?_cons_zero, List.getElem?_cons_succ, List.set_cons_zero, List.set_cons_succ, Nat.zero_add, Nat.add_zero, Nat.sub_self, x_add, x_sub, x_mulL, x_mulR, x_div, x_mod, x_lt, x_le, x_gt, x_ge, x_eq, x_ne, x_fro, x_step, x_first, x_last, x_on, x_l0, x_l1, x_l2, x_l3, x_l4, x_t0, x_t1, x_t2, x_t3, x_t4, x_intB, x_intI, x_max2, x_min2, x_lenL, x_lenT, x_sz, x_rs, x_rw, x_rf, x_ra, x_rl, x_slot, x_slotD, true_and, and_true, eq_self, decide_eq_true_eq, Bool.not_eq_true', decide_eq_false_iff_not, res_ok, res_er, x_rng1, x_rng1D, x_rng2, x_rng2E, x_rng2D, z_s, z_w, z_f, z_a, z_l, Bool.and_eq_true, if_true, if_false, Bool.false_eq_true, reduceCtorEq, decide_true, decide_false, Bool.not_true, Bool.not_false, Bool.true_eq_false, not_true_eq_false, not_false_eq_true, y_look_at, he]
    exact q
  rw [he] at q
  have q1 := q i rfl
  refine seqE [.val (rd K r), .val (.int i), .val p, .un, .un, .un, .un, .un, .un] (fun N hN => ?_) ?_
  · simp (maxSteps := 10000000) (disch := first | assumption | omega) only [dDef, dRet, dRetL, dSeq, dIfS, dTst, dNotB, dAndB, dOrB, dAndV, dOrV, dNotV, dNeg, dIf, dCB, dCBL, dCons, dNil, dStar, dVar, dC, dCall, dOp, dOpL, dTup, dLst, dL, dSet, dAsg, dPar, dOwn, dExpr, dNx, dFor, dItL, dItT, dProp, dMeth, dMk, dMk0, dRaise, dPart, dNoPart, dSlL, dSlT, dRevL, dgName, dgTup, dgSets, dOwnIx, dOwnLen, dOwnTup, dApp, dSetI, dRel, relE, dItZip, dItTab, dItEnK, dItEn, dIsS, dJoinG, dSplit, dFmt, dJs, dIsT2, dIndex, dCallS, dYes, wipeE, dXf, dIsX, List.map_cons, List.map_nil, List.cons_append, List.nil_append, List.append_nil, List.length_cons, List.length_nil, List.replicate_succ, List.replicate_zero, Nat.reduceAdd, Nat.reduceSub, List.getElem?_cons_zero, List.getElem?_cons_succ, List.set_cons_zero, List.set_cons_succ, Nat.zero_add, Nat.add_zero, Nat.sub_self, x_add, x_sub, x_mulL, x_mulR, x_div, x_mod, x_lt, x_le, x_gt, x_ge, x_eq, x_ne, x_fro, x_step, x_first, x_last, x_on, x_l0, x_l1, x_l2, x_l3, x_l4, x_t0, x_t1, x_t2, x_t3, x_t4, x_intB, x_intI, x_max2, x_min2, x_lenL, x_lenT, x_sz, x_rs, x_rw, x_rf, x_ra, x_rl, x_slot, x_slotD, true_and, and_true, eq_self, decide_eq_true_eq, Bool.not_eq_true', decide_eq_false_iff_not, res_ok, res_er, x_rng1, x_rng1D, x_rng2, x_rng2E, x_rng2D, z_s, z_w, z_f, z_a, z_l, Bool.and_eq_true, if_true, if_false, Bool.false_eq_true, reduceCtorEq, decide_true, decide_false, Bool.not_true, Bool.not_false, Bool.true_eq_false, not_true_eq_false, not_false_eq_true, y_look_at, he]
    exact hN
  by_cases hin : isIn p 0 (i - 1) = true
  · rw [if_pos hin] at q1
    obtain ⟨k, rfl, k0, k1⟩ := isIn_int hin
    have q2 := q1 k rfl
    refine seqE [.val (rd K r), .val (.int i), .val (.int k), .un, .un, .un, .un, .un, .un] (fun N hN => ?_) ?_
    · simp (maxSteps := 10000000) (disch := first | assumption | omega) only [dDef, dRet, dRetL, dSeq, dIfS, dTst, dNotB, dAndB, dOrB, dAndV, dOrV, dNotV, dNeg, dIf, dCB, dCBL, dCons, dNil, dStar, dVar, dC, dCall, dOp, dOpL, dTup, dLst, dL, dSet, dAsg, dPar, dOwn, dExpr, dNx, dFor, dItL, dItT, dProp, dMeth, dMk, dMk0, dRaise, dPart, dNoPart, dSlL, dSlT, dRevL, dgName, dgTup, dgSets, dOwnIx, dOwnLen, dOwnTup, dApp, dSetI, dRel, relE, dItZip, dItTab, dItEnK, dItEn, dIsS, dJoinG, dSplit, dFmt, dJs, dIsT2, dIndex, dCallS, dYes, wipeE, dXf, dIsX, List.map_cons, List.map_nil, List.cons_append, List.nil_append, List.append_nil, List.length_cons, List.length_nil, List.replicate_succ, List.replicate_zero, Nat.reduceAdd, Nat.reduceSub, List.getElem?_cons_zero, List.getElem?_cons_succ, List.set_cons_zero, List.set_cons_succ, Nat.zero_add, Nat.add_zero, Nat.sub_self, x_add, x_sub, x_mulL, x_mulR, x_div, x_mod, x_lt, x_le, x_gt, x_ge, x_eq, x_ne, x_fro, x_step, x_first, x_last, x_on, x_l0, x_l1, x_l2, x_l3, x_l4, x_t0, x_t1, x_t2, x_t3, x_t4, x_intB, x_intI, x_max2, x_min2, x_lenL, x_lenT, x_sz, x_rs, x_rw, x_rf, x_ra, x_rl, x_slot, x_slotD, true_and, and_true, eq_self, decide_eq_true_eq, Bool.not_eq_true', decide_eq_false_iff_not, res_ok, res_er, x_rng1, x_rng1D, x_rng2, x_rng2E, x_rng2D, z_s, z_w, z_f, z_a, z_l, Bool.and_eq_true, if_true, if_false, Bool.false_eq_true, reduceCtorEq, decide_true, decide_false, Bool.not_true, Bool.not_false, Bool.true_eq_false, not_true_eq_false, not_false_eq_true, y_look_at_person]
      rw [if_pos hin]
      exact hN
    obtain ⟨W, hW, w2, w3⟩ := whole_nat hr hi
    refine seqE [.val (rd K r), .val (.int i), .val (.int k), .val (.int W), .un, .un, .un, .un, .un] (fun N hN => ?_) ?_
    · simp (maxSteps := 10000000) (disch := first | assumption | omega) only [dDef, dRet, dRetL, dSeq, dIfS, dTst, dNotB, dAndB, dOrB, dAndV, dOrV, dNotV, dNeg, dIf, dCB, dCBL, dCons, dNil, dStar, dVar, dC, dCall, dOp, dOpL, dTup, dLst, dL, dSet, dAsg, dPar, dOwn, dExpr, dNx, dFor, dItL, dItT, dProp, dMeth, dMk, dMk0, dRaise, dPart, dNoPart, dSlL, dSlT, dRevL, dgName, dgTup, dgSets, dOwnIx, dOwnLen, dOwnTup, dApp, dSetI, dRel, relE, dItZip, dItTab, dItEnK, dItEn, dIsS, dJoinG, dSplit, dFmt, dJs, dIsT2, dIndex, dCallS, dYes, wipeE, dXf, dIsX, List.map_cons, List.map_nil, List.cons_append, List.nil_append, List.append_nil, List.length_cons, List.length_nil, List.replicate_succ, List.replicate_zero, Nat.reduceAdd, Nat.reduceSub, List.getElem?_cons_zero, List.getElem?_cons_succ, List.set_cons_zero, List.set_cons_succ, Nat.zero_add, Nat.add_zero, Nat.sub_self, x_add, x_sub, x_mulL, x_mulR, x_div, x_mod, x_lt, x_le, x_gt, x_ge, x_eq, x_ne, x_fro, x_step, x_first, x_last, x_on, x_l0, x_l1, x_l2, x_l3, x_l4, x_t0, x_t1, x_t2, x_t3, x_t4, x_intB, x_intI, x_max2, x_min2, x_lenL, x_lenT, x_sz, x_rs, x_rw, x_rf, x_ra, x_rl, x_slot, x_slotD, true_and, and_true, eq_self, decide_eq_true_eq, Bool.not_eq_true', decide_eq_false_iff_not, res_ok, res_er, x_rng1, x_rng1D, x_rng2, x_rng2E, x_rng2D, z_s, z_w, z_f, z_a, z_l, Bool.and_eq_true, if_true, if_false, Bool.false_eq_true, reduceCtorEq, decide_true, decide_false, Bool.not_true, Bool.not_false, Bool.true_eq_false, not_true_eq_false, not_false_eq_true, y_period_of, hW]
      exact hN
    unfold courseD at q2
    rw [hW, show ((W : Nat) : Int).toNat = W by omega] at q2
    have hL := lot_per hr hi hW k
    obtain ⟨L, hLd⟩ : ∃ L : Int → Int, L = fun n => ownLot r i n k := ⟨_, rfl⟩
    have eL : ∀ n, ownLot r i n k = L n := fun n => by rw [hLd]
    rw [← hLd] at hL q2
    simp only [eL] at q2
    obtain ⟨qq, hq⟩ : ∃ qq, qq = firstPer L W := ⟨_, rfl⟩
    rw [← hq] at hL q2
    refine seqE [.val (rd K r), .val (.int i), .val (.int k), .val (.int W), .val (.lst (((upto (2 * W)).map L).map .int)), .un, .un, .un, .un] (fun N hN => ?_) ?_
    · simp (maxSteps := 10000000) (disch := first | assumption | omega) only [dDef, dRet, dRetL, dSeq, dIfS, dTst, dNotB, dAndB, dOrB, dAndV, dOrV, dNotV, dNeg, dIf, dCB, dCBL, dCons, dNil, dStar, dVar, dC, dCall, dOp, dOpL, dTup, dLst, dL, dSet, dAsg, dPar, dOwn, dExpr, dNx, dFor, dItL, dItT, dProp, dMeth, dMk, dMk0, dRaise, dPart, dNoPart, dSlL, dSlT, dRevL, dgName, dgTup, dgSets, dOwnIx, dOwnLen, dOwnTup, dApp, dSetI, dRel, relE, dItZip, dItTab, dItEnK, dItEn, dIsS, dJoinG, dSplit, dFmt, dJs, dIsT2, dIndex, dCallS, dYes, wipeE, dXf, dIsX, List.map_cons, List.map_nil, List.cons_append, List.nil_append, List.append_nil, List.length_cons, List.length_nil, List.replicate_succ, List.replicate_zero, Nat.reduceAdd, Nat.reduceSub, List.getElem?_cons_zero, List.getElem?_cons_succ, List.set_cons_zero, List.set_cons_succ, Nat.zero_add, Nat.add_zero, Nat.sub_self, x_add, x_sub, x_mulL, x_mulR, x_div, x_mod, x_lt, x_le, x_gt, x_ge, x_eq, x_ne, x_fro, x_step, x_first, x_last, x_on, x_l0, x_l1, x_l2, x_l3, x_l4, x_t0, x_t1, x_t2, x_t3, x_t4, x_intB, x_intI, x_max2, x_min2, x_lenL, x_lenT, x_sz, x_rs, x_rw, x_rf, x_ra, x_rl, x_slot, x_slotD, true_and, and_true, eq_self, decide_eq_true_eq, Bool.not_eq_true', decide_eq_false_iff_not, res_ok, res_er, x_rng1, x_rng1D, x_rng2, x_rng2E, x_rng2D, z_s, z_w, z_f, z_a, z_l, Bool.and_eq_true, if_true, if_false, Bool.false_eq_true, reduceCtorEq, decide_true, decide_false, Bool.not_true, Bool.not_false, Bool.true_eq_false, not_true_eq_false, not_false_eq_true, dLc]
      rw [show ((2 : Int) * (W : Int)).toNat = 2 * W by omega]
      refine lc_map (xs := upto (2 * W)) D.int (fun n => .int (L n)) rfl (Nat.le_trans (m := 10000) (by rw [upto_length]; omega) (by decide)) (fun x hx Q1 hh => ?_) ?_
      · simp (maxSteps := 10000000) (disch := first | assumption | omega) only [dDef, dRet, dRetL, dSeq, dIfS, dTst, dNotB, dAndB, dOrB, dAndV, dOrV, dNotV, dNeg, dIf, dCB, dCBL, dCons, dNil, dStar, dVar, dC, dCall, dOp, dOpL, dTup, dLst, dL, dSet, dAsg, dPar, dOwn, dExpr, dNx, dFor, dItL, dItT, dProp, dMeth, dMk, dMk0, dRaise, dPart, dNoPart, dSlL, dSlT, dRevL, dgName, dgTup, dgSets, dOwnIx, dOwnLen, dOwnTup, dApp, dSetI, dRel, relE, dItZip, dItTab, dItEnK, dItEn, dIsS, dJoinG, dSplit, dFmt, dJs, dIsT2, dIndex, dCallS, dYes, wipeE, dXf, dIsX, List.map_cons, List.map_nil, List.cons_append, List.nil_append, List.append_nil, List.length_cons, List.length_nil, List.replicate_succ, List.replicate_zero, Nat.reduceAdd, Nat.reduceSub, List.getElem?_cons_zero, List.getElem?_cons_succ, List.set_cons_zero, List.set_cons_succ, Nat.zero_add, Nat.add_zero, Nat.sub_self, x_add, x_sub, x_mulL, x_mulR, x_div, x_mod, x_lt, x_le, x_gt, x_ge, x_eq, x_ne, x_fro, x_step, x_first, x_last, x_on, x_l0, x_l1, x_l2, x_l3, x_l4, x_t0, x_t1, x_t2, x_t3, x_t4, x_intB, x_intI, x_max2, x_min2, x_lenL, x_lenT, x_sz, x_rs, x_rw, x_rf, x_ra, x_rl, x_slot, x_slotD, true_and, and_true, eq_self, decide_eq_true_eq, Bool.not_eq_true', decide_eq_false_iff_not, res_ok, res_er, x_rng1, x_rng1D, x_rng2, x_rng2E, x_rng2D, z_s, z_w, z_f, z_a, z_l, Bool.and_eq_true, if_true, if_false, Bool.false_eq_true, reduceCtorEq, decide_true, decide_false, Bool.not_true, Bool.not_false, Bool.true_eq_false, not_true_eq_false, not_false_eq_true, y_own_lot]
        rw [eL]
        exact hh
      · rw [int_map]
        exact hN
    have gl : ∀ {x : Int} {Q' : D → Prop}, 0 ≤ x → x < 2 * W → gIx (.lst (((upto (2 * W)).map L).map .int)) (.int x) Q' = Q' (.int (L x)) := fun {x Q'} h0 h1 => gIx_map h0 (upto_map_get h0 (by omega))
    have sl : ∀ {x : Int}, 0 ≤ x → x ≤ 2 * W → Dl.cutD (((upto (2 * W)).map L).map .int) none (some x) = ((upto x.toNat).map L).map .int := fun {x} h0 h1 => by
      obtain ⟨n, rfl⟩ := Int.eq_ofNat_of_zero_le h0
      rw [cutD_lo (by rw [List.length_map, List.length_map, upto_length]; omega), ← List.map_take, take_upto (by omega)]
      rfl
    generalize hfd : (((upto (2 * W)).map L).map D.int) = fd at gl sl ⊢
    refine seqP (fun e => False) (fun N hN => ?_) (fun e h => h.elim)
    show dFor _ _ _ _ _
    unfold dFor
    simp (maxSteps := 10000000) (disch := first | assumption | omega) only [dDef, dRet, dRetL, dSeq, dIfS, dTst, dNotB, dAndB, dOrB, dAndV, dOrV, dNotV, dNeg, dIf, dCB, dCBL, dCons, dNil, dStar, dVar, dC, dCall, dOp, dOpL, dTup, dLst, dL, dSet, dAsg, dPar, dOwn, dExpr, dNx, dFor, dItL, dItT, dProp, dMeth, dMk, dMk0, dRaise, dPart, dNoPart, dSlL, dSlT, dRevL, dgName, dgTup, dgSets, dOwnIx, dOwnLen, dOwnTup, dApp, dSetI, dRel, relE, dItZip, dItTab, dItEnK, dItEn, dIsS, dJoinG, dSplit, dFmt, dJs, dIsT2, dIndex, dCallS, dYes, wipeE, dXf, dIsX, List.map_cons, List.map_nil, List.cons_append, List.nil_append, List.append_nil, List.length_cons, List.length_nil, List.replicate_succ, List.replicate_zero, Nat.reduceAdd, Nat.reduceSub, List.getElem?_cons_zero, List.getElem?_cons_succ, List.set_cons_zero, List.set_cons_succ, Nat.zero_add, Nat.add_zero, Nat.sub_self, x_add, x_sub, x_mulL, x_mulR, x_div, x_mod, x_lt, x_le, x_gt, x_ge, x_eq, x_ne, x_fro, x_step, x_first, x_last, x_on, x_l0, x_l1, x_l2, x_l3, x_l4, x_t0, x_t1, x_t2, x_t3, x_t4, x_intB, x_intI, x_max2, x_min2, x_lenL, x_lenT, x_sz, x_rs, x_rw, x_rf, x_ra, x_rl, x_slot, x_slotD, true_and, and_true, eq_self, decide_eq_true_eq, Bool.not_eq_true', decide_eq_false_iff_not, res_ok, res_er, x_rng1, x_rng1D, x_rng2, x_rng2E, x_rng2D, z_s, z_w, z_f, z_a, z_l, Bool.and_eq_true, if_true, if_false, Bool.false_eq_true, reduceCtorEq, decide_true, decide_false, Bool.not_true, Bool.not_false, Bool.true_eq_false, not_true_eq_false, not_false_eq_true, dLc]
    refine lc_if (xs := rangeL 1 ((W : Int) + 1)) D.int D.int (fun x => decide ((W : Int) % x = 0)) rfl (Nat.le_trans (m := 10000) (by rw [rangeL_length]; omega) (by decide)) (fun x hx Q1 Q2 h1 h2 => ?_) ?_
    · have hx2 := rangeL_mem.mp hx
      simp (maxSteps := 10000000) (disch := first | assumption | omega) only [dDef, dRet, dRetL, dSeq, dIfS, dTst, dNotB, dAndB, dOrB, dAndV, dOrV, dNotV, dNeg, dIf, dCB, dCBL, dCons, dNil, dStar, dVar, dC, dCall, dOp, dOpL, dTup, dLst, dL, dSet, dAsg, dPar, dOwn, dExpr, dNx, dFor, dItL, dItT, dProp, dMeth, dMk, dMk0, dRaise, dPart, dNoPart, dSlL, dSlT, dRevL, dgName, dgTup, dgSets, dOwnIx, dOwnLen, dOwnTup, dApp, dSetI, dRel, relE, dItZip, dItTab, dItEnK, dItEn, dIsS, dJoinG, dSplit, dFmt, dJs, dIsT2, dIndex, dCallS, dYes, wipeE, dXf, dIsX, List.map_cons, List.map_nil, List.cons_append, List.nil_append, List.append_nil, List.length_cons, List.length_nil, List.replicate_succ, List.replicate_zero, Nat.reduceAdd, Nat.reduceSub, List.getElem?_cons_zero, List.getElem?_cons_succ, List.set_cons_zero, List.set_cons_succ, Nat.zero_add, Nat.add_zero, Nat.sub_self, x_add, x_sub, x_mulL, x_mulR, x_div, x_mod, x_lt, x_le, x_gt, x_ge, x_eq, x_ne, x_fro, x_step, x_first, x_last, x_on, x_l0, x_l1, x_l2, x_l3, x_l4, x_t0, x_t1, x_t2, x_t3, x_t4, x_intB, x_intI, x_max2, x_min2, x_lenL, x_lenT, x_sz, x_rs, x_rw, x_rf, x_ra, x_rl, x_slot, x_slotD, true_and, and_true, eq_self, decide_eq_true_eq, Bool.not_eq_true', decide_eq_false_iff_not, res_ok, res_er, x_rng1, x_rng1D, x_rng2, x_rng2E, x_rng2D, z_s, z_w, z_f, z_a, z_l, Bool.and_eq_true, if_true, if_false, Bool.false_eq_true, reduceCtorEq, decide_true, decide_false, Bool.not_true, Bool.not_false, Bool.true_eq_false, not_true_eq_false, not_false_eq_true]
      by_cases hd : (W : Int) % x = 0
      · rw [if_pos hd]; exact h1 (decide_eq_true hd)
      · rw [if_neg hd]; exact h2 (decide_eq_false hd)
    refine for_list D.int ((rangeL 1 ((W : Int) + 1)).filter fun x => decide ((W : Int) % x = 0)) (fun pre e => (∀ x ∈ pre, perB L W x = false) ∧ ∃ a b c d : Slot, e = [.val (rd K r), .val (.int i), .val (.int k), .val (.int W), .val (.lst fd), a, b, c, d]) rfl ⟨fun _ h => (by cases h), .un, .un, .un, .un, rfl⟩ ?_ ?_
    · rintro pre x post hall e N' ⟨hpre, a, b, c, d, rfl⟩ hN'
      have hx := List.mem_filter.mp (show x ∈ (rangeL 1 ((W : Int) + 1)).filter fun x => decide ((W : Int) % x = 0) by rw [hall]; simp)
      have hx2 := rangeL_mem.mp hx.1
      simp (maxSteps := 10000000) (disch := first | assumption | omega) only [dDef, dRet, dRetL, dSeq, dIfS, dTst, dNotB, dAndB, dOrB, dAndV, dOrV, dNotV, dNeg, dIf, dCB, dCBL, dCons, dNil, dStar, dVar, dC, dCall, dOp, dOpL, dTup, dLst, dL, dSet, dAsg, dPar, dOwn, dExpr, dNx, dFor, dItL, dItT, dProp, dMeth, dMk, dMk0, dRaise, dPart, dNoPart, dSlL, dSlT, dRevL, dgName, dgTup, dgSets, dOwnIx, dOwnLen, dOwnTup, dApp, dSetI, dRel, relE, dItZip, dItTab, dItEnK, dItEn, dIsS, dJoinG, dSplit, dFmt, dJs, dIsT2, dIndex, dCallS, dYes, wipeE, dXf, dIsX, List.map_cons, List.map_nil, List.cons_append, List.nil_append, List.append_nil, List.length_cons, List.length_nil, List.replicate_succ, List.replicate_zero, Nat.reduceAdd, Nat.reduceSub, List.getElem?_cons_zero, List.getElem?_cons_succ, List.set_cons_zero, List.set_cons_succ, Nat.zero_add, Nat.add_zero, Nat.sub_self, x_add, x_sub, x_mulL, x_mulR, x_div, x_mod, x_lt, x_le, x_gt, x_ge, x_eq, x_ne, x_fro, x_step, x_first, x_last, x_on, x_l0, x_l1, x_l2, x_l3, x_l4, x_t0, x_t1, x_t2, x_t3, x_t4, x_intB, x_intI, x_max2, x_min2, x_lenL, x_lenT, x_sz, x_rs, x_rw, x_rf, x_ra, x_rl, x_slot, x_slotD, true_and, and_true, eq_self, decide_eq_true_eq, Bool.not_eq_true', decide_eq_false_iff_not, res_ok, res_er, x_rng1, x_rng1D, x_rng2, x_rng2E, x_rng2D, z_s, z_w, z_f, z_a, z_l, Bool.and_eq_true, if_true, if_false, Bool.false_eq_true, reduceCtorEq, decide_true, decide_false, Bool.not_true, Bool.not_false, Bool.true_eq_false, not_true_eq_false, not_false_eq_true]
      rw [gl (by omega) (by omega), gl (by omega) (by omega)]
      simp (maxSteps := 10000000) (disch := first | assumption | omega) only [dDef, dRet, dRetL, dSeq, dIfS, dTst, dNotB, dAndB, dOrB, dAndV, dOrV, dNotV, dNeg, dIf, dCB, dCBL, dCons, dNil, dStar, dVar, dC, dCall, dOp, dOpL, dTup, dLst, dL, dSet, dAsg, dPar, dOwn, dExpr, dNx, dFor, dItL, dItT, dProp, dMeth, dMk, dMk0, dRaise, dPart, dNoPart, dSlL, dSlT, dRevL, dgName, dgTup, dgSets, dOwnIx, dOwnLen, dOwnTup, dApp, dSetI, dRel, relE, dItZip, dItTab, dItEnK, dItEn, dIsS, dJoinG, dSplit, dFmt, dJs, dIsT2, dIndex, dCallS, dYes, wipeE, dXf, dIsX, List.map_cons, List.map_nil, List.cons_append, List.nil_append, List.append_nil, List.length_cons, List.length_nil, List.replicate_succ, List.replicate_zero, Nat.reduceAdd, Nat.reduceSub, List.getElem?_cons_zero, List.getElem?_cons_succ, List.set_cons_zero, List.set_cons_succ, Nat.zero_add, Nat.add_zero, Nat.sub_self, x_add, x_sub, x_mulL, x_mulR, x_div, x_mod, x_lt, x_le, x_gt, x_ge, x_eq, x_ne, x_fro, x_step, x_first, x_last, x_on, x_l0, x_l1, x_l2, x_l3, x_l4, x_t0, x_t1, x_t2, x_t3, x_t4, x_intB, x_intI, x_max2, x_min2, x_lenL, x_lenT, x_sz, x_rs, x_rw, x_rf, x_ra, x_rl, x_slot, x_slotD, true_and, and_true, eq_self, decide_eq_true_eq, Bool.not_eq_true', decide_eq_false_iff_not, res_ok, res_er, x_rng1, x_rng1D, x_rng2, x_rng2E, x_rng2D, z_s, z_w, z_f, z_a, z_l, Bool.and_eq_true, if_true, if_false, Bool.false_eq_true, reduceCtorEq, decide_true, decide_false, Bool.not_true, Bool.not_false, Bool.true_eq_false, not_true_eq_false, not_false_eq_true, dLc]
      rw [show ((W : Int)).toNat = W by omega]
      refine lc_map (xs := upto W) D.int (fun n => .bl (decide (L (n + x) - L n = L x - L 0))) rfl (Nat.le_trans (m := 10000) (by rw [upto_length]; omega) (by decide)) (fun y hy Q1 hh => ?_) ?_
      · have hy2 := upto_mem.mp hy
        simp (maxSteps := 10000000) (disch := first | assumption | omega) only [dDef, dRet, dRetL, dSeq, dIfS, dTst, dNotB, dAndB, dOrB, dAndV, dOrV, dNotV, dNeg, dIf, dCB, dCBL, dCons, dNil, dStar, dVar, dC, dCall, dOp, dOpL, dTup, dLst, dL, dSet, dAsg, dPar, dOwn, dExpr, dNx, dFor, dItL, dItT, dProp, dMeth, dMk, dMk0, dRaise, dPart, dNoPart, dSlL, dSlT, dRevL, dgName, dgTup, dgSets, dOwnIx, dOwnLen, dOwnTup, dApp, dSetI, dRel, relE, dItZip, dItTab, dItEnK, dItEn, dIsS, dJoinG, dSplit, dFmt, dJs, dIsT2, dIndex, dCallS, dYes, wipeE, dXf, dIsX, List.map_cons, List.map_nil, List.cons_append, List.nil_append, List.append_nil, List.length_cons, List.length_nil, List.replicate_succ, List.replicate_zero, Nat.reduceAdd, Nat.reduceSub, List.getElem?_cons_zero, List.getElem?_cons_succ, List.set_cons_zero, List.set_cons_succ, Nat.zero_add, Nat.add_zero, Nat.sub_self, x_add, x_sub, x_mulL, x_mulR, x_div, x_mod, x_lt, x_le, x_gt, x_ge, x_eq, x_ne, x_fro, x_step, x_first, x_last, x_on, x_l0, x_l1, x_l2, x_l3, x_l4, x_t0, x_t1, x_t2, x_t3, x_t4, x_intB, x_intI, x_max2, x_min2, x_lenL, x_lenT, x_sz, x_rs, x_rw, x_rf, x_ra, x_rl, x_slot, x_slotD, true_and, and_true, eq_self, decide_eq_true_eq, Bool.not_eq_true', decide_eq_false_iff_not, res_ok, res_er, x_rng1, x_rng1D, x_rng2, x_rng2E, x_rng2D, z_s, z_w, z_f, z_a, z_l, Bool.and_eq_true, if_true, if_false, Bool.false_eq_true, reduceCtorEq, decide_true, decide_false, Bool.not_true, Bool.not_false, Bool.true_eq_false, not_true_eq_false, not_false_eq_true]
        rw [gl (by omega) (by omega), gl (by omega) (by omega)]
        simp (maxSteps := 10000000) (disch := first | assumption | omega) only [dDef, dRet, dRetL, dSeq, dIfS, dTst, dNotB, dAndB, dOrB, dAndV, dOrV, dNotV, dNeg, dIf, dCB, dCBL, dCons, dNil, dStar, dVar, dC, dCall, dOp, dOpL, dTup, dLst, dL, dSet, dAsg, dPar, dOwn, dExpr, dNx, dFor, dItL, dItT, dProp, dMeth, dMk, dMk0, dRaise, dPart, dNoPart, dSlL, dSlT, dRevL, dgName, dgTup, dgSets, dOwnIx, dOwnLen, dOwnTup, dApp, dSetI, dRel, relE, dItZip, dItTab, dItEnK, dItEn, dIsS, dJoinG, dSplit, dFmt, dJs, dIsT2, dIndex, dCallS, dYes, wipeE, dXf, dIsX, List.map_cons, List.map_nil, List.cons_append, List.nil_append, List.append_nil, List.length_cons, List.length_nil, List.replicate_succ, List.replicate_zero, Nat.reduceAdd, Nat.reduceSub, List.getElem?_cons_zero, List.getElem?_cons_succ, List.set_cons_zero, List.set_cons_succ, Nat.zero_add, Nat.add_zero, Nat.sub_self, x_add, x_sub, x_mulL, x_mulR, x_div, x_mod, x_lt, x_le, x_gt, x_ge, x_eq, x_ne, x_fro, x_step, x_first, x_last, x_on, x_l0, x_l1, x_l2, x_l3, x_l4, x_t0, x_t1, x_t2, x_t3, x_t4, x_intB, x_intI, x_max2, x_min2, x_lenL, x_lenT, x_sz, x_rs, x_rw, x_rf, x_ra, x_rl, x_slot, x_slotD, true_and, and_true, eq_self, decide_eq_true_eq, Bool.not_eq_true', decide_eq_false_iff_not, res_ok, res_er, x_rng1, x_rng1D, x_rng2, x_rng2E, x_rng2D, z_s, z_w, z_f, z_a, z_l, Bool.and_eq_true, if_true, if_false, Bool.false_eq_true, reduceCtorEq, decide_true, decide_false, Bool.not_true, Bool.not_false, Bool.true_eq_false, not_true_eq_false, not_false_eq_true]
        exact hh
      · rw [bl_map, x_all]
        show (if perB L W x = true then _ else _)
        by_cases hb : perB L W x = true
        · have hxq : x = qq := by
            have h1 : ¬ x < qq := fun z => by rw [hL.min x (by omega) z] at hb; cases hb
            have hmem : qq ∈ (rangeL 1 ((W : Int) + 1)).filter fun x => decide ((W : Int) % x = 0) := List.mem_filter.mpr ⟨rangeL_mem.mpr ⟨hL.lo, by have := hL.hi; omega⟩, decide_eq_true hL.dv⟩
            have asc := (rangeL_asc 1 ((W : Int) + 1)).filter (fun x => decide ((W : Int) % x = 0))
            rw [hall] at hmem asc
            rcases List.mem_append.mp hmem with h | h
            · have z := hpre _ h
              rw [hL.per] at z
              cases z
            · rcases List.mem_cons.mp h with h | h
              · exact h.symm
              · have := (List.pairwise_append.mp asc).2.1
                have := (List.pairwise_cons.mp this).1 _ h
                omega
          rw [if_pos hb]
          subst hxq
          rw [sl (by omega) (by omega)]
          simp only [gTupleOf]
          exact q2
        · rw [if_neg hb]
          exact hN' _ ⟨fun y hy => by
            rcases List.mem_append.mp hy with h | h
            · exact hpre y h
            · rw [List.mem_singleton] at h; subst h; simpa using hb, _, _, _, _, rfl⟩
    · rintro e ⟨hpre, _⟩
      have hmem : qq ∈ (rangeL 1 ((W : Int) + 1)).filter fun x => decide ((W : Int) % x = 0) := List.mem_filter.mpr ⟨rangeL_mem.mpr ⟨hL.lo, by have := hL.hi; omega⟩, decide_eq_true hL.dv⟩
      have := hpre _ hmem
      rw [hL.per] at this
      cases this
  · rw [if_neg hin] at q1
    simp (maxSteps := 10000000) (disch := first | assumption | omega) only [dDef, dRet, dRetL, dSeq, dIfS, dTst, dNotB, dAndB, dOrB, dAndV, dOrV, dNotV, dNeg, dIf, dCB, dCBL, dCons, dNil, dStar, dVar, dC, dCall, dOp, dOpL, dTup, dLst, dL, dSet, dAsg, dPar, dOwn, dExpr, dNx, dFor, dItL, dItT, dProp, dMeth, dMk, dMk0, dRaise, dPart, dNoPart, dSlL, dSlT, dRevL, dgName, dgTup, dgSets, dOwnIx, dOwnLen, dOwnTup, dApp, dSetI, dRel, relE, dItZip, dItTab, dItEnK, dItEn, dIsS, dJoinG, dSplit, dFmt, dJs, dIsT2, dIndex, dCallS, dYes, wipeE, dXf, dIsX, List.map_cons, List.map_nil, List.cons_append, List.nil_append, List.append_nil, List.length_cons, List.length_nil, List.replicate_succ, List.replicate_zero, Nat.reduceAdd, Nat.reduceSub, List.getElem?_cons_zero, List.getElem?_cons_succ, List.set_cons_zero, List.set_cons_succ, Nat.zero_add, Nat.add_zero, Nat.sub_self, x_add, x_sub, x_mulL, x_mulR, x_div, x_mod, x_lt, x_le, x_gt, x_ge, x_eq, x_ne, x_fro, x_step, x_first, x_last, x_on, x_l0, x_l1, x_l2, x_l3, x_l4, x_t0, x_t1, x_t2, x_t3, x_t4, x_intB, x_intI, x_max2, x_min2, x_lenL, x_lenT, x_sz, x_rs, x_rw, x_rf, x_ra, x_rl, x_slot, x_slotD, true_and, and_true, eq_self, decide_eq_true_eq, Bool.not_eq_true', decide_eq_false_iff_not, res_ok, res_er, x_rng1, x_rng1D, x_rng2, x_rng2E, x_rng2D, z_s, z_w, z_f, z_a, z_l, Bool.and_eq_true, if_true, if_false, Bool.false_eq_true, reduceCtorEq, decide_true, decide_false, Bool.not_true, Bool.not_false, Bool.true_eq_false, not_true_eq_false, not_false_eq_true, y_look_at_person]
    rw [if_neg hin]
    exact q1
theorem maxL_add {c : Int} : ∀ {l : List Int}, l ≠ [] → maxL (l.map fun x => x + c) = maxL l + c
  | [], h => (h rfl).elim
  | [a], _ => rfl
  | a :: b :: l, _ => by
    have ih := maxL_add (c := c) (l := b :: l) (by simp)
    have e1 : maxL ((a :: b :: l).map fun x => x + c) = if a + c < maxL ((b :: l).map fun x => x + c) then maxL ((b :: l).map fun x => x + c) else a + c := rfl
    have e2 : maxL (a :: b :: l) = if a < maxL (b :: l) then maxL (b :: l) else a := rfl
    rw [e1, e2, ih]
    by_cases h : a < maxL (b :: l)
    · rw [if_pos h, if_pos (by omega)]
    · rw [if_neg h, if_neg (by omega)]
theorem lots_shift {r : Ru} {m n : Int} (hr : r.Ok) (hm : Mo m) : lotsL r m (n + whole r m) = (lotsL r m n).map fun x => x + rnd r m * r.s * mx r := by
  unfold lotsL
  rw [List.map_map]
  exact List.map_congr_left fun p _ => lot_one_more hr hm
theorem favB_iff {r : Ru} {m : Int} {W : Nat} {p : Int} : favB r m W p = true ↔ ∀ n : Int, 0 ≤ n → n < W → ownLot r m n p = maxL (lotsL r m n) := by
  unfold favB
  rw [List.all_eq_true]
  constructor
  · intro h n h0 h1
    have := h _ (List.mem_map.mpr ⟨n, upto_mem.mpr ⟨h0, h1⟩, rfl⟩)
    simpa using this
  · intro h b hb
    obtain ⟨n, hn, rfl⟩ := List.mem_map.mp hb
    have := upto_mem.mp hn
    simpa using h n this.1 this.2
/-- twice as far tells the same -/
theorem favB_two {r : Ru} {m : Int} {W : Nat} {p : Int} (hr : r.Ok) (hm : Mo m) (hW : whole r m = (W : Int)) : favB r m (2 * W) p = favB r m W p := by
  rw [Bool.eq_iff_iff, favB_iff, favB_iff]
  constructor
  · intro h n h0 h1
    exact h n h0 (by omega)
  · intro h n h0 h1
    by_cases hn : n < W
    · exact h n h0 hn
    · have e := h (n - W) (by omega) (by omega)
      have e1 : n = (n - W) + whole r m := by omega
      rw [e1, lot_one_more hr hm, lots_shift hr hm, maxL_add (lotsL_ne hm), e]
theorem law_favoured (K : PySem.W.Frag) (ds : List D) (Q : D → Prop) (R : DX) (h : F_favoured K ds Q R) : dDef 6 (g_favoured K) ds Q R := by
  obtain ⟨r, m, rfl, hr, hm, q⟩ := h
  have z0 : isD (.int 0) = true := rfl
  unfold dDef g_favoured
  rcases look0 (K := K) (m := m) with ⟨e, he⟩ | ⟨he, i, rfl, hi⟩
  · rw [he] at q
    simp (maxSteps := 10000000) (disch := first | assumption | omega) only [dDef, dRet, dRetL, dSeq, dIfS, dTst, dNotB, dAndB, dOrB, dAndV, dOrV, dNotV, dNeg, dIf, dCB, dCBL, dCons, dNil, dStar, dVar, dC, dCall, dOp, dOpL, dTup, dLst, dL, dSet, dAsg, dPar, dOwn, dExpr, dNx, dFor, dItL, dItT, dProp, dMeth, dMk, dMk0, dRaise, dPart, dNoPart, dSlL, dSlT, dRevL, dgName, dgTup, dgSets, dOwnIx, dOwnLen, dOwnTup, dApp, dSetI, dRel, relE, dItZip, dItTab, dItEnK, dItEn, dIsS, dJoinG, dSplit, dFmt, dJs, dIsT2, dIndex, dCallS, dYes, wipeE, dXf, dIsX, List.map_cons, List.map_nil, List.cons_append, List.nil_append, List.append_nil, List.length_cons, List.length_nil, List.replicate_succ, List.replicate_zero, Nat.reduceAdd, Nat.reduceSub, List.getElem?_cons_zero, List.getElem?_cons_succ, List.set_cons_zero, List.set_cons_succ, Nat.zero_add, Nat.add_zero, Nat.sub_self, x_add, x_sub, x_mulL, x_mulR, x_div, x_mod, x_lt, x_le, x_gt, x_ge, x_eq, x_ne, x_fro, x_step, x_first, x_last, x_on, x_l0, x_l1, x_l2, x_l3, x_l4, x_t0, x_t1, x_t2, x_t3, x_t4, x_intB, x_intI, x_max2, x_min2, x_lenL, x_lenT, x_sz, x_rs, x_rw, x_rf, x_ra, x_rl, x_slot, x_slotD, true_and, and_true, eq_self, decide_eq_true_eq, Bool.not_eq_true', decide_eq_false_iff_not, res_ok, res_er, x_rng1, x_rng1D, x_rng2, x_rng2E, x_rng2D, z_s, z_w, z_f, z_a, z_l, Bool.and_eq_true, if_true, if_false, Bool.false_eq_true, reduceCtorEq, decide_true, decide_false, Bool.not_true, Bool.not_false, Bool.true_eq_false, not_true_eq_false, not_false_eq_true, y_look_at, he]
    exact q
  rw [he] at q
  have q1 := q i rfl
  have i1 := hi.lo; have i2 := hi.hi
  obtain ⟨W, hW, w2, w3⟩ := whole_nat hr hi
  refine seqE [.val (rd K r), .val (.int i), .un, .un, .un, .un] (fun N hN => ?_) ?_
  · simp (maxSteps := 10000000) (disch := first | assumption | omega) only [dDef, dRet, dRetL, dSeq, dIfS, dTst, dNotB, dAndB, dOrB, dAndV, dOrV, dNotV, dNeg, dIf, dCB, dCBL, dCons, dNil, dStar, dVar, dC, dCall, dOp, dOpL, dTup, dLst, dL, dSet, dAsg, dPar, dOwn, dExpr, dNx, dFor, dItL, dItT, dProp, dMeth, dMk, dMk0, dRaise, dPart, dNoPart, dSlL, dSlT, dRevL, dgName, dgTup, dgSets, dOwnIx, dOwnLen, dOwnTup, dApp, dSetI, dRel, relE, dItZip, dItTab, dItEnK, dItEn, dIsS, dJoinG, dSplit, dFmt, dJs, dIsT2, dIndex, dCallS, dYes, wipeE, dXf, dIsX, List.map_cons, List.map_nil, List.cons_append, List.nil_append, List.append_nil, List.length_cons, List.length_nil, List.replicate_succ, List.replicate_zero, Nat.reduceAdd, Nat.reduceSub, List.getElem?_cons_zero, List.getElem?_cons_succ, List.set_cons_zero, List.set_cons_succ, Nat.zero_add, Nat.add_zero, Nat.sub_self, x_add, x_sub, x_mulL, x_mulR, x_div, x_mod, x_lt, x_le, x_gt, x_ge, x_eq, x_ne, x_fro, x_step, x_first, x_last, x_on, x_l0, x_l1, x_l2, x_l3, x_l4, x_t0, x_t1, x_t2, x_t3, x_t4, x_intB, x_intI, x_max2, x_min2, x_lenL, x_lenT, x_sz, x_rs, x_rw, x_rf, x_ra, x_rl, x_slot, x_slotD, true_and, and_true, eq_self, decide_eq_true_eq, Bool.not_eq_true', decide_eq_false_iff_not, res_ok, res_er, x_rng1, x_rng1D, x_rng2, x_rng2E, x_rng2D, z_s, z_w, z_f, z_a, z_l, Bool.and_eq_true, if_true, if_false, Bool.false_eq_true, reduceCtorEq, decide_true, decide_false, Bool.not_true, Bool.not_false, Bool.true_eq_false, not_true_eq_false, not_false_eq_true, y_look_at, he]
    exact hN
  refine seqE [.val (rd K r), .val (.int i), .val (.lst ((upto W).map fun n => il (lotsL r i n))), .un, .un, .un] (fun N hN => ?_) ?_
  · simp (maxSteps := 10000000) (disch := first | assumption | omega) only [dDef, dRet, dRetL, dSeq, dIfS, dTst, dNotB, dAndB, dOrB, dAndV, dOrV, dNotV, dNeg, dIf, dCB, dCBL, dCons, dNil, dStar, dVar, dC, dCall, dOp, dOpL, dTup, dLst, dL, dSet, dAsg, dPar, dOwn, dExpr, dNx, dFor, dItL, dItT, dProp, dMeth, dMk, dMk0, dRaise, dPart, dNoPart, dSlL, dSlT, dRevL, dgName, dgTup, dgSets, dOwnIx, dOwnLen, dOwnTup, dApp, dSetI, dRel, relE, dItZip, dItTab, dItEnK, dItEn, dIsS, dJoinG, dSplit, dFmt, dJs, dIsT2, dIndex, dCallS, dYes, wipeE, dXf, dIsX, List.map_cons, List.map_nil, List.cons_append, List.nil_append, List.append_nil, List.length_cons, List.length_nil, List.replicate_succ, List.replicate_zero, Nat.reduceAdd, Nat.reduceSub, List.getElem?_cons_zero, List.getElem?_cons_succ, List.set_cons_zero, List.set_cons_succ, Nat.zero_add, Nat.add_zero, Nat.sub_self, x_add, x_sub, x_mulL, x_mulR, x_div, x_mod, x_lt, x_le, x_gt, x_ge, x_eq, x_ne, x_fro, x_step, x_first, x_last, x_on, x_l0, x_l1, x_l2, x_l3, x_l4, x_t0, x_t1, x_t2, x_t3, x_t4, x_intB, x_intI, x_max2, x_min2, x_lenL, x_lenT, x_sz, x_rs, x_rw, x_rf, x_ra, x_rl, x_slot, x_slotD, true_and, and_true, eq_self, decide_eq_true_eq, Bool.not_eq_true', decide_eq_false_iff_not, res_ok, res_er, x_rng1, x_rng1D, x_rng2, x_rng2E, x_rng2D, z_s, z_w, z_f, z_a, z_l, Bool.and_eq_true, if_true, if_false, Bool.false_eq_true, reduceCtorEq, decide_true, decide_false, Bool.not_true, Bool.not_false, Bool.true_eq_false, not_true_eq_false, not_false_eq_true, dLc, y_period_of, hW]
    rw [show ((W : Int)).toNat = W by omega]
    refine lc_map (xs := upto W) D.int (fun n => il (lotsL r i n)) rfl (Nat.le_trans (m := 10000) (by rw [upto_length]; omega) (by decide)) (fun x hx Q1 hh => ?_) ?_
    · simp (maxSteps := 10000000) (disch := first | assumption | omega) only [dDef, dRet, dRetL, dSeq, dIfS, dTst, dNotB, dAndB, dOrB, dAndV, dOrV, dNotV, dNeg, dIf, dCB, dCBL, dCons, dNil, dStar, dVar, dC, dCall, dOp, dOpL, dTup, dLst, dL, dSet, dAsg, dPar, dOwn, dExpr, dNx, dFor, dItL, dItT, dProp, dMeth, dMk, dMk0, dRaise, dPart, dNoPart, dSlL, dSlT, dRevL, dgName, dgTup, dgSets, dOwnIx, dOwnLen, dOwnTup, dApp, dSetI, dRel, relE, dItZip, dItTab, dItEnK, dItEn, dIsS, dJoinG, dSplit, dFmt, dJs, dIsT2, dIndex, dCallS, dYes, wipeE, dXf, dIsX, List.map_cons, List.map_nil, List.cons_append, List.nil_append, List.append_nil, List.length_cons, List.length_nil, List.replicate_succ, List.replicate_zero, Nat.reduceAdd, Nat.reduceSub, List.getElem?_cons_zero, List.getElem?_cons_succ, List.set_cons_zero, List.set_cons_succ, Nat.zero_add, Nat.add_zero, Nat.sub_self, x_add, x_sub, x_mulL, x_mulR, x_div, x_mod, x_lt, x_le, x_gt, x_ge, x_eq, x_ne, x_fro, x_step, x_first, x_last, x_on, x_l0, x_l1, x_l2, x_l3, x_l4, x_t0, x_t1, x_t2, x_t3, x_t4, x_intB, x_intI, x_max2, x_min2, x_lenL, x_lenT, x_sz, x_rs, x_rw, x_rf, x_ra, x_rl, x_slot, x_slotD, true_and, and_true, eq_self, decide_eq_true_eq, Bool.not_eq_true', decide_eq_false_iff_not, res_ok, res_er, x_rng1, x_rng1D, x_rng2, x_rng2E, x_rng2D, z_s, z_w, z_f, z_a, z_l, Bool.and_eq_true, if_true, if_false, Bool.false_eq_true, reduceCtorEq, decide_true, decide_false, Bool.not_true, Bool.not_false, Bool.true_eq_false, not_true_eq_false, not_false_eq_true, y_own_lots]
      exact hh
    · exact hN
  simp (maxSteps := 10000000) (disch := first | assumption | omega) only [dDef, dRet, dRetL, dSeq, dIfS, dTst, dNotB, dAndB, dOrB, dAndV, dOrV, dNotV, dNeg, dIf, dCB, dCBL, dCons, dNil, dStar, dVar, dC, dCall, dOp, dOpL, dTup, dLst, dL, dSet, dAsg, dPar, dOwn, dExpr, dNx, dFor, dItL, dItT, dProp, dMeth, dMk, dMk0, dRaise, dPart, dNoPart, dSlL, dSlT, dRevL, dgName, dgTup, dgSets, dOwnIx, dOwnLen, dOwnTup, dApp, dSetI, dRel, relE, dItZip, dItTab, dItEnK, dItEn, dIsS, dJoinG, dSplit, dFmt, dJs, dIsT2, dIndex, dCallS, dYes, wipeE, dXf, dIsX, List.map_cons, List.map_nil, List.cons_append, List.nil_append, List.append_nil, List.length_cons, List.length_nil, List.replicate_succ, List.replicate_zero, Nat.reduceAdd, Nat.reduceSub, List.getElem?_cons_zero, List.getElem?_cons_succ, List.set_cons_zero, List.set_cons_succ, Nat.zero_add, Nat.add_zero, Nat.sub_self, x_add, x_sub, x_mulL, x_mulR, x_div, x_mod, x_lt, x_le, x_gt, x_ge, x_eq, x_ne, x_fro, x_step, x_first, x_last, x_on, x_l0, x_l1, x_l2, x_l3, x_l4, x_t0, x_t1, x_t2, x_t3, x_t4, x_intB, x_intI, x_max2, x_min2, x_lenL, x_lenT, x_sz, x_rs, x_rw, x_rf, x_ra, x_rl, x_slot, x_slotD, true_and, and_true, eq_self, decide_eq_true_eq, Bool.not_eq_true', decide_eq_false_iff_not, res_ok, res_er, x_rng1, x_rng1D, x_rng2, x_rng2E, x_rng2D, z_s, z_w, z_f, z_a, z_l, Bool.and_eq_true, if_true, if_false, Bool.false_eq_true, reduceCtorEq, decide_true, decide_false, Bool.not_true, Bool.not_false, Bool.true_eq_false, not_true_eq_false, not_false_eq_true, dLc]
  refine lc_if (xs := upto i.toNat) D.int D.int (favB r i W) rfl (len_le (by rw [upto_length]; omega)) (fun p hp Q1 Q2 h1 h2 => ?_) ?_
  · have hp2 := upto_mem.mp hp
    simp (maxSteps := 10000000) (disch := first | assumption | omega) only [dDef, dRet, dRetL, dSeq, dIfS, dTst, dNotB, dAndB, dOrB, dAndV, dOrV, dNotV, dNeg, dIf, dCB, dCBL, dCons, dNil, dStar, dVar, dC, dCall, dOp, dOpL, dTup, dLst, dL, dSet, dAsg, dPar, dOwn, dExpr, dNx, dFor, dItL, dItT, dProp, dMeth, dMk, dMk0, dRaise, dPart, dNoPart, dSlL, dSlT, dRevL, dgName, dgTup, dgSets, dOwnIx, dOwnLen, dOwnTup, dApp, dSetI, dRel, relE, dItZip, dItTab, dItEnK, dItEn, dIsS, dJoinG, dSplit, dFmt, dJs, dIsT2, dIndex, dCallS, dYes, wipeE, dXf, dIsX, List.map_cons, List.map_nil, List.cons_append, List.nil_append, List.append_nil, List.length_cons, List.length_nil, List.replicate_succ, List.replicate_zero, Nat.reduceAdd, Nat.reduceSub, List.getElem?_cons_zero, List.getElem?_cons_succ, List.set_cons_zero, List.set_cons_succ, Nat.zero_add, Nat.add_zero, Nat.sub_self, x_add, x_sub, x_mulL, x_mulR, x_div, x_mod, x_lt, x_le, x_gt, x_ge, x_eq, x_ne, x_fro, x_step, x_first, x_last, x_on, x_l0, x_l1, x_l2, x_l3, x_l4, x_t0, x_t1, x_t2, x_t3, x_t4, x_intB, x_intI, x_max2, x_min2, x_lenL, x_lenT, x_sz, x_rs, x_rw, x_rf, x_ra, x_rl, x_slot, x_slotD, true_and, and_true, eq_self, decide_eq_true_eq, Bool.not_eq_true', decide_eq_false_iff_not, res_ok, res_er, x_rng1, x_rng1D, x_rng2, x_rng2E, x_rng2D, z_s, z_w, z_f, z_a, z_l, Bool.and_eq_true, if_true, if_false, Bool.false_eq_true, reduceCtorEq, decide_true, decide_false, Bool.not_true, Bool.not_false, Bool.true_eq_false, not_true_eq_false, not_false_eq_true, dLc]
    refine lc_map (xs := upto W) (fun n => il (lotsL r i n)) (fun n => .bl (decide (ownLot r i n p = maxL (lotsL r i n)))) rfl (Nat.le_trans (m := 10000) (by rw [upto_length]; omega) (by decide)) (fun n hn Q1 hh => ?_) ?_
    · simp (maxSteps := 10000000) (disch := first | assumption | omega) only [dDef, dRet, dRetL, dSeq, dIfS, dTst, dNotB, dAndB, dOrB, dAndV, dOrV, dNotV, dNeg, dIf, dCB, dCBL, dCons, dNil, dStar, dVar, dC, dCall, dOp, dOpL, dTup, dLst, dL, dSet, dAsg, dPar, dOwn, dExpr, dNx, dFor, dItL, dItT, dProp, dMeth, dMk, dMk0, dRaise, dPart, dNoPart, dSlL, dSlT, dRevL, dgName, dgTup, dgSets, dOwnIx, dOwnLen, dOwnTup, dApp, dSetI, dRel, relE, dItZip, dItTab, dItEnK, dItEn, dIsS, dJoinG, dSplit, dFmt, dJs, dIsT2, dIndex, dCallS, dYes, wipeE, dXf, dIsX, List.map_cons, List.map_nil, List.cons_append, List.nil_append, List.append_nil, List.length_cons, List.length_nil, List.replicate_succ, List.replicate_zero, Nat.reduceAdd, Nat.reduceSub, List.getElem?_cons_zero, List.getElem?_cons_succ, List.set_cons_zero, List.set_cons_succ, Nat.zero_add, Nat.add_zero, Nat.sub_self, x_add, x_sub, x_mulL, x_mulR, x_div, x_mod, x_lt, x_le, x_gt, x_ge, x_eq, x_ne, x_fro, x_step, x_first, x_last, x_on, x_l0, x_l1, x_l2, x_l3, x_l4, x_t0, x_t1, x_t2, x_t3, x_t4, x_intB, x_intI, x_max2, x_min2, x_lenL, x_lenT, x_sz, x_rs, x_rw, x_rf, x_ra, x_rl, x_slot, x_slotD, true_and, and_true, eq_self, decide_eq_true_eq, Bool.not_eq_true', decide_eq_false_iff_not, res_ok, res_er, x_rng1, x_rng1D, x_rng2, x_rng2E, x_rng2D, z_s, z_w, z_f, z_a, z_l, Bool.and_eq_true, if_true, if_false, Bool.false_eq_true, reduceCtorEq, decide_true, decide_false, Bool.not_true, Bool.not_false, Bool.true_eq_false, not_true_eq_false, not_false_eq_true]
      rw [show gIx (il (lotsL r i n)) (.int p) = gIx (.lst ((lotsL r i n).map .int)) (.int p) from rfl]
      rw [gIx_map hp2.1 (show (lotsL r i n)[p.toNat]? = some (ownLot r i n p) from upto_map_get hp2.1 hp2.2)]
      simp (maxSteps := 10000000) (disch := first | assumption | omega) only [dDef, dRet, dRetL, dSeq, dIfS, dTst, dNotB, dAndB, dOrB, dAndV, dOrV, dNotV, dNeg, dIf, dCB, dCBL, dCons, dNil, dStar, dVar, dC, dCall, dOp, dOpL, dTup, dLst, dL, dSet, dAsg, dPar, dOwn, dExpr, dNx, dFor, dItL, dItT, dProp, dMeth, dMk, dMk0, dRaise, dPart, dNoPart, dSlL, dSlT, dRevL, dgName, dgTup, dgSets, dOwnIx, dOwnLen, dOwnTup, dApp, dSetI, dRel, relE, dItZip, dItTab, dItEnK, dItEn, dIsS, dJoinG, dSplit, dFmt, dJs, dIsT2, dIndex, dCallS, dYes, wipeE, dXf, dIsX, List.map_cons, List.map_nil, List.cons_append, List.nil_append, List.append_nil, List.length_cons, List.length_nil, List.replicate_succ, List.replicate_zero, Nat.reduceAdd, Nat.reduceSub, List.getElem?_cons_zero, List.getElem?_cons_succ, List.set_cons_zero, List.set_cons_succ, Nat.zero_add, Nat.add_zero, Nat.sub_self, x_add, x_sub, x_mulL, x_mulR, x_div, x_mod, x_lt, x_le, x_gt, x_ge, x_eq, x_ne, x_fro, x_step, x_first, x_last, x_on, x_l0, x_l1, x_l2, x_l3, x_l4, x_t0, x_t1, x_t2, x_t3, x_t4, x_intB, x_intI, x_max2, x_min2, x_lenL, x_lenT, x_sz, x_rs, x_rw, x_rf, x_ra, x_rl, x_slot, x_slotD, true_and, and_true, eq_self, decide_eq_true_eq, Bool.not_eq_true', decide_eq_false_iff_not, res_ok, res_er, x_rng1, x_rng1D, x_rng2, x_rng2E, x_rng2D, z_s, z_w, z_f, z_a, z_l, Bool.and_eq_true, if_true, if_false, Bool.false_eq_true, reduceCtorEq, decide_true, decide_false, Bool.not_true, Bool.not_false, Bool.true_eq_false, not_true_eq_false, not_false_eq_true, x_maxL (lotsL_ne hi)]
      exact hh
    · rw [bl_map, x_all]
      show (if favB r i W p = true then _ else _)
      cases hb : favB r i W p with
      | true => exact h1 hb
      | false => exact h2 hb
  · unfold favL at q1
    rw [hW, show ((W : Int)).toNat = W by omega] at q1
    exact q1
end Pr

set_option maxHeartbeats 4000000
/-! A def as a value, called by a local name; a walk over a list or a tuple. -/
namespace Gx
open PySem PySem.Spec PyProof.Rows L2 Dl Dv Dk
/-- a def at an address -/
structure CalA (P : Program) (w : World) (K : PySem.W.Frag) (mg : Str → Option Value) (base : Heap) (k : Nat) (f : Addr) (n : Nat) (F : DF) : Prop where
  ex : ∃ fd ps, FnOk P w K mg base (L2.CX P w) k f fd ps (spD K n F) ∧ PySem.W.keepIn K (.ref f) = true ∧ Binds K fd ps []
def dCallV (i : Nat) (f : Addr) (n : Nat) (F : DF) (fs : DA) : DE := fun env Q R => env[i]? = some (.val (.raw (.ref f))) ∧ fs env (fun ds => ds.length = n ∧ F ds Q R) R
def dEither (f g : DE) : DE := fun env Q R => f env Q R ∨ g env Q R
section
variable {X : Cx} {W : WX} {pos p : Pos} {e : Expr} {es : List Expr} {fs : DA} {x : Str} {j k n i : Nat} {F : DF} {f : Addr} {fe ge : DE} {tg : Expr}
theorem pd_callV (c : Cn X W j) (C : CalA X.prog X.w X.K X.mg X.base k f n F) (ha : PDA X W (e :: es) fs) (hk : k ≤ j := by decide) (hN : X.N[i]? = some x := by rfl) (hv : Vis X.env.scope x := by first | exact .inl rfl | exact .inr (.inl rfl) | exact .inr (.inr rfl))
    (hdb : (x == ("__debug__" : Str)) = false := by decide) (hcd : (x == ("__classdict__" : Str)) = false := by decide) (he : starEach (e :: es) X.env = (false, eval e X.env) :: starEach es X.env := by rfl) (hpl : (backTo pos (starEach es X.env)).any (·.1) = false := by rfl) :
    PD X W (.Call (.Name x p) (e :: es) [] pos) (dCallV i f n F fs) := by
  obtain ⟨fd, ps, FO, hkp, hb⟩ := C.ex
  refine ⟨fun pins s σ H Q I ⟨Z, O, env, Q0, R0, at_, hf, xk, q⟩ => ?_⟩
  obtain ⟨y, h1, h2⟩ := at_.env.val hf.1
  cases h2
  have hv0 := (pe_var (X := X) (pos := p) hN hv hdb hcd).run pins s σ H (fun y G => y = .ref f ∧ G = H) I ⟨.ref f, h1, rfl, rfl⟩
  refine wpAny_Call_Name_kw (thn hv0 fun u s1 ⟨y, G, J, ry, ey, eg⟩ => ?_)
  subst ey eg
  cases ry
  have ht := (DTA.mk (Q := fun vs G2 => spD X.K n F vs G2 Q (WE W σ)) at_ hf.2 xk fun ds hds vs G2 st r => ⟨by rw [r.length]; exact hds.1, Z, ds, Q0, R0, st.good, r, hds.2, fun z hz cls d G3 s3 rx => xk z hz cls d G3 (st.trans s3) rx, fun d hd v G3 s3 rv => q d hd v G3 (st.trans s3) rv⟩)
  refine PySem.W.callWith_K (h₀ := X.base) J.ok.mod.kin hkp (thn (ha.run pos pins s1 σ _ _ J ht) fun us s2 ⟨vs, G2, J2, r, hq⟩ => ⟨J2.kIn, ?_⟩) he hpl
  exact run_fnS (E := WE W) FO (c.hr.mono hk) hb (passAt c.tk σ) J2 r hq
theorem pd_either (h1 : PD X W e fe) (h2 : PD X W e ge) : PD X W e (dEither fe ge) := by
  refine ⟨fun pins s σ H Q I ⟨Z, O, env, Q0, R0, at_, hf, xk, q⟩ => ?_⟩
  rcases hf with hf | hf
  · exact h1.run pins s σ H Q I ⟨Z, O, env, Q0, R0, at_, hf, xk, q⟩
  · exact h2.run pins s σ H Q I ⟨Z, O, env, Q0, R0, at_, hf, xk, q⟩
theorem iAnyU (hl : PD X W e fe) : PDI X W tg e (dItU fe) := by
  constructor
  intro pins s σ H R I ⟨Z, O, env, Q0, R0, at_, hf, xk, q⟩
  refine thn (hl.run pins s σ H (fun x H1 => Step Z H H1 ∧ ∃ d ds, seqOf d = some ds ∧ Q0 ds ∧ RepZ X.K Z H1 x d) I (DT.mk at_ hf xk fun d hd v H1 st r => ⟨st, d, ?_⟩)) fun v s1 ⟨x, H1, J, rx, st, d, ds, e1, hq, r⟩ => ?_
  · cases d <;> first | exact hd.elim | exact ⟨_, rfl, hd, r⟩
  · cases d <;> first | (simp [seqOf] at e1; done) | skip
    · cases e1
      cases r with
      | tup a vs _ hs rr =>
        cases rx
        have hq2 := q _ hq (Itt X.K a) H1 st (itr_tup hs rr)
        obtain ⟨its, rv, pt, hz⟩ := J.tuple (unm_t hs)
        refine wpAny_pyIter_tuple (show s1.heap.IsTuple a its.toArray from pt) ⟨s1.heap.objs.size, [s1.heap.objs.size], _, _, H1, rfl, J.kept (t' := s1.toks) fun b o z => Heap.get?_push_of_some _ z, turn_tuple a _, ⟨_, Heap.get?_push_size _ rfl, rfl, rfl⟩, fun b hb => ?_, hq2⟩
        obtain rfl : b = s1.heap.objs.size := by simpa using hb
        exact J.fpOk (Nat.le_refl _) (J.hok.fresh (Nat.le_refl _))
    · cases e1
      cases r with
      | lst a vs _ hs rr =>
        cases rx
        have hq2 := q _ hq (Itl X.K a) H1 st (itr_list hs rr)
        obtain ⟨its, rv, pl, hz⟩ := J.list (unm_l (SqL.of hs))
        refine wpAny_pyIter_list pl.isList ⟨s1.heap.objs.size, [s1.heap.objs.size], _, _, H1, rfl, J.kept (t' := s1.toks) fun b o z => Heap.get?_push_of_some _ z, turn_list a _, ⟨_, Heap.get?_push_size _ rfl, rfl, rfl⟩, fun b hb => ?_, hq2⟩
        obtain rfl : b = s1.heap.objs.size := by simpa using hb
        exact J.fpOk (Nat.le_refl _) (J.hok.fresh (Nat.le_refl _))
end
end Gx
namespace Hd
open PySem PySem.Spec PyProof.Rows L2 Dl Dv Dk Gx
theorem cala_ok {P : Program} {w : World} {K : PySem.W.Frag} {mg : Str → Option Value} {base : Heap} {k n : Nat} {fd : FuncData} {ps : List Str} {F G : DF} {f : Addr} (O : FnOk P w K mg base (L2.CX P w) k f fd ps (spD K n G)) (h : ∀ ds Q R, F ds Q R → G ds Q R) (kp : PySem.W.keepIn K (.ref f) = true) (hb : Binds K fd ps []) : CalA P w K mg base k f n F :=
  ⟨fd, ps, O.imp (spD_imp h), kp, hb⟩
end Hd

set_option maxHeartbeats 4000000
/-! seeing.py: what is looked at, lots that fit. -/
namespace Pr
open PySem PySem.Spec PyProof.Rows L2 Dl Dv Dk Gx Ma
/-- a value, if a tuple: of data -/
def okV (v : D) : Bool := isD v && (match v with
  | .tup ds => ds.all isD
  | _ => true)
theorem okV_d {v : D} (h : okV v = true) : isD v = true := by
  unfold okV at h
  exact (Bool.and_eq_true_iff.mp h).1
/-- the place of the first one that is none -/
def firstBad (p : D → Bool) : List D → Nat → Option Nat
  | [], _ => none
  | v :: r, i => if p v = true then firstBad p r (i + 1) else some i
abbrev eSeen (K : PySem.W.Frag) (i : Nat) : Exc := ⟨He.ga K "InvalidSeen", some [("index", .int (i : Nat))]⟩
def FLook (K : PySem.W.Frag) (f : Addr) (p : D → Bool) : DF := fun ds Q R => ∃ s xs, ds = [s, .raw (.ref f)] ∧ seqOf s = some xs ∧ xs.all okV = true ∧ match firstBad p xs 0 with
  | none => Q .non
  | some i => R (eSeen K i)
def g_look (K : PySem.W.Frag) (f : Addr) (F : DF) : DG :=
  (dFor (dItEn (dCons (dVar 0) dNil)) (dgTup [2, 3]) (dIfS (dNotB (dTst (dCallV 1 f 1 F (dCons (dVar 3) dNil)))) (dRaise (dMk (He.ga K "InvalidSeen") ["index"] (dCons (dVar 2) dNil))) dNx))
theorem look_loop {K : PySem.W.Frag} {f : Addr} {F : DF} {p : D → Bool} {k : Kn} (hF : ∀ v Q R, okV v = true → Q (.bl (p v)) → F [v] Q R) (s : D) : ∀ (xs : List D) (i : Nat) (a b : Slot), xs.all okV = true →
    (match firstBad p xs i with
      | none => ∀ a b, k.nx [.val s, .val (.raw (.ref f)), a, b]
      | some j => ∀ env, k.xc (eSeen K j) env) →
    dForL (dgTup [2, 3]) (dIfS (dNotB (dTst (dCallV 1 f 1 F (dCons (dVar 3) dNil)))) (dRaise (dMk (He.ga K "InvalidSeen") ["index"] (dCons (dVar 2) dNil))) dNx) ((xs.zipIdx i).map fun p => .tup [.int (p.2 : Nat), p.1]) [.val s, .val (.raw (.ref f)), a, b] k
  | [], i, a, b, _, h => h a b
  | v :: xs, i, a, b, hx, h => by
    simp only [List.all_cons, Bool.and_eq_true] at hx
    rw [List.zipIdx_cons, List.map_cons]
    unfold dForL
    simp (maxSteps := 10000000) (disch := first | assumption | omega) only [dDef, dRet, dRetL, dSeq, dIfS, dTst, dNotB, dAndB, dOrB, dAndV, dOrV, dNotV, dNeg, dIf, dCB, dCBL, dCons, dNil, dStar, dVar, dC, dCall, dOp, dOpL, dTup, dLst, dL, dSet, dAsg, dPar, dOwn, dExpr, dNx, dFor, dItL, dItT, dProp, dMeth, dMk, dMk0, dRaise, dPart, dNoPart, dSlL, dSlT, dRevL, dgName, dgTup, dgSets, dOwnIx, dOwnLen, dOwnTup, dApp, dSetI, dRel, relE, dItZip, dItTab, dItEnK, dItEn, dIsS, dJoinG, dSplit, dFmt, dJs, dIsT2, dIndex, dCallS, dYes, wipeE, dXf, dIsX, List.map_cons, List.map_nil, List.cons_append, List.nil_append, List.append_nil, List.length_cons, List.length_nil, List.replicate_succ, List.replicate_zero, Nat.reduceAdd, Nat.reduceSub, List.getElem?_cons_zero, List.getElem?_cons_succ, List.set_cons_zero, List.set_cons_succ, Nat.zero_add, Nat.add_zero, Nat.sub_self, x_add, x_sub, x_mulL, x_mulR, x_div, x_mod, x_lt, x_le, x_gt, x_ge, x_eq, x_ne, x_fro, x_step, x_first, x_last, x_on, x_l0, x_l1, x_l2, x_l3, x_l4, x_t0, x_t1, x_t2, x_t3, x_t4, x_intB, x_intI, x_max2, x_min2, x_lenL, x_lenT, x_sz, x_rs, x_rw, x_rf, x_ra, x_rl, x_slot, x_slotD, true_and, and_true, eq_self, decide_eq_true_eq, Bool.not_eq_true', decide_eq_false_iff_not, res_ok, res_er, x_rng1, x_rng1D, x_rng2, x_rng2E, x_rng2D, z_s, z_w, z_f, z_a, z_l, Bool.and_eq_true, if_true, if_false, Bool.false_eq_true, reduceCtorEq, decide_true, decide_false, Bool.not_true, Bool.not_false, Bool.true_eq_false, not_true_eq_false, not_false_eq_true, dCallV]
    refine hF v _ _ hx.1 ?_
    unfold firstBad at h
    cases hp : p v with
    | true =>
      rw [hp] at h
      exact look_loop hF s xs (i + 1) _ _ hx.2 h
    | false =>
      rw [hp] at h
      exact h _
theorem law_look {K : PySem.W.Frag} {f : Addr} {F : DF} {p : D → Bool} (hF : ∀ v Q R, okV v = true → Q (.bl (p v)) → F [v] Q R) (ds : List D) (Q : D → Prop) (R : DX) (h : FLook K f p ds Q R) : dDef 4 (g_look K f F) ds Q R := by
  obtain ⟨s, xs, rfl, hs, hx, q⟩ := h
  unfold g_look
  simp (maxSteps := 10000000) (disch := first | assumption | omega) only [dDef, dRet, dRetL, dSeq, dIfS, dTst, dNotB, dAndB, dOrB, dAndV, dOrV, dNotV, dNeg, dIf, dCB, dCBL, dCons, dNil, dStar, dVar, dC, dCall, dOp, dOpL, dTup, dLst, dL, dSet, dAsg, dPar, dOwn, dExpr, dNx, dFor, dItL, dItT, dProp, dMeth, dMk, dMk0, dRaise, dPart, dNoPart, dSlL, dSlT, dRevL, dgName, dgTup, dgSets, dOwnIx, dOwnLen, dOwnTup, dApp, dSetI, dRel, relE, dItZip, dItTab, dItEnK, dItEn, dIsS, dJoinG, dSplit, dFmt, dJs, dIsT2, dIndex, dCallS, dYes, wipeE, dXf, dIsX, List.map_cons, List.map_nil, List.cons_append, List.nil_append, List.append_nil, List.length_cons, List.length_nil, List.replicate_succ, List.replicate_zero, Nat.reduceAdd, Nat.reduceSub, List.getElem?_cons_zero, List.getElem?_cons_succ, List.set_cons_zero, List.set_cons_succ, Nat.zero_add, Nat.add_zero, Nat.sub_self, x_add, x_sub, x_mulL, x_mulR, x_div, x_mod, x_lt, x_le, x_gt, x_ge, x_eq, x_ne, x_fro, x_step, x_first, x_last, x_on, x_l0, x_l1, x_l2, x_l3, x_l4, x_t0, x_t1, x_t2, x_t3, x_t4, x_intB, x_intI, x_max2, x_min2, x_lenL, x_lenT, x_sz, x_rs, x_rw, x_rf, x_ra, x_rl, x_slot, x_slotD, true_and, and_true, eq_self, decide_eq_true_eq, Bool.not_eq_true', decide_eq_false_iff_not, res_ok, res_er, x_rng1, x_rng1D, x_rng2, x_rng2E, x_rng2D, z_s, z_w, z_f, z_a, z_l, Bool.and_eq_true, if_true, if_false, Bool.false_eq_true, reduceCtorEq, decide_true, decide_false, Bool.not_true, Bool.not_false, Bool.true_eq_false, not_true_eq_false, not_false_eq_true]
  have it : ∀ N : List D → Prop, N (enumD xs) → dItEn (dCons (dVar 0) dNil) [.val s, .val (.raw (.ref f)), .un, .un] N (fun x => R x) := fun N hN => by
    simp (maxSteps := 10000000) (disch := first | assumption | omega) only [dDef, dRet, dRetL, dSeq, dIfS, dTst, dNotB, dAndB, dOrB, dAndV, dOrV, dNotV, dNeg, dIf, dCB, dCBL, dCons, dNil, dStar, dVar, dC, dCall, dOp, dOpL, dTup, dLst, dL, dSet, dAsg, dPar, dOwn, dExpr, dNx, dFor, dItL, dItT, dProp, dMeth, dMk, dMk0, dRaise, dPart, dNoPart, dSlL, dSlT, dRevL, dgName, dgTup, dgSets, dOwnIx, dOwnLen, dOwnTup, dApp, dSetI, dRel, relE, dItZip, dItTab, dItEnK, dItEn, dIsS, dJoinG, dSplit, dFmt, dJs, dIsT2, dIndex, dCallS, dYes, wipeE, dXf, dIsX, List.map_cons, List.map_nil, List.cons_append, List.nil_append, List.append_nil, List.length_cons, List.length_nil, List.replicate_succ, List.replicate_zero, Nat.reduceAdd, Nat.reduceSub, List.getElem?_cons_zero, List.getElem?_cons_succ, List.set_cons_zero, List.set_cons_succ, Nat.zero_add, Nat.add_zero, Nat.sub_self, x_add, x_sub, x_mulL, x_mulR, x_div, x_mod, x_lt, x_le, x_gt, x_ge, x_eq, x_ne, x_fro, x_step, x_first, x_last, x_on, x_l0, x_l1, x_l2, x_l3, x_l4, x_t0, x_t1, x_t2, x_t3, x_t4, x_intB, x_intI, x_max2, x_min2, x_lenL, x_lenT, x_sz, x_rs, x_rw, x_rf, x_ra, x_rl, x_slot, x_slotD, true_and, and_true, eq_self, decide_eq_true_eq, Bool.not_eq_true', decide_eq_false_iff_not, res_ok, res_er, x_rng1, x_rng1D, x_rng2, x_rng2E, x_rng2D, z_s, z_w, z_f, z_a, z_l, Bool.and_eq_true, if_true, if_false, Bool.false_eq_true, reduceCtorEq, decide_true, decide_false, Bool.not_true, Bool.not_false, Bool.true_eq_false, not_true_eq_false, not_false_eq_true]
    cases s <;> simp [seqOf] at hs
    · subst hs; exact ⟨_, rfl, hN⟩
    · subst hs; exact ⟨_, rfl, hN⟩
  have := it (fun ds => dForL (dgTup [2, 3]) (dIfS (dNotB (dTst (dCallV 1 f 1 F (dCons (dVar 3) dNil)))) (dRaise (dMk (He.ga K "InvalidSeen") ["index"] (dCons (dVar 2) dNil))) dNx) ds [.val s, .val (.raw (.ref f)), .un, .un] ⟨fun _ => Q .non, Q, fun ds => Q (.lst ds), fun _ => False, fun _ => False, fun x _ => R x⟩) (by
    unfold enumD
    refine look_loop (p := p) hF s xs 0 .un .un hx ?_
    cases hb : firstBad p xs 0 with
    | none => rw [hb] at q; exact fun _ _ => q
    | some j => rw [hb] at q; exact fun _ => q)
  simp only [dItEn, dCons, dNil, dVar, List.getElem?_cons_zero] at this ⊢
  exact this
end Pr

set_option maxHeartbeats 4000000
/-! a, b, c = x, y, z. -/
namespace Dl
open PySem PySem.Spec PyProof.Rows L2
theorem Reps.inv3 {K : PySem.W.Frag} {vl : Option (Addr × Addr)} {G : Hp} {vs : List V} {a b c : D} (r : Reps K vl G vs [a, b, c]) : ∃ u v w, vs = [u, v, w] ∧ Rep K vl G u a ∧ Rep K vl G v b ∧ Rep K vl G w c := by
  cases r with
  | cons v d vs ds h r =>
    obtain ⟨u, w, rfl, h2, h3⟩ := r.inv2
    exact ⟨v, u, w, rfl, h, h2, h3⟩
def dPar3 (i j l : Nat) (f : DA) : DG := fun env k => f env (fun ds => match ds with
  | [d, e, g] => k.nx (((env.set i (.val d)).set j (.val e)).set l (.val g))
  | _ => False) (fun x => k.xc x env)
section
variable {X : Cx} {W : WX} {a b c : Expr} {pos : Pos} {fs : DA}
theorem ds_par3 {i j l : Nat} {x y z : Str} {px py pz pt pt2 : Pos} {kt k2 : Nat} (hc : X.calm = true) (hN : X.N.Nodup) (hi : X.N[i]? = some x) (hj : X.N[j]? = some y) (hl : X.N[l]? = some z) (hij : i ≠ j) (hil : i ≠ l) (hjl : j ≠ l)
    (hx : X.env.scope.names.lookup x = some .local) (hy : X.env.scope.names.lookup y = some .local) (hz : X.env.scope.names.lookup z = some .local) (ha : PDA X W [a, b, c] fs)
    (hw : swappedStores [.Tuple [.Name x px, .Name y py, .Name z pz] kt pt] (.Tuple [a, b, c] k2 pt2) X.env = pure (some [x, y, z]))
    (hs : swapsWithSole [.Tuple [.Name x px, .Name y py, .Name z pz] kt pt] (.Tuple [a, b, c] k2 pt2) pos.line X.env = pure false := by rfl) :
    PDS X W (.Assign [.Tuple [.Name x px, .Name y py, .Name z pz] kt pt] (.Tuple [a, b, c] k2 pt2) pos) (dPar3 i j l fs) := PS.imp (ps_par3 hc hN hi hj hl hij hil hjl hx hy hz ha hw hs) fun D σ H ⟨Z, O, env, k, a, h, ko⟩ =>
  DTA.mk a h (ko.xk a) fun ds hd vs H1 s r => by
    split at hd
    · obtain ⟨u, v, w, rfl, h1, h2, h3⟩ := r.inv3
      exact ⟨u, v, w, rfl, ko.nx _ hd O _ H1 s.le ((((a.step s).set h1 i).set h2 j).set h3 l)⟩
    · exact hd.elim
end
end Dl

set_option maxHeartbeats 4000000
/-! A text, a few times. -/
namespace L2
open PySem PySem.Spec PyProof.Rows
def rMulS : R2 := fun x y H Q => ∃ i n, x = .str i ∧ y = .int n ∧ MulOk i n ∧ Q (.str (Txt.mul i n)) H
theorem op_mulS {X : Cx} : OpR X (binaryOp .Mult) rMulS := by
  intro pins s σ H x y v u Q I rx ry h
  obtain ⟨i, n, rfl, rfl, hz, q⟩ := h
  obtain ⟨t, rfl⟩ := rx
  obtain ⟨t', rfl⟩ := ry
  exact SB.mul hz (fun t' tk => ⟨.str (Txt.mul i n), H, I.tok _, ⟨_, rfl⟩, q⟩)
end L2
namespace Dl
open PySem PySem.Spec PyProof.Rows L2
def gRepS : D2 := fun x y Q => ∃ i n, x = .str i ∧ y = .int n ∧ MulOk i n ∧ Q (.str (Txt.mul i n))
theorem opd_mulS {K : PySem.W.Frag} : OpD K rMulS gRepS := fun Z H x y dx dy Q0 Q gd rx ry hg q => by
  obtain ⟨i, n, rfl, rfl, h, hq⟩ := hg
  cases rx
  cases ry
  exact ⟨i, n, rfl, rfl, h, q _ hq _ H (Step.refl gd) (.str _)⟩
theorem oMulS {X : Cx} {W : WX} {a b : Expr} {pos : Pos} {fa fb : DE} (ha : PD X W a fa) (hb : PD X W b fb) : PD X W (.BinOp a .Mult b pos) (dOp gRepS fa fb) := pd_op op_mulS opd_mulS ha hb
end Dl

set_option maxHeartbeats 1000000
/-! What runs without waking a sleeping generator leaves it as it is: the run over a table whose sleepers can't be woken is carried over to the true table. -/
namespace Gn
open PySem
open Sem (wp)
/-- one that sleeps can't be woken; it is told as the true one is -/
def poison : GenState → GenState
  | .suspended _ l c p fs cl => .suspended (fun _ => .unsupported "") l c p fs cl
  | y => y
def isS : GenState → Bool
  | .suspended .. => true
  | _ => false
theorem poison_seen (y : GenState) : (poison y).seen = y.seen := by cases y <;> rfl
theorem poison_bare (y : GenState) : (poison y).bare = y.bare := by cases y <;> rfl
def pick (T0 : Array GenState) (i : Nat) (y : GenState) : GenState := match T0[i]? with
  | some z => if isS z = true then z else y
  | none => y
/-- the true table -/
def mix (T0 T : Array GenState) : Array GenState := T.mapIdx (pick T0)
def Slp (T0 : Array GenState) (i : Nat) : Prop := ∃ y, T0[i]? = some y ∧ isS y = true
theorem mix_get (T0 T : Array GenState) (i : Nat) : (mix T0 T)[i]? = T[i]?.map (pick T0 i) := by unfold mix; rw [Array.getElem?_mapIdx]
theorem mix_size (T0 T : Array GenState) : (mix T0 T).size = T.size := by unfold mix; rw [Array.size_mapIdx]
theorem pick_not {T0 : Array GenState} {i : Nat} (h : ¬ Slp T0 i) (y : GenState) : pick T0 i y = y := by
  unfold pick
  split
  · rename_i z e
    rw [if_neg fun hz => h ⟨z, e, hz⟩]
  · rfl
theorem pick_slp {T0 : Array GenState} {i : Nat} {z : GenState} (e : T0[i]? = some z) (hz : isS z = true) (y : GenState) : pick T0 i y = z := by
  unfold pick
  rw [e]
  exact if_pos hz
theorem mix_push {T0 T : Array GenState} (h : T0.size ≤ T.size) (y : GenState) : mix T0 (T.push y) = (mix T0 T).push y := by
  refine Array.ext_getElem? fun i => ?_
  rw [mix_get, Array.getElem?_push, Array.getElem?_push, mix_size, mix_get]
  by_cases hi : i = T.size
  · rw [if_pos hi, if_pos hi]
    subst hi
    refine congrArg some (pick_not (fun ⟨z, e, _⟩ => ?_) y)
    rw [Array.getElem?_eq_none h] at e
    cases e
  · rw [if_neg hi, if_neg hi]
theorem mix_set {T0 T : Array GenState} {g : Nat} (h : ¬ Slp T0 g) (y : GenState) : mix T0 (T.setIfInBounds g y) = (mix T0 T).setIfInBounds g y := by
  refine Array.ext_getElem? fun i => ?_
  rw [mix_get, Array.getElem?_setIfInBounds, Array.getElem?_setIfInBounds, mix_size, mix_get]
  by_cases hi : g = i
  · subst hi
    rw [if_pos rfl, if_pos rfl]
    by_cases hg : g < T.size
    · rw [if_pos hg]
      exact congrArg some (pick_not h y)
    · rw [if_neg hg]
      rfl
  · rw [if_neg hi, if_neg hi]
/-- the table of such a run -/
structure Ok (T0 T : Array GenState) : Prop where
  sz : T0.size ≤ T.size
  at_ : ∀ (i : Nat) (y : GenState), T0[i]? = some y → isS y = true → T[i]? = some (poison y)
  fr : ∀ (i : Nat) (k : Resume → Sem PySem.Fin) (l : List Value) (c : Code) (p : Pos) (fs : List Frame) (cl : Bool), T[i]? = some (.suspended k l c p fs cl) → ¬ Slp T0 i → splitAtGen fs = none
theorem Ok.start (T0 : Array GenState) : Ok T0 (T0.map poison) := by
  refine ⟨by rw [Array.size_map]; exact Nat.le_refl _, fun i y e _ => by rw [Array.getElem?_map, e]; rfl, fun i k l c p fs cl e h => ?_⟩
  rw [Array.getElem?_map] at e
  cases q : T0[i]? with
  | none => rw [q] at e; cases e
  | some z =>
    rw [q] at e
    cases z with
    | suspended => exact (h ⟨_, q, rfl⟩).elim
    | _ => cases e
theorem mix_start (T0 : Array GenState) : mix T0 (T0.map poison) = T0 := by
  refine Array.ext_getElem? fun i => ?_
  rw [mix_get, Array.getElem?_map]
  cases q : T0[i]? with
  | none => rfl
  | some z =>
    show some (pick T0 i (poison z)) = some z
    cases hz : isS z with
    | true => rw [pick_slp q hz]
    | false =>
      rw [pick_not fun ⟨y, e, hy⟩ => by rw [q] at e; cases e; rw [hz] at hy; cases hy]
      cases z <;> first | rfl | cases hz
theorem Ok.push {T0 T : Array GenState} (o : Ok T0 T) (c : Code) : Ok T0 (T.push (.fresh c)) := by
  refine ⟨by rw [Array.size_push]; exact Nat.le_succ_of_le o.sz, fun i y e h => ?_, fun i k l c' p fs cl e h => ?_⟩
  · have hi : i < T0.size := by
      by_cases hi : i < T0.size
      · exact hi
      · rw [Array.getElem?_eq_none (by omega)] at e; cases e
    have := o.sz
    rw [Array.getElem?_push, if_neg (by omega)]
    exact o.at_ i y e h
  · rw [Array.getElem?_push] at e
    split at e
    · cases e
    · exact o.fr i k l c' p fs cl e h
/-- the frames of one that begins to sleep -/
def FOk : GenState → Prop
  | .suspended _ _ _ _ fs _ => splitAtGen fs = none
  | _ => True
theorem Ok.set {T0 T : Array GenState} {g : Nat} {y : GenState} (o : Ok T0 T) (hg : ¬ Slp T0 g) (hy : FOk y) : Ok T0 (T.setIfInBounds g y) := by
  refine ⟨by rw [Array.size_setIfInBounds]; exact o.sz, fun i z e h => ?_, fun i k l c p fs cl e h => ?_⟩
  · rw [Array.getElem?_setIfInBounds, if_neg fun q => hg (by rw [q]; exact ⟨z, e, h⟩)]
    exact o.at_ i z e h
  · rw [Array.getElem?_setIfInBounds] at e
    split at e
    · split at e
      · cases e
        exact hy
      · cases e
    · exact o.fr i k l c p fs cl e h
def EOk : End → Prop
  | .ret _ => True
  | .susp _ _ _ _ _ _ fs => splitAtGen fs = none
theorem EOk.gen {e : End} (h : EOk e) : FOk e.genState := by cases e <;> exact h
theorem unsup {M : Model} {Γ : Ctx} {p : Pos} {t : Sem PySem.Fin} {fs : List Frame} {s s' : Shared} {e : End} (h : Runs M Γ p t fs s e s') : ∀ w, t = .unsupported w → False := by
  induction h with
  | segRet h1 h2 ih1 ih2 => exact ih1
  | segGen h1 h2 ih1 ih2 => exact ih1
  | segSuspOut h0 h1 ih1 => exact ih1
  | segSuspGen h0 h1 h3 h2 ih1 ih2 => exact ih1
  | _ => intro w hw; cases hw
theorem split_cons {F : Frame} {fs : List Frame} (h : splitAtGen (F :: fs) = none) : splitAtGen fs = none := by
  cases F with
  | gen => cases h
  | ret =>
    cases q : splitAtGen fs with
    | none => rfl
    | some x =>
      exfalso
      unfold splitAtGen at h
      rw [q] at h
      cases h
theorem split_app : ∀ {fs gs : List Frame}, splitAtGen fs = none → splitAtGen gs = none → splitAtGen (fs ++ gs) = none
  | [], gs, _, h => h
  | .gen .. :: fs, gs, h, _ => by cases h
  | .ret a b c d e f g :: fs, gs, h, h2 => by
    show (splitAtGen (fs ++ gs)).map _ = none
    rw [split_app (split_cons h) h2]
    rfl
/-- the run over the true table -/
theorem runs_mix {M : Model} {T0 : Array GenState} {Γ : Ctx} {p : Pos} {t : Sem PySem.Fin} {fs : List Frame} {s s' : Shared} {e : End} (h : Runs M Γ p t fs s e s') : Ok T0 s.gens → splitAtGen fs = none →
    Ok T0 s'.gens ∧ EOk e ∧ Runs M Γ p t fs { s with gens := mix T0 s.gens } e { s' with gens := mix T0 s'.gens } := by
  have nS : ∀ {s : Shared} {g : Nat} {st : GenState}, Ok T0 s.gens → s.gens[g]? = some st → isS st = false → ¬ Slp T0 g := fun {s g st} o e h ⟨y, hy, hs⟩ => by
    have := o.at_ g y hy hs
    rw [e] at this
    cases this
    cases y <;> first | exact Bool.noConfusion (show true = false from h) | cases hs
  have same : ∀ {s : Shared} {g : Nat} {st : GenState}, ¬ Slp T0 g → s.gens[g]? = some st → ({ s with gens := mix T0 s.gens } : Shared).gens[g]? = some st := fun {s g st} hg e => by
    show (mix T0 s.gens)[g]? = some st
    rw [mix_get, e]
    exact congrArg some (pick_not hg st)
  have gsee : ∀ {s : Shared} {g : Nat} {st : GenState}, Ok T0 s.gens → s.gens[g]? = some st → ∃ st', ({ s with gens := mix T0 s.gens } : Shared).gens[g]? = some st' ∧ st'.seen = st.seen := fun {s g st} o hg => by
    by_cases q : Slp T0 g
    · obtain ⟨y, hy, hys⟩ := q
      have e := o.at_ g y hy hys
      rw [hg] at e
      cases e
      refine ⟨y, ?_, (poison_seen y).symm⟩
      show (mix T0 s.gens)[g]? = some y
      rw [mix_get, hg]
      exact congrArg some (pick_slp hy hys _)
    · exact ⟨st, same q hg, rfl⟩
  have setE : ∀ {s : Shared} {g : Nat} {y : GenState}, ¬ Slp T0 g → ({ s.setGen g y with gens := mix T0 (s.setGen g y).gens } : Shared) = ({ s with gens := mix T0 s.gens } : Shared).setGen g y := fun {s g y} hg => by
    show ({ s with gens := mix T0 (s.gens.setIfInBounds g y) } : Shared) = { s with gens := (mix T0 s.gens).setIfInBounds g y }
    rw [mix_set hg]
  induction h with
  | done => exact fun o _ => ⟨o, trivial, .done⟩
  | raise => exact fun o _ => ⟨o, trivial, .raise⟩
  | again hq hr ih => exact fun o h => have z := ih o h; ⟨z.1, z.2.1, .again hq z.2.2⟩
  | rule hr ih => exact fun o h => have z := ih o h; ⟨z.1, z.2.1, .rule z.2.2⟩
  | «at» hr ih => exact fun o h => have z := ih o h; ⟨z.1, z.2.1, .at z.2.2⟩
  | load ho hr ih => exact fun o h => have z := ih o h; ⟨z.1, z.2.1, .load ho z.2.2⟩
  | update ho hr ih => exact fun o h => have z := ih o h; ⟨z.1, z.2.1, .update ho z.2.2⟩
  | loadIfAlive hr ih => exact fun o h => have z := ih o h; ⟨z.1, z.2.1, .loadIfAlive z.2.2⟩
  | point hr ih => exact fun o h => have z := ih o h; ⟨z.1, z.2.1, .point z.2.2⟩
  | alloc hr ih => exact fun o h => have z := ih o h; ⟨z.1, z.2.1, .alloc z.2.2⟩
  | fresh hr ih => exact fun o h => have z := ih o h; ⟨z.1, z.2.1, .fresh z.2.2⟩
  | ask hr ih => exact fun o h => have z := ih o h; ⟨z.1, z.2.1, .ask z.2.2⟩
  | choose hn hr ih => exact fun o h => have z := ih o h; ⟨z.1, z.2.1, .choose hn z.2.2⟩
  | os hr ih => exact fun o h => have z := ih o h; ⟨z.1, z.2.1, .os z.2.2⟩
  | handled hr ih => exact fun o h => have z := ih o h; ⟨z.1, z.2.1, .handled z.2.2⟩
  | stack hr ih => exact fun o h => have z := ih o h; ⟨z.1, z.2.1, .stack z.2.2⟩
  | thread hr ih => exact fun o h => have z := ih o h; ⟨z.1, z.2.1, .thread z.2.2⟩
  | genState hg hr ih =>
    intro o h
    have z := ih o h
    obtain ⟨st', hst, hs⟩ := gsee o hg
    exact ⟨z.1, z.2.1, .genState hst (by rw [hs]; exact z.2.2)⟩
  | newGen hr ih =>
    intro o h
    have z := ih (o.push _) h
    rename_i Γ1 p1 k1 s1 e1 s2 c1
    refine ⟨z.1, z.2.1, .newGen ?_⟩
    have r := z.2.2
    have q : mix T0 (s1.gens.push (.fresh c1)) = (mix T0 s1.gens).push (.fresh c1) := mix_push o.sz _
    show Runs M Γ1 p1 (k1 (mix T0 s1.gens).size) [] { s1 with gens := (mix T0 s1.gens).push (.fresh c1) } _ _
    rw [mix_size, ← q]
    exact r
  | call h1 h2 ih1 ih2 =>
    intro o h
    have z := ih1 o rfl
    have z2 := ih2 z.1 h
    exact ⟨z2.1, z2.2.1, .call z.2.2 z2.2.2⟩
  | callSusp h1 ih1 =>
    intro o h
    have z := ih1 o rfl
    exact ⟨z.1, split_app z.2.1 rfl, .callSusp z.2.2⟩
  | yield => exact fun o _ => ⟨o, rfl, .yield⟩
  | resumeFresh hg h1 hq h2 ih1 ih2 =>
    intro o h
    have ng := nS o hg rfl
    have z := ih1 (o.set ng trivial) rfl
    have z2 := ih2 (z.1.set ng z.2.1.gen) h
    rename_i Γ1 p1 g1 l1 k1 s1 c1 e1 t1 e2 s2
    refine ⟨z2.1, z2.2.1, .resumeFresh (s₁ := { t1 with gens := mix T0 t1.gens }) (same ng hg) ?_ hq ?_⟩
    · rw [← setE ng]; exact z.2.2
    · rw [← setE ng]; exact z2.2.2
  | resumeSuspended hg h1 hq h2 ih1 ih2 =>
    intro o h
    rename_i Γ1 p1 g1 r1 l1 k1 s1 k2 l2 c2 p2 fs2 cl2 e1 t1 e2 s2
    have ng : ¬ Slp T0 g1 := fun ⟨y, hy, hys⟩ => by
      have q := o.at_ g1 y hy hys
      rw [hg] at q
      cases y with
      | suspended => cases q; exact unsup h1 _ rfl
      | _ => cases hys
    have z := ih1 (o.set ng trivial) (o.fr _ _ _ _ _ _ _ hg ng)
    have z2 := ih2 (z.1.set ng z.2.1.gen) h
    refine ⟨z2.1, z2.2.1, .resumeSuspended (s₁ := { t1 with gens := mix T0 t1.gens }) (same ng hg) ?_ hq ?_⟩
    · rw [← setE ng]; exact z.2.2
    · rw [← setE ng]; exact z2.2.2
  | resumeJustStarted hg hv hr ih => exact fun o h => have z := ih o h; ⟨z.1, z.2.1, .resumeJustStarted (same (nS o hg rfl) hg) hv z.2.2⟩
  | resumeThrowFresh hg hr ih =>
    intro o h
    have ng := nS o hg rfl
    have z := ih (o.set ng trivial) h
    refine ⟨z.1, z.2.1, .resumeThrowFresh (same ng hg) ?_⟩
    rw [← setE ng]; exact z.2.2
  | resumeRunning hg hr ih => exact fun o h => have z := ih o h; ⟨z.1, z.2.1, .resumeRunning (same (nS o hg rfl) hg) z.2.2⟩
  | resumeFinished hg hr ih => exact fun o h => have z := ih o h; ⟨z.1, z.2.1, .resumeFinished (same (nS o hg rfl) hg) z.2.2⟩
  | segRet h1 h2 ih1 ih2 =>
    intro o h
    have z := ih1 o rfl
    have z2 := ih2 z.1 (split_cons h)
    exact ⟨z2.1, z2.2.1, .segRet z.2.2 z2.2.2⟩
  | segGen h1 h2 ih1 ih2 => exact fun o h => by cases h
  | segSuspOut h0 h1 ih1 =>
    intro o h
    have z := ih1 o rfl
    exact ⟨z.1, split_app z.2.1 h0, .segSuspOut h0 z.2.2⟩
  | segSuspGen h0 h1 h3 h2 ih1 ih2 => exact fun o h => by rw [h] at h0; cases h0
theorem wakes_mix {M : Model} {T0 : Array GenState} {Γ : Ctx} {p : Pos} {g : Nat} {r : Resume} {s s' : Shared} {res : GenResult} (h : Wakes M Γ p g r s res s') (o : Ok T0 s.gens) :
    Ok T0 s'.gens ∧ Wakes M Γ p g r { s with gens := mix T0 s.gens } res { s' with gens := mix T0 s'.gens } := by
  have setE : ∀ {s : Shared} {g : Nat} {y : GenState}, ¬ Slp T0 g → ({ s.setGen g y with gens := mix T0 (s.setGen g y).gens } : Shared) = ({ s with gens := mix T0 s.gens } : Shared).setGen g y := fun {s g y} hg => by
    show ({ s with gens := mix T0 (s.gens.setIfInBounds g y) } : Shared) = { s with gens := (mix T0 s.gens).setIfInBounds g y }
    rw [mix_set hg]
  have nS : ∀ {st : GenState}, s.gens[g]? = some st → isS st = false → ¬ Slp T0 g := fun {st} e h ⟨y, hy, hs⟩ => by
    have := o.at_ g y hy hs
    rw [e] at this
    cases this
    cases y <;> first | exact Bool.noConfusion (show true = false from h) | cases hs
  have same : ∀ {st : GenState}, ¬ Slp T0 g → s.gens[g]? = some st → (mix T0 s.gens)[g]? = some st := fun {st} hg e => by
    rw [mix_get, e]
    exact congrArg some (pick_not hg st)
  unfold Wakes at h ⊢
  show _ ∧ (match (mix T0 s.gens)[g]? with | none => _ | some (.fresh c) => _ | some (.suspended k₀ l c₀ p₀ fs cl) => _ | some .running => _ | some .finished => _)
  cases hg : s.gens[g]? with
  | none => rw [hg] at h; exact h.elim
  | some st =>
    rw [hg] at h
    cases st with
    | fresh c =>
      have ng := nS hg rfl
      rw [same ng hg]
      dsimp only at h ⊢
      split at h
      · obtain ⟨e₁, s₁, hr, hq, rfl, rfl⟩ := h
        have z := runs_mix hr (o.set ng trivial) rfl
        refine ⟨z.1.set ng z.2.1.gen, e₁, _, ?_, hq, rfl, setE ng⟩
        rw [← setE ng]; exact z.2.2
      · obtain ⟨rfl, rfl⟩ := h
        exact ⟨o, rfl, rfl⟩
      · obtain ⟨rfl, rfl⟩ := h
        exact ⟨o.set ng trivial, rfl, setE ng⟩
    | suspended k₀ l c₀ p₀ fs cl =>
      have ng : ¬ Slp T0 g := fun ⟨y, hy, hys⟩ => by
        have q := o.at_ _ y hy hys
        rw [hg] at q
        obtain ⟨e₁, s₁, hr, _⟩ := h
        cases y with
        | suspended => cases q; exact unsup hr _ rfl
        | _ => cases hys
      rw [same ng hg]
      obtain ⟨e₁, s₁, hr, hq, rfl, rfl⟩ := h
      have z := runs_mix hr (o.set ng trivial) (o.fr _ _ _ _ _ _ _ hg ng)
      refine ⟨z.1.set ng z.2.1.gen, e₁, _, ?_, hq, rfl, setE ng⟩
      rw [← setE ng]; exact z.2.2
    | running =>
      rw [same (nS hg rfl) hg]
      obtain ⟨rfl, rfl⟩ := h
      exact ⟨o, rfl, rfl⟩
    | finished =>
      rw [same (nS hg rfl) hg]
      obtain ⟨rfl, rfl⟩ := h
      exact ⟨o, rfl, rfl⟩
/-- behind such a run -/
def After {α : Type} (T0 : Array GenState) (Q : α → Shared → Prop) : α → Shared → Prop := fun a s' => ∃ sP, Ok T0 sP.gens ∧ s' = { sP with gens := mix T0 sP.gens } ∧ Q a sP
theorem wp_mix {α : Type} (M : Model) (T0 : Array GenState) (Γ : Ctx) (t : Sem α) : ∀ (Q : α → Shared → Prop) (E : Value → Shared → Prop) (p : Pos) (s : Shared), Ok T0 s.gens → wp M Γ t (fun a _ s' => Q a s') (fun e _ s' => E e s') p s →
    wp M Γ t (fun a _ s' => After T0 Q a s') (fun e _ s' => After T0 E e s') p { s with gens := mix T0 s.gens } := by
  induction t with
  | pure a => intro Q E p s o h; exact ⟨s, o, rfl, h⟩
  | raise e => intro Q E p s o h; exact ⟨s, o, rfl, h⟩
  | unsupported _ => intro Q E p s _ h; exact h
  | finish _ => intro Q E p s _ h; exact h
  | rule _ k ih => intro Q E p s o h; exact ih () Q E p s o h
  | «at» p' k ih => intro Q E p s o h; exact ih () Q E p' s o h
  | load a _ k ih => intro Q E p s o h; obtain ⟨ob, ho, h⟩ := h; exact ⟨ob, ho, ih ob Q E p s o h⟩
  | update a _ f k ih => intro Q E p s o h; exact ⟨h.1, ih () Q E p { s with heap := s.heap.update a f } o h.2⟩
  | loadIfAlive a k ih => intro Q E p s o h; exact ih _ Q E p s o h
  | point _ k ih => intro Q E p s o h; exact ih () Q E p s o h
  | register _ _ => intro Q E p s _ h; exact h
  | alloc ob k ih => intro Q E p s o h; exact ih s.heap.objs.size Q E p { s with heap := s.heap.push ob } o h
  | fresh k ih => intro Q E p s o h; exact ih s.toks Q E p { s with toks := s.toks + 1 } o h
  | ask k ih => intro Q E p s o h; exact ih _ Q E p s o h
  | choose src m k ih => intro Q E p s o h; exact ⟨h.1, ih (M.w.draws src (s.drawn.get src) % m) Q E p { s with drawn := s.drawn.bump src } o h.2⟩
  | os q _ k ih => intro Q E p s o h; exact ih (Os.step s.os q).2 Q E p { s with os := (Os.step s.os q).1 } o h
  | call c hd _ _ k ih =>
    intro Q E p s o h
    obtain ⟨r, s', hr, h⟩ := h
    have z := runs_mix hr o rfl
    exact ⟨r, _, z.2.2, ih r Q E p s' z.1 h⟩
  | handled own k ih => intro Q E p s o h; exact ih _ Q E p s o h
  | genState g k ih =>
    intro Q E p s o h
    obtain ⟨st, hs, h⟩ := h
    have key : ∃ st', (mix T0 s.gens)[g]? = some st' ∧ st'.seen = st.seen := by
      by_cases q : Slp T0 g
      · obtain ⟨y, hy, hys⟩ := q
        have e := o.at_ g y hy hys
        rw [hs] at e
        cases e
        refine ⟨y, ?_, (poison_seen y).symm⟩
        rw [mix_get, hs]
        exact congrArg some (pick_slp hy hys _)
      · refine ⟨st, ?_, rfl⟩
        rw [mix_get, hs]
        exact congrArg some (pick_not q st)
    obtain ⟨st', h1, h2⟩ := key
    refine ⟨st', h1, ?_⟩
    rw [h2]
    exact ih _ Q E p s o h
  | newGen c k ih =>
    intro Q E p s o h
    have z := ih s.gens.size Q E p { s with gens := s.gens.push (.fresh c) } (o.push c) h
    show wp M Γ (k (mix T0 s.gens).size) _ _ p { s with gens := (mix T0 s.gens).push (.fresh c) }
    rw [mix_size, ← mix_push o.sz]
    exact z
  | resume g r _ k ih =>
    intro Q E p s o h
    obtain ⟨res, s', hw, h⟩ := h
    have z := wakes_mix hw o
    exact ⟨res, _, z.2, ih res Q E p s' z.1 h⟩
  | yield _ _ _ _ => intro Q E p s _ h; exact h
  | stack k ih => intro Q E p s o h; exact ih _ Q E p s o h
  | fork _ _ => intro Q E p s _ h; exact h
  | thread k ih => intro Q E p s o h; exact ih _ Q E p s o h
  | await _ _ _ _ _ => intro Q E p s _ h; exact h
/-- THE RULE -/
theorem wpAny_table {α : Type} {M : Model} {A : Around} {t : Sem α} {Q : α → Shared → Prop} {E : Value → Shared → Prop} {s : Shared} (h : wpAny M A t Q E { s with gens := s.gens.map poison }) : wpAny M A t (After s.gens Q) (After s.gens E) s := fun Γ p hΓ => by
  have z := wp_mix M s.gens Γ t Q E p { s with gens := s.gens.map poison } (Ok.start s.gens) (h Γ p hΓ)
  have e : ({ ({ s with gens := s.gens.map poison } : Shared) with gens := mix s.gens ({ s with gens := s.gens.map poison } : Shared).gens } : Shared) = s := by
    show ({ s with gens := mix s.gens (s.gens.map poison) } : Shared) = s
    rw [mix_start]
  rw [e] at z
  exact z
theorem After.kept {T0 T : Array GenState} (o : Ok T0 T) {g : Nat} {y : GenState} (hy : T0[g]? = some y) (hs : isS y = true) : (mix T0 T)[g]? = some y := by
  rw [mix_get, o.at_ g y hy hs]
  exact congrArg some (pick_slp hy hs _)
theorem mix_bare {T0 T : Array GenState} (h0 : ∀ y ∈ T0, y.bare = true) (h : ∀ y ∈ T, y.bare = true) : ∀ y ∈ mix T0 T, y.bare = true := fun y hy => by
  obtain ⟨i, hi, e⟩ := Array.mem_iff_getElem.mp hy
  have e2 : (mix T0 T)[i]? = some y := by rw [Array.getElem?_eq_getElem hi, e]
  rw [mix_get] at e2
  obtain ⟨z, hz, rfl⟩ := Option.map_eq_some_iff.mp e2
  unfold pick
  split
  · rename_i x hx
    split
    · exact h0 x (Array.mem_of_getElem? hx)
    · exact h z (Array.mem_of_getElem? hz)
  · exact h z (Array.mem_of_getElem? hz)
theorem poison_all {T0 : Array GenState} (h0 : ∀ y ∈ T0, y.bare = true) : ∀ y ∈ T0.map poison, y.bare = true := fun y hy => by
  obtain ⟨z, hz, rfl⟩ := Array.mem_map.mp hy
  rw [poison_bare]
  exact h0 z hz
end Gn

set_option maxHeartbeats 1000000
/-! One stretch of a generator's run: from where it stands to the next yield, or to its end. -/
namespace Gn
open PySem
open Sem (wp)
def Sg (M : Model) (A : Around) (Φ : End → Shared → Prop) (c : Code) (t : Sem PySem.Fin) (fs : List Frame) (s : Shared) : Prop := ∀ Γ p, Γ.code = c → Γ.Woken A → ∃ e s', Runs M Γ p t fs s e s' ∧ Φ e s'
abbrev NoX : Value → Shared → Prop := fun _ _ => False
section
variable {M : Model} {A : Around} {Φ : End → Shared → Prop} {c : Code} {fs : List Frame} {s : Shared}
theorem sg_wrap {α : Type} {m : Sem α} {K : α → Sem PySem.Fin} {J : Value → Sem PySem.Fin} {gd : Bool → Bool} {lv : List Value → List Value} (h : wpAny M (A.over c fs) m (fun a s' => Sg M A Φ c (K a) fs s') NoX s) : Sg M A Φ c (m.wrap K J gd lv) fs s := by
  rintro Γ p rfl hΓ
  exact runs_wrap_of_wp K J gd lv m (h (Γ.over fs) p (hΓ.over fs)) (fun a p' s' h' => h' Γ p' rfl hΓ) fun _ _ _ h' => h'.elim
theorem sg_bind {α : Type} {m : Sem α} {K : α → Sem PySem.Fin} (h : wpAny M (A.over c fs) m (fun a s' => Sg M A Φ c (K a) fs s') NoX s) : Sg M A Φ c (m >>= K) fs s := by
  rw [Sem.bind_eq_wrap']
  exact sg_wrap h
theorem sg_bindW {α β : Type} {m : Sem α} {f : α → Sem β} {K : β → Sem PySem.Fin} {J : Value → Sem PySem.Fin} {gd : Bool → Bool} {lv : List Value → List Value} (h : wpAny M (A.over c fs) m (fun a s' => Sg M A Φ c ((f a).wrap K J gd lv) fs s') NoX s) : Sg M A Φ c ((m >>= f).wrap K J gd lv) fs s := by
  rw [Sem.bind_eq_wrap', Sem.wrap_wrap]
  exact sg_wrap h
theorem sg_at {p' : Pos} {k : Unit → Sem PySem.Fin} (h : Sg M A Φ c (k ()) fs s) : Sg M A Φ c (.at p' k) fs s := fun Γ p hc hΓ => by
  obtain ⟨e, s', hr, hΦ⟩ := h Γ p' hc hΓ
  exact ⟨e, s', Runs.head' (fun _ _ x => .at x) hr, hΦ⟩
theorem sg_point {l : List Value} {k : Unit → Sem PySem.Fin} (h : Sg M A Φ c (k ()) fs s) : Sg M A Φ c (.point l k) fs s := fun Γ p hc hΓ => by
  obtain ⟨e, s', hr, hΦ⟩ := h Γ p hc hΓ
  exact ⟨e, s', Runs.head' (fun _ _ x => .point x) hr, hΦ⟩
theorem sg_call {c' : Code} {h : Option Value} {g : Bool} {l : List Value} {k : Result → Sem PySem.Fin} (hc : ∀ p, Sg M A Φ c' (M.den c') (.ret k h g l c p [] :: fs) s) : Sg M A Φ c (.call c' h g l k) fs s := by
  rintro Γ p rfl hΓ
  obtain ⟨e, s', hr, he⟩ := hc p (Γ.goto c') p rfl (hΓ.goto c')
  exact ⟨e, s', runs_call_seg hr, he⟩
theorem sg_leaf {k : Result → Sem PySem.Fin} {h : Option Value} {g : Bool} {l kp : List Value} {c₁ : Code} {p₁ : Pos} (r : Result) (hk : Sg M A Φ c₁ (k r) fs s) : Sg M A Φ c (leafOf r) (.ret k h g l c₁ p₁ kp :: fs) s := by
  rintro Γ p rfl hΓ
  obtain ⟨e, s', hr, he⟩ := hk (Γ.goto c₁) p₁ rfl (hΓ.goto c₁)
  exact ⟨e, s', Runs.pop r hr, he⟩
theorem sg_again {c' : Code} (hq : c'.quiet = true) (hc : Sg M A Φ c' (M.den c') fs s) : Sg M A Φ c (.pure (.again c')) fs s := by
  rintro Γ p rfl hΓ
  obtain ⟨e, s', hr, he⟩ := hc (Γ.goto c') p rfl (hΓ.goto c')
  exact ⟨e, s', Runs.head (c₁ := c') (fun _ _ x => .again hq x) hr, he⟩
theorem sg_end (r : Result) (h : Φ (.ret r) s) : Sg M A Φ c (leafOf r) [] s := by
  rintro Γ p rfl _
  exact ⟨.ret r, s, Runs.leaf r, h⟩
theorem sg_yield {v : Value} {g : Bool} {l : List Value} {k : Resume → Sem PySem.Fin} (hfs : splitAtGen fs = none) (h : ∀ p, Φ (.susp v g l k c p fs) s) : Sg M A Φ c (.yield v g l k) fs s := by
  rintro Γ p rfl _
  exact ⟨_, s, Runs.yield' fs hfs, h p⟩
theorem sg_nil {env : Env} {K : Flow → Sem PySem.Fin} {J : Value → Sem PySem.Fin} {gd : Bool → Bool} {lv : List Value → List Value} (h : Sg M A Φ c (K .next) fs s) : Sg M A Φ c ((execs [] env).wrap K J gd lv) fs s := h
theorem sg_cons {st : Stmt} {rest : List Stmt} {env : Env} {K : Flow → Sem PySem.Fin} {J : Value → Sem PySem.Fin} {gd : Bool → Bool} {lv : List Value → List Value}
    (h : Sg M A Φ c ((exec st env).wrap (fun f => match f with | .next => (execs rest env).wrap K J gd lv | f => K f) J gd lv) fs s) : Sg M A Φ c ((execs (st :: rest) env).wrap K J gd lv) fs s := by
  rw [execs_cons_wrap]
  exact h
end
section
variable {prog : Program} {w : World} {A : Around} {Φ : End → Shared → Prop} {c : Code} {fs : List Frame} {s : Shared} {env : Env}
/-- what a loop's call does with what comes back -/
def backK (env : Env) (K : Flow → Sem PySem.Fin) (J : Value → Sem PySem.Fin) (gd : Bool → Bool) (lv : List Value → List Value) : Result → Sem PySem.Fin := fun r => ((match r with | .ok f => (.pure f : Sem Flow) | .error e => .raise e).onRaise fun (x : Value) => do
        if (← field x 1) == Value.none then unsupported "frame.own-activation:exception-without-traceback"
        setFlight x env.frame).wrap K J gd lv
theorem sg_For {tg iter : Expr} {body : List Stmt} {pos : Pos} {K : Flow → Sem PySem.Fin} {J : Value → Sem PySem.Fin} {gd : Bool → Bool} {lv : List Value → List Value} (hs : ∀ x, foldedSetIterable iter env x = pure x)
    (h : wpAny (model prog w) (A.over c fs) (eval iter env) (fun x s1 => wpAny (model prog w) (A.over c fs) (pyIter x) (fun it s2 => ∀ p, Sg (model prog w) A Φ (.forLoop tg it body [] env) ((model prog w).den (.forLoop tg it body [] env)) (.ret (backK env K J gd lv) none (gd false) (lv []) c p [] :: fs) s2) NoX s1) NoX s) :
    Sg (model prog w) A Φ c ((exec (.For tg iter body [] pos) env).wrap K J gd lv) fs s := by
  rw [exec_For]
  refine sg_at ?_
  show Sg _ _ _ _ ((eval iter env >>= fun v => (foldedSetIterable iter env v >>= fun x => _)).wrap K J gd lv) _ _
  refine sg_bindW (wpAny_mono h (fun x s1 h1 => ?_) fun _ _ z => z)
  refine sg_bindW (wpAny_of_eq (hs x) ?_)
  refine sg_at ?_
  show Sg _ _ _ _ ((holding [x] (pyIter x) >>= fun it => runOwn (.forLoop tg it body [] env) env).wrap K J gd lv) _ _
  refine sg_bindW (wpAny_holding (wpAny_mono h1 (fun it s2 h2 => ?_) fun _ _ z => z))
  exact sg_call h2
/-- behind a turn's body -/
def turnK (tg : Expr) (it : Value) (body : List Stmt) (env : Env) : Flow → Sem PySem.Fin := fun f => match f with
  | .next | .cont => .pure (.again (.forLoop tg it body [] env))
  | .brk => .pure (.done .next)
  | .ret v => .pure (.done (.ret v))
theorem sg_forLoop {tg : Expr} {it : Value} {body : List Stmt}
    (h : wpAny (model prog w) (A.over (.forLoop tg it body [] env) fs) (pyNext it) (fun r s1 => match r with
      | none => Sg (model prog w) A Φ (.block [] env) (.pure (.done .next)) fs s1
      | some v => wpAny (model prog w) (A.over (.forLoop tg it body [] env) fs) (letOwnedTupleGo tg it v) (fun _ s2 => wpAny (model prog w) (A.over (.forLoop tg it body [] env) fs) (assign tg env v) (fun _ s3 =>
          ∀ J, Sg (model prog w) A Φ (.forLoop tg it body [] env) ((execs body env).wrap (turnK tg it body env) J id id) fs s3) NoX s2) NoX s1) NoX s) :
    Sg (model prog w) A Φ (.forLoop tg it body [] env) ((model prog w).den (.forLoop tg it body [] env)) fs s := by
  show Sg _ A Φ _ ((forTurn tg it body [] env).onRaise (fun x => do noteFrame x env; theTreesLotGoes x)) fs s
  unfold forTurn
  rw [Sem.onRaise_eq_wrap]
  refine sg_at ?_
  show Sg _ A Φ _ (((pyNext it).onRaise (fun _ => standAt _) >>= fun r => _).wrap _ _ _ _) fs s
  refine sg_bindW (wpAny_onRaise (wpAny_mono h (fun r s1 h1 => ?_) fun _ _ z => z.elim))
  cases r with
  | none =>
    show Sg _ A Φ _ (.pure (.again (.block [] env))) fs s1
    refine sg_again rfl ?_
    exact h1
  | some v =>
    refine sg_bindW (wpAny_mono h1 (fun _ s2 h2 => ?_) fun _ _ z => z)
    refine sg_bindW (wpAny_mono h2 (fun _ s3 h3 => ?_) fun _ _ z => z)
    rw [Sem.bind_eq_wrap', Sem.wrap_wrap]
    have key : ∀ (K1 K2 : Flow → Sem PySem.Fin) (J : Value → Sem PySem.Fin), (∀ f, K1 f = K2 f) → (∀ J', Sg (model prog w) A Φ (.forLoop tg it body [] env) ((execs body env).wrap K2 J' id id) fs s3) → Sg (model prog w) A Φ (.forLoop tg it body [] env) ((execs body env).wrap K1 J id id) fs s3 := fun K1 K2 J e q => by
      rw [funext e]
      exact q J
    exact key _ (turnK tg it body env) _ (fun f => by cases f <;> rfl) h3
theorem sg_func {body : List Stmt} (h : ∀ J, Sg (model prog w) A Φ (.func body env) ((execs body env).wrap (fun f => .pure (.done (.ret (match f with | .ret v => v | _ => .none)))) J id id) fs s) :
    Sg (model prog w) A Φ (.func body env) ((model prog w).den (.func body env)) fs s := by
  show Sg _ A Φ _ (.point [] fun _ => ((execs body env).onRaise (leaving env)) >>= _) fs s
  refine sg_point ?_
  rw [Sem.onRaise_eq_wrap, Sem.bind_eq_wrap', Sem.wrap_wrap]
  have key : ∀ (K1 K2 : Flow → Sem PySem.Fin) (J : Value → Sem PySem.Fin), (∀ f, K1 f = K2 f) → (∀ J', Sg (model prog w) A Φ (.func body env) ((execs body env).wrap K2 J' id id) fs s) → Sg (model prog w) A Φ (.func body env) ((execs body env).wrap K1 J id id) fs s := fun K1 K2 J e q => by
    rw [funext e]
    exact q J
  exact key _ (fun f => .pure (.done (.ret (match f with | .ret v => v | _ => .none)))) _ (fun f => by cases f <;> rfl) h
/-- yield e, as a statement -/
theorem sg_Yield {e : Expr} {yp pos : Pos} {K : Flow → Sem PySem.Fin} {J : Value → Sem PySem.Fin} {gd : Bool → Bool} {lv : List Value → List Value} (hfs : splitAtGen fs = none) (hco : env.scope.isCoroutine = false) (hi : interactive env = false)
    (h : wpAny (model prog w) (A.over c fs) (eval e env) (fun v s' => ∀ (g : Bool) (l : List Value) (k : Resume → Sem PySem.Fin) (p : Pos), g = gd false → (∀ Φ' s'', Sg (model prog w) A Φ' c (K .next) fs s'' → Sg (model prog w) A Φ' c (k (.send .none)) fs s'') → Φ (.susp v g l k c p fs) s') NoX s) :
    Sg (model prog w) A Φ c ((exec (.Expr (.Yield (some e) yp) pos) env).wrap K J gd lv) fs s := by
  rw [exec_Expr env _ pos hi rfl]
  show Sg _ A Φ c (.at pos fun _ => ((eval e env >>= fun v => (standAt yp >>= fun _ => yieldOut env v)) >>= fun x => dropValue (.Yield (some e) yp) pos x).wrap K J gd lv) fs s
  have hy : ∀ v, yieldOut env v = yieldValue v := fun v => by simp only [yieldOut, hco, Bool.false_eq_true, if_false]
  simp only [hy]
  refine sg_at ?_
  rw [Sem.bind_eq_wrap', Sem.bind_eq_wrap', Sem.wrap_wrap, Sem.wrap_wrap]
  refine sg_wrap (wpAny_mono h (fun v s' h' => ?_) fun _ _ x => x)
  refine sg_at (sg_yield hfs fun p => ?_)
  refine h' _ _ _ p rfl fun Φ' s'' hx => ?_
  exact hx
end
end Gn

set_option maxHeartbeats 2000000
/-! A generator's body, over trees: its statements, its loops, its yields. -/
namespace Gn
open PySem PySem.Spec PyProof.Rows L2 Dl Dv Dk Gx
/-- the heap as far as it reached then -/
def cutH (n : Nat) (h : Heap) : Heap := { h with objs := h.objs.extract 0 n }
theorem ex_get {α : Type} {xs : Array α} {n b : Nat} (hb : b < n) : (xs.extract 0 n)[b]? = xs[b]? := by
  rw [Array.getElem?_extract]
  by_cases q : b < xs.size
  · rw [if_pos (by omega), Nat.zero_add]
  · rw [if_neg (by omega), Array.getElem?_eq_none (by omega)]
theorem cut_get {n : Nat} {h : Heap} {b : Addr} (hb : b < n) : (cutH n h).get? b = h.get? b := by
  have e : (h.objs.extract 0 n)[b]? = h.objs[b]? := ex_get hb
  unfold Heap.get? cutH
  dsimp only
  rw [e]
theorem ex_le {α : Type} {xs : Array α} {n : Nat} : (xs.extract 0 n).size ≤ n := by rw [Array.size_extract]; omega
theorem of_cut {n : Nat} {h : Heap} {b : Addr} {o : Obj} (e : (cutH n h).get? b = some o) : b < n ∧ h.get? b = some o := by
  have hb : b < n := Nat.lt_of_lt_of_le (Heap.lt_size e) ex_le
  exact ⟨hb, by rw [← cut_get hb]; exact e⟩
theorem cut_size {n : Nat} {h : Heap} (hn : n ≤ h.objs.size) : (cutH n h).objs.size = n := by
  show (h.objs.extract 0 n).size = n
  rw [Array.size_extract]
  omega
theorem cut_funs {n : Nat} {h base : Heap} : ∀ {l : List PySem.Env}, (∀ b ∈ frs l, b < n) → h.FunFrames base l → (cutH n h).FunFrames base l
  | [], _, _ => trivial
  | env :: rest, hn, ⟨hk, ⟨L, o, hf, hb, ho, hd⟩, hr⟩ => by
    have hm : frs (env :: rest) = L :: frs rest := by unfold frs; rw [List.filterMap_cons, hf]
    refine ⟨hk, ⟨L, o, hf, hb, ?_, hd⟩, cut_funs (fun b z => hn b (by rw [hm]; exact List.mem_cons_of_mem _ z)) hr⟩
    rw [cut_get (hn L (by rw [hm]; exact List.mem_cons_self))]
    exact ho
/-- what stays the same through a generator's life; n: where the heap ended as it was made; vl: the law's draws -/
structure Gc where
  prog : Program
  w : World
  K : PySem.W.Frag
  mg : Str → Option Value
  base : Heap
  N : List Str
  env : PySem.Env
  outer : List PySem.Env
  A0 : Around
  n : Nat
  vl : Option (Addr × Addr)
  gen : Addr × Obj
def Gc.cut (γ : Gc) (s : Shared) : Shared := { s with heap := cutH γ.n s.heap }
/-- the body's context in a stretch that begins at s -/
def Gc.X (γ : Gc) (s : Shared) (H : Hp) : Cx := { prog := γ.prog, w := γ.w, K := γ.K, mg := γ.mg, base := γ.base, A := γ.A0.deeper γ.env, N := γ.N, s_0 := γ.cut s, H_0 := H, env := γ.env, outer := γ.outer, stack := γ.env :: γ.outer, ex := [], fn := fun _ => true, calm := true, pn := [], xe := fun _ _ => False }
structure Gc.Ok (γ : Gc) : Prop where
  cells : γ.env.cells = []
  lt : γ.n ≤ γ.env.locals
  bsz : γ.base.objs.size ≤ γ.n
  frs : ∀ b ∈ frs γ.outer, b < γ.n
  fr : γ.env.frame = some γ.env.locals
abbrev Wake (γ : Gc) (s : Shared) (H : Hp) : Prop := Env0 γ.prog γ.w γ.K γ.mg γ.base γ.A0 γ.outer s H
abbrev Still (priv : List (Addr × Obj)) (s : Shared) (H : Hp) : Prop := ∀ p ∈ priv, s.heap.get? p.1 = some p.2 ∧ H p.1 = none
/-- behind a stretch: what the consumer finds -/
structure Out (γ : Gc) (Z : Zn) (H : Hp) (s : Shared) (H' : Hp) (s' : Shared) : Prop where
  st : Step Z H H'
  os : s'.os = s.os
  bare : AllBare s'.gens
  un : Un (frs γ.outer) [] H H' (cutH γ.n s.heap) s'.heap
  hok : HOk γ.prog γ.w H' s'.heap
abbrev RdT := Hp → List (Addr × Obj) → (Resume → Sem PySem.Fin) → Code → List Frame → Prop
/-- a stretch that ends at a yield of d -/
def Post (γ : Gc) (rd : RdT) (d : D) (Z : Zn) (H : Hp) (s : Shared) : End → Shared → Prop := fun e s' => match e with
  | .susp v g l k c p fs => g = false ∧ fs.any Frame.guarded = false ∧ ∃ H' x priv, Out γ Z H s H' s' ∧ RelV x v ∧ RepZ γ.K Z H' x d ∧ (∀ p ∈ priv, s'.heap.get? p.1 = some p.2 ∧ H' p.1 = none ∧ γ.n ≤ p.1 ∧ ∀ v, p.2.data ≠ .cell v) ∧ γ.gen ∈ priv ∧ rd (mask Z H') priv k c fs
  | .ret _ => False
def PostE (γ : Gc) (Z : Zn) (H : Hp) (s : Shared) : End → Shared → Prop := fun e s' => e = .ret (.ok (.ret .none)) ∧ ∃ H', Out γ Z H s H' s'
/-- it sleeps; it will hand out ds -/
def Ready (γ : Gc) : List D → RdT
  | [] => fun G priv k c fs => ∀ Z H s, Z.vol = γ.vl → Good Z H → Le G (mask Z H) → Wake γ s H → γ.n ≤ s.heap.objs.size → Still priv s H → Sg (model γ.prog γ.w) γ.A0 (PostE γ Z H s) c (k (.send .none)) fs s
  | d :: ds => fun G priv k c fs => ∀ Z H s, Z.vol = γ.vl → Good Z H → Le G (mask Z H) → Wake γ s H → γ.n ≤ s.heap.objs.size → Still priv s H → Sg (model γ.prog γ.w) γ.A0 (Post γ (Ready γ ds) d Z H s) c (k (.send .none)) fs s
def Phi (γ : Gc) (ds : List D) (Z : Zn) (H : Hp) (s : Shared) : End → Shared → Prop := match ds with
  | [] => PostE γ Z H s
  | d :: ds => Post γ (Ready γ ds) d Z H s
theorem ready_iff {γ : Gc} {ds : List D} {G : Hp} {priv : List (Addr × Obj)} {k : Resume → Sem PySem.Fin} {c : Code} {fs : List Frame} : Ready γ ds G priv k c fs ↔
    ∀ Z H s, Z.vol = γ.vl → Good Z H → Le G (mask Z H) → Wake γ s H → γ.n ≤ s.heap.objs.size → Still priv s H → Sg (model γ.prog γ.w) γ.A0 (Phi γ ds Z H s) c (k (.send .none)) fs s := by
  cases ds <;> exact Iff.rfl
/-- the body's frame, as it was when it fell asleep, in a later state -/
theorem rebuild {γ : Gc} (ok : γ.Ok) {ip : List (Addr × Obj)} {σ : L2.St} {H0 H1 H2 : Hp} {s0 s1 s2 : Shared} {oL : Obj} (J : Inv (γ.X s0 H0) ip σ H1 s1) (hL : s1.heap.get? γ.env.locals = some oL) (w : Wake γ s2 H2) (hn : γ.n ≤ s2.heap.objs.size) (st : Still ((γ.env.locals, oL) :: ip) s2 H2) : Inv (γ.X s2 H2) ip σ H2 s2 := by
  have o := J.ok
  obtain ⟨l1, l2⟩ := st _ List.mem_cons_self
  have ky : ∀ {x : Str} {c : Addr}, γ.env.cells.lookup x = some c → False := fun {x c} e => by rw [ok.cells] at e; cases e
  refine ⟨⟨w.mod, o.kind, o.glob, o.blt, ?_, fun x y c e _ => (ky e).elim, o.has, fun x c _ e => (ky e).elim, o.hd, o.frames, o.stk, fun b z => absurd z (by simp [Gc.X]), fun b ob e => ?_, ?_, fun b _ _ => by simp [Gc.X], fun b z => absurd z (by simp [Gc.X]), cut_funs ok.frs w.funs, w.frf⟩,
    rfl, w.bare, Un.kept fun b ob e => (of_cut e).2, ?_, fun x c e => (ky e).elim, l2, fun x c e => (ky e).elim, fun p hp => ?_, w.hok, J.len⟩
  · show (cutH γ.n s2.heap).objs.size ≤ γ.env.locals
    rw [cut_size hn]
    exact ok.lt
  · obtain ⟨e1, e2⟩ := w.bs b ob e
    refine ⟨?_, e2⟩
    show (cutH γ.n s2.heap).get? b = some ob
    rw [cut_get (Nat.lt_of_lt_of_le (Heap.lt_size e) ok.bsz)]
    exact e1
  · show γ.base.objs.size ≤ (cutH γ.n s2.heap).objs.size
    rw [cut_size hn]
    exact ok.bsz
  · obtain ⟨m, hm, hl⟩ := J.loc
    have key : ∀ ob, s1.heap.get? γ.env.locals = some ob → s2.heap.get? γ.env.locals = some ob := fun ob e => by rw [hL] at e; cases e; exact l1
    refine ⟨m, hm.at key, fun i x v e1 e2 e3 => ?_⟩
    obtain ⟨u, r, q⟩ := hl i x v e1 e2 e3
    refine ⟨u, r, ?_⟩
    rcases q with q | ⟨_, c, e, _⟩
    · exact .inl q
    · exact (ky e).elim
  · have hp' : p ∈ ip := by simpa [Gc.X] using hp
    obtain ⟨a1, a2⟩ := st p (List.mem_cons_of_mem _ hp')
    obtain ⟨_, _, b3, b4, b5⟩ := J.pin p (by simpa [Gc.X] using hp')
    exact ⟨a1, a2, b3, b4, b5⟩
/-! ### the rules -/
/-- what such a statement does: from the locals and what is still to be handed out -/
abbrev GG := Env' → List D → (Env' → List D → Prop) → Prop
structure GCd (γ : Gc) (ip : List (Addr × Obj)) (c : Code) (fs : List Frame) (gd : Bool → Bool) : Prop where
  over : γ.A0.over c fs = γ.A0.deeper γ.env
  split : splitAtGen fs = none
  guard : fs.any Frame.guarded = false
  gd : gd false = false
  mem : γ.gen ∈ ip
  ip : ∀ p ∈ ip, γ.n ≤ p.1
/-- where the body stands -/
structure GI (γ : Gc) (ip : List (Addr × Obj)) (G : Hp) (Z : Zn) (H0 : Hp) (s0 : Shared) (σ : L2.St) (H : Hp) (s : Shared) (env : Env') : Prop where
  vl : Z.vol = γ.vl
  n : γ.n ≤ s0.heap.objs.size
  inv : Inv (γ.X s0 H0) ip σ H s
  st : Step Z H0 H
  env : RepE γ.K Z [] H σ env
  le : Le G (mask Z H)
abbrev Cont (γ : Gc) (ip : List (Addr × Obj)) (G : Hp) (c : Code) (fs : List Frame) (t : Sem PySem.Fin) (k : Env' → List D → Prop) : Prop := ∀ ds Z H0 s0 σ H s env, GI γ ip G Z H0 s0 σ H s env → k env ds → Sg (model γ.prog γ.w) γ.A0 (Phi γ ds Z H0 s0) c t fs s
structure GS (γ : Gc) (st : Stmt) (g : GG) : Prop where
  run : ∀ (ip : List (Addr × Obj)) (G : Hp) (c : Code) (fs : List Frame) (K : Flow → Sem PySem.Fin) (J : Value → Sem PySem.Fin) (gd : Bool → Bool) (lv : List Value → List Value) (k : Env' → List D → Prop), GCd γ ip c fs gd → Cont γ ip G c fs (K .next) k →
    ∀ ds Z H0 s0 σ H s env, GI γ ip G Z H0 s0 σ H s env → g env ds k → Sg (model γ.prog γ.w) γ.A0 (Phi γ ds Z H0 s0) c ((exec st γ.env).wrap K J gd lv) fs s
structure GSs (γ : Gc) (sts : List Stmt) (g : GG) : Prop where
  run : ∀ (ip : List (Addr × Obj)) (G : Hp) (c : Code) (fs : List Frame) (K : Flow → Sem PySem.Fin) (J : Value → Sem PySem.Fin) (gd : Bool → Bool) (lv : List Value → List Value) (k : Env' → List D → Prop), GCd γ ip c fs gd → Cont γ ip G c fs (K .next) k →
    ∀ ds Z H0 s0 σ H s env, GI γ ip G Z H0 s0 σ H s env → g env ds k → Sg (model γ.prog γ.w) γ.A0 (Phi γ ds Z H0 s0) c ((execs sts γ.env).wrap K J gd lv) fs s
def gNil : GG := fun env ds k => k env ds
def gThen (g1 g2 : GG) : GG := fun env ds k => g1 env ds fun e d => g2 e d k
section
variable {γ : Gc} {st : Stmt} {rest : List Stmt} {g g2 : GG}
theorem gss_nil : GSs γ [] gNil := ⟨fun ip G c fs K J gd lv k g hk ds Z H0 s0 σ H s env hI h => sg_nil (hk ds Z H0 s0 σ H s env hI h)⟩
theorem gss_cons (a : GS γ st g) (b : GSs γ rest g2) : GSs γ (st :: rest) (gThen g g2) := ⟨fun ip G c fs K J gd lv k q hk ds Z H0 s0 σ H s env hI h => sg_cons (a.run ip G c fs _ J gd lv _ q (fun ds Z H0 s0 σ H s env hI h => b.run ip G c fs K J gd lv k q hk ds Z H0 s0 σ H s env hI h) ds Z H0 s0 σ H s env hI h)⟩
/-- no own list stands in the locals -/
def plainE : Env' → Bool
  | [] => true
  | .own _ :: _ => false
  | _ :: r => plainE r
theorem plainE_at : ∀ {env : Env'} {i : Nat} {ds : List D}, plainE env = true → env[i]? ≠ some (.own ds)
  | [], _, _, _ => by simp
  | s :: r, 0, ds, h => by
    intro e
    cases e
    cases h
  | s :: r, i + 1, ds, h => by
    have h2 : plainE r = true := by cases s <;> first | exact h | cases h
    rw [List.getElem?_cons_succ]
    exact plainE_at h2
theorem rep_plain {K : PySem.W.Frag} {Z : Zn} {O : Own} {H : Hp} {σ : L2.St} {env : Env'} (a : StAt K Z O H σ env) (hp : plainE env = true) : RepE K Z [] H σ env := by
  refine ⟨a.env.len, fun i s e => ?_, fun i a vs h => by cases h⟩
  obtain ⟨v, h1, h2⟩ := a.env.at_ i s e
  refine ⟨v, h1, ?_⟩
  cases s with
  | un => trivial
  | val d => obtain ⟨x, q1, q2⟩ := h2; exact ⟨x, q1, Rep.mono add_le q2⟩
  | own ds => exact (plainE_at hp e).elim
  | exc x => obtain ⟨q1, q2⟩ := h2; exact ⟨q1, q2.sub⟩
def gPlain (g : DG) : GG := fun env ds k => g env ⟨fun e => plainE e = true ∧ k e ds, fun _ => False, fun _ => False, fun _ => False, fun _ => False, fun _ _ => False⟩
theorem gs_plain {g : DG} (h : ∀ s0 H0, PDS (γ.X s0 H0) WF st g) : GS γ st (gPlain g) := by
  refine ⟨fun ip G c fs K J gd lv k q hk ds Z H0 s0 σ H s env hI hg => ?_⟩
  refine sg_wrap ?_
  rw [q.over]
  have lz : ∀ O' H', Lt Z [] H O' H' → Le (mask Z H) (mask Z H') := fun O' H' l a o e => add_le _ _ (l a o (by rw [add_nil]; exact e))
  have wish : DS γ.K g WF { nx := fun σ' H' => ∃ env', RepE γ.K Z [] H' σ' env' ∧ Step Z H0 H' ∧ Le (mask Z H) (mask Z H') ∧ k env' ds, rt := fun _ _ => False } σ H := by
    refine ⟨Z, [], env, _, ⟨by rw [add_nil]; exact hI.st.good, by rw [add_nil]; exact hI.env⟩, hg, ?_⟩
    refine ⟨fun env' h' O' σ' H' l a => ⟨env', rep_plain a h'.1, hI.st.trans ⟨lz O' H' l, a.good.sub⟩, lz O' H' l, h'.2⟩, fun _ z => z.elim, fun _ z => z.elim, fun _ z => z.elim, fun _ z => z.elim, fun _ _ z => z.elim⟩
  refine wpAny_mono ((h s0 H0).run ip s σ H _ hI.inv wish) (fun f s' hs => ?_) fun e s' z => z
  cases f with
  | next =>
    obtain ⟨σ', H', I', env', r, st', l', hk'⟩ := hs
    exact hk ds Z H0 s0 σ' H' s' env' ⟨hI.vl, hI.n, I', st', r, hI.le.trans l'⟩ hk'
  | brk => obtain ⟨_, _, _, z⟩ := hs; exact z.elim
  | cont => obtain ⟨_, _, _, z⟩ := hs; exact z.elim
  | ret u => obtain ⟨_, _, _, _, _, z⟩ := hs; exact z.elim
end
end Gn

set_option maxHeartbeats 2000000
/-! yield; a for over a range or a list within which yields stand. -/
namespace Gn
open PySem PySem.Spec PyProof.Rows L2 Dl Dv Dk Gx GenW
section
variable {γ : Gc} {pos yp : Pos} {e iter tg : Expr} {body : List Stmt} {fe : DE} {fi : DA}
def gYield (fe : DE) : GG := fun env ds k => fe env (fun d => ∃ ds', ds = d :: ds' ∧ k env ds') FX
theorem gs_yield (ok : γ.Ok) (he : ∀ s0 H0, PD (γ.X s0 H0) WF e fe) (hco : γ.env.scope.isCoroutine = false) (hi : interactive γ.env = false) : GS γ (.Expr (.Yield (some e) yp) pos) (gYield fe) := by
  refine ⟨fun ip G c fs K J gd lv k q hk ds Z H0 s0 σ H s env hI hg => ?_⟩
  refine sg_Yield q.split hco hi ?_
  rw [q.over]
  refine wpAny_mono ((he s0 H0).run ip s σ H (fun x H1 => Step Z H H1 ∧ ∃ d ds', ds = d :: ds' ∧ k env ds' ∧ RepZ γ.K Z H1 x d) hI.inv ⟨Z, [], env, _, _, ⟨hI.st.good, hI.env⟩, hg, fun _ z => z.elim, fun d ⟨ds', e, hk'⟩ v H' st r => ⟨st, d, ds', e, hk', r⟩⟩) (fun v s' hv => ?_) fun _ _ z => z
  obtain ⟨x, H1, I', rv, st1, d, ds', rfl, hk', rep⟩ := hv
  intro g l kk p hg2 hcont
  obtain ⟨m, hm, _⟩ := I'.loc
  obtain ⟨oL, hL, hLd⟩ : ∃ oL, s'.heap.get? γ.env.locals = some oL ∧ ∀ v, oL.data ≠ .cell v := by
    obtain ⟨o, es, ep, ho, r⟩ := hm
    exact ⟨o, ho, fun v z => by rw [r.1] at z; cases z⟩
  refine ⟨by rw [hg2]; exact q.gd, q.guard, H1, x, (γ.env.locals, oL) :: ip, ⟨hI.st.trans st1, I'.os, I'.bare, I'.base, I'.hok⟩, rv, rep, fun p hp => ?_, List.mem_cons_of_mem _ q.mem, ready_iff.mpr fun Z2 H2 s2 hv hgd hle hw hn hst => ?_⟩
  · rcases List.mem_cons.mp hp with hp | hp
    · subst hp
      exact ⟨hL, I'.free, ok.lt, hLd⟩
    · obtain ⟨a1, a2, a3, a4, a5⟩ := I'.pin p (List.mem_append_right _ hp)
      exact ⟨a1, a2, q.ip p hp, a5⟩
  · refine hcont _ _ (hk ds' Z2 H2 s2 σ H2 s2 env ⟨hv, hn, rebuild ok I' hL hw hn hst, Step.refl hgd, (hI.env.step st1).le hle (hv.trans hI.vl.symm) (fun i a vs z => by cases z), (hI.le.trans st1.le).trans hle⟩ hk')
def gForL (gt : DTg) (gb : GG) : List D → Env' → List D → (Env' → List D → Prop) → Prop
  | [], env, ds, k => k env ds
  | x :: xs, env, ds, k => gt x env fun e1 => gb e1 ds fun e2 d2 => gForL gt gb xs e2 d2 k
def gFor (fi : DA) (gt : DTg) (gb : GG) : GG := fun env ds k => fi env (fun xs => gForL gt gb xs env ds k) FX
theorem gs_for {t : TG} {gt : DTg} {ws : List Nat} {gb : GG} (hi : ∀ s0 H0, PDI (γ.X s0 H0) WF tg iter fi) (hg : ∀ s0 H0, L2.PG (γ.X s0 H0) tg t) (ht : TgOk γ.K t gt ws) (hb : GSs γ body gb) (hs : ∀ x, foldedSetIterable iter γ.env x = pure x := by intro _; rfl) :
    GS γ (.For tg iter body [] pos) (gFor fi gt gb) := by
  refine ⟨fun ip G c fs K J gd lv k q hk ds Z H0 s0 σ H s env hI hgf => ?_⟩
  refine sg_For hs ?_
  rw [q.over]
  refine wpAny_mono ((hi s0 H0).run ip s σ H (fun Jt H' => Step Z H H' ∧ ∃ xs, ItR γ.K Z.vol Jt (mask Z H') xs ∧ gForL gt gb xs env ds k) hI.inv ⟨Z, [], env, _, _, ⟨hI.st.good, hI.env⟩, hgf, fun _ z => z.elim, fun xs hx Jt H' st it => ⟨st, xs, it, hx⟩⟩) (fun v s1 h1 => wpAny_mono h1 (fun itv s2 h2 p => ?_) fun _ _ z => z) fun _ _ z => z
  obtain ⟨it, fp, tn, Jt, H2, rfl, I2, T, st2, f2, stp, items, ir, hl⟩ := h2
  have sz : ∀ {s0 : Shared}, γ.n ≤ s0.heap.objs.size → (γ.X s0 H0).s_0.heap.objs.size = γ.n := fun hn => cut_size hn
  have fst : ∀ b ∈ fp, b ≠ γ.env.locals ∧ b ∉ frs γ.outer ∧ γ.n ≤ b ∧ (∀ x c, γ.env.cells.lookup x = some c → c ≠ b) ∧ ∀ p ∈ ip, p.1 ≠ b := fun b hb => by
    obtain ⟨_, a2, a3, a4, a5, a6⟩ := f2 b hb
    refine ⟨a2, a3, ?_, a5, fun p hp => a6 p (List.mem_append_right _ hp)⟩
    rcases a4 with z | z
    · exact absurd z (by simp [Gc.X])
    · rw [sz hI.n] at z; exact z
  have stat : ∀ {s0 : Shared} {H0 H : Hp}, γ.n ≤ s0.heap.objs.size → (∀ b ∈ fp, H b = none) → ∀ b ∈ fp, FpOk (γ.X s0 H0) ip H b := fun {s0 H0 H} hn hz b hb => by
    obtain ⟨a2, a3, a4, a5, a6⟩ := fst b hb
    exact ⟨hz b hb, a2, a3, .inr (by show (cutH γ.n s0.heap).objs.size ≤ b; rw [cut_size hn]; exact a4), a5, fun p hp => a6 p (by simpa [Gc.X] using hp)⟩
  have gl : ∀ (kk : Result → Sem PySem.Fin) (p : Pos), GCd γ ip (.forLoop tg (.ref it) body [] γ.env) (.ret kk none (gd false) (lv []) c p [] :: fs) id := fun kk p =>
    ⟨(over_loop rfl rfl).trans q.over, by show (splitAtGen fs).map _ = none; rw [q.split]; rfl, by show (gd false || fs.any Frame.guarded) = false; rw [q.gd, q.guard]; rfl, rfl, q.mem, q.ip⟩
  have g0 : Le G (mask Z H2) := hI.le.trans stp.le
  have loop : ∀ (xs : List D) (i : Nat) (ds : List D) (Z' : Zn) (H0 : Hp) (s0 : Shared) (σ : L2.St) (H : Hp) (s : Shared) (env : Env'), GI γ ip (mask Z H2) Z' H0 s0 σ H s env → tn i s.heap → (∀ b ∈ fp, H b = none) → items.drop i = xs → gForL gt gb xs env ds k →
      Sg (model γ.prog γ.w) γ.A0 (Phi γ ds Z' H0 s0) (.forLoop tg (.ref it) body [] γ.env) ((model γ.prog γ.w).den (.forLoop tg (.ref it) body [] γ.env)) (.ret (backK γ.env K J gd lv) none (gd false) (lv []) c p [] :: fs) s := by
    intro xs
    induction xs with
    | nil =>
      intro i ds Z' H0 s0 σ H s env hJ ht0 hz hd hL
      refine sg_forLoop ?_
      rw [(gl _ _).over]
      have stop := ir.stop Z' H (hJ.vl.trans hI.vl.symm) hJ.le hJ.st.good i (List.getElem?_eq_none (by
        have := congrArg List.length hd
        rw [List.length_drop] at this
        simp at this
        omega))
      refine wpAny_mono (T.done (γ.X s0 H0) rfl rfl rfl rfl i ip s σ H NoX hJ.inv (stat hJ.n hz) ht0 stop) (fun r s1 h1 => ?_) fun _ _ z => z
      obtain ⟨rfl, I1⟩ := h1
      exact sg_leaf (.ok .next) (hk ds Z' H0 s0 σ H s1 env ⟨hJ.vl, hJ.n, I1, hJ.st, hJ.env, g0.trans hJ.le⟩ hL)
    | cons x xs ih =>
      intro i ds Z' H0 s0 σ H s env hJ ht0 hz hd hL
      refine sg_forLoop ?_
      rw [(gl _ _).over]
      have hx : items[i]? = some x := by
        have := congrArg (fun l => l[0]?) hd
        simpa using this
      have hd2 : items.drop (i + 1) = xs := by
        have := congrArg List.tail hd
        rw [List.tail_drop] at this
        exact this
      obtain ⟨go, yl⟩ := ir.go Z' H (hJ.vl.trans hI.vl.symm) hJ.le hJ.st.good i x hx
      refine wpAny_mono (T.item (γ.X s0 H0) rfl rfl rfl rfl i ip s σ H NoX hJ.inv (stat hJ.n hz) ht0 go) (fun r s1 h1 => ?_) fun _ _ z => z
      obtain ⟨u, rfl, h1⟩ := h1
      refine wpAny_mono h1 (fun _ s3 h3 => ?_) fun _ _ z => z
      obtain ⟨y, H3, I3, rv, hy, st3, fr3⟩ := h3
      obtain ⟨s4, r4⟩ := yl y H3 hy
      have I3p := I3.pinned (stat hJ.n fr3) (T.obj _ _ st3)
      have wish : t y σ H3 (fun σ6 H6 => H6 = H3 ∧ ∃ e1, RepE γ.K Z' [] H6 σ6 e1 ∧ gb e1 ds fun e2 d2 => gForL gt gb xs e2 d2 k) :=
        ht Z' [] H3 σ env y x _ _ ⟨s4.good, hJ.env.step s4⟩ r4 hL fun e1 h1 σ' a _ => ⟨rfl, e1, a.env, h1⟩
      refine wpAny_mono ((hg s0 H0).run _ s3 σ H3 y u _ I3p rv wish) (fun _ s6 h6 J6 => ?_) fun _ _ z => z
      obtain ⟨σ6, H6, I6, rfl, e1, r6, h6⟩ := h6
      refine hb.run (ip ++ pinsAt fp s3.heap) (mask Z H2) _ _ _ J6 id id _ ⟨(gl _ _).over, (gl _ _).split, (gl _ _).guard, rfl, List.mem_append_left _ q.mem, fun p hp => ?_⟩ (fun ds Z' H0 s0 σ H s env hI' h' => ?_) ds Z' H0 s0 σ6 H6 s6 e1 ⟨hJ.vl, hJ.n, I6, hJ.st.trans s4, r6, hJ.le.trans s4.le⟩ h6
      · rcases List.mem_append.mp hp with hp | hp
        · exact q.ip p hp
        · exact (fst p.1 (of_pinsAt hp).1).2.2.1
      · show Sg _ _ _ _ (.pure (.again (.forLoop tg (.ref it) body [] γ.env))) _ _
        have pin : ∀ b ∈ fp, ∀ o, s3.heap.get? b = some o → s.heap.get? b = some o ∧ H b = none := fun b hb o e =>
          have z := hI'.inv.pin (b, o) (List.mem_append_right _ (List.mem_append_right _ (mem_pinsAt hb e)))
          ⟨z.1, z.2.1⟩
        refine sg_again rfl (ih (i + 1) ds Z' H0 s0 σ H s env ⟨hI'.vl, hI'.n, hI'.inv.unpinned, hI'.st, hI'.env, hI'.le⟩ (T.keep _ _ _ st3 fun b hb o e => (pin b hb o e).1) (fun b hb => ?_) hd2 h')
        obtain ⟨o, e, _⟩ := T.obj _ _ st3 b hb
        exact (pin b hb o e).2
  exact loop items 0 ds Z H0 s0 σ H2 s2 env ⟨hI.vl, hI.n, I2, hI.st.trans stp, hI.env.step stp, Le.refl _⟩ st2 (fun b hb => (f2 b hb).1) rfl hl
end
end Gn

set_option maxHeartbeats 2000000
/-! A generator is woken; a generator def. -/
namespace Gn
open PySem PySem.Spec PyProof.Rows L2 Dl Dv Dk Gx GenW
open Sem (wp)
/-- what stands in the table: one that will go on as Sg says -/
def GoesS (M : Model) (A : Around) (Φ : End → Shared → Prop) (s : Shared) : GenState → Prop
  | .fresh c => Sg M A Φ c (M.den c) [] s
  | .suspended k _ c _ fs _ => Sg M A Φ c (k (.send .none)) fs s
  | _ => False
theorem resume_sg {M : Model} {A : Around} {Φ : End → Shared → Prop} {E : Value → Shared → Prop} {s : Shared} {g : Nat} {gs : GenState} {l : List Value} {α : Type} {k : GenResult → Sem α} {Q : α → Shared → Prop} (hg : s.gens[g]? = some gs) (hgo : GoesS M A Φ (s.setGen g .running) gs)
    (hR : ∀ x s₁, Φ (.ret x) s₁ → wpAny M A (k (End.ret x).result) Q E (s₁.setGen g .finished))
    (hY : ∀ v gd l k' c p fs s₁, Φ (.susp v gd l k' c p fs) s₁ → gd = false ∧ fs.any Frame.guarded = false ∧ wpAny M A (k (.yielded v)) Q E (s₁.setGen g (.suspended k' l c p fs false))) : wpAny M A (.resume g (.send .none) l k) Q E s := by
  intro Γ p hΓ
  rw [Sem.wp_resume]
  have hB : ∀ c, (Γ.wake c p).Woken A := fun c => hΓ.wake c p
  have fin : ∀ e₁ s₁, Φ e₁ s₁ → e₁.quiet = true ∧ wp M Γ (k e₁.result) (fun a _ s' => Q a s') (fun e _ s' => E e s') p (s₁.setGen g e₁.genState) := by
    intro e₁ s₁ he
    cases e₁ with
    | ret x => exact ⟨rfl, hR x s₁ he Γ p hΓ⟩
    | susp v gd l k' c' p' fs' =>
      obtain ⟨h1, h2, h3⟩ := hY _ _ _ _ _ _ _ _ he
      subst h1
      refine ⟨by show (!(false || fs'.any Frame.guarded)) = true; rw [h2]; rfl, ?_⟩
      have e : (End.susp v false l k' c' p' fs').genState = .suspended k' l c' p' fs' false := by
        show GenState.suspended k' l c' p' fs' (false || fs'.any Frame.guarded) = _
        rw [h2]
        rfl
      rw [e]
      exact h3 Γ p hΓ
  cases gs with
  | fresh c =>
    obtain ⟨e₁, s₁, hr, he⟩ := hgo (Γ.wake c p) p rfl (hB c)
    obtain ⟨q1, q2⟩ := fin e₁ s₁ he
    exact ⟨_, _, by unfold Wakes; rw [hg]; exact ⟨e₁, s₁, hr, q1, rfl, rfl⟩, q2⟩
  | suspended k₀ l₀ c₀ p₀ fs₀ cl =>
    obtain ⟨e₁, s₁, hr, he⟩ := hgo (Γ.wake c₀ p) p₀ rfl (hB c₀)
    obtain ⟨q1, q2⟩ := fin e₁ s₁ he
    exact ⟨_, _, by unfold Wakes; rw [hg]; exact ⟨e₁, s₁, hr, q1, rfl, rfl⟩, q2⟩
  | running => exact hgo.elim
  | finished => exact hgo.elim
/-- next(g) -/
theorem next_sg {prog : Program} {w : World} {A : Around} {E : Value → Shared → Prop} {s : Shared} {a : Addr} {g : Nat} {gs : GenState} {Φ : End → Shared → Prop} {Q : Option Value → Shared → Prop} (hh : A.handled = none) (hl : s.heap.NoLimit) (hroom : A.depth < recursionLimit)
    (hg : s.heap.IsGen a g) (hgs : s.gens[g]? = some gs) (hgo : GoesS (model prog w) A.in1 Φ (s.setGen g .running) gs)
    (hR : ∀ x s₁, Φ (.ret x) s₁ → x = .ok (.ret .none) ∧ ∀ h', (∀ b o, s₁.heap.get? b = some o → h'.get? b = some o) → Q none { s₁.setGen g .finished with heap := h' })
    (hY : ∀ v gd l k' c p fs s₁, Φ (.susp v gd l k' c p fs) s₁ → gd = false ∧ fs.any Frame.guarded = false ∧ Q (some v) (s₁.setGen g (.suspended k' l c p fs false))) : wpAny (model prog w) A (pyNext (.ref a)) Q E s := by
  unfold pyNext
  refine wpAny_bind (wpAny_attempt (wpAny_callSpecial?_slot (name := Str.ofString "__next__") hg.typeIs slot_gen_next
    (wpAny_call_entry slot_gen_next hg.typeIs entry_gen_next ?_ (args_gen_next _))))
  show wpAny _ A.in1 (Builtin.Generator.genWake (.ref a) (.send .none)) _ _ s
  unfold Builtin.Generator.genWake
  refine wpAny_bind (wpAny_holding (wpAny_genNumber hg (wpAny_bind (wpAny_genState hgs ?_))))
  cases gs with
  | running => exact hgo.elim
  | finished => exact hgo.elim
  | _ =>
    refine wpAny_bind (wpAny_roomToWake hl hroom ?_)
    show wpAny _ A.in1 (.resume g (.send .none) [] _) _ _ s
    refine resume_sg hgs hgo (fun x s₁ hx => ?_) (fun v gd l k' c p fs s₁ hv => ?_)
    · obtain ⟨rfl, hp⟩ := hR x s₁ hx
      show wpAny _ A.in1 (newExc (.type "StopIteration") [] >>= _) _ _ _
      refine wpAny_bind ?_
      simp only [newExc, newTuple]
      refine wpAny_bind (wpAny_newObj_type ?_ (by size_fits))
      refine wpAny_bind (m := firstArgMember _ _) (wpAny_of_eq (a := Value.none) (by first | rfl | (simp only [firstArgMember]; rfl)) ?_)
      refine wpAny_newObj_type ?_ (by size_fits)
      simp only [raiseNew]
      refine wpAny_bind (wpAny_bind (wpAny_handled ?_))
      first | rw [show A.in1.handled = none from hh] | rw [hh]
      refine wpAny_throw ?_
      refine wpAny_bind (wpAny_isInstance (T := "StopIteration") (b := true) ⟨_, Heap.get?_push_size _ rfl, rfl⟩ isSubtype_stop ?_)
      exact wpAny_pure (hp _ fun b o hb => Heap.get?_push_of_some _ (Heap.get?_push_of_some _ hb))
    · obtain ⟨h1, h2, h3⟩ := hY _ _ _ _ _ _ _ _ hv
      exact ⟨h1, h2, wpAny_pure ⟨v, rfl, wpAny_pure h3⟩⟩
/-! ### a generator def -/
/-- a call has made one: it will hand out ds -/
def GMadeD (P : Program) (w : World) (K : PySem.W.Frag) (mg : Str → Option Value) (base : Heap) (k : Nat) (outer : List PySem.Env) (Z : Zn) (H : Hp) (s : Shared) (ds : List D) (u : Value) (s' : Shared) : Prop :=
  ∃ (a : Addr) (g : Nat) (c : Code) (go oL : Obj) (N : List Str) (env : PySem.Env), u = .ref a ∧ s.heap.objs.size ≤ a ∧ s.heap.objs.size ≤ env.locals ∧ (∀ h : Heap, h.get? a = some go → h.IsGen a g) ∧ s'.heap.get? a = some go ∧ (∃ vs, go.cls = .type "generator" ∧ go.data = .fields vs) ∧ s'.heap.get? env.locals = some oL ∧ (∀ v, oL.data ≠ .cell v) ∧
    s'.gens[g]? = some (.fresh c) ∧ s'.os = s.os ∧ AllBare s'.gens ∧ s'.heap.NoLimit ∧ (∀ b o, s.heap.get? b = some o → s'.heap.get? b = some o) ∧
    ∀ A0 : Around, Room k A0 → A0.frames = some outer → (Gc.mk P w K mg base N env outer A0 s.heap.objs.size Z.vol (a, go)).Ok ∧
      Ready (Gc.mk P w K mg base N env outer A0 s.heap.objs.size Z.vol (a, go)) ds (mask Z H) [(env.locals, oL), (a, go)] (fun _ => (model P w).den c) c []
abbrev DFG := List D → List D → Prop
structure GFnD (P : Program) (w : World) (K : PySem.W.Frag) (mg : Str → Option Value) (base : Heap) (k : Nat) (f : Addr) (fd : FuncData) (ps : List Str) (n : Nat) (F : DFG) : Prop where
  run : ∀ (A : Around) (outer : List PySem.Env) (s : Shared) (H : Hp) (args : Args) (us : List Value) (vs : List V) (Z : Zn) (ds out : List D), Room k A → Env0 P w K mg base A outer s H → BindsTo s fd args (ps.zip us) → Vals vs us → vs.length = n → Good Z H → RepsZ K Z H vs ds → F ds out →
    codeAny (model P w) A (.call (.ref f) args) (fun r s' => match r with | .ok (.ret u) => GMadeD P w K mg base k outer Z H s out u s' | _ => False) s
def gDef (N : Nat) (g : GG) : DFG := fun ds out => g (ds.map .val ++ List.replicate (N - ds.length) .un) out fun _ rest => rest = []
theorem cells_none : ∀ {names : List (Str × NameKind)} {n : Nat} {acc : List (Str × Addr)}, (∀ y ∈ names, y.2 ≠ .cell) → cellsFrom n names acc = acc
  | [], _, _, _ => rfl
  | (m, k) :: r, n, acc, h => by
    unfold cellsFrom
    have h1 : (k == NameKind.cell) = false := by
      have := h (m, k) List.mem_cons_self
      cases k <;> first | rfl | exact (this rfl).elim
    rw [h1]
    exact cells_none fun y hy => h y (List.mem_cons_of_mem _ hy)
theorem cut_all {h : Heap} : cutH h.objs.size h = h := by
  obtain ⟨objs, l⟩ := h
  unfold cutH
  simp
theorem okG {P : Program} {w : World} {K : PySem.W.Frag} {mg : Str → Option Value} {base : Heap} {x qual : Str} {params : Arguments} {body : List Stmt} {scope : Scope} {f : Addr} {fd : FuncData} {N ps : List Str} {k : Nat} {g : GG} (F : FunD K x qual params body scope [] [] f fd) (S : GScope N ps scope) (hc : ∀ y ∈ scope.names, y.2 ≠ .cell)
    (hbody : ∀ (cdv : Value) (L : Nat) (outer : List PySem.Env) (A0 : Around) (n : Nat) (vl : Option (Addr × Addr)) (gen : Addr × Obj), Room k (A0.deeper (envOfC qual scope L f cdv)) → (Gc.mk P w K mg base N (envOfC qual scope L f cdv) outer A0 n vl gen).Ok → GSs (Gc.mk P w K mg base N (envOfC qual scope L f cdv) outer A0 n vl gen) body g) :
    GFnD P w K mg base (k + 1) f fd ps ps.length (gDef N.length g) := by
  obtain ⟨oc, od, dV, kV, doc, pm, an, cdv, ct, osl, rfl, lk, hcd, _, _⟩ := F.ex
  refine ⟨fun A outer s H args us vs Z ds out hr e0 hb r hl gd rep hF => ?_⟩
  have KX : K.In s.heap := e0.mod.kin.keeps fun b o e => (e0.bs b o e).1
  have lim : s.heap.NoLimit := e0.mod.nolimit.keeps fun b o e => (e0.bs b o e).1
  have hkind : ∀ y ∈ ps.zip us, scope.names.lookup y.1 = some .local ∨ (scope.names.lookup y.1 = some .cell ∧ ((cellsFrom (s.heap.objs.size + 1) scope.names []).lookup y.1).isSome = true) := fun ⟨n, v⟩ hy => by
    rcases S.par n (List.of_mem_zip hy).1 with q | q
    · exact .inl q
    · exact .inr ⟨q, PySem.W.cellsFrom_some _ _ _ (.inl q)⟩
  refine codeAny_call_generator hr.depth (KX _ _ lk) rfl S.co S.gen rfl (PySem.W.codeRec_of KX hcd) (hb _ _ _ _ ?_)
  refine wpAny_newFunctionEnv_cells S.kind hkind fun env he s1 y => ?_
  subst he
  have lim1 : s1.heap.NoLimit := lim.keeps y.toInCall.keep
  refine ⟨lim1, ?_⟩
  obtain ⟨h1, tk, es1, hk1⟩ := y.done
  have os1 : s1.os = s.os := by rw [es1]
  have gen1 : s1.gens = s.gens := by rw [es1]
  have lt1 : s.heap.objs.size < s1.heap.objs.size := y.toInCall.ns.lt
  have kp1 : ∀ b o, s.heap.get? b = some o → s1.heap.get? b = some o := y.toInCall.keep
  have hpush : ∀ (o : Obj) b u, s1.heap.get? b = some u → (s1.heap.push o).get? b = some u := fun o b u e => Heap.get?_push_of_some _ e
  obtain ⟨oL, hL, hLd⟩ : ∃ oL, s1.heap.get? s.heap.objs.size = some oL ∧ ∀ v, oL.data ≠ .cell v := by
    obtain ⟨o, es, ep, ho, q⟩ := y.toInCall.ns
    exact ⟨o, ho, fun v z => by rw [q.1] at z; cases z⟩
  have main : ∀ (go : Obj) (nm qn : Value) (tk2 : Nat), go.cls = .type "generator" → go.data = .fields #[.int s1.gens.size 0, nm, qn] → go.slots = #[] → (∀ h : Heap, (h.push go).get? h.objs.size = some go) →
      GMadeD P w K mg base (k + 1) outer Z H s out (.ref s1.heap.objs.size) { s1 with gens := s1.gens.push (.fresh (.func body (envOfC qual scope s.heap.objs.size f cdv))), toks := tk2, heap := s1.heap.push go } := by
    intro go nm qn tk2 hgc hgd0 hgs hgp
    have hgd : ∀ v, go.data ≠ .cell v := fun v q => by rw [hgd0] at q; cases q
    refine ⟨s1.heap.objs.size, s1.gens.size, _, go, oL, N, envOfC qual scope s.heap.objs.size f cdv, rfl, Nat.le_of_lt lt1, Nat.le_refl _, fun h e => ⟨go, nm, qn, e, hgc, hgd0, hgs⟩, hgp _, ⟨_, hgc, hgd0⟩, hpush go _ _ hL, hLd, Array.getElem?_push_size .., os1,
      AllBare.push (by rw [gen1]; exact e0.bare) rfl, lim1.keeps fun b o e => hpush go b o e, fun b o e => hpush go b o (kp1 b o e), fun A0 hA0 hfr => ?_⟩
    have frlt : ∀ b ∈ frs outer, b < s.heap.objs.size := fun b hbm => by
      obtain ⟨_, o, ho, _⟩ := e0.funs.mem hbm
      exact Heap.lt_size ho
    have ok : (Gc.mk P w K mg base N (envOfC qual scope s.heap.objs.size f cdv) outer A0 s.heap.objs.size Z.vol (s1.heap.objs.size, go)).Ok := ⟨cells_none hc, Nat.le_refl _, e0.bsz, frlt, rfl⟩
    refine ⟨ok, ready_iff.mpr fun Z2 H2 s2 hv hgd2 hle hw hn hst => ?_⟩
    have body_ := hbody cdv s.heap.objs.size outer A0 s.heap.objs.size Z.vol (s1.heap.objs.size, go) (hA0.deeper _) ok
    have e0w : Env0 P w K mg base A0 outer s H := ⟨hfr, e0.mod, e0.bs, e0.bsz, e0.funs, e0.frf, e0.hok, e0.bare⟩
    have I1 : Inv (gcxOf P w K mg base N qual scope f cdv A0 outer s H (fun _ _ _ => False) []) [] (L2.start N vs) H s1 := inv_startG S hA0.hd e0w hl r y
    have I2 : Inv ((Gc.mk P w K mg base N (envOfC qual scope s.heap.objs.size f cdv) outer A0 s.heap.objs.size Z.vol (s1.heap.objs.size, go)).X s H) [] (L2.start N vs) H s1 := by
      have ec : (Gc.mk P w K mg base N (envOfC qual scope s.heap.objs.size f cdv) outer A0 s.heap.objs.size Z.vol (s1.heap.objs.size, go)).cut s = s := by
        show ({ s with heap := cutH s.heap.objs.size s.heap } : Shared) = s
        rw [cut_all]
      have o := I1.ok
      unfold Gc.X
      rw [ec]
      exact ⟨⟨o.mod, o.kind, o.glob, o.blt, o.above, o.inj, o.has, o.cab, o.hd, o.frames, o.stk, o.exf, o.bs, o.bsz, o.noex, o.exfs, o.funs, o.frf⟩, I1.os, I1.bare, I1.base, I1.loc, I1.cell, I1.free, I1.freeC, I1.pin, I1.hok, I1.len⟩
    have I3 := rebuild ok I2 hL hw hn fun p hp => hst p (by
      rcases List.mem_cons.mp hp with hp | hp
      · rw [hp]; exact List.mem_cons_self
      · cases hp)
    have I4 := I3.pins_of (pins' := [(s1.heap.objs.size, go)]) fun p hp => by
      rw [List.mem_singleton.mp hp]
      obtain ⟨a1, a2⟩ := hst (s1.heap.objs.size, go) (List.mem_cons_of_mem _ List.mem_cons_self)
      exact ⟨a1, a2, Nat.ne_of_gt lt1, fun hm => absurd (Nat.lt_trans lt1 (frlt _ hm)) (Nat.lt_irrefl _), hgd⟩
    refine sg_func fun J => ?_
    refine body_.run [(s1.heap.objs.size, go)] (mask Z H) _ [] _ J id id (fun _ rest => rest = []) ⟨over_func, rfl, rfl, rfl, List.mem_singleton.mpr rfl, fun p hp => by rw [List.mem_singleton.mp hp]; exact Nat.le_of_lt lt1⟩ (fun ds3 Z3 H0 s0 σ H3 s3 env hI h => ?_) out Z2 H2 s2 _ H2 s2 _ ⟨hv, hn, I4, Step.refl hgd2, ?_, hle⟩ hF
    · subst h
      exact sg_end (.ok (.ret .none)) ⟨rfl, H3, hI.st, hI.inv.os, hI.inv.bare, hI.inv.base, hI.inv.hok⟩
    · have q := start_rep (N := N) rep
      rw [add_nil] at q
      exact q.le hle hv (fun i a vs z => by cases z)
  exact main _ _ _ _ rfl rfl rfl fun h => Heap.get?_push_size _ rfl
end Gn

set_option maxHeartbeats 4000000
/-! for .. in g(..), g a generator def. -/
namespace Gn
open PySem PySem.Spec PyProof.Rows L2 Dl Dv Dk Gx GenW
structure CalG (P : Program) (w : World) (K : PySem.W.Frag) (mg : Str → Option Value) (base : Heap) (k : Nat) (x : Str) (n : Nat) (F : DFG) : Prop where
  ex : ∃ f fd ps, GFnD P w K mg base k f fd ps n F ∧ mg x = some (.ref f) ∧ PySem.W.keepIn K (.ref f) = true ∧ Binds K fd ps [] ∧ ps.length = n
def dForG (n : Nat) (F : DFG) (fs : DA) (gt : DTg) (gb : DG) : DG := fun env k => fs env (fun ds => ds.length = n ∧ ∃ out, F ds out ∧ dForL gt gb out env { k with xc := fun _ _ => False }) (fun x => k.xc x env)
theorem inv_gens {X : Cx} {pins : List (Addr × Obj)} {σ : L2.St} {H : Hp} {s : Shared} {G : Array GenState} (I : Inv X pins σ H s) (hG : AllBare G) : Inv X pins σ H { s with gens := G } := ⟨I.ok, I.os, hG, I.base, I.loc, I.cell, I.free, I.freeC, I.pin, I.hok, I.len⟩
theorem mem_rng {n m b : Nat} (h : n ≤ m) : b ∈ List.range' n (m - n) ↔ n ≤ b ∧ b < m := by
  rw [List.mem_range'_1]
  omega
/-- the consumer's frame behind a stretch -/
theorem inv_back {X : Cx} {pins : List (Addr × Obj)} {σ : L2.St} {H H4 : Hp} {s s4 s' : Shared} {γ : Gc} {Z : Zn} (I : Inv X pins σ H s) (hn : γ.n ≤ s.heap.objs.size) (ho : γ.outer = X.stack) (hp : γ.prog = X.prog) (hw : γ.w = X.w) (o : Out γ Z H s H4 s4)
    (os : s'.os = s4.os) (bare : AllBare s'.gens) (kp : ∀ b u, s4.heap.get? b = some u → s'.heap.get? b = some u)
    (lo : X.s_0.heap.objs.size ≤ γ.n) (lL : X.env.locals < γ.n) (lc : ∀ x c, X.env.cells.lookup x = some c → c < γ.n) (lp : ∀ p ∈ X.pn ++ pins, p.1 < γ.n) : Inv X pins σ H4 s' := by
  have un := o.un
  have hok := o.hok
  rw [ho] at un
  rw [hp, hw] at hok
  have low : ∀ {b : Addr} {u : Obj}, s.heap.get? b = some u → b ∉ (List.range' γ.n (s.heap.objs.size - γ.n) : List Nat) → (cutH γ.n s.heap).get? b = some u := fun {b u} e hx => by
    have hb : b < γ.n := by
      have h1 : (b : Nat) < s.heap.objs.size := Heap.lt_size e
      by_cases q : (b : Nat) < γ.n
      · exact q
      · exact (hx ((mem_rng hn).mpr ⟨Nat.le_of_not_lt q, h1⟩)).elim
    rw [cut_get hb]
    exact e
  refine I.call' (ch := (List.range' γ.n (s.heap.objs.size - γ.n) : List Nat)) (os.trans o.os) ⟨fun b u e n hf hx => kp _ _ (un.keep b u (low e hx) n hf (by simp)), fun b u e n hf hx => ?_, fun b u e n hx => un.free b u (low e hx) n (by simp), fun b u e hx => ?_, un.tups, un.frzs, un.tbls⟩ (hok.kept kp) bare fun b hb => ?_
  · obtain ⟨sl, q⟩ := un.slot b u (low e hx) n hf (by simp)
    exact ⟨sl, kp _ _ q⟩
  · obtain ⟨u', q⟩ := un.there b u (low e hx) (by simp)
    exact ⟨u', kp _ _ q⟩
  · obtain ⟨h1, h2⟩ := (mem_rng hn).mp hb
    refine ⟨.inr (Nat.le_trans lo h1), Nat.ne_of_gt (Nat.lt_of_lt_of_le lL h1), fun x c e => Nat.ne_of_lt (Nat.lt_of_lt_of_le (lc x c e) h1), fun p hp => Nat.ne_of_lt (Nat.lt_of_lt_of_le (lp p hp) h1)⟩
def GRdy (γ : Gc) (xs : List Dl.D) (G : Hp) (priv : List (Addr × Obj)) : GenState → Prop
  | .fresh c => Ready γ xs G priv (fun _ => (model γ.prog γ.w).den c) c []
  | .suspended k _ c _ fs cl => cl = false ∧ Ready γ xs G priv k c fs
  | _ => False
theorem goes_of {γ : Gc} {xs : List Dl.D} {G : Hp} {priv : List (Addr × Obj)} {gs : GenState} {Z : Zn} {H : Hp} {s : Shared} (rd : GRdy γ xs G priv gs) (hv : Z.vol = γ.vl) (hg : Good Z H) (hle : Le G (mask Z H)) (hw : Wake γ s H) (hn : γ.n ≤ s.heap.objs.size) (hst : Still priv s H) : GoesS (model γ.prog γ.w) γ.A0 (Phi γ xs Z H s) s gs := by
  cases gs with
  | fresh c => exact ready_iff.mp rd Z H s hv hg hle hw hn hst
  | suspended k l c p fs cl => exact ready_iff.mp rd.2 Z H s hv hg hle hw hn hst
  | running => exact rd
  | finished => exact rd
theorem get_set {s : Shared} {g : Nat} {y : GenState} (h : g < s.gens.size) : (s.setGen g y).gens[g]? = some y := by
  show (s.gens.setIfInBounds g y)[g]? = some y
  rw [Array.getElem?_setIfInBounds, if_pos rfl, if_pos h]
section
variable {X : Cx} {W : WX} {pos cpos p : Pos} {tg e : Expr} {es : List Expr} {body : List Stmt} {x : Str} {j k n : Nat} {F : DFG} {fs : DA} {t : TG} {gt : DTg} {ws : List Nat} {gb : DG}
theorem ds_forG (c : Cn X W j) (C : CalG X.prog X.w X.K X.mg X.base k x n F) (ha : PDA X W (e :: es) fs) (hg : L2.PG X.nox tg t) (ht : TgOk X.K t gt ws) (hb : PDSs X.nox WF body gb) (hk : k + 1 ≤ j := by decide) (hgl : Gl X x := by rfl)
    (hdb : (x == ("__debug__" : Str)) = false := by decide) (he : starEach (e :: es) X.env = (false, eval e X.env) :: starEach es X.env := by rfl) (hpl : (backTo cpos (starEach es X.env)).any (·.1) = false := by rfl) :
    PDS X W (.For tg (.Call (.Name x p) (e :: es) [] cpos) body [] pos) (dForG n F fs gt gb) := by
  refine ⟨fun pins s σ H D I h => ?_⟩
  obtain ⟨Z, O, env, k0, a, hr0, ko⟩ := h
  obtain ⟨f, fd, ps, GF, hm, hkp, hbd, hln⟩ := C.ex
  have hrm : Room (k + 1) X.A := c.hr.mono hk
  refine wpAny_For ?_ (by intro _; rfl)
  have ev : wpAny (model X.prog X.w) X.A (eval (.Call (.Name x p) (e :: es) [] cpos) X.env) (fun v s2 => ∃ H1 s1 out, Inv X pins σ H1 s1 ∧ Step (Z.add O) H H1 ∧ dForL gt gb out env { k0 with xc := fun _ _ => False } ∧ GMadeD X.prog X.w X.K X.mg X.base k X.stack (Z.add O) H1 s1 out v s2) X.xe s := by
    refine wpAny_Call_Name_kw (ld_glob I hgl hm ?_ hdb)
    refine PySem.W.callWith_K (h₀ := X.base) I.ok.mod.kin hkp (thn (ha.run cpos pins s σ H (fun vs H1 => ∃ ds, (ds.length = n ∧ ∃ out, F ds out ∧ dForL gt gb out env { k0 with xc := fun _ _ => False }) ∧ Step (Z.add O) H H1 ∧ RepsZ X.K (Z.add O) H1 vs ds) I ⟨Z.add O, O, env, _, _, a, hr0, ko.xk a, fun ds hds vs H1 st rep => ⟨ds, hds, st, rep⟩⟩) fun us s1 ⟨vs, H1, I1, r, q⟩ => ⟨I1.kIn, ?_⟩) he hpl
    obtain ⟨ds, ⟨hl, out, hF, hL⟩, st, rep⟩ := q
    have hvl : vs.length = n := rep.length.trans hl
    have b := hbd s1 us I1.kIn (by rw [List.append_nil, hln, ← r.length]; exact hvl)
    rw [List.append_nil] at b
    refine wpAny_call (codeAny_mono (GF.run X.A X.stack s1 H1 ⟨us, []⟩ us vs (Z.add O) ds out (hrm.mono (Nat.le_succ k)) I1.env0 b r hvl st.good rep hF) fun r s' hq => ?_)
    cases r with
    | error e => exact hq.elim
    | ok fl =>
      cases fl with
      | ret u => exact ⟨H1, s1, out, I1, st, hL, hq⟩
      | next => exact hq.elim
      | brk => exact hq.elim
      | cont => exact hq.elim
  refine wpAny_mono ev (fun v s2 hp => ?_) fun _ _ z => z
  obtain ⟨H1, s1, out, I1, st1, hL1, ga, g, gc, go, oL, GN, genv, rfl, ga1, gl1, hgen, hgo, ⟨gvs, hgc, hgd⟩, hoL, hoLd, hgs, gos, gbare, glim, gkp, mk⟩ := hp
  refine wpAny_pyIter_gen (hgen _ hgo) ?_
  obtain ⟨ok, rdy⟩ := mk X.A.in1 hrm.in1 I1.ok.frames
  generalize hγ : Gc.mk X.prog X.w X.K X.mg X.base GN genv X.stack X.A.in1 s1.heap.objs.size (Z.add O).vol (ga, go) = γ at ok rdy
  have γn : γ.n = s1.heap.objs.size := by rw [← hγ]
  have γo : γ.outer = X.stack := by rw [← hγ]
  have γp : γ.prog = X.prog := by rw [← hγ]
  have γw : γ.w = X.w := by rw [← hγ]
  have γA : γ.A0 = X.A.in1 := by rw [← hγ]
  have γv : γ.vl = Z.vol := by rw [← hγ]; rfl
  have γg : γ.gen = (ga, go) := by rw [← hγ]
  have γK : γ.K = X.K := by rw [← hγ]
  have wk : ∀ {s : Shared} {H : Hp}, Env0 X.prog X.w X.K X.mg X.base X.A X.stack s H → Wake γ (s.setGen g .running) H := fun {s H} e0 => by
    rw [← hγ]
    exact ⟨e0.frames, e0.mod, e0.bs, e0.bsz, e0.funs, e0.frf, e0.hok, allBare_setGen e0.bare rfl⟩
  have lo : X.s_0.heap.objs.size ≤ γ.n := by rw [γn]; exact I1.sz
  have lL : X.env.locals < γ.n := by rw [γn]; exact I1.lt
  have lc : ∀ y c, X.env.cells.lookup y = some c → c < γ.n := fun y c e => by
    obtain ⟨v, q⟩ := I1.cell y c e
    rw [γn]
    exact q.lt
  have lp : ∀ q ∈ X.pn ++ pins, q.1 < γ.n := fun q hq => by
    rw [γn]
    exact Heap.lt_size (I1.pin q hq).1
  have lf : ∀ b ∈ X.fs, b < γ.n := fun b hb => by
    obtain ⟨_, o, ho, _⟩ := I1.ok.funs.mem hb
    rw [γn]
    exact Nat.lt_of_lt_of_le (Heap.lt_size ho) I1.sz
  have I2 : Inv X pins σ H1 s2 := I1.call' (ch := []) gos (Un.kept gkp) (I1.hok.kept gkp) gbare fun b z => by cases z
  -- through the loop
  refine codeAny_forLoop_any (fun m s' => ∃ xs σ' H' O' env' G priv gs, m = xs.length ∧ Inv X pins σ' H' s' ∧ StAt X.K Z O' H' σ' env' ∧ Lt Z O H O' H' ∧ dForL gt gb xs env' { k0 with xc := fun _ _ => False } ∧ s'.gens[g]? = some gs ∧ GRdy γ xs G priv gs ∧ Le G (mask (Z.add O') H') ∧ Still priv s' H' ∧ (∀ q ∈ priv, γ.n ≤ q.1 ∧ ∀ v, q.2.data ≠ .cell v) ∧ γ.gen ∈ priv)
    ?_ out.length ⟨out, σ, H1, O, env, mask (Z.add O) H1, [(genv.locals, oL), (ga, go)], .fresh gc, rfl, I2, a.step st1, st1.le, hL1, hgs, by rw [γp.symm, γw.symm] at rdy; exact rdy, Le.refl _, fun q hq => ?_, fun q hq => ?_, by rw [γg]; exact List.mem_cons_of_mem _ List.mem_cons_self⟩
  · rintro m s3 ⟨xs, σ3, H3, O3, env3, G, priv, gs, rfl, I3, a3, l3, hL, hgs3, rd, hle, hst, hpv, hmem⟩
    have hga3 := hst _ hmem
    rw [γg] at hga3
    have hn3 : γ.n ≤ s3.heap.objs.size := Nat.le_of_lt (Nat.lt_of_le_of_lt (hpv _ hmem).1 (Heap.lt_size (hst _ hmem).1))
    have gsz : g < s3.gens.size := by
      by_cases q : g < s3.gens.size
      · exact q
      · rw [Array.getElem?_eq_none (Nat.le_of_not_lt q)] at hgs3; cases hgs3
    have goes := goes_of (Z := Z.add O3) (H := H3) (s := s3.setGen g .running) rd (by rw [γv]; rfl) a3.good hle (wk I3.env0) hn3 hst
    rw [γp, γw, γA] at goes
    refine wpAny_gsz (n := g + 1) gsz ?_
    refine next_sg (I3.ok.hd c.hc) I3.nolimit c.hr.depth (hgen _ hga3.1) hgs3 goes (fun y s₁ hx => ?_) (fun v gd l k' c' p' fs' s₁ hx => ?_)
    · -- its end
      cases xs with
      | cons d xs => exact hx.elim
      | nil =>
        obtain ⟨e1, H4, o4⟩ := hx
        cases e1
        refine ⟨rfl, fun h' kp' _ => wpAny_execs_nil ?_⟩
        have I4 : Inv X pins σ3 H4 { s₁.setGen g .finished with heap := h' } := inv_back I3 hn3 γo γp γw (s := s3) ⟨o4.st, o4.os, o4.bare, o4.un, o4.hok⟩ (s' := { s₁.setGen g .finished with heap := h' }) rfl (allBare_setGen o4.bare rfl) kp' lo lL lc lp
        exact ⟨σ3, H4, I4, ko.nx _ hL O3 σ3 H4 (l3.trans o4.st.le) (a3.step o4.st)⟩
    · cases xs with
      | nil => obtain ⟨e1, _⟩ := hx; cases e1
      | cons d xs =>
        obtain ⟨hgd1, hgu, H4, x4, priv4, o4, rv, rep, pv4, gm, rd4⟩ := hx
        refine ⟨hgd1, hgu, fun hsz => ?_⟩
        have hsz1 : g < s₁.gens.size := by
          have e1 : (s₁.setGen g (.suspended k' l c' p' fs' false)).gens.size = s₁.gens.size := setGen_size _ _ _
          rw [e1] at hsz
          exact hsz
        have I4 : Inv X pins σ3 H4 (s₁.setGen g (.suspended k' l c' p' fs' false)) := inv_back I3 hn3 γo γp γw (s := s3) ⟨o4.st, o4.os, o4.bare, o4.un, o4.hok⟩ (s' := s₁.setGen g (.suspended k' l c' p' fs' false)) rfl (allBare_setGen o4.bare rfl) (fun _ _ z => z) lo lL lc lp
        have hg4 : (s₁.setGen g (.suspended k' l c' p' fs' false)).gens[g]? = some (.suspended k' l c' p' fs' false) := get_set hsz1
        have hgo4 := pv4 _ gm
        rw [γg] at hgo4
        generalize hs4 : s₁.setGen g (.suspended k' l c' p' fs' false) = s4 at I4 hg4 ⊢
        have h4 : s4.heap = s₁.heap := by rw [← hs4]; rfl
        refine go_of (n := "generator") (show s4.heap.get? ga = some go by rw [h4]; exact hgo4.1) hgc hgd (by decide) ?_
        have I4p : Inv X (pins ++ priv4) σ3 H4 s4 := I4.pins_of fun q hq => (List.mem_append.mp hq).elim (fun z => I4.pin q (List.mem_append_right _ z)) fun z => by
          obtain ⟨b1, b2, b3, b4⟩ := pv4 q z
          exact ⟨by rw [h4]; exact b1, b2, Nat.ne_of_gt (Nat.lt_of_lt_of_le lL b3), fun hm => absurd (Nat.lt_of_lt_of_le (lf _ hm) b3) (Nat.lt_irrefl _), b4⟩
        have l4 : Lt Z O H O3 H4 := l3.trans o4.st.le
        rw [γK] at rep
        have wish : t x4 σ3 H4 (fun σ6 H6 => H6 = H4 ∧ ∃ env1, StAt X.K Z O3 H6 σ6 env1 ∧ gb env1 { ({ k0 with xc := fun _ _ => False } : Kn) with nx := fun e => dForL gt gb xs e { k0 with xc := fun _ _ => False }, ct := fun e => dForL gt gb xs e { k0 with xc := fun _ _ => False }, bk := k0.nx }) :=
          ht (Z.add O3) O3 H4 σ3 env3 x4 d _ _ (a3.step o4.st) rep hL fun env1 h1 σ' a' _ => ⟨rfl, env1, a', h1⟩
        have asg := wpAny_table (s := s4) (hg.run (pins ++ priv4) { s4 with gens := s4.gens.map poison } σ3 H4 x4 v _ (inv_gens (I4p.wish _) (poison_all I4.bare)) rv wish)
        refine wpAny_mono asg (fun _ s6 h6 => ?_) fun e6 s6 h6 => by obtain ⟨_, _, _, z⟩ := h6; exact z.elim
        obtain ⟨sP, okP, rfl, σ6, H6, I6, rfl, env1, a6, hb6⟩ := h6
        have bare6 : AllBare (mix s4.gens sP.gens) := mix_bare I4.bare I6.bare
        have I6' : Inv X.nox (pins ++ priv4) σ6 H6 { sP with gens := mix s4.gens sP.gens } := inv_gens I6 bare6
        have hg6 : (mix s4.gens sP.gens)[g]? = some (.suspended k' l c' p' fs' false) := After.kept okP hg4 rfl
        generalize hs6 : ({ sP with gens := mix s4.gens sP.gens } : Shared) = s6 at I6' ⊢
        have hg6' : s6.gens[g]? = some (.suspended k' l c' p' fs' false) := by rw [← hs6]; exact hg6
        have wish2 : DS X.K gb WF { nx := fun σ7 H7 => ∃ O7 env7, Lt Z O H O7 H7 ∧ StAt X.K Z O7 H7 σ7 env7 ∧ dForL gt gb xs env7 { k0 with xc := fun _ _ => False } ∧ Le (mask (Z.add O3) H6) (mask (Z.add O7) H7), ct := fun σ7 H7 => ∃ O7 env7, Lt Z O H O7 H7 ∧ StAt X.K Z O7 H7 σ7 env7 ∧ dForL gt gb xs env7 { k0 with xc := fun _ _ => False } ∧ Le (mask (Z.add O3) H6) (mask (Z.add O7) H7), bk := D.nx, rt := D.rt } σ6 H6 :=
          ⟨Z, O3, env1, _, a6, hb6, ⟨fun e3 q O7 σ7 H7 l7 a7 => ⟨O7, e3, l4.trans l7, a7, q, l7⟩, (ko.step l4).rt, (ko.step l4).rtL, (ko.step l4).nx, fun e3 q O7 σ7 H7 l7 a7 => ⟨O7, e3, l4.trans l7, a7, q, l7⟩, fun _ _ z => z.elim⟩⟩
        have bod := wpAny_table (s := s6) (hb.run (pins ++ priv4) { s6 with gens := s6.gens.map poison } σ6 H6 _ (inv_gens I6' (poison_all I6'.bare)) wish2)
        refine wpAny_mono bod (fun fl s7 h7 => ?_) fun e7 s7 h7 => by obtain ⟨_, _, _, z⟩ := h7; exact z.elim
        obtain ⟨sP2, okP2, rfl, hsp⟩ := h7
        have hg7 : (mix s6.gens sP2.gens)[g]? = some (.suspended k' l c' p' fs' false) := After.kept okP2 hg6' rfl
        have back : ∀ {σ7 : L2.St} {H7 : Hp}, Inv X.nox (pins ++ priv4) σ7 H7 sP2 → Inv X pins σ7 H7 { sP2 with gens := mix s6.gens sP2.gens } := fun {σ7 H7} I7 => inv_gens (Inv.unwish I7).unpinned (mix_bare I6'.bare I7.bare)
        have again : ∀ {σ7 : L2.St} {H7 : Hp}, Inv X.nox (pins ++ priv4) σ7 H7 sP2 → (∃ O7 env7, Lt Z O H O7 H7 ∧ StAt X.K Z O7 H7 σ7 env7 ∧ dForL gt gb xs env7 { k0 with xc := fun _ _ => False } ∧ Le (mask (Z.add O3) H6) (mask (Z.add O7) H7)) →
            ∃ m, m < (d :: xs).length ∧ ∃ xs σ' H' O' env' G priv gs, m = xs.length ∧ Inv X pins σ' H' { sP2 with gens := mix s6.gens sP2.gens } ∧ StAt X.K Z O' H' σ' env' ∧ Lt Z O H O' H' ∧ dForL gt gb xs env' { k0 with xc := fun _ _ => False } ∧ (mix s6.gens sP2.gens)[g]? = some gs ∧ GRdy γ xs G priv gs ∧ Le G (mask (Z.add O') H') ∧ Still priv { sP2 with gens := mix s6.gens sP2.gens } H' ∧ (∀ q ∈ priv, γ.n ≤ q.1 ∧ ∀ v, q.2.data ≠ .cell v) ∧ γ.gen ∈ priv := fun {σ7 H7} I7 ⟨O7, env7, l7, a7, hL7, le7⟩ =>
          ⟨xs.length, Nat.lt_succ_self _, xs, σ7, H7, O7, env7, mask (Z.add O3) H6, priv4, _, rfl, back I7, a7, l7, hL7, hg7, ⟨rfl, rd4⟩, le7, fun q hq => by
            have z := I7.pin q (List.mem_append_right _ (List.mem_append_right _ hq))
            exact ⟨z.1, z.2.1⟩, fun q hq => by obtain ⟨_, _, b3, b4⟩ := pv4 q hq; exact ⟨b3, b4⟩, gm⟩
        cases fl with
        | next => obtain ⟨σ7, H7, I7, n7⟩ := hsp; exact again I7 n7
        | cont => obtain ⟨σ7, H7, I7, n7⟩ := hsp; exact again I7 n7
        | brk => obtain ⟨σ7, H7, I7, q7⟩ := hsp; exact ⟨σ7, H7, back I7, q7⟩
        | ret u => obtain ⟨x7, σ7, H7, I7, r7, q7⟩ := hsp; exact ⟨x7, σ7, H7, back I7, r7, q7⟩
  · rcases List.mem_cons.mp hq with hq | hq
    · subst hq
      refine ⟨hoL, I1.hok.fresh gl1⟩
    · rw [List.mem_singleton.mp hq]
      exact ⟨hgo, I1.hok.fresh ga1⟩
  · rcases List.mem_cons.mp hq with hq | hq
    · subst hq
      exact ⟨by rw [γn]; exact gl1, hoLd⟩
    · rw [List.mem_singleton.mp hq]
      exact ⟨by rw [γn]; exact ga1, fun v z => by rw [hgd] at z; cases z⟩
end
end Gn

set_option maxHeartbeats 2000000
/-! Short names for these. -/
namespace Gn
open PySem PySem.Spec PyProof.Rows L2 Dl Dv Dk Gx GenW
/-- the context of such a loop's body -/
theorem lp {X : Cx} {W : WX} {k : Nat} (c : Cn X W k) : Cn X.nox WF k := ⟨takes0, PassesOwn.never, c.hr, c.hc⟩
/-- the context of a generator's body -/
theorem cnG {γ : Gc} {k : Nat} (ok : γ.Ok) (rm : Room k (γ.A0.deeper γ.env)) (s0 : Shared) (H0 : Hp) : Cn (γ.X s0 H0) WF k := ⟨takes0, PassesOwn.never, rm, rfl⟩
theorem GFnD.imp {P : Program} {w : World} {K : PySem.W.Frag} {mg : Str → Option Value} {base : Heap} {k n : Nat} {f : Addr} {fd : FuncData} {ps : List Str} {F G : DFG} (O : GFnD P w K mg base k f fd ps n G) (h : ∀ ds out, F ds out → G ds out) : GFnD P w K mg base k f fd ps n F :=
  ⟨fun A outer s H args us vs Z ds out h1 h2 h3 h4 h5 h6 h7 h8 => O.run A outer s H args us vs Z ds out h1 h2 h3 h4 h5 h6 h7 (h _ _ h8)⟩
end Gn
namespace Hd
open PySem PySem.Spec PyProof.Rows L2 He Dl Dv Dk Pr
theorem calg_ok {P : Program} {w : World} {K : PySem.W.Frag} {mg : Str → Option Value} {base : Heap} {k n : Nat} {fd : FuncData} {ps : List Str} {F G : Gn.DFG} {x : Str} {f : Addr} (O : Gn.GFnD P w K mg base k f fd ps n G) (h : ∀ ds out, F ds out → G ds out) (hm : mg x = some (.ref f)) (kp : PySem.W.keepIn K (.ref f) = true) (hb : Binds K fd ps []) (hl : ps.length = n) : Gn.CalG P w K mg base k x n F :=
  ⟨f, fd, ps, O.imp h, hm, kp, hb, hl⟩
end Hd

set_option maxHeartbeats 4000000
/-! facts.py: facts, bounds, the cases. -/
namespace Pr
open PySem PySem.Spec PyProof.Rows L2 Dl Dv Dk Gx Ma
def fD (l u : Int) (b : Bool) : D := .tup [.int l, .int u, .bl b]
structure Fk (l u : Int) : Prop where
  lo : 2 ≤ l
  le : l ≤ u
  hi : u ≤ 12
def oddF : List D := [.non, .tup [.int 2, .int 3], .tup [.int 3, .int 2, .bl true], .tup [.int 1, .int 3, .bl true], .tup [.int 2, .int 13, .bl false], .tup [.int 2, .int 3, .int 1], .lst [.int 2, .int 3, .bl true], .tup [.bl true, .int 3, .bl true], .str "23",
  .tup [.int 2, .int 13, .bl true], .tup [.int 3, .int 2, .bl false], .tup [.int 2, .int 2, .int 0]]
def oddB : List D := [.int (-1), .bl true, .non, .str "1"]
abbrev eF (K : PySem.W.Frag) : Exc := ⟨He.ga K "InvalidFacts", none⟩
abbrev eB (K : PySem.W.Frag) : Exc := ⟨He.ga K "InvalidBound", none⟩
def F_look_at_facts (K : PySem.W.Frag) : DF := fun ds Q R => (∃ l u b, Fk l u ∧ ds = [fD l u b] ∧ Q .non) ∨ ∃ d ∈ oddF, ds = [d] ∧ R (eF K)
def F_look_at_bound (K : PySem.W.Frag) : DF := fun ds Q R => (∃ n : Int, 0 ≤ n ∧ ds = [.int n] ∧ Q .non) ∨ ∃ d ∈ oddB, ds = [d] ∧ R (eB K)
def F_common (K : PySem.W.Frag) : DF := fun ds Q R => ∃ a b : Nat, 0 < a ∧ 0 < b ∧ a ≤ 10000000 ∧ b ≤ 10000000 ∧ ds = [.int a, .int b] ∧ Q (.int (Nat.lcm a b : Nat))
def begF (b : Bool) (m : Int) : Int := if b = true then m + 1 else 0
def perN (rs : List Ru) (m : Int) : Nat := rs.foldl (fun p r => Nat.lcm p (whole r m).toNat) 1
def casesN (rs : List Ru) (l u : Int) (b : Bool) : List (Int × Int) := (rangeL l (u + 1)).flatMap fun m => (rangeL (begF b m) (begF b m + perN rs m)).map fun n => (m, n)
def prI (p : Int × Int) : D := .tup [.int p.1, .int p.2]
def F_cases_of (K : PySem.W.Frag) : Gn.DFG := fun ds out => ∃ l u b rs, Fk l u ∧ (∀ r ∈ rs, r.Ok) ∧ rs.length ≤ 2 ∧ ds = [fD l u b, .lst (rs.map (rd K))] ∧ out = (casesN rs l u b).map prI
def g_look_at_facts (K : PySem.W.Frag) : DG :=
  (dSeq (dIfS (dOrB (dNotB (dTst (dCB gIsi (dCons (dVar 0) (dCons (dC (.raw (.ty "tuple"))) dNil))))) (dOrB (dTst (dOp gNe (dCB gLen (dCons (dVar 0) dNil)) (dC (.int 3)))) (dNotB (dTst (dCB gIsi (dCons (dOp gIx (dVar 0) (dC (.int 2))) (dCons (dC (.raw (.ty "bool"))) dNil))))))) (dRaise (dMk0 (He.ga K "InvalidFacts"))) dNx)
  (dIfS (dOrB (dNotB (dTst (dCB gAll (dCons (dL (dLc (dItT (dSlT (dVar 0) dNoPart (dPart (dC (.int 2))))) [1] (dgName 1) dYes (dCall 3 F_is_within (dCons (dVar 1) (dCons (dC (.int 2)) (dCons (dC (.int 12)) dNil)))))) dNil)))) (dTst (dOp gGt (dOp gIx (dVar 0) (dC (.int 0))) (dOp gIx (dVar 0) (dC (.int 1)))))) (dRaise (dMk0 (He.ga K "InvalidFacts"))) dNx))
def g_look_at_bound (K : PySem.W.Frag) : DG :=
  (dIfS (dNotB (dTst (dCall 2 F_is_integer (dCons (dVar 0) (dCons (dC (.int 0)) dNil))))) (dRaise (dMk0 (He.ga K "InvalidBound"))) dNx)
def g_common (K : PySem.W.Frag) : DG :=
  (dSeq (dPar 2 3 (dCons (dVar 0) (dCons (dVar 1) dNil)))
  (dSeq (dWhile (dTst (dOp gNe (dVar 3) (dC (.int 0)))) (dPar 2 3 (dCons (dVar 3) (dCons (dOp gMod (dVar 2) (dVar 3)) dNil))))
  (dRet (dOp gMul (dOp gDiv (dVar 0) (dVar 2)) (dVar 1)))))
def g_cases_of (K : PySem.W.Frag) : Gn.GG :=
  (Gn.gThen (Gn.gPlain (dAsg (dVar 0) (dgTup [2, 3, 4])))
  (Gn.gThen (Gn.gFor (dRng2 (dCons (dVar 2) (dCons (dOp gAddU (dVar 3) (dC (.int 1))) dNil))) (dgName 5) (Gn.gThen (Gn.gPlain (dSet 6 (dC (.int 1))))
  (Gn.gThen (Gn.gPlain (dFor (dItL (dVar 1)) (dgName 7) (dSet 6 (dCall 2 (F_common K) (dCons (dVar 6) (dCons (dCall 2 (F_period_of K) (dCons (dVar 7) (dCons (dVar 5) dNil))) dNil))))))
  (Gn.gThen (Gn.gPlain (dSet 8 (dIf (dTst (dVar 4)) (dOp gAddU (dVar 5) (dC (.int 1))) (dC (.int 0)))))
  (Gn.gThen (Gn.gFor (dRng2 (dCons (dVar 8) (dCons (dOp gAddU (dVar 8) (dVar 6)) dNil))) (dgName 9) (Gn.gThen (Gn.gYield (dTup (dCons (dVar 5) (dCons (dVar 9) dNil))))
  Gn.gNil))
  Gn.gNil)))))
  Gn.gNil))
theorem law_look_at_bound (K : PySem.W.Frag) (ds : List D) (Q : D → Prop) (R : DX) (h : F_look_at_bound K ds Q R) : dDef 1 (g_look_at_bound K) ds Q R := by
  rcases h with ⟨n, hn, rfl, q⟩ | ⟨d, hd, rfl, q⟩
  · have e : isInt (.int n) 0 = true := by simp [isInt, hn]
    have e2 : isD (.int n) = true := rfl
    simp (maxSteps := 10000000) (disch := first | assumption | omega) only [dDef, dRet, dRetL, dSeq, dIfS, dTst, dNotB, dAndB, dOrB, dAndV, dOrV, dNotV, dNeg, dIf, dCB, dCBL, dCons, dNil, dStar, dVar, dC, dCall, dOp, dOpL, dTup, dLst, dL, dSet, dAsg, dPar, dOwn, dExpr, dNx, dFor, dItL, dItT, dProp, dMeth, dMk, dMk0, dRaise, dPart, dNoPart, dSlL, dSlT, dRevL, dgName, dgTup, dgSets, dOwnIx, dOwnLen, dOwnTup, dApp, dSetI, dRel, relE, dItZip, dItTab, dItEnK, dItEn, dIsS, dJoinG, dSplit, dFmt, dJs, dIsT2, dIndex, dCallS, dYes, wipeE, dXf, dIsX, List.map_cons, List.map_nil, List.cons_append, List.nil_append, List.append_nil, List.length_cons, List.length_nil, List.replicate_succ, List.replicate_zero, Nat.reduceAdd, Nat.reduceSub, List.getElem?_cons_zero, List.getElem?_cons_succ, List.set_cons_zero, List.set_cons_succ, Nat.zero_add, Nat.add_zero, Nat.sub_self, x_add, x_sub, x_mulL, x_mulR, x_div, x_mod, x_lt, x_le, x_gt, x_ge, x_eq, x_ne, x_fro, x_step, x_first, x_last, x_on, x_l0, x_l1, x_l2, x_l3, x_l4, x_t0, x_t1, x_t2, x_t3, x_t4, x_intB, x_intI, x_max2, x_min2, x_lenL, x_lenT, x_sz, x_rs, x_rw, x_rf, x_ra, x_rl, x_slot, x_slotD, true_and, and_true, eq_self, decide_eq_true_eq, Bool.not_eq_true', decide_eq_false_iff_not, res_ok, res_er, x_rng1, x_rng1D, x_rng2, x_rng2E, x_rng2D, z_s, z_w, z_f, z_a, z_l, Bool.and_eq_true, if_true, if_false, Bool.false_eq_true, reduceCtorEq, decide_true, decide_false, Bool.not_true, Bool.not_false, Bool.true_eq_false, not_true_eq_false, not_false_eq_true, g_look_at_bound, y_integer, e]
    exact q
  · simp only [oddB, List.mem_cons, List.not_mem_nil, or_false] at hd
    rcases hd with rfl | rfl | rfl | rfl
    · have e : isInt (.int (-1)) 0 = false := rfl
      have e2 : isD (.int (-1)) = true := rfl
      simp (maxSteps := 10000000) (disch := first | assumption | omega) only [dDef, dRet, dRetL, dSeq, dIfS, dTst, dNotB, dAndB, dOrB, dAndV, dOrV, dNotV, dNeg, dIf, dCB, dCBL, dCons, dNil, dStar, dVar, dC, dCall, dOp, dOpL, dTup, dLst, dL, dSet, dAsg, dPar, dOwn, dExpr, dNx, dFor, dItL, dItT, dProp, dMeth, dMk, dMk0, dRaise, dPart, dNoPart, dSlL, dSlT, dRevL, dgName, dgTup, dgSets, dOwnIx, dOwnLen, dOwnTup, dApp, dSetI, dRel, relE, dItZip, dItTab, dItEnK, dItEn, dIsS, dJoinG, dSplit, dFmt, dJs, dIsT2, dIndex, dCallS, dYes, wipeE, dXf, dIsX, List.map_cons, List.map_nil, List.cons_append, List.nil_append, List.append_nil, List.length_cons, List.length_nil, List.replicate_succ, List.replicate_zero, Nat.reduceAdd, Nat.reduceSub, List.getElem?_cons_zero, List.getElem?_cons_succ, List.set_cons_zero, List.set_cons_succ, Nat.zero_add, Nat.add_zero, Nat.sub_self, x_add, x_sub, x_mulL, x_mulR, x_div, x_mod, x_lt, x_le, x_gt, x_ge, x_eq, x_ne, x_fro, x_step, x_first, x_last, x_on, x_l0, x_l1, x_l2, x_l3, x_l4, x_t0, x_t1, x_t2, x_t3, x_t4, x_intB, x_intI, x_max2, x_min2, x_lenL, x_lenT, x_sz, x_rs, x_rw, x_rf, x_ra, x_rl, x_slot, x_slotD, true_and, and_true, eq_self, decide_eq_true_eq, Bool.not_eq_true', decide_eq_false_iff_not, res_ok, res_er, x_rng1, x_rng1D, x_rng2, x_rng2E, x_rng2D, z_s, z_w, z_f, z_a, z_l, Bool.and_eq_true, if_true, if_false, Bool.false_eq_true, reduceCtorEq, decide_true, decide_false, Bool.not_true, Bool.not_false, Bool.true_eq_false, not_true_eq_false, not_false_eq_true, g_look_at_bound, y_integer, e]
      exact q
    · have e : isInt (.bl true) 0 = false := rfl
      have e2 : isD (.bl true) = true := rfl
      simp (maxSteps := 10000000) (disch := first | assumption | omega) only [dDef, dRet, dRetL, dSeq, dIfS, dTst, dNotB, dAndB, dOrB, dAndV, dOrV, dNotV, dNeg, dIf, dCB, dCBL, dCons, dNil, dStar, dVar, dC, dCall, dOp, dOpL, dTup, dLst, dL, dSet, dAsg, dPar, dOwn, dExpr, dNx, dFor, dItL, dItT, dProp, dMeth, dMk, dMk0, dRaise, dPart, dNoPart, dSlL, dSlT, dRevL, dgName, dgTup, dgSets, dOwnIx, dOwnLen, dOwnTup, dApp, dSetI, dRel, relE, dItZip, dItTab, dItEnK, dItEn, dIsS, dJoinG, dSplit, dFmt, dJs, dIsT2, dIndex, dCallS, dYes, wipeE, dXf, dIsX, List.map_cons, List.map_nil, List.cons_append, List.nil_append, List.append_nil, List.length_cons, List.length_nil, List.replicate_succ, List.replicate_zero, Nat.reduceAdd, Nat.reduceSub, List.getElem?_cons_zero, List.getElem?_cons_succ, List.set_cons_zero, List.set_cons_succ, Nat.zero_add, Nat.add_zero, Nat.sub_self, x_add, x_sub, x_mulL, x_mulR, x_div, x_mod, x_lt, x_le, x_gt, x_ge, x_eq, x_ne, x_fro, x_step, x_first, x_last, x_on, x_l0, x_l1, x_l2, x_l3, x_l4, x_t0, x_t1, x_t2, x_t3, x_t4, x_intB, x_intI, x_max2, x_min2, x_lenL, x_lenT, x_sz, x_rs, x_rw, x_rf, x_ra, x_rl, x_slot, x_slotD, true_and, and_true, eq_self, decide_eq_true_eq, Bool.not_eq_true', decide_eq_false_iff_not, res_ok, res_er, x_rng1, x_rng1D, x_rng2, x_rng2E, x_rng2D, z_s, z_w, z_f, z_a, z_l, Bool.and_eq_true, if_true, if_false, Bool.false_eq_true, reduceCtorEq, decide_true, decide_false, Bool.not_true, Bool.not_false, Bool.true_eq_false, not_true_eq_false, not_false_eq_true, g_look_at_bound, y_integer, e]
      exact q
    · have e : isInt .non 0 = false := rfl
      have e2 : isD .non = true := rfl
      simp (maxSteps := 10000000) (disch := first | assumption | omega) only [dDef, dRet, dRetL, dSeq, dIfS, dTst, dNotB, dAndB, dOrB, dAndV, dOrV, dNotV, dNeg, dIf, dCB, dCBL, dCons, dNil, dStar, dVar, dC, dCall, dOp, dOpL, dTup, dLst, dL, dSet, dAsg, dPar, dOwn, dExpr, dNx, dFor, dItL, dItT, dProp, dMeth, dMk, dMk0, dRaise, dPart, dNoPart, dSlL, dSlT, dRevL, dgName, dgTup, dgSets, dOwnIx, dOwnLen, dOwnTup, dApp, dSetI, dRel, relE, dItZip, dItTab, dItEnK, dItEn, dIsS, dJoinG, dSplit, dFmt, dJs, dIsT2, dIndex, dCallS, dYes, wipeE, dXf, dIsX, List.map_cons, List.map_nil, List.cons_append, List.nil_append, List.append_nil, List.length_cons, List.length_nil, List.replicate_succ, List.replicate_zero, Nat.reduceAdd, Nat.reduceSub, List.getElem?_cons_zero, List.getElem?_cons_succ, List.set_cons_zero, List.set_cons_succ, Nat.zero_add, Nat.add_zero, Nat.sub_self, x_add, x_sub, x_mulL, x_mulR, x_div, x_mod, x_lt, x_le, x_gt, x_ge, x_eq, x_ne, x_fro, x_step, x_first, x_last, x_on, x_l0, x_l1, x_l2, x_l3, x_l4, x_t0, x_t1, x_t2, x_t3, x_t4, x_intB, x_intI, x_max2, x_min2, x_lenL, x_lenT, x_sz, x_rs, x_rw, x_rf, x_ra, x_rl, x_slot, x_slotD, true_and, and_true, eq_self, decide_eq_true_eq, Bool.not_eq_true', decide_eq_false_iff_not, res_ok, res_er, x_rng1, x_rng1D, x_rng2, x_rng2E, x_rng2D, z_s, z_w, z_f, z_a, z_l, Bool.and_eq_true, if_true, if_false, Bool.false_eq_true, reduceCtorEq, decide_true, decide_false, Bool.not_true, Bool.not_false, Bool.true_eq_false, not_true_eq_false, not_false_eq_true, g_look_at_bound, y_integer, e]
      exact q
    · have e : isInt (.str "1") 0 = false := rfl
      have e2 : isD (.str "1") = true := rfl
      simp (maxSteps := 10000000) (disch := first | assumption | omega) only [dDef, dRet, dRetL, dSeq, dIfS, dTst, dNotB, dAndB, dOrB, dAndV, dOrV, dNotV, dNeg, dIf, dCB, dCBL, dCons, dNil, dStar, dVar, dC, dCall, dOp, dOpL, dTup, dLst, dL, dSet, dAsg, dPar, dOwn, dExpr, dNx, dFor, dItL, dItT, dProp, dMeth, dMk, dMk0, dRaise, dPart, dNoPart, dSlL, dSlT, dRevL, dgName, dgTup, dgSets, dOwnIx, dOwnLen, dOwnTup, dApp, dSetI, dRel, relE, dItZip, dItTab, dItEnK, dItEn, dIsS, dJoinG, dSplit, dFmt, dJs, dIsT2, dIndex, dCallS, dYes, wipeE, dXf, dIsX, List.map_cons, List.map_nil, List.cons_append, List.nil_append, List.append_nil, List.length_cons, List.length_nil, List.replicate_succ, List.replicate_zero, Nat.reduceAdd, Nat.reduceSub, List.getElem?_cons_zero, List.getElem?_cons_succ, List.set_cons_zero, List.set_cons_succ, Nat.zero_add, Nat.add_zero, Nat.sub_self, x_add, x_sub, x_mulL, x_mulR, x_div, x_mod, x_lt, x_le, x_gt, x_ge, x_eq, x_ne, x_fro, x_step, x_first, x_last, x_on, x_l0, x_l1, x_l2, x_l3, x_l4, x_t0, x_t1, x_t2, x_t3, x_t4, x_intB, x_intI, x_max2, x_min2, x_lenL, x_lenT, x_sz, x_rs, x_rw, x_rf, x_ra, x_rl, x_slot, x_slotD, true_and, and_true, eq_self, decide_eq_true_eq, Bool.not_eq_true', decide_eq_false_iff_not, res_ok, res_er, x_rng1, x_rng1D, x_rng2, x_rng2E, x_rng2D, z_s, z_w, z_f, z_a, z_l, Bool.and_eq_true, if_true, if_false, Bool.false_eq_true, reduceCtorEq, decide_true, decide_false, Bool.not_true, Bool.not_false, Bool.true_eq_false, not_true_eq_false, not_false_eq_true, g_look_at_bound, y_integer, e]
      exact q
theorem lcm_div {a b : Nat} (ha : 0 < a) : a / Nat.gcd a b * b = Nat.lcm a b := by
  obtain ⟨c, hc⟩ := Nat.gcd_dvd_left a b
  have hg : 0 < Nat.gcd a b := Nat.gcd_pos_of_pos_left _ ha
  have h1 : a / Nat.gcd a b = c := by
    conv => lhs; lhs; rw [hc]
    exact Nat.mul_div_cancel_left c hg
  have h2 : Nat.lcm a b = c * b := by
    unfold Nat.lcm
    conv => lhs; lhs; rw [hc]
    rw [Nat.mul_assoc]
    exact Nat.mul_div_cancel_left (c * b) hg
  rw [h1, h2]
theorem law_common (K : PySem.W.Frag) (ds : List D) (Q : D → Prop) (R : DX) (h : F_common K ds Q R) : dDef 4 (g_common K) ds Q R := by
  obtain ⟨a, b, ha, hb, ha2, hb2, rfl, q⟩ := h
  unfold dDef g_common
  refine seqE [.val (.int a), .val (.int b), .val (.int a), .val (.int b)] (fun N hN => ?_) ?_
  · simp (maxSteps := 10000000) (disch := first | assumption | omega) only [dDef, dRet, dRetL, dSeq, dIfS, dTst, dNotB, dAndB, dOrB, dAndV, dOrV, dNotV, dNeg, dIf, dCB, dCBL, dCons, dNil, dStar, dVar, dC, dCall, dOp, dOpL, dTup, dLst, dL, dSet, dAsg, dPar, dOwn, dExpr, dNx, dFor, dItL, dItT, dProp, dMeth, dMk, dMk0, dRaise, dPart, dNoPart, dSlL, dSlT, dRevL, dgName, dgTup, dgSets, dOwnIx, dOwnLen, dOwnTup, dApp, dSetI, dRel, relE, dItZip, dItTab, dItEnK, dItEn, dIsS, dJoinG, dSplit, dFmt, dJs, dIsT2, dIndex, dCallS, dYes, wipeE, dXf, dIsX, List.map_cons, List.map_nil, List.cons_append, List.nil_append, List.append_nil, List.length_cons, List.length_nil, List.replicate_succ, List.replicate_zero, Nat.reduceAdd, Nat.reduceSub, List.getElem?_cons_zero, List.getElem?_cons_succ, List.set_cons_zero, List.set_cons_succ, Nat.zero_add, Nat.add_zero, Nat.sub_self, x_add, x_sub, x_mulL, x_mulR, x_div, x_mod, x_lt, x_le, x_gt, x_ge, x_eq, x_ne, x_fro, x_step, x_first, x_last, x_on, x_l0, x_l1, x_l2, x_l3, x_l4, x_t0, x_t1, x_t2, x_t3, x_t4, x_intB, x_intI, x_max2, x_min2, x_lenL, x_lenT, x_sz, x_rs, x_rw, x_rf, x_ra, x_rl, x_slot, x_slotD, true_and, and_true, eq_self, decide_eq_true_eq, Bool.not_eq_true', decide_eq_false_iff_not, res_ok, res_er, x_rng1, x_rng1D, x_rng2, x_rng2E, x_rng2D, z_s, z_w, z_f, z_a, z_l, Bool.and_eq_true, if_true, if_false, Bool.false_eq_true, reduceCtorEq, decide_true, decide_false, Bool.not_true, Bool.not_false, Bool.true_eq_false, not_true_eq_false, not_false_eq_true]
    exact hN
  refine seqE [.val (.int a), .val (.int b), .val (.int (Nat.gcd a b : Nat)), .val (.int 0)] (fun N hN => ?_) ?_
  · refine while_ok b (fun n e => ∃ l r : Nat, n = r ∧ 0 < l ∧ l ≤ 10000000 ∧ r ≤ 10000000 ∧ Nat.gcd l r = Nat.gcd a b ∧ e = [.val (.int a), .val (.int b), .val (.int l), .val (.int r)]) ⟨a, b, rfl, ha, ha2, hb2, rfl, rfl⟩ ?_
    rintro n e N' ⟨l, r, rfl, hl, hl2, hr2, hg, rfl⟩ hN'
    by_cases hr : n = 0
    · subst hr
      rw [Nat.gcd_zero_right] at hg
      subst hg
      simp (maxSteps := 10000000) (disch := first | assumption | omega) only [dDef, dRet, dRetL, dSeq, dIfS, dTst, dNotB, dAndB, dOrB, dAndV, dOrV, dNotV, dNeg, dIf, dCB, dCBL, dCons, dNil, dStar, dVar, dC, dCall, dOp, dOpL, dTup, dLst, dL, dSet, dAsg, dPar, dOwn, dExpr, dNx, dFor, dItL, dItT, dProp, dMeth, dMk, dMk0, dRaise, dPart, dNoPart, dSlL, dSlT, dRevL, dgName, dgTup, dgSets, dOwnIx, dOwnLen, dOwnTup, dApp, dSetI, dRel, relE, dItZip, dItTab, dItEnK, dItEn, dIsS, dJoinG, dSplit, dFmt, dJs, dIsT2, dIndex, dCallS, dYes, wipeE, dXf, dIsX, List.map_cons, List.map_nil, List.cons_append, List.nil_append, List.append_nil, List.length_cons, List.length_nil, List.replicate_succ, List.replicate_zero, Nat.reduceAdd, Nat.reduceSub, List.getElem?_cons_zero, List.getElem?_cons_succ, List.set_cons_zero, List.set_cons_succ, Nat.zero_add, Nat.add_zero, Nat.sub_self, x_add, x_sub, x_mulL, x_mulR, x_div, x_mod, x_lt, x_le, x_gt, x_ge, x_eq, x_ne, x_fro, x_step, x_first, x_last, x_on, x_l0, x_l1, x_l2, x_l3, x_l4, x_t0, x_t1, x_t2, x_t3, x_t4, x_intB, x_intI, x_max2, x_min2, x_lenL, x_lenT, x_sz, x_rs, x_rw, x_rf, x_ra, x_rl, x_slot, x_slotD, true_and, and_true, eq_self, decide_eq_true_eq, Bool.not_eq_true', decide_eq_false_iff_not, res_ok, res_er, x_rng1, x_rng1D, x_rng2, x_rng2E, x_rng2D, z_s, z_w, z_f, z_a, z_l, Bool.and_eq_true, if_true, if_false, Bool.false_eq_true, reduceCtorEq, decide_true, decide_false, Bool.not_true, Bool.not_false, Bool.true_eq_false, not_true_eq_false, not_false_eq_true]
      exact hN
    · have h1 : (0 : Int) < (n : Int) := by omega
      have h2 : ¬ ((n : Int) = 0) := by omega
      simp (maxSteps := 10000000) (disch := first | assumption | omega) only [dDef, dRet, dRetL, dSeq, dIfS, dTst, dNotB, dAndB, dOrB, dAndV, dOrV, dNotV, dNeg, dIf, dCB, dCBL, dCons, dNil, dStar, dVar, dC, dCall, dOp, dOpL, dTup, dLst, dL, dSet, dAsg, dPar, dOwn, dExpr, dNx, dFor, dItL, dItT, dProp, dMeth, dMk, dMk0, dRaise, dPart, dNoPart, dSlL, dSlT, dRevL, dgName, dgTup, dgSets, dOwnIx, dOwnLen, dOwnTup, dApp, dSetI, dRel, relE, dItZip, dItTab, dItEnK, dItEn, dIsS, dJoinG, dSplit, dFmt, dJs, dIsT2, dIndex, dCallS, dYes, wipeE, dXf, dIsX, List.map_cons, List.map_nil, List.cons_append, List.nil_append, List.append_nil, List.length_cons, List.length_nil, List.replicate_succ, List.replicate_zero, Nat.reduceAdd, Nat.reduceSub, List.getElem?_cons_zero, List.getElem?_cons_succ, List.set_cons_zero, List.set_cons_succ, Nat.zero_add, Nat.add_zero, Nat.sub_self, x_add, x_sub, x_mulL, x_mulR, x_div, x_mod, x_lt, x_le, x_gt, x_ge, x_eq, x_ne, x_fro, x_step, x_first, x_last, x_on, x_l0, x_l1, x_l2, x_l3, x_l4, x_t0, x_t1, x_t2, x_t3, x_t4, x_intB, x_intI, x_max2, x_min2, x_lenL, x_lenT, x_sz, x_rs, x_rw, x_rf, x_ra, x_rl, x_slot, x_slotD, true_and, and_true, eq_self, decide_eq_true_eq, Bool.not_eq_true', decide_eq_false_iff_not, res_ok, res_er, x_rng1, x_rng1D, x_rng2, x_rng2E, x_rng2D, z_s, z_w, z_f, z_a, z_l, Bool.and_eq_true, if_true, if_false, Bool.false_eq_true, reduceCtorEq, decide_true, decide_false, Bool.not_true, Bool.not_false, Bool.true_eq_false, not_true_eq_false, not_false_eq_true, h2]
      refine hN' (l % n) _ (Nat.mod_lt _ (by omega)) ⟨n, l % n, rfl, by omega, hr2, by have := Nat.mod_lt l (show 0 < n by omega); omega, ?_, by rw [Int.natCast_emod]⟩
      rw [← hg, Nat.gcd_comm l n, Nat.gcd_rec n l, Nat.gcd_comm]
  · have hg : 0 < Nat.gcd a b := Nat.gcd_pos_of_pos_left _ ha
    have hg2 : Nat.gcd a b ≤ a := Nat.gcd_le_left _ ha
    have e1 : ((a : Int) / (Nat.gcd a b : Nat)) * (b : Int) = ((Nat.lcm a b : Nat) : Int) := by
      rw [← Int.natCast_ediv, ← Int.natCast_mul, lcm_div ha]
    have e2 : ((a : Int) / (Nat.gcd a b : Nat)) ≤ a := by
      rw [← Int.natCast_ediv]
      exact Int.ofNat_le.mpr (Nat.div_le_self a (Nat.gcd a b))
    have e3 : 0 ≤ ((a : Int) / (Nat.gcd a b : Nat)) := by
      rw [← Int.natCast_ediv]
      exact Int.natCast_nonneg _
    simp (maxSteps := 10000000) (disch := first | assumption | omega) only [dDef, dRet, dRetL, dSeq, dIfS, dTst, dNotB, dAndB, dOrB, dAndV, dOrV, dNotV, dNeg, dIf, dCB, dCBL, dCons, dNil, dStar, dVar, dC, dCall, dOp, dOpL, dTup, dLst, dL, dSet, dAsg, dPar, dOwn, dExpr, dNx, dFor, dItL, dItT, dProp, dMeth, dMk, dMk0, dRaise, dPart, dNoPart, dSlL, dSlT, dRevL, dgName, dgTup, dgSets, dOwnIx, dOwnLen, dOwnTup, dApp, dSetI, dRel, relE, dItZip, dItTab, dItEnK, dItEn, dIsS, dJoinG, dSplit, dFmt, dJs, dIsT2, dIndex, dCallS, dYes, wipeE, dXf, dIsX, List.map_cons, List.map_nil, List.cons_append, List.nil_append, List.append_nil, List.length_cons, List.length_nil, List.replicate_succ, List.replicate_zero, Nat.reduceAdd, Nat.reduceSub, List.getElem?_cons_zero, List.getElem?_cons_succ, List.set_cons_zero, List.set_cons_succ, Nat.zero_add, Nat.add_zero, Nat.sub_self, x_add, x_sub, x_mulL, x_mulR, x_div, x_mod, x_lt, x_le, x_gt, x_ge, x_eq, x_ne, x_fro, x_step, x_first, x_last, x_on, x_l0, x_l1, x_l2, x_l3, x_l4, x_t0, x_t1, x_t2, x_t3, x_t4, x_intB, x_intI, x_max2, x_min2, x_lenL, x_lenT, x_sz, x_rs, x_rw, x_rf, x_ra, x_rl, x_slot, x_slotD, true_and, and_true, eq_self, decide_eq_true_eq, Bool.not_eq_true', decide_eq_false_iff_not, res_ok, res_er, x_rng1, x_rng1D, x_rng2, x_rng2E, x_rng2D, z_s, z_w, z_f, z_a, z_l, Bool.and_eq_true, if_true, if_false, Bool.false_eq_true, reduceCtorEq, decide_true, decide_false, Bool.not_true, Bool.not_false, Bool.true_eq_false, not_true_eq_false, not_false_eq_true, e1]
    exact q
/-! ### the cases -/
theorem gfor_ok {α : Type} {gt : DTg} {gb : Gn.GG} {k : Env' → List D → Prop} (f : α → D) (its : α → List D) (Inv : Env' → Prop) : ∀ (xs : List α) (env : Env') (rest : List D), (∀ x ∈ xs, ∀ env N rest, Inv env → (∀ e, Inv e → N e rest) → gt (f x) env fun e1 => gb e1 (its x ++ rest) N) → Inv env → (∀ e, Inv e → k e rest) → Gn.gForL gt gb (xs.map f) env (xs.flatMap its ++ rest) k
  | [], env, rest, _, hi, hk => hk env hi
  | x :: xs, env, rest, h, hi, hk => by
    rw [List.map_cons, List.flatMap_cons, List.append_assoc]
    unfold Gn.gForL
    refine h x List.mem_cons_self env _ _ hi fun e he => ?_
    exact gfor_ok f its Inv xs e rest (fun x hx => h x (List.mem_cons_of_mem _ hx)) he hk
theorem perN_pos {m : Int} (hm : Mo m) : ∀ (rs : List Ru) (p : Nat), 0 < p → (∀ r ∈ rs, r.Ok) → 0 < rs.foldl (fun p r => Nat.lcm p (whole r m).toNat) p
  | [], p, hp, _ => hp
  | r :: rs, p, hp, h => by
    have := (whole_big (h r List.mem_cons_self) hm).1
    exact perN_pos hm rs _ (Nat.lcm_pos hp (by omega)) fun x hx => h x (List.mem_cons_of_mem _ hx)
theorem perN_le {rs : List Ru} {m : Int} (hm : Mo m) (hl : rs.length ≤ 2) (h : ∀ r ∈ rs, r.Ok) : perN rs m ≤ 2985984 := by
  have key : ∀ {p : Nat} {r : Ru}, r.Ok → Nat.lcm p (whole r m).toNat ≤ p * 1728 := fun {p r} hr => by
    have := whole_big hr hm
    have h1 : Nat.lcm p (whole r m).toNat ≤ p * (whole r m).toNat := by
      unfold Nat.lcm
      exact Nat.div_le_self _ _
    exact Nat.le_trans h1 (Nat.mul_le_mul_left _ (by omega))
  unfold perN
  match rs, hl, h with
  | [], _, _ =>
    show (1 : Nat) ≤ 2985984
    decide
  | [r], _, h => exact Nat.le_trans (key (h r List.mem_cons_self)) (by decide)
  | [r, q], _, h =>
    refine Nat.le_trans (key (h q (by simp))) ?_
    have := key (p := 1) (h r List.mem_cons_self)
    show Nat.lcm 1 _ * 1728 ≤ _
    omega
def innerG : Gn.GG := Gn.gThen (Gn.gYield (dTup (dCons (dVar 5) (dCons (dVar 9) dNil)))) Gn.gNil
def outerG (K : PySem.W.Frag) : Gn.GG := (Gn.gThen (Gn.gPlain (dSet 6 (dC (.int 1))))
  (Gn.gThen (Gn.gPlain (dFor (dItL (dVar 1)) (dgName 7) (dSet 6 (dCall 2 (F_common K) (dCons (dVar 6) (dCons (dCall 2 (F_period_of K) (dCons (dVar 7) (dCons (dVar 5) dNil))) dNil))))))
  (Gn.gThen (Gn.gPlain (dSet 8 (dIf (dTst (dVar 4)) (dOp gAddU (dVar 5) (dC (.int 1))) (dC (.int 0)))))
  (Gn.gThen (Gn.gFor (dRng2 (dCons (dVar 8) (dCons (dOp gAddU (dVar 8) (dVar 6)) dNil))) (dgName 9) innerG)
  Gn.gNil))))
abbrev NS (s : Slot) : Prop := ∀ r, Gn.plainE (s :: r) = Gn.plainE r
def cEnv (K : PySem.W.Frag) (l u : Int) (b : Bool) (rs : List Ru) (a1 a2 a3 a4 a5 : Slot) : Env' := [.val (fD l u b), .val (.lst (rs.map (rd K))), .val (.int l), .val (.int u), .val (.bl b), a1, a2, a3, a4, a5]
theorem cEnv_p {K : PySem.W.Frag} {l u : Int} {b : Bool} {rs : List Ru} {a1 a2 a3 a4 a5 : Slot} (h1 : NS a1) (h2 : NS a2) (h3 : NS a3) (h4 : NS a4) (h5 : NS a5) : Gn.plainE (cEnv K l u b rs a1 a2 a3 a4 a5) = true := by
  show Gn.plainE [a1, a2, a3, a4, a5] = true
  rw [h1, h2, h3, h4, h5]
  rfl
theorem ns_val {d : D} : NS (.val d) := fun _ => rfl
theorem ns_un : NS .un := fun _ => rfl
theorem outer_ok {K : PySem.W.Frag} {l u : Int} {b : Bool} {rs : List Ru} {m : Int} {a1 a2 a3 a4 a5 : Slot} {N : Env' → List D → Prop} {rest : List D} (hr : ∀ r ∈ rs, r.Ok) (hl : rs.length ≤ 2) (hm : Mo m) (h2 : NS a2) (h3 : NS a3) (h4 : NS a4) (h5 : NS a5)
    (hN : ∀ a1 a2 a3 a4 a5, NS a1 → NS a2 → NS a3 → NS a4 → NS a5 → N (cEnv K l u b rs a1 a2 a3 a4 a5) rest) :
    outerG K (cEnv K l u b rs (.val (.int m)) a2 a3 a4 a5) (((rangeL (begF b m) (begF b m + perN rs m)).map fun n => prI (m, n)) ++ rest) N := by
  have hp0 := perN_pos hm rs 1 (by decide) hr
  have hpl := perN_le hm hl hr
  have hm1 := hm.lo; have hm2 := hm.hi
  refine show Gn.plainE (cEnv K l u b rs (.val (.int m)) (.val (.int 1)) a3 a4 a5) = true ∧ _ from ⟨cEnv_p ns_val ns_val h3 h4 h5, ?_⟩
  show dForL (dgName 7) (dSet 6 (dCall 2 (F_common K) (dCons (dVar 6) (dCons (dCall 2 (F_period_of K) (dCons (dVar 7) (dCons (dVar 5) dNil))) dNil)))) (rs.map (rd K)) (cEnv K l u b rs (.val (.int m)) (.val (.int 1)) a3 a4 a5) _
  refine for_list (rd K) rs (fun pre e => ∃ a3, NS a3 ∧ e = cEnv K l u b rs (.val (.int m)) (.val (.int (pre.foldl (fun p r => Nat.lcm p (whole r m).toNat) 1 : Nat))) a3 a4 a5) rfl ⟨a3, h3, rfl⟩ ?_ ?_
  · rintro pre r post hall e N' ⟨a3', h3', rfl⟩ hN'
    have hmem : ∀ x ∈ pre, x.Ok := fun x hx => hr x (by rw [hall]; exact List.mem_append_left _ hx)
    have hro : r.Ok := hr r (by rw [hall]; simp)
    have hw := whole_big hro hm
    obtain ⟨W, hW⟩ := Int.eq_ofNat_of_zero_le (show 0 ≤ whole r m by omega)
    have hple : pre.foldl (fun p r => Nat.lcm p (whole r m).toNat) 1 ≤ 2985984 := perN_le hm (by
      have := congrArg List.length hall
      rw [List.length_append, List.length_cons] at this
      omega) hmem
    have hpp := perN_pos hm pre 1 (by decide) hmem
    have goal : N' (cEnv K l u b rs (.val (.int m)) (.val (.int ((pre ++ [r]).foldl (fun p r => Nat.lcm p (whole r m).toNat) 1 : Nat))) (.val (rd K r)) a4 a5) := hN' _ ⟨_, ns_val, rfl⟩
    rw [List.foldl_append] at goal
    generalize pre.foldl (fun p r => Nat.lcm p (whole r m).toNat) 1 = p at hple hpp goal ⊢
    unfold cEnv
    simp (maxSteps := 10000000) (disch := first | assumption | omega) only [dDef, dRet, dRetL, dSeq, dIfS, dTst, dNotB, dAndB, dOrB, dAndV, dOrV, dNotV, dNeg, dIf, dCB, dCBL, dCons, dNil, dStar, dVar, dC, dCall, dOp, dOpL, dTup, dLst, dL, dSet, dAsg, dPar, dOwn, dExpr, dNx, dFor, dItL, dItT, dProp, dMeth, dMk, dMk0, dRaise, dPart, dNoPart, dSlL, dSlT, dRevL, dgName, dgTup, dgSets, dOwnIx, dOwnLen, dOwnTup, dApp, dSetI, dRel, relE, dItZip, dItTab, dItEnK, dItEn, dIsS, dJoinG, dSplit, dFmt, dJs, dIsT2, dIndex, dCallS, dYes, wipeE, dXf, dIsX, List.map_cons, List.map_nil, List.cons_append, List.nil_append, List.append_nil, List.length_cons, List.length_nil, List.replicate_succ, List.replicate_zero, Nat.reduceAdd, Nat.reduceSub, List.getElem?_cons_zero, List.getElem?_cons_succ, List.set_cons_zero, List.set_cons_succ, Nat.zero_add, Nat.add_zero, Nat.sub_self, x_add, x_sub, x_mulL, x_mulR, x_div, x_mod, x_lt, x_le, x_gt, x_ge, x_eq, x_ne, x_fro, x_step, x_first, x_last, x_on, x_l0, x_l1, x_l2, x_l3, x_l4, x_t0, x_t1, x_t2, x_t3, x_t4, x_intB, x_intI, x_max2, x_min2, x_lenL, x_lenT, x_sz, x_rs, x_rw, x_rf, x_ra, x_rl, x_slot, x_slotD, true_and, and_true, eq_self, decide_eq_true_eq, Bool.not_eq_true', decide_eq_false_iff_not, res_ok, res_er, x_rng1, x_rng1D, x_rng2, x_rng2E, x_rng2D, z_s, z_w, z_f, z_a, z_l, Bool.and_eq_true, if_true, if_false, Bool.false_eq_true, reduceCtorEq, decide_true, decide_false, Bool.not_true, Bool.not_false, Bool.true_eq_false, not_true_eq_false, not_false_eq_true, y_period_of, hW]
    refine ⟨p, W, hpp, by omega, by omega, by omega, rfl, ?_⟩
    rw [List.foldl_cons, List.foldl_nil, hW, show ((W : Nat) : Int).toNat = W by omega] at goal
    exact goal
  · rintro e ⟨a3', h3', rfl⟩
    refine ⟨cEnv_p ns_val ns_val h3' h4 h5, ?_⟩
    have hperN : rs.foldl (fun p r => Nat.lcm p (whole r m).toNat) 1 = perN rs m := rfl
    rw [hperN]
    generalize perN rs m = pp at hpl hp0 ⊢
    have bg : ∀ {P : DG} {k : Kn}, k.nx (cEnv K l u b rs (.val (.int m)) (.val (.int (pp : Nat))) a3' (.val (.int (begF b m))) a5) → dSet 8 (dIf (dTst (dVar 4)) (dOp gAddU (dVar 5) (dC (.int 1))) (dC (.int 0))) (cEnv K l u b rs (.val (.int m)) (.val (.int (pp : Nat))) a3' a4 a5) k := by
      intro _ k h
      unfold cEnv at h ⊢
      unfold begF at h
      cases b <;> (simp (maxSteps := 10000000) (disch := first | assumption | omega) only [dDef, dRet, dRetL, dSeq, dIfS, dTst, dNotB, dAndB, dOrB, dAndV, dOrV, dNotV, dNeg, dIf, dCB, dCBL, dCons, dNil, dStar, dVar, dC, dCall, dOp, dOpL, dTup, dLst, dL, dSet, dAsg, dPar, dOwn, dExpr, dNx, dFor, dItL, dItT, dProp, dMeth, dMk, dMk0, dRaise, dPart, dNoPart, dSlL, dSlT, dRevL, dgName, dgTup, dgSets, dOwnIx, dOwnLen, dOwnTup, dApp, dSetI, dRel, relE, dItZip, dItTab, dItEnK, dItEn, dIsS, dJoinG, dSplit, dFmt, dJs, dIsT2, dIndex, dCallS, dYes, wipeE, dXf, dIsX, List.map_cons, List.map_nil, List.cons_append, List.nil_append, List.append_nil, List.length_cons, List.length_nil, List.replicate_succ, List.replicate_zero, Nat.reduceAdd, Nat.reduceSub, List.getElem?_cons_zero, List.getElem?_cons_succ, List.set_cons_zero, List.set_cons_succ, Nat.zero_add, Nat.add_zero, Nat.sub_self, x_add, x_sub, x_mulL, x_mulR, x_div, x_mod, x_lt, x_le, x_gt, x_ge, x_eq, x_ne, x_fro, x_step, x_first, x_last, x_on, x_l0, x_l1, x_l2, x_l3, x_l4, x_t0, x_t1, x_t2, x_t3, x_t4, x_intB, x_intI, x_max2, x_min2, x_lenL, x_lenT, x_sz, x_rs, x_rw, x_rf, x_ra, x_rl, x_slot, x_slotD, true_and, and_true, eq_self, decide_eq_true_eq, Bool.not_eq_true', decide_eq_false_iff_not, res_ok, res_er, x_rng1, x_rng1D, x_rng2, x_rng2E, x_rng2D, z_s, z_w, z_f, z_a, z_l, Bool.and_eq_true, if_true, if_false, Bool.false_eq_true, reduceCtorEq, decide_true, decide_false, Bool.not_true, Bool.not_false, Bool.true_eq_false, not_true_eq_false, not_false_eq_true]; exact h)
    refine bg (P := dNx) ⟨cEnv_p ns_val ns_val h3' ns_val h5, ?_⟩
    generalize hbv : begF b m = bv
    have hb0 : 0 ≤ bv ∧ bv ≤ 100 := by rw [← hbv]; unfold begF; split <;> omega
    have rg : ∀ {Q : List D → Prop}, Q ((rangeL bv (bv + pp)).map D.int) → dRng2 (dCons (dVar 8) (dCons (dOp gAddU (dVar 8) (dVar 6)) dNil)) (cEnv K l u b rs (.val (.int m)) (.val (.int (pp : Nat))) a3' (.val (.int bv)) a5) Q FX := by
      intro Q h
      unfold cEnv
      simp (maxSteps := 10000000) (disch := first | assumption | omega) only [dDef, dRet, dRetL, dSeq, dIfS, dTst, dNotB, dAndB, dOrB, dAndV, dOrV, dNotV, dNeg, dIf, dCB, dCBL, dCons, dNil, dStar, dVar, dC, dCall, dOp, dOpL, dTup, dLst, dL, dSet, dAsg, dPar, dOwn, dExpr, dNx, dFor, dItL, dItT, dProp, dMeth, dMk, dMk0, dRaise, dPart, dNoPart, dSlL, dSlT, dRevL, dgName, dgTup, dgSets, dOwnIx, dOwnLen, dOwnTup, dApp, dSetI, dRel, relE, dItZip, dItTab, dItEnK, dItEn, dIsS, dJoinG, dSplit, dFmt, dJs, dIsT2, dIndex, dCallS, dYes, wipeE, dXf, dIsX, List.map_cons, List.map_nil, List.cons_append, List.nil_append, List.append_nil, List.length_cons, List.length_nil, List.replicate_succ, List.replicate_zero, Nat.reduceAdd, Nat.reduceSub, List.getElem?_cons_zero, List.getElem?_cons_succ, List.set_cons_zero, List.set_cons_succ, Nat.zero_add, Nat.add_zero, Nat.sub_self, x_add, x_sub, x_mulL, x_mulR, x_div, x_mod, x_lt, x_le, x_gt, x_ge, x_eq, x_ne, x_fro, x_step, x_first, x_last, x_on, x_l0, x_l1, x_l2, x_l3, x_l4, x_t0, x_t1, x_t2, x_t3, x_t4, x_intB, x_intI, x_max2, x_min2, x_lenL, x_lenT, x_sz, x_rs, x_rw, x_rf, x_ra, x_rl, x_slot, x_slotD, true_and, and_true, eq_self, decide_eq_true_eq, Bool.not_eq_true', decide_eq_false_iff_not, res_ok, res_er, x_rng1, x_rng1D, x_rng2, x_rng2E, x_rng2D, z_s, z_w, z_f, z_a, z_l, Bool.and_eq_true, if_true, if_false, Bool.false_eq_true, reduceCtorEq, decide_true, decide_false, Bool.not_true, Bool.not_false, Bool.true_eq_false, not_true_eq_false, not_false_eq_true]
      exact h
    show dRng2 (dCons (dVar 8) (dCons (dOp gAddU (dVar 8) (dVar 6)) dNil)) (cEnv K l u b rs (.val (.int m)) (.val (.int (pp : Nat))) a3' (.val (.int bv)) a5) (fun xs => Gn.gForL (dgName 9) innerG xs (cEnv K l u b rs (.val (.int m)) (.val (.int (pp : Nat))) a3' (.val (.int bv)) a5) ((rangeL bv (bv + pp)).map (fun n => prI (m, n)) ++ rest) N) FX
    refine rg ?_
    have fm : (rangeL bv (bv + pp)).map (fun n => prI (m, n)) = (rangeL bv (bv + pp)).flatMap fun n => [prI (m, n)] := by
      generalize rangeL bv (bv + pp) = zs
      induction zs with
      | nil => rfl
      | cons z zs ih => rw [List.map_cons, List.flatMap_cons, ih]; rfl
    rw [fm]
    refine gfor_ok D.int (fun n => [prI (m, n)]) (fun e => ∃ a5, NS a5 ∧ e = cEnv K l u b rs (.val (.int m)) (.val (.int (pp : Nat))) a3' (.val (.int bv)) a5) _ _ _ ?_ ⟨a5, h5, rfl⟩ ?_
    · rintro n hn e N2 rest2 ⟨a5', h5', rfl⟩ hN2
      have hN3 := hN2 (cEnv K l u b rs (.val (.int m)) (.val (.int (pp : Nat))) a3' (.val (.int bv)) (.val (.int n))) ⟨_, ns_val, rfl⟩
      unfold innerG Gn.gThen Gn.gYield Gn.gNil
      unfold cEnv at hN3 ⊢
      simp (maxSteps := 10000000) (disch := first | assumption | omega) only [dDef, dRet, dRetL, dSeq, dIfS, dTst, dNotB, dAndB, dOrB, dAndV, dOrV, dNotV, dNeg, dIf, dCB, dCBL, dCons, dNil, dStar, dVar, dC, dCall, dOp, dOpL, dTup, dLst, dL, dSet, dAsg, dPar, dOwn, dExpr, dNx, dFor, dItL, dItT, dProp, dMeth, dMk, dMk0, dRaise, dPart, dNoPart, dSlL, dSlT, dRevL, dgName, dgTup, dgSets, dOwnIx, dOwnLen, dOwnTup, dApp, dSetI, dRel, relE, dItZip, dItTab, dItEnK, dItEn, dIsS, dJoinG, dSplit, dFmt, dJs, dIsT2, dIndex, dCallS, dYes, wipeE, dXf, dIsX, List.map_cons, List.map_nil, List.cons_append, List.nil_append, List.append_nil, List.length_cons, List.length_nil, List.replicate_succ, List.replicate_zero, Nat.reduceAdd, Nat.reduceSub, List.getElem?_cons_zero, List.getElem?_cons_succ, List.set_cons_zero, List.set_cons_succ, Nat.zero_add, Nat.add_zero, Nat.sub_self, x_add, x_sub, x_mulL, x_mulR, x_div, x_mod, x_lt, x_le, x_gt, x_ge, x_eq, x_ne, x_fro, x_step, x_first, x_last, x_on, x_l0, x_l1, x_l2, x_l3, x_l4, x_t0, x_t1, x_t2, x_t3, x_t4, x_intB, x_intI, x_max2, x_min2, x_lenL, x_lenT, x_sz, x_rs, x_rw, x_rf, x_ra, x_rl, x_slot, x_slotD, true_and, and_true, eq_self, decide_eq_true_eq, Bool.not_eq_true', decide_eq_false_iff_not, res_ok, res_er, x_rng1, x_rng1D, x_rng2, x_rng2E, x_rng2D, z_s, z_w, z_f, z_a, z_l, Bool.and_eq_true, if_true, if_false, Bool.false_eq_true, reduceCtorEq, decide_true, decide_false, Bool.not_true, Bool.not_false, Bool.true_eq_false, not_true_eq_false, not_false_eq_true]
      exact ⟨_, rfl, hN3⟩
    · rintro e ⟨a5', h5', rfl⟩
      exact hN _ _ _ _ _ ns_val ns_val h3' ns_val h5'
theorem law_cases_of (K : PySem.W.Frag) (ds out : List D) (h : F_cases_of K ds out) : Gn.gDef 10 (g_cases_of K) ds out := by
  obtain ⟨l, u, b, rs, ⟨h1, h2, h3⟩, hr, hl, rfl, rfl⟩ := h
  show Gn.plainE (cEnv K l u b rs .un .un .un .un .un) = true ∧ dRng2 (dCons (dVar 2) (dCons (dOp gAddU (dVar 3) (dC (.int 1))) dNil)) (cEnv K l u b rs .un .un .un .un .un) (fun xs => Gn.gForL (dgName 5) (outerG K) xs (cEnv K l u b rs .un .un .un .un .un) ((casesN rs l u b).map prI) fun _ rest => rest = []) FX
  refine ⟨cEnv_p ns_un ns_un ns_un ns_un ns_un, ?_⟩
  have rg : ∀ {Q : List D → Prop}, Q ((rangeL l (u + 1)).map D.int) → dRng2 (dCons (dVar 2) (dCons (dOp gAddU (dVar 3) (dC (.int 1))) dNil)) (cEnv K l u b rs .un .un .un .un .un) Q FX := by
    intro Q h
    unfold cEnv
    simp (maxSteps := 10000000) (disch := first | assumption | omega) only [dDef, dRet, dRetL, dSeq, dIfS, dTst, dNotB, dAndB, dOrB, dAndV, dOrV, dNotV, dNeg, dIf, dCB, dCBL, dCons, dNil, dStar, dVar, dC, dCall, dOp, dOpL, dTup, dLst, dL, dSet, dAsg, dPar, dOwn, dExpr, dNx, dFor, dItL, dItT, dProp, dMeth, dMk, dMk0, dRaise, dPart, dNoPart, dSlL, dSlT, dRevL, dgName, dgTup, dgSets, dOwnIx, dOwnLen, dOwnTup, dApp, dSetI, dRel, relE, dItZip, dItTab, dItEnK, dItEn, dIsS, dJoinG, dSplit, dFmt, dJs, dIsT2, dIndex, dCallS, dYes, wipeE, dXf, dIsX, List.map_cons, List.map_nil, List.cons_append, List.nil_append, List.append_nil, List.length_cons, List.length_nil, List.replicate_succ, List.replicate_zero, Nat.reduceAdd, Nat.reduceSub, List.getElem?_cons_zero, List.getElem?_cons_succ, List.set_cons_zero, List.set_cons_succ, Nat.zero_add, Nat.add_zero, Nat.sub_self, x_add, x_sub, x_mulL, x_mulR, x_div, x_mod, x_lt, x_le, x_gt, x_ge, x_eq, x_ne, x_fro, x_step, x_first, x_last, x_on, x_l0, x_l1, x_l2, x_l3, x_l4, x_t0, x_t1, x_t2, x_t3, x_t4, x_intB, x_intI, x_max2, x_min2, x_lenL, x_lenT, x_sz, x_rs, x_rw, x_rf, x_ra, x_rl, x_slot, x_slotD, true_and, and_true, eq_self, decide_eq_true_eq, Bool.not_eq_true', decide_eq_false_iff_not, res_ok, res_er, x_rng1, x_rng1D, x_rng2, x_rng2E, x_rng2D, z_s, z_w, z_f, z_a, z_l, Bool.and_eq_true, if_true, if_false, Bool.false_eq_true, reduceCtorEq, decide_true, decide_false, Bool.not_true, Bool.not_false, Bool.true_eq_false, not_true_eq_false, not_false_eq_true]
    exact h
  refine rg ?_
  have e : (casesN rs l u b).map prI = ((rangeL l (u + 1)).flatMap fun m => (rangeL (begF b m) (begF b m + perN rs m)).map fun n => prI (m, n)) ++ [] := by
    unfold casesN
    rw [List.map_flatMap, List.append_nil]
    congr 1
    funext m
    rw [List.map_map]
    rfl
  rw [e]
  refine gfor_ok D.int _ (fun e => ∃ a1 a2 a3 a4 a5, NS a1 ∧ NS a2 ∧ NS a3 ∧ NS a4 ∧ NS a5 ∧ e = cEnv K l u b rs a1 a2 a3 a4 a5) _ _ _ ?_ ⟨_, _, _, _, _, ns_un, ns_un, ns_un, ns_un, ns_un, rfl⟩ (fun _ _ => rfl)
  rintro m hm e N rest ⟨a1, a2, a3, a4, a5, q1, q2, q3, q4, q5, rfl⟩ hN
  have hm2 := rangeL_mem.mp hm
  show outerG K (cEnv K l u b rs (.val (.int m)) a2 a3 a4 a5) _ N
  exact outer_ok (a1 := a1) hr hl ⟨by omega, by omega⟩ q2 q3 q4 q5 fun a1 a2 a3 a4 a5 n1 n2 n3 n4 n5 => hN _ ⟨a1, a2, a3, a4, a5, n1, n2, n3, n4, n5, rfl⟩
end Pr

set_option maxHeartbeats 4000000
/-! facts.py: what is refused, the widest, who fails. -/
namespace Pr
open PySem PySem.Spec PyProof.Rows L2 Dl Dv Dk Gx Ma
theorem isi_t {d : D} {Q : D → Prop} (hd : isD d = true) (h : Q (.bl (isTy "tuple" d))) : gIsi [d, .raw (.ty "tuple")] Q := gIsi_ok hd (by simp) h
theorem isi_b {d : D} {Q : D → Prop} (hd : isD d = true) (h : Q (.bl (isTy "bool" d))) : gIsi [d, .raw (.ty "bool")] Q := gIsi_ok hd (by simp) h
theorem x_isiT {d : D} {Q : D → Prop} (hd : isD d = true) : gIsi [d, .raw (.ty "tuple")] Q = Q (.bl (isTy "tuple" d)) := propext ⟨fun h => by
    obtain ⟨t, b, h1, h2, h3⟩ := h
    obtain ⟨t', b', h1', h2', h3'⟩ : gIsi [d, .raw (.ty "tuple")] (fun x => x = .bl (isTy "tuple" d)) := isi_t hd rfl
    rw [h1] at h1'; cases h1'
    rw [h2] at h2'; cases h2'
    cases h3'
    exact h3, isi_t hd⟩
theorem x_isiB {d : D} {Q : D → Prop} (hd : isD d = true) : gIsi [d, .raw (.ty "bool")] Q = Q (.bl (isTy "bool" d)) := propext ⟨fun h => by
    obtain ⟨t, b, h1, h2, h3⟩ := h
    obtain ⟨t', b', h1', h2', h3'⟩ : gIsi [d, .raw (.ty "bool")] (fun x => x = .bl (isTy "bool" d)) := isi_b hd rfl
    rw [h1] at h1'; cases h1'
    rw [h2] at h2'; cases h2'
    cases h3'
    exact h3, isi_b hd⟩
/-- no triple with a truth value at its end -/
def badShape (d : D) : Bool := match d with
  | .tup [_, _, .bl _] => false
  | .tup ds => decide (ds.length ≠ 3) || (match ds[2]? with | some e => isD e && !isTy "bool" e | none => false)
  | d => !isTy "tuple" d
theorem look_shape {K : PySem.W.Frag} {d : D} {Q : D → Prop} {R : DX} (hd : isD d = true) (hb : badShape d = true) (q : R (eF K)) : dDef 2 (g_look_at_facts K) [d] Q R := by
  unfold badShape at hb
  split at hb
  · cases hb
  · rename_i ds hds
    by_cases hl : ds.length = 3
    · match ds, hl with
      | [x, y, z], _ =>
        simp only [List.length_cons, List.length_nil, Nat.reduceAdd, ne_eq, not_true_eq_false, decide_false, Bool.false_or, List.getElem?_cons_succ, List.getElem?_cons_zero, Bool.and_eq_true] at hb
        obtain ⟨z1, z2⟩ := hb
        have z2 : isTy "bool" z = false := by cases h : isTy "bool" z <;> simp_all
        have e : isTy "tuple" (.tup [x, y, z]) = true := rfl
        simp (maxSteps := 10000000) (disch := first | assumption | omega) only [dDef, dRet, dRetL, dSeq, dIfS, dTst, dNotB, dAndB, dOrB, dAndV, dOrV, dNotV, dNeg, dIf, dCB, dCBL, dCons, dNil, dStar, dVar, dC, dCall, dOp, dOpL, dTup, dLst, dL, dSet, dAsg, dPar, dOwn, dExpr, dNx, dFor, dItL, dItT, dProp, dMeth, dMk, dMk0, dRaise, dPart, dNoPart, dSlL, dSlT, dRevL, dgName, dgTup, dgSets, dOwnIx, dOwnLen, dOwnTup, dApp, dSetI, dRel, relE, dItZip, dItTab, dItEnK, dItEn, dIsS, dJoinG, dSplit, dFmt, dJs, dIsT2, dIndex, dCallS, dYes, wipeE, dXf, dIsX, List.map_cons, List.map_nil, List.cons_append, List.nil_append, List.append_nil, List.length_cons, List.length_nil, List.replicate_succ, List.replicate_zero, Nat.reduceAdd, Nat.reduceSub, List.getElem?_cons_zero, List.getElem?_cons_succ, List.set_cons_zero, List.set_cons_succ, Nat.zero_add, Nat.add_zero, Nat.sub_self, x_add, x_sub, x_mulL, x_mulR, x_div, x_mod, x_lt, x_le, x_gt, x_ge, x_eq, x_ne, x_fro, x_step, x_first, x_last, x_on, x_l0, x_l1, x_l2, x_l3, x_l4, x_t0, x_t1, x_t2, x_t3, x_t4, x_intB, x_intI, x_max2, x_min2, x_lenL, x_lenT, x_sz, x_rs, x_rw, x_rf, x_ra, x_rl, x_slot, x_slotD, true_and, and_true, eq_self, decide_eq_true_eq, Bool.not_eq_true', decide_eq_false_iff_not, res_ok, res_er, x_rng1, x_rng1D, x_rng2, x_rng2E, x_rng2D, z_s, z_w, z_f, z_a, z_l, Bool.and_eq_true, if_true, if_false, Bool.false_eq_true, reduceCtorEq, decide_true, decide_false, Bool.not_true, Bool.not_false, Bool.true_eq_false, not_true_eq_false, not_false_eq_true, g_look_at_facts, x_isiT, e, x_isiB z1, z2, Int.reduceNe, Int.reduceEq, Int.cast_ofNat_Int]
        exact q
    · have e : isTy "tuple" (.tup ds) = true := rfl
      have e3 : ¬ ((ds.length : Int) = 3) := by omega
      simp (maxSteps := 10000000) (disch := first | assumption | omega) only [dDef, dRet, dRetL, dSeq, dIfS, dTst, dNotB, dAndB, dOrB, dAndV, dOrV, dNotV, dNeg, dIf, dCB, dCBL, dCons, dNil, dStar, dVar, dC, dCall, dOp, dOpL, dTup, dLst, dL, dSet, dAsg, dPar, dOwn, dExpr, dNx, dFor, dItL, dItT, dProp, dMeth, dMk, dMk0, dRaise, dPart, dNoPart, dSlL, dSlT, dRevL, dgName, dgTup, dgSets, dOwnIx, dOwnLen, dOwnTup, dApp, dSetI, dRel, relE, dItZip, dItTab, dItEnK, dItEn, dIsS, dJoinG, dSplit, dFmt, dJs, dIsT2, dIndex, dCallS, dYes, wipeE, dXf, dIsX, List.map_cons, List.map_nil, List.cons_append, List.nil_append, List.append_nil, List.length_cons, List.length_nil, List.replicate_succ, List.replicate_zero, Nat.reduceAdd, Nat.reduceSub, List.getElem?_cons_zero, List.getElem?_cons_succ, List.set_cons_zero, List.set_cons_succ, Nat.zero_add, Nat.add_zero, Nat.sub_self, x_add, x_sub, x_mulL, x_mulR, x_div, x_mod, x_lt, x_le, x_gt, x_ge, x_eq, x_ne, x_fro, x_step, x_first, x_last, x_on, x_l0, x_l1, x_l2, x_l3, x_l4, x_t0, x_t1, x_t2, x_t3, x_t4, x_intB, x_intI, x_max2, x_min2, x_lenL, x_lenT, x_sz, x_rs, x_rw, x_rf, x_ra, x_rl, x_slot, x_slotD, true_and, and_true, eq_self, decide_eq_true_eq, Bool.not_eq_true', decide_eq_false_iff_not, res_ok, res_er, x_rng1, x_rng1D, x_rng2, x_rng2E, x_rng2D, z_s, z_w, z_f, z_a, z_l, Bool.and_eq_true, if_true, if_false, Bool.false_eq_true, reduceCtorEq, decide_true, decide_false, Bool.not_true, Bool.not_false, Bool.true_eq_false, not_true_eq_false, not_false_eq_true, g_look_at_facts, x_isiT, e, e3, ne_eq]
      exact q
  · have e : isTy "tuple" d = false := by cases h : isTy "tuple" d <;> simp_all
    simp (maxSteps := 10000000) (disch := first | assumption | omega) only [dDef, dRet, dRetL, dSeq, dIfS, dTst, dNotB, dAndB, dOrB, dAndV, dOrV, dNotV, dNeg, dIf, dCB, dCBL, dCons, dNil, dStar, dVar, dC, dCall, dOp, dOpL, dTup, dLst, dL, dSet, dAsg, dPar, dOwn, dExpr, dNx, dFor, dItL, dItT, dProp, dMeth, dMk, dMk0, dRaise, dPart, dNoPart, dSlL, dSlT, dRevL, dgName, dgTup, dgSets, dOwnIx, dOwnLen, dOwnTup, dApp, dSetI, dRel, relE, dItZip, dItTab, dItEnK, dItEn, dIsS, dJoinG, dSplit, dFmt, dJs, dIsT2, dIndex, dCallS, dYes, wipeE, dXf, dIsX, List.map_cons, List.map_nil, List.cons_append, List.nil_append, List.append_nil, List.length_cons, List.length_nil, List.replicate_succ, List.replicate_zero, Nat.reduceAdd, Nat.reduceSub, List.getElem?_cons_zero, List.getElem?_cons_succ, List.set_cons_zero, List.set_cons_succ, Nat.zero_add, Nat.add_zero, Nat.sub_self, x_add, x_sub, x_mulL, x_mulR, x_div, x_mod, x_lt, x_le, x_gt, x_ge, x_eq, x_ne, x_fro, x_step, x_first, x_last, x_on, x_l0, x_l1, x_l2, x_l3, x_l4, x_t0, x_t1, x_t2, x_t3, x_t4, x_intB, x_intI, x_max2, x_min2, x_lenL, x_lenT, x_sz, x_rs, x_rw, x_rf, x_ra, x_rl, x_slot, x_slotD, true_and, and_true, eq_self, decide_eq_true_eq, Bool.not_eq_true', decide_eq_false_iff_not, res_ok, res_er, x_rng1, x_rng1D, x_rng2, x_rng2E, x_rng2D, z_s, z_w, z_f, z_a, z_l, Bool.and_eq_true, if_true, if_false, Bool.false_eq_true, reduceCtorEq, decide_true, decide_false, Bool.not_true, Bool.not_false, Bool.true_eq_false, not_true_eq_false, not_false_eq_true, g_look_at_facts, x_isiT, e]
    exact q
theorem look_three {K : PySem.W.Frag} {x y : D} {b : Bool} {Q : D → Prop} {R : DX} (hx : isD x = true) (hy : isD y = true) (q0 : (isIn x 2 12 && isIn y 2 12) = false → R (eF K)) (q : (isIn x 2 12 && isIn y 2 12) = true → ∃ i j : Int, x = .int i ∧ y = .int j ∧ if i > j then R (eF K) else Q .non) : dDef 2 (g_look_at_facts K) [.tup [x, y, .bl b]] Q R := by
  have e : isTy "tuple" (.tup [x, y, .bl b]) = true := rfl
  have e1 : isD (.tup [x, y, .bl b]) = true := rfl
  have e2 : isTy "bool" (.bl b) = true := rfl
  have e3 : isD (.bl b) = true := rfl
  simp (maxSteps := 10000000) (disch := first | assumption | omega) only [dDef, dRet, dRetL, dSeq, dIfS, dTst, dNotB, dAndB, dOrB, dAndV, dOrV, dNotV, dNeg, dIf, dCB, dCBL, dCons, dNil, dStar, dVar, dC, dCall, dOp, dOpL, dTup, dLst, dL, dSet, dAsg, dPar, dOwn, dExpr, dNx, dFor, dItL, dItT, dProp, dMeth, dMk, dMk0, dRaise, dPart, dNoPart, dSlL, dSlT, dRevL, dgName, dgTup, dgSets, dOwnIx, dOwnLen, dOwnTup, dApp, dSetI, dRel, relE, dItZip, dItTab, dItEnK, dItEn, dIsS, dJoinG, dSplit, dFmt, dJs, dIsT2, dIndex, dCallS, dYes, wipeE, dXf, dIsX, List.map_cons, List.map_nil, List.cons_append, List.nil_append, List.append_nil, List.length_cons, List.length_nil, List.replicate_succ, List.replicate_zero, Nat.reduceAdd, Nat.reduceSub, List.getElem?_cons_zero, List.getElem?_cons_succ, List.set_cons_zero, List.set_cons_succ, Nat.zero_add, Nat.add_zero, Nat.sub_self, x_add, x_sub, x_mulL, x_mulR, x_div, x_mod, x_lt, x_le, x_gt, x_ge, x_eq, x_ne, x_fro, x_step, x_first, x_last, x_on, x_l0, x_l1, x_l2, x_l3, x_l4, x_t0, x_t1, x_t2, x_t3, x_t4, x_intB, x_intI, x_max2, x_min2, x_lenL, x_lenT, x_sz, x_rs, x_rw, x_rf, x_ra, x_rl, x_slot, x_slotD, true_and, and_true, eq_self, decide_eq_true_eq, Bool.not_eq_true', decide_eq_false_iff_not, res_ok, res_er, x_rng1, x_rng1D, x_rng2, x_rng2E, x_rng2D, z_s, z_w, z_f, z_a, z_l, Bool.and_eq_true, if_true, if_false, Bool.false_eq_true, reduceCtorEq, decide_true, decide_false, Bool.not_true, Bool.not_false, Bool.true_eq_false, not_true_eq_false, not_false_eq_true, g_look_at_facts, x_isiT e1, e, x_isiB e3, e2, dLc, Int.cast_ofNat_Int, ne_eq]
  refine lc_map (xs := [x, y]) id (fun v => .bl (isIn v 2 12)) rfl (show (2 : Nat) ≤ sizeLine by decide) (fun v hv Q1 hh => ?_) ?_
  · simp only [List.mem_cons, List.not_mem_nil, or_false] at hv
    have hv : isD v = true := by rcases hv with rfl | rfl <;> assumption
    simp (maxSteps := 10000000) (disch := first | assumption | omega) only [dDef, dRet, dRetL, dSeq, dIfS, dTst, dNotB, dAndB, dOrB, dAndV, dOrV, dNotV, dNeg, dIf, dCB, dCBL, dCons, dNil, dStar, dVar, dC, dCall, dOp, dOpL, dTup, dLst, dL, dSet, dAsg, dPar, dOwn, dExpr, dNx, dFor, dItL, dItT, dProp, dMeth, dMk, dMk0, dRaise, dPart, dNoPart, dSlL, dSlT, dRevL, dgName, dgTup, dgSets, dOwnIx, dOwnLen, dOwnTup, dApp, dSetI, dRel, relE, dItZip, dItTab, dItEnK, dItEn, dIsS, dJoinG, dSplit, dFmt, dJs, dIsT2, dIndex, dCallS, dYes, wipeE, dXf, dIsX, List.map_cons, List.map_nil, List.cons_append, List.nil_append, List.append_nil, List.length_cons, List.length_nil, List.replicate_succ, List.replicate_zero, Nat.reduceAdd, Nat.reduceSub, List.getElem?_cons_zero, List.getElem?_cons_succ, List.set_cons_zero, List.set_cons_succ, Nat.zero_add, Nat.add_zero, Nat.sub_self, x_add, x_sub, x_mulL, x_mulR, x_div, x_mod, x_lt, x_le, x_gt, x_ge, x_eq, x_ne, x_fro, x_step, x_first, x_last, x_on, x_l0, x_l1, x_l2, x_l3, x_l4, x_t0, x_t1, x_t2, x_t3, x_t4, x_intB, x_intI, x_max2, x_min2, x_lenL, x_lenT, x_sz, x_rs, x_rw, x_rf, x_ra, x_rl, x_slot, x_slotD, true_and, and_true, eq_self, decide_eq_true_eq, Bool.not_eq_true', decide_eq_false_iff_not, res_ok, res_er, x_rng1, x_rng1D, x_rng2, x_rng2E, x_rng2D, z_s, z_w, z_f, z_a, z_l, Bool.and_eq_true, if_true, if_false, Bool.false_eq_true, reduceCtorEq, decide_true, decide_false, Bool.not_true, Bool.not_false, Bool.true_eq_false, not_true_eq_false, not_false_eq_true, y_within hv, id]
    exact hh
  · rw [show ([x, y].map fun v => D.bl (isIn v 2 12)) = ([isIn x 2 12, isIn y 2 12].map D.bl) from rfl, x_all]
    dsimp only [List.all_cons, List.all_nil, id, Bool.and_true]
    rw [Bool.and_true]
    cases hb : (isIn x 2 12 && isIn y 2 12) with
    | false =>
      exact q0 hb
    | true =>
      obtain ⟨i, j, rfl, rfl, z⟩ := q hb
      rw [x_gt]
      by_cases h : i > j
      · rw [if_pos h] at z
        simp only [h, decide_true, if_true, Bool.true_eq_false, if_false]
        exact z
      · rw [if_neg h] at z
        simp only [h, decide_false, Bool.false_eq_true, if_true, Bool.true_eq_false, if_false]
        exact z
theorem isD_fD {l u : Int} {b : Bool} : isD (fD l u b) = true := rfl
theorem law_look_at_facts (K : PySem.W.Frag) (ds : List D) (Q : D → Prop) (R : DX) (h : F_look_at_facts K ds Q R) : dDef 2 (g_look_at_facts K) ds Q R := by
  rcases h with ⟨l, u, b, hf, rfl, q⟩ | ⟨d, hd, rfl, q⟩
  · have h1 := hf.lo; have h2 := hf.le; have h3 := hf.hi
    have e1 : isIn (.int l) 2 12 = true := by unfold isIn; simp; omega
    have e2 : isIn (.int u) 2 12 = true := by unfold isIn; simp; omega
    refine look_three rfl rfl (fun z => ?_) fun z => ⟨l, u, rfl, rfl, ?_⟩
    · rw [e1, e2] at z
      cases z
    · rw [if_neg (by omega)]
      exact q
  · have bad : ∀ d ∈ oddF, (isD d && badShape d) = true ∨ ∃ x y b, d = .tup [x, y, .bl b] ∧ isD x = true ∧ isD y = true ∧ ((isIn x 2 12 && isIn y 2 12) = false ∨ ∃ i j : Int, x = .int i ∧ y = .int j ∧ i > j) := by
      intro d hd
      simp only [oddF, List.mem_cons, List.not_mem_nil, or_false] at hd
      rcases hd with rfl | rfl | rfl | rfl | rfl | rfl | rfl | rfl | rfl | rfl | rfl | rfl
      · exact .inl rfl
      · exact .inl rfl
      · exact .inr ⟨_, _, _, rfl, rfl, rfl, .inr ⟨_, _, rfl, rfl, by decide⟩⟩
      · exact .inr ⟨_, _, _, rfl, rfl, rfl, .inl rfl⟩
      · exact .inr ⟨_, _, _, rfl, rfl, rfl, .inl rfl⟩
      · exact .inl rfl
      · exact .inl rfl
      · exact .inr ⟨_, _, _, rfl, rfl, rfl, .inl rfl⟩
      · exact .inl rfl
      · exact .inr ⟨_, _, _, rfl, rfl, rfl, .inl rfl⟩
      · exact .inr ⟨_, _, _, rfl, rfl, rfl, .inr ⟨_, _, rfl, rfl, by decide⟩⟩
      · exact .inl rfl
    rcases bad d hd with h | ⟨x, y, b, rfl, hx, hy, h⟩
    · rw [Bool.and_eq_true] at h
      exact look_shape h.1 h.2 q
    · refine look_three hx hy (fun _ => q) fun z => ?_
      rcases h with h | ⟨i, j, rfl, rfl, h⟩
      · rw [h] at z; cases z
      · exact ⟨i, j, rfl, rfl, by rw [if_pos h]; exact q⟩
/-! ### the widest -/
abbrev Case := Int × Int
def bestStep (r : Ru) (o : Option (Int × Case)) (c : Case) : Option (Int × Case) := match o with
  | none => some (spreadOf r c.1 c.2, c)
  | some (s, d) => if spreadOf r c.1 c.2 > s then some (spreadOf r c.1 c.2, c) else some (s, d)
def bestD : Option (Int × Case) → D
  | none => .non
  | some (s, c) => .tup [.int s, .int c.1, .int c.2]
def bestOf (r : Ru) (l u : Int) (b : Bool) : Option (Int × Case) := (casesN [r] l u b).foldl (bestStep r) none
def dueD : Option Case → D
  | none => .non
  | some c => prI c
def failB (r : Ru) (bound : Int) (c : Case) : Bool := decide (spreadOf r c.1 c.2 > bound)
def failOf (r : Ru) (l u : Int) (b : Bool) (bound : Int) : Option Case := (casesN [r] l u b).find? (failB r bound)
def F_widest (K : PySem.W.Frag) : DF := fun ds Q R => (∃ r l u b, r.Ok ∧ Fk l u ∧ ds = [rd K r, fD l u b] ∧ Q (bestD (bestOf r l u b))) ∨ ∃ r d, d ∈ oddF ∧ ds = [rd K r, d] ∧ R (eF K)
def F_own_fails (K : PySem.W.Frag) : DF := fun ds Q R => ∃ r l u b bound, r.Ok ∧ Fk l u ∧ ds = [rd K r, fD l u b, .int bound] ∧ Q (dueD (failOf r l u b bound))
def F_fails (K : PySem.W.Frag) : DF := fun ds Q R => (∃ r l u b bound, r.Ok ∧ Fk l u ∧ 0 ≤ bound ∧ ds = [rd K r, fD l u b, .int bound] ∧ Q (dueD (failOf r l u b bound))) ∨ (∃ r d e, d ∈ oddF ∧ ds = [rd K r, d, e] ∧ R (eF K)) ∨ ∃ r l u b e, e ∈ oddB ∧ Fk l u ∧ ds = [rd K r, fD l u b, e] ∧ R (eB K)
def g_widest (K : PySem.W.Frag) : DG :=
  (dSeq (dExpr (dCall 1 (F_look_at_facts K) (dCons (dVar 1) dNil)))
  (dSeq (dSet 2 (dC .non))
  (dSeq (Gn.dForG 2 (F_cases_of K) (dCons (dVar 1) (dCons (dL (dLst (dCons (dVar 0) dNil))) dNil)) (dgTup [3, 4]) (dSeq (dSet 5 (dCall 3 (F_own_spread K) (dCons (dVar 0) (dCons (dVar 3) (dCons (dVar 4) dNil)))))
  (dIfS (dOrB (dTst (dOp gIsN (dVar 2) (dC .non))) (dTst (dOp gGt (dVar 5) (dOp gIx (dVar 2) (dC (.int 0)))))) (dSet 2 (dTup (dCons (dVar 5) (dCons (dVar 3) (dCons (dVar 4) dNil))))) dNx)))
  (dRet (dVar 2)))))
def g_own_fails (K : PySem.W.Frag) : DG :=
  (dSeq (Gn.dForG 2 (F_cases_of K) (dCons (dVar 1) (dCons (dL (dLst (dCons (dVar 0) dNil))) dNil)) (dgTup [3, 4]) (dIfS (dTst (dOp gGt (dCall 3 (F_own_spread K) (dCons (dVar 0) (dCons (dVar 3) (dCons (dVar 4) dNil)))) (dVar 2))) (dRet (dTup (dCons (dVar 3) (dCons (dVar 4) dNil)))) dNx))
  (dRet (dC .non)))
def g_fails (K : PySem.W.Frag) : DG :=
  (dSeq (dExpr (dCall 1 (F_look_at_facts K) (dCons (dVar 1) dNil)))
  (dSeq (dExpr (dCall 1 (F_look_at_bound K) (dCons (dVar 2) dNil)))
  (dRet (dCall 3 (F_own_fails K) (dCons (dVar 0) (dCons (dVar 1) (dCons (dVar 2) dNil)))))))
theorem cases_mem {rs : List Ru} {l u : Int} {b : Bool} {c : Case} (hf : Fk l u) (hc : c ∈ casesN rs l u b) : Mo c.1 ∧ l ≤ c.1 ∧ c.1 ≤ u ∧ begF b c.1 ≤ c.2 ∧ c.2 < begF b c.1 + perN rs c.1 := by
  have h1 := hf.lo; have h3 := hf.hi
  unfold casesN at hc
  obtain ⟨m, hm, hc⟩ := List.mem_flatMap.mp hc
  obtain ⟨n, hn, rfl⟩ := List.mem_map.mp hc
  have := rangeL_mem.mp hm
  have := rangeL_mem.mp hn
  dsimp only
  exact ⟨⟨by omega, by omega⟩, by omega, by omega, by omega, by omega⟩
theorem y_looked {K : PySem.W.Frag} {l u : Int} {b : Bool} {Q : D → Prop} {R : DX} (hf : Fk l u) (q : Q .non) : F_look_at_facts K [fD l u b] Q R := .inl ⟨l, u, b, hf, rfl, q⟩
theorem y_unlooked {K : PySem.W.Frag} {d : D} {Q : D → Prop} {R : DX} (hd : d ∈ oddF) (q : R (eF K)) : F_look_at_facts K [d] Q R := .inr ⟨d, hd, rfl, q⟩
theorem y_cases {K : PySem.W.Frag} {l u : Int} {b : Bool} {rs : List Ru} (hf : Fk l u) (hr : ∀ r ∈ rs, r.Ok) (hl : rs.length ≤ 2) : F_cases_of K [fD l u b, .lst (rs.map (rd K))] ((casesN rs l u b).map prI) := ⟨l, u, b, rs, hf, hr, hl, rfl, rfl⟩
theorem law_widest (K : PySem.W.Frag) (ds : List D) (Q : D → Prop) (R : DX) (h : F_widest K ds Q R) : dDef 6 (g_widest K) ds Q R := by
  rcases h with ⟨r, l, u, b, hr, hf, rfl, q⟩ | ⟨r, d, hd, rfl, q⟩
  · simp (maxSteps := 10000000) (disch := first | assumption | omega) only [dDef, dRet, dRetL, dSeq, dIfS, dTst, dNotB, dAndB, dOrB, dAndV, dOrV, dNotV, dNeg, dIf, dCB, dCBL, dCons, dNil, dStar, dVar, dC, dCall, dOp, dOpL, dTup, dLst, dL, dSet, dAsg, dPar, dOwn, dExpr, dNx, dFor, dItL, dItT, dProp, dMeth, dMk, dMk0, dRaise, dPart, dNoPart, dSlL, dSlT, dRevL, dgName, dgTup, dgSets, dOwnIx, dOwnLen, dOwnTup, dApp, dSetI, dRel, relE, dItZip, dItTab, dItEnK, dItEn, dIsS, dJoinG, dSplit, dFmt, dJs, dIsT2, dIndex, dCallS, dYes, wipeE, dXf, dIsX, List.map_cons, List.map_nil, List.cons_append, List.nil_append, List.append_nil, List.length_cons, List.length_nil, List.replicate_succ, List.replicate_zero, Nat.reduceAdd, Nat.reduceSub, List.getElem?_cons_zero, List.getElem?_cons_succ, List.set_cons_zero, List.set_cons_succ, Nat.zero_add, Nat.add_zero, Nat.sub_self, x_add, x_sub, x_mulL, x_mulR, x_div, x_mod, x_lt, x_le, x_gt, x_ge, x_eq, x_ne, x_fro, x_step, x_first, x_last, x_on, x_l0, x_l1, x_l2, x_l3, x_l4, x_t0, x_t1, x_t2, x_t3, x_t4, x_intB, x_intI, x_max2, x_min2, x_lenL, x_lenT, x_sz, x_rs, x_rw, x_rf, x_ra, x_rl, x_slot, x_slotD, true_and, and_true, eq_self, decide_eq_true_eq, Bool.not_eq_true', decide_eq_false_iff_not, res_ok, res_er, x_rng1, x_rng1D, x_rng2, x_rng2E, x_rng2D, z_s, z_w, z_f, z_a, z_l, Bool.and_eq_true, if_true, if_false, Bool.false_eq_true, reduceCtorEq, decide_true, decide_false, Bool.not_true, Bool.not_false, Bool.true_eq_false, not_true_eq_false, not_false_eq_true, g_widest, Gn.dForG]
    refine y_looked hf ⟨_, y_cases (rs := [r]) hf (by simpa using hr) (show 1 ≤ 2 by decide), ?_⟩
    refine for_list prI (casesN [r] l u b) (fun pre e => ∃ x y z, e = [.val (rd K r), .val (fD l u b), .val (bestD (pre.foldl (bestStep r) none)), x, y, z]) rfl ⟨_, _, _, rfl⟩ ?_ ?_
    · rintro pre c post hall e N ⟨x, y, z, rfl⟩ hN
      obtain ⟨hm, _, _, _, _⟩ := cases_mem hf (show c ∈ casesN [r] l u b by rw [hall]; simp)
      have hN : ∀ x y z, N [.val (rd K r), .val (fD l u b), .val (bestD ((pre ++ [c]).foldl (bestStep r) none)), x, y, z] := fun x y z => hN _ ⟨x, y, z, rfl⟩
      rw [List.foldl_append, List.foldl_cons, List.foldl_nil] at hN
      generalize pre.foldl (bestStep r) none = o at hN ⊢
      unfold prI
      cases o with
      | none =>
        simp (maxSteps := 10000000) (disch := first | assumption | omega) only [dDef, dRet, dRetL, dSeq, dIfS, dTst, dNotB, dAndB, dOrB, dAndV, dOrV, dNotV, dNeg, dIf, dCB, dCBL, dCons, dNil, dStar, dVar, dC, dCall, dOp, dOpL, dTup, dLst, dL, dSet, dAsg, dPar, dOwn, dExpr, dNx, dFor, dItL, dItT, dProp, dMeth, dMk, dMk0, dRaise, dPart, dNoPart, dSlL, dSlT, dRevL, dgName, dgTup, dgSets, dOwnIx, dOwnLen, dOwnTup, dApp, dSetI, dRel, relE, dItZip, dItTab, dItEnK, dItEn, dIsS, dJoinG, dSplit, dFmt, dJs, dIsT2, dIndex, dCallS, dYes, wipeE, dXf, dIsX, List.map_cons, List.map_nil, List.cons_append, List.nil_append, List.append_nil, List.length_cons, List.length_nil, List.replicate_succ, List.replicate_zero, Nat.reduceAdd, Nat.reduceSub, List.getElem?_cons_zero, List.getElem?_cons_succ, List.set_cons_zero, List.set_cons_succ, Nat.zero_add, Nat.add_zero, Nat.sub_self, x_add, x_sub, x_mulL, x_mulR, x_div, x_mod, x_lt, x_le, x_gt, x_ge, x_eq, x_ne, x_fro, x_step, x_first, x_last, x_on, x_l0, x_l1, x_l2, x_l3, x_l4, x_t0, x_t1, x_t2, x_t3, x_t4, x_intB, x_intI, x_max2, x_min2, x_lenL, x_lenT, x_sz, x_rs, x_rw, x_rf, x_ra, x_rl, x_slot, x_slotD, true_and, and_true, eq_self, decide_eq_true_eq, Bool.not_eq_true', decide_eq_false_iff_not, res_ok, res_er, x_rng1, x_rng1D, x_rng2, x_rng2E, x_rng2D, z_s, z_w, z_f, z_a, z_l, Bool.and_eq_true, if_true, if_false, Bool.false_eq_true, reduceCtorEq, decide_true, decide_false, Bool.not_true, Bool.not_false, Bool.true_eq_false, not_true_eq_false, not_false_eq_true, y_own_spread, bestD, gIsN, Dl.isNon]
        exact hN _ _ _
      | some o =>
        obtain ⟨s, d⟩ := o
        simp (maxSteps := 10000000) (disch := first | assumption | omega) only [dDef, dRet, dRetL, dSeq, dIfS, dTst, dNotB, dAndB, dOrB, dAndV, dOrV, dNotV, dNeg, dIf, dCB, dCBL, dCons, dNil, dStar, dVar, dC, dCall, dOp, dOpL, dTup, dLst, dL, dSet, dAsg, dPar, dOwn, dExpr, dNx, dFor, dItL, dItT, dProp, dMeth, dMk, dMk0, dRaise, dPart, dNoPart, dSlL, dSlT, dRevL, dgName, dgTup, dgSets, dOwnIx, dOwnLen, dOwnTup, dApp, dSetI, dRel, relE, dItZip, dItTab, dItEnK, dItEn, dIsS, dJoinG, dSplit, dFmt, dJs, dIsT2, dIndex, dCallS, dYes, wipeE, dXf, dIsX, List.map_cons, List.map_nil, List.cons_append, List.nil_append, List.append_nil, List.length_cons, List.length_nil, List.replicate_succ, List.replicate_zero, Nat.reduceAdd, Nat.reduceSub, List.getElem?_cons_zero, List.getElem?_cons_succ, List.set_cons_zero, List.set_cons_succ, Nat.zero_add, Nat.add_zero, Nat.sub_self, x_add, x_sub, x_mulL, x_mulR, x_div, x_mod, x_lt, x_le, x_gt, x_ge, x_eq, x_ne, x_fro, x_step, x_first, x_last, x_on, x_l0, x_l1, x_l2, x_l3, x_l4, x_t0, x_t1, x_t2, x_t3, x_t4, x_intB, x_intI, x_max2, x_min2, x_lenL, x_lenT, x_sz, x_rs, x_rw, x_rf, x_ra, x_rl, x_slot, x_slotD, true_and, and_true, eq_self, decide_eq_true_eq, Bool.not_eq_true', decide_eq_false_iff_not, res_ok, res_er, x_rng1, x_rng1D, x_rng2, x_rng2E, x_rng2D, z_s, z_w, z_f, z_a, z_l, Bool.and_eq_true, if_true, if_false, Bool.false_eq_true, reduceCtorEq, decide_true, decide_false, Bool.not_true, Bool.not_false, Bool.true_eq_false, not_true_eq_false, not_false_eq_true, y_own_spread, bestD, gIsN, Dl.isNon]
        by_cases hs : spreadOf r c.1 c.2 > s
        · rw [if_pos hs]
          simp only [bestStep, if_pos hs] at hN
          exact hN _ _ _
        · rw [if_neg hs]
          simp only [bestStep, if_neg hs] at hN
          exact hN _ _ _
    · rintro e ⟨x, y, z, rfl⟩
      simp (maxSteps := 10000000) (disch := first | assumption | omega) only [dDef, dRet, dRetL, dSeq, dIfS, dTst, dNotB, dAndB, dOrB, dAndV, dOrV, dNotV, dNeg, dIf, dCB, dCBL, dCons, dNil, dStar, dVar, dC, dCall, dOp, dOpL, dTup, dLst, dL, dSet, dAsg, dPar, dOwn, dExpr, dNx, dFor, dItL, dItT, dProp, dMeth, dMk, dMk0, dRaise, dPart, dNoPart, dSlL, dSlT, dRevL, dgName, dgTup, dgSets, dOwnIx, dOwnLen, dOwnTup, dApp, dSetI, dRel, relE, dItZip, dItTab, dItEnK, dItEn, dIsS, dJoinG, dSplit, dFmt, dJs, dIsT2, dIndex, dCallS, dYes, wipeE, dXf, dIsX, List.map_cons, List.map_nil, List.cons_append, List.nil_append, List.append_nil, List.length_cons, List.length_nil, List.replicate_succ, List.replicate_zero, Nat.reduceAdd, Nat.reduceSub, List.getElem?_cons_zero, List.getElem?_cons_succ, List.set_cons_zero, List.set_cons_succ, Nat.zero_add, Nat.add_zero, Nat.sub_self, x_add, x_sub, x_mulL, x_mulR, x_div, x_mod, x_lt, x_le, x_gt, x_ge, x_eq, x_ne, x_fro, x_step, x_first, x_last, x_on, x_l0, x_l1, x_l2, x_l3, x_l4, x_t0, x_t1, x_t2, x_t3, x_t4, x_intB, x_intI, x_max2, x_min2, x_lenL, x_lenT, x_sz, x_rs, x_rw, x_rf, x_ra, x_rl, x_slot, x_slotD, true_and, and_true, eq_self, decide_eq_true_eq, Bool.not_eq_true', decide_eq_false_iff_not, res_ok, res_er, x_rng1, x_rng1D, x_rng2, x_rng2E, x_rng2D, z_s, z_w, z_f, z_a, z_l, Bool.and_eq_true, if_true, if_false, Bool.false_eq_true, reduceCtorEq, decide_true, decide_false, Bool.not_true, Bool.not_false, Bool.true_eq_false, not_true_eq_false, not_false_eq_true]
      exact q
  · simp (maxSteps := 10000000) (disch := first | assumption | omega) only [dDef, dRet, dRetL, dSeq, dIfS, dTst, dNotB, dAndB, dOrB, dAndV, dOrV, dNotV, dNeg, dIf, dCB, dCBL, dCons, dNil, dStar, dVar, dC, dCall, dOp, dOpL, dTup, dLst, dL, dSet, dAsg, dPar, dOwn, dExpr, dNx, dFor, dItL, dItT, dProp, dMeth, dMk, dMk0, dRaise, dPart, dNoPart, dSlL, dSlT, dRevL, dgName, dgTup, dgSets, dOwnIx, dOwnLen, dOwnTup, dApp, dSetI, dRel, relE, dItZip, dItTab, dItEnK, dItEn, dIsS, dJoinG, dSplit, dFmt, dJs, dIsT2, dIndex, dCallS, dYes, wipeE, dXf, dIsX, List.map_cons, List.map_nil, List.cons_append, List.nil_append, List.append_nil, List.length_cons, List.length_nil, List.replicate_succ, List.replicate_zero, Nat.reduceAdd, Nat.reduceSub, List.getElem?_cons_zero, List.getElem?_cons_succ, List.set_cons_zero, List.set_cons_succ, Nat.zero_add, Nat.add_zero, Nat.sub_self, x_add, x_sub, x_mulL, x_mulR, x_div, x_mod, x_lt, x_le, x_gt, x_ge, x_eq, x_ne, x_fro, x_step, x_first, x_last, x_on, x_l0, x_l1, x_l2, x_l3, x_l4, x_t0, x_t1, x_t2, x_t3, x_t4, x_intB, x_intI, x_max2, x_min2, x_lenL, x_lenT, x_sz, x_rs, x_rw, x_rf, x_ra, x_rl, x_slot, x_slotD, true_and, and_true, eq_self, decide_eq_true_eq, Bool.not_eq_true', decide_eq_false_iff_not, res_ok, res_er, x_rng1, x_rng1D, x_rng2, x_rng2E, x_rng2D, z_s, z_w, z_f, z_a, z_l, Bool.and_eq_true, if_true, if_false, Bool.false_eq_true, reduceCtorEq, decide_true, decide_false, Bool.not_true, Bool.not_false, Bool.true_eq_false, not_true_eq_false, not_false_eq_true, g_widest]
    exact y_unlooked hd q
theorem find_at {α : Type} {p : α → Bool} {all pre post : List α} {x : α} (hall : all = pre ++ x :: post) (h : ∀ y ∈ pre, p y = false) (hx : p x = true) : all.find? p = some x := by
  rw [hall, List.find?_append, List.find?_eq_none.mpr (fun y hy => by rw [h y hy]; simp), List.find?_cons, hx]
  rfl
theorem law_own_fails (K : PySem.W.Frag) (ds : List D) (Q : D → Prop) (R : DX) (h : F_own_fails K ds Q R) : dDef 5 (g_own_fails K) ds Q R := by
  obtain ⟨r, l, u, b, bound, hr, hf, rfl, q⟩ := h
  simp (maxSteps := 10000000) (disch := first | assumption | omega) only [dDef, dRet, dRetL, dSeq, dIfS, dTst, dNotB, dAndB, dOrB, dAndV, dOrV, dNotV, dNeg, dIf, dCB, dCBL, dCons, dNil, dStar, dVar, dC, dCall, dOp, dOpL, dTup, dLst, dL, dSet, dAsg, dPar, dOwn, dExpr, dNx, dFor, dItL, dItT, dProp, dMeth, dMk, dMk0, dRaise, dPart, dNoPart, dSlL, dSlT, dRevL, dgName, dgTup, dgSets, dOwnIx, dOwnLen, dOwnTup, dApp, dSetI, dRel, relE, dItZip, dItTab, dItEnK, dItEn, dIsS, dJoinG, dSplit, dFmt, dJs, dIsT2, dIndex, dCallS, dYes, wipeE, dXf, dIsX, List.map_cons, List.map_nil, List.cons_append, List.nil_append, List.append_nil, List.length_cons, List.length_nil, List.replicate_succ, List.replicate_zero, Nat.reduceAdd, Nat.reduceSub, List.getElem?_cons_zero, List.getElem?_cons_succ, List.set_cons_zero, List.set_cons_succ, Nat.zero_add, Nat.add_zero, Nat.sub_self, x_add, x_sub, x_mulL, x_mulR, x_div, x_mod, x_lt, x_le, x_gt, x_ge, x_eq, x_ne, x_fro, x_step, x_first, x_last, x_on, x_l0, x_l1, x_l2, x_l3, x_l4, x_t0, x_t1, x_t2, x_t3, x_t4, x_intB, x_intI, x_max2, x_min2, x_lenL, x_lenT, x_sz, x_rs, x_rw, x_rf, x_ra, x_rl, x_slot, x_slotD, true_and, and_true, eq_self, decide_eq_true_eq, Bool.not_eq_true', decide_eq_false_iff_not, res_ok, res_er, x_rng1, x_rng1D, x_rng2, x_rng2E, x_rng2D, z_s, z_w, z_f, z_a, z_l, Bool.and_eq_true, if_true, if_false, Bool.false_eq_true, reduceCtorEq, decide_true, decide_false, Bool.not_true, Bool.not_false, Bool.true_eq_false, not_true_eq_false, not_false_eq_true, g_own_fails, Gn.dForG]
  refine ⟨_, y_cases (rs := [r]) hf (by simpa using hr) (show 1 ≤ 2 by decide), ?_⟩
  refine for_list prI (casesN [r] l u b) (fun pre e => (∀ c ∈ pre, failB r bound c = false) ∧ ∃ x y, e = [.val (rd K r), .val (fD l u b), .val (.int bound), x, y]) rfl ⟨by simp, _, _, rfl⟩ ?_ ?_
  · rintro pre c post hall e N ⟨hp, x, y, rfl⟩ hN
    obtain ⟨hm, _, _, _, _⟩ := cases_mem hf (show c ∈ casesN [r] l u b by rw [hall]; simp)
    unfold prI
    simp (maxSteps := 10000000) (disch := first | assumption | omega) only [dDef, dRet, dRetL, dSeq, dIfS, dTst, dNotB, dAndB, dOrB, dAndV, dOrV, dNotV, dNeg, dIf, dCB, dCBL, dCons, dNil, dStar, dVar, dC, dCall, dOp, dOpL, dTup, dLst, dL, dSet, dAsg, dPar, dOwn, dExpr, dNx, dFor, dItL, dItT, dProp, dMeth, dMk, dMk0, dRaise, dPart, dNoPart, dSlL, dSlT, dRevL, dgName, dgTup, dgSets, dOwnIx, dOwnLen, dOwnTup, dApp, dSetI, dRel, relE, dItZip, dItTab, dItEnK, dItEn, dIsS, dJoinG, dSplit, dFmt, dJs, dIsT2, dIndex, dCallS, dYes, wipeE, dXf, dIsX, List.map_cons, List.map_nil, List.cons_append, List.nil_append, List.append_nil, List.length_cons, List.length_nil, List.replicate_succ, List.replicate_zero, Nat.reduceAdd, Nat.reduceSub, List.getElem?_cons_zero, List.getElem?_cons_succ, List.set_cons_zero, List.set_cons_succ, Nat.zero_add, Nat.add_zero, Nat.sub_self, x_add, x_sub, x_mulL, x_mulR, x_div, x_mod, x_lt, x_le, x_gt, x_ge, x_eq, x_ne, x_fro, x_step, x_first, x_last, x_on, x_l0, x_l1, x_l2, x_l3, x_l4, x_t0, x_t1, x_t2, x_t3, x_t4, x_intB, x_intI, x_max2, x_min2, x_lenL, x_lenT, x_sz, x_rs, x_rw, x_rf, x_ra, x_rl, x_slot, x_slotD, true_and, and_true, eq_self, decide_eq_true_eq, Bool.not_eq_true', decide_eq_false_iff_not, res_ok, res_er, x_rng1, x_rng1D, x_rng2, x_rng2E, x_rng2D, z_s, z_w, z_f, z_a, z_l, Bool.and_eq_true, if_true, if_false, Bool.false_eq_true, reduceCtorEq, decide_true, decide_false, Bool.not_true, Bool.not_false, Bool.true_eq_false, not_true_eq_false, not_false_eq_true, y_own_spread]
    by_cases hs : spreadOf r c.1 c.2 > bound
    · rw [if_pos hs]
      have := find_at hall hp (by unfold failB; simpa using hs)
      unfold failOf at q
      rw [this] at q
      exact q
    · rw [if_neg hs]
      refine hN _ ⟨fun d hd => ?_, _, _, rfl⟩
      rcases List.mem_append.mp hd with h | h
      · exact hp d h
      · simp only [List.mem_cons, List.not_mem_nil, or_false] at h
        subst h
        unfold failB
        simpa using hs
  · rintro e ⟨hp, x, y, rfl⟩
    simp (maxSteps := 10000000) (disch := first | assumption | omega) only [dDef, dRet, dRetL, dSeq, dIfS, dTst, dNotB, dAndB, dOrB, dAndV, dOrV, dNotV, dNeg, dIf, dCB, dCBL, dCons, dNil, dStar, dVar, dC, dCall, dOp, dOpL, dTup, dLst, dL, dSet, dAsg, dPar, dOwn, dExpr, dNx, dFor, dItL, dItT, dProp, dMeth, dMk, dMk0, dRaise, dPart, dNoPart, dSlL, dSlT, dRevL, dgName, dgTup, dgSets, dOwnIx, dOwnLen, dOwnTup, dApp, dSetI, dRel, relE, dItZip, dItTab, dItEnK, dItEn, dIsS, dJoinG, dSplit, dFmt, dJs, dIsT2, dIndex, dCallS, dYes, wipeE, dXf, dIsX, List.map_cons, List.map_nil, List.cons_append, List.nil_append, List.append_nil, List.length_cons, List.length_nil, List.replicate_succ, List.replicate_zero, Nat.reduceAdd, Nat.reduceSub, List.getElem?_cons_zero, List.getElem?_cons_succ, List.set_cons_zero, List.set_cons_succ, Nat.zero_add, Nat.add_zero, Nat.sub_self, x_add, x_sub, x_mulL, x_mulR, x_div, x_mod, x_lt, x_le, x_gt, x_ge, x_eq, x_ne, x_fro, x_step, x_first, x_last, x_on, x_l0, x_l1, x_l2, x_l3, x_l4, x_t0, x_t1, x_t2, x_t3, x_t4, x_intB, x_intI, x_max2, x_min2, x_lenL, x_lenT, x_sz, x_rs, x_rw, x_rf, x_ra, x_rl, x_slot, x_slotD, true_and, and_true, eq_self, decide_eq_true_eq, Bool.not_eq_true', decide_eq_false_iff_not, res_ok, res_er, x_rng1, x_rng1D, x_rng2, x_rng2E, x_rng2D, z_s, z_w, z_f, z_a, z_l, Bool.and_eq_true, if_true, if_false, Bool.false_eq_true, reduceCtorEq, decide_true, decide_false, Bool.not_true, Bool.not_false, Bool.true_eq_false, not_true_eq_false, not_false_eq_true]
    unfold failOf at q
    rw [List.find?_eq_none.mpr (fun y hy => by rw [hp y hy]; simp)] at q
    exact q
theorem law_fails (K : PySem.W.Frag) (ds : List D) (Q : D → Prop) (R : DX) (h : F_fails K ds Q R) : dDef 3 (g_fails K) ds Q R := by
  rcases h with ⟨r, l, u, b, bound, hr, hf, hb, rfl, q⟩ | ⟨r, d, e, hd, rfl, q⟩ | ⟨r, l, u, b, e, he, hf, rfl, q⟩
  · simp (maxSteps := 10000000) (disch := first | assumption | omega) only [dDef, dRet, dRetL, dSeq, dIfS, dTst, dNotB, dAndB, dOrB, dAndV, dOrV, dNotV, dNeg, dIf, dCB, dCBL, dCons, dNil, dStar, dVar, dC, dCall, dOp, dOpL, dTup, dLst, dL, dSet, dAsg, dPar, dOwn, dExpr, dNx, dFor, dItL, dItT, dProp, dMeth, dMk, dMk0, dRaise, dPart, dNoPart, dSlL, dSlT, dRevL, dgName, dgTup, dgSets, dOwnIx, dOwnLen, dOwnTup, dApp, dSetI, dRel, relE, dItZip, dItTab, dItEnK, dItEn, dIsS, dJoinG, dSplit, dFmt, dJs, dIsT2, dIndex, dCallS, dYes, wipeE, dXf, dIsX, List.map_cons, List.map_nil, List.cons_append, List.nil_append, List.append_nil, List.length_cons, List.length_nil, List.replicate_succ, List.replicate_zero, Nat.reduceAdd, Nat.reduceSub, List.getElem?_cons_zero, List.getElem?_cons_succ, List.set_cons_zero, List.set_cons_succ, Nat.zero_add, Nat.add_zero, Nat.sub_self, x_add, x_sub, x_mulL, x_mulR, x_div, x_mod, x_lt, x_le, x_gt, x_ge, x_eq, x_ne, x_fro, x_step, x_first, x_last, x_on, x_l0, x_l1, x_l2, x_l3, x_l4, x_t0, x_t1, x_t2, x_t3, x_t4, x_intB, x_intI, x_max2, x_min2, x_lenL, x_lenT, x_sz, x_rs, x_rw, x_rf, x_ra, x_rl, x_slot, x_slotD, true_and, and_true, eq_self, decide_eq_true_eq, Bool.not_eq_true', decide_eq_false_iff_not, res_ok, res_er, x_rng1, x_rng1D, x_rng2, x_rng2E, x_rng2D, z_s, z_w, z_f, z_a, z_l, Bool.and_eq_true, if_true, if_false, Bool.false_eq_true, reduceCtorEq, decide_true, decide_false, Bool.not_true, Bool.not_false, Bool.true_eq_false, not_true_eq_false, not_false_eq_true, g_fails]
    refine y_looked hf (.inl ⟨bound, hb, rfl, ?_⟩)
    exact ⟨r, l, u, b, bound, hr, hf, rfl, q⟩
  · simp (maxSteps := 10000000) (disch := first | assumption | omega) only [dDef, dRet, dRetL, dSeq, dIfS, dTst, dNotB, dAndB, dOrB, dAndV, dOrV, dNotV, dNeg, dIf, dCB, dCBL, dCons, dNil, dStar, dVar, dC, dCall, dOp, dOpL, dTup, dLst, dL, dSet, dAsg, dPar, dOwn, dExpr, dNx, dFor, dItL, dItT, dProp, dMeth, dMk, dMk0, dRaise, dPart, dNoPart, dSlL, dSlT, dRevL, dgName, dgTup, dgSets, dOwnIx, dOwnLen, dOwnTup, dApp, dSetI, dRel, relE, dItZip, dItTab, dItEnK, dItEn, dIsS, dJoinG, dSplit, dFmt, dJs, dIsT2, dIndex, dCallS, dYes, wipeE, dXf, dIsX, List.map_cons, List.map_nil, List.cons_append, List.nil_append, List.append_nil, List.length_cons, List.length_nil, List.replicate_succ, List.replicate_zero, Nat.reduceAdd, Nat.reduceSub, List.getElem?_cons_zero, List.getElem?_cons_succ, List.set_cons_zero, List.set_cons_succ, Nat.zero_add, Nat.add_zero, Nat.sub_self, x_add, x_sub, x_mulL, x_mulR, x_div, x_mod, x_lt, x_le, x_gt, x_ge, x_eq, x_ne, x_fro, x_step, x_first, x_last, x_on, x_l0, x_l1, x_l2, x_l3, x_l4, x_t0, x_t1, x_t2, x_t3, x_t4, x_intB, x_intI, x_max2, x_min2, x_lenL, x_lenT, x_sz, x_rs, x_rw, x_rf, x_ra, x_rl, x_slot, x_slotD, true_and, and_true, eq_self, decide_eq_true_eq, Bool.not_eq_true', decide_eq_false_iff_not, res_ok, res_er, x_rng1, x_rng1D, x_rng2, x_rng2E, x_rng2D, z_s, z_w, z_f, z_a, z_l, Bool.and_eq_true, if_true, if_false, Bool.false_eq_true, reduceCtorEq, decide_true, decide_false, Bool.not_true, Bool.not_false, Bool.true_eq_false, not_true_eq_false, not_false_eq_true, g_fails]
    exact y_unlooked hd q
  · simp (maxSteps := 10000000) (disch := first | assumption | omega) only [dDef, dRet, dRetL, dSeq, dIfS, dTst, dNotB, dAndB, dOrB, dAndV, dOrV, dNotV, dNeg, dIf, dCB, dCBL, dCons, dNil, dStar, dVar, dC, dCall, dOp, dOpL, dTup, dLst, dL, dSet, dAsg, dPar, dOwn, dExpr, dNx, dFor, dItL, dItT, dProp, dMeth, dMk, dMk0, dRaise, dPart, dNoPart, dSlL, dSlT, dRevL, dgName, dgTup, dgSets, dOwnIx, dOwnLen, dOwnTup, dApp, dSetI, dRel, relE, dItZip, dItTab, dItEnK, dItEn, dIsS, dJoinG, dSplit, dFmt, dJs, dIsT2, dIndex, dCallS, dYes, wipeE, dXf, dIsX, List.map_cons, List.map_nil, List.cons_append, List.nil_append, List.append_nil, List.length_cons, List.length_nil, List.replicate_succ, List.replicate_zero, Nat.reduceAdd, Nat.reduceSub, List.getElem?_cons_zero, List.getElem?_cons_succ, List.set_cons_zero, List.set_cons_succ, Nat.zero_add, Nat.add_zero, Nat.sub_self, x_add, x_sub, x_mulL, x_mulR, x_div, x_mod, x_lt, x_le, x_gt, x_ge, x_eq, x_ne, x_fro, x_step, x_first, x_last, x_on, x_l0, x_l1, x_l2, x_l3, x_l4, x_t0, x_t1, x_t2, x_t3, x_t4, x_intB, x_intI, x_max2, x_min2, x_lenL, x_lenT, x_sz, x_rs, x_rw, x_rf, x_ra, x_rl, x_slot, x_slotD, true_and, and_true, eq_self, decide_eq_true_eq, Bool.not_eq_true', decide_eq_false_iff_not, res_ok, res_er, x_rng1, x_rng1D, x_rng2, x_rng2E, x_rng2D, z_s, z_w, z_f, z_a, z_l, Bool.and_eq_true, if_true, if_false, Bool.false_eq_true, reduceCtorEq, decide_true, decide_false, Bool.not_true, Bool.not_false, Bool.true_eq_false, not_true_eq_false, not_false_eq_true, g_fails]
    exact y_looked hf (.inr ⟨e, he, rfl, q⟩)
end Pr

set_option maxHeartbeats 4000000
/-! defs that the laws of facts share: drawn facts, cases, spreads. -/
namespace Pr
open PySem PySem.Spec PyProof.Rows L2 Dl Dv Dk Gx Ma
def F_l_facts (K : PySem.W.Frag) : DF := fun ds Q R => ∃ most : Int, 3 ≤ most ∧ most ≤ 12 ∧ ds = [.vol, .int most] ∧ ∀ l u b, Fk l u → u ≤ most → Q (fD l u b)
/-- the law's own cases -/
def casesL (l u : Int) (b : Bool) (W : Int) : List Case := (rangeL l (u + 1)).flatMap fun m => (rangeL (begF b m) (begF b m + W)).map fun n => (m, n)
def F_l_cases (K : PySem.W.Frag) : DF := fun ds Q R => ∃ l u b W, Fk l u ∧ 0 ≤ W ∧ W ≤ 2000 ∧ ds = [fD l u b, .int W] ∧ Q (.lst ((casesL l u b W).map prI))
def F_l_spread (K : PySem.W.Frag) : DF := fun ds Q R => ∃ ns, ns ≠ [] ∧ ds = [il ns] ∧ Q (.int (maxL ns - minL ns))
def F_l_whole (K : PySem.W.Frag) : DF := fun ds Q R => ∃ r m, r.Ok ∧ Mo m ∧ ds = [rl r, .int m] ∧ Q (.int (whole r m))
def g_l_facts (K : PySem.W.Frag) : DG :=
  (dSeq (dPar 2 3 (dCons (dOp gAddU (dC (.int 2)) (dCall 2 Fnext (dCons (dVar 0) (dCons (dOp gSub (dVar 1) (dC (.int 1))) dNil)))) (dCons (dOp gAddU (dC (.int 2)) (dCall 2 Fnext (dCons (dVar 0) (dCons (dOp gSub (dVar 1) (dC (.int 1))) dNil)))) dNil)))
  (dRet (dTup (dCons (dCB gMin2 (dCons (dVar 2) (dCons (dVar 3) dNil))) (dCons (dCB gMax2 (dCons (dVar 2) (dCons (dVar 3) dNil))) (dCons (dOp gEq (dCall 2 Fnext (dCons (dVar 0) (dCons (dC (.int 2)) dNil))) (dC (.int 0))) dNil))))))
def g_l_cases (K : PySem.W.Frag) : DG :=
  (dSeq (dSet 2 (dL (dLst dNil)))
  (dSeq (dFor (dRng2 (dCons (dOp gIx (dVar 0) (dC (.int 0))) (dCons (dOp gAddU (dOp gIx (dVar 0) (dC (.int 1))) (dC (.int 1))) dNil))) (dgName 3) (dSeq (dSet 4 (dIf (dTst (dOp gIx (dVar 0) (dC (.int 2)))) (dOp gAddU (dVar 3) (dC (.int 1))) (dC (.int 0))))
  (dSet 2 (dOp gAddU (dVar 2) (dL (dLc (dRng2 (dCons (dVar 4) (dCons (dOp gAddU (dVar 4) (dVar 1)) dNil))) [5] (dgName 5) dYes (dTup (dCons (dVar 3) (dCons (dVar 5) dNil)))))))))
  (dRet (dVar 2))))
def g_l_spread (K : PySem.W.Frag) : DG :=
  (dRet (dOp gSub (dCB gMaxL (dCons (dVar 0) dNil)) (dCB gMinL (dCons (dVar 0) dNil))))
def g_l_whole (K : PySem.W.Frag) : DG :=
  (dSeq (dSet 2 (dDict3 "round" "fro" "step" (dC (.int 1)) (dC (.int 2)) (dVar 1) (dOp gIx (dVar 0) (dC (.int 1)))))
  (dRet (dOp gMul (dOp gMul (dOp gMul (dVar 1) (dVar 2)) (dOp gIx (dVar 0) (dC (.int 0)))) (dCB gMax2 (dCons (dOp gIx (dVar 0) (dC (.int 3))) (dCons (dC (.int 1)) dNil))))))
theorem law_l_facts (K : PySem.W.Frag) (ds : List D) (Q : D → Prop) (R : DX) (h : F_l_facts K ds Q R) : dDef 4 (g_l_facts K) ds Q R := by
  obtain ⟨most, h1, h2, rfl, q⟩ := h
  simp (maxSteps := 10000000) (disch := first | assumption | omega) only [dDef, dRet, dRetL, dSeq, dIfS, dTst, dNotB, dAndB, dOrB, dAndV, dOrV, dNotV, dNeg, dIf, dCB, dCBL, dCons, dNil, dStar, dVar, dC, dCall, dOp, dOpL, dTup, dLst, dL, dSet, dAsg, dPar, dOwn, dExpr, dNx, dFor, dItL, dItT, dProp, dMeth, dMk, dMk0, dRaise, dPart, dNoPart, dSlL, dSlT, dRevL, dgName, dgTup, dgSets, dOwnIx, dOwnLen, dOwnTup, dApp, dSetI, dRel, relE, dItZip, dItTab, dItEnK, dItEn, dIsS, dJoinG, dSplit, dFmt, dJs, dIsT2, dIndex, dCallS, dYes, wipeE, dXf, dIsX, List.map_cons, List.map_nil, List.cons_append, List.nil_append, List.append_nil, List.length_cons, List.length_nil, List.replicate_succ, List.replicate_zero, Nat.reduceAdd, Nat.reduceSub, List.getElem?_cons_zero, List.getElem?_cons_succ, List.set_cons_zero, List.set_cons_succ, Nat.zero_add, Nat.add_zero, Nat.sub_self, x_add, x_sub, x_mulL, x_mulR, x_div, x_mod, x_lt, x_le, x_gt, x_ge, x_eq, x_ne, x_fro, x_step, x_first, x_last, x_on, x_l0, x_l1, x_l2, x_l3, x_l4, x_t0, x_t1, x_t2, x_t3, x_t4, x_intB, x_intI, x_max2, x_min2, x_lenL, x_lenT, x_sz, x_rs, x_rw, x_rf, x_ra, x_rl, x_slot, x_slotD, true_and, and_true, eq_self, decide_eq_true_eq, Bool.not_eq_true', decide_eq_false_iff_not, res_ok, res_er, x_rng1, x_rng1D, x_rng2, x_rng2E, x_rng2D, z_s, z_w, z_f, z_a, z_l, Bool.and_eq_true, if_true, if_false, Bool.false_eq_true, reduceCtorEq, decide_true, decide_false, Bool.not_true, Bool.not_false, Bool.true_eq_false, not_true_eq_false, not_false_eq_true, g_l_facts, dPar]
  refine next_ok (by omega) (by omega) fun i i0 i1 => ?_
  simp (maxSteps := 10000000) (disch := first | assumption | omega) only [dDef, dRet, dRetL, dSeq, dIfS, dTst, dNotB, dAndB, dOrB, dAndV, dOrV, dNotV, dNeg, dIf, dCB, dCBL, dCons, dNil, dStar, dVar, dC, dCall, dOp, dOpL, dTup, dLst, dL, dSet, dAsg, dPar, dOwn, dExpr, dNx, dFor, dItL, dItT, dProp, dMeth, dMk, dMk0, dRaise, dPart, dNoPart, dSlL, dSlT, dRevL, dgName, dgTup, dgSets, dOwnIx, dOwnLen, dOwnTup, dApp, dSetI, dRel, relE, dItZip, dItTab, dItEnK, dItEn, dIsS, dJoinG, dSplit, dFmt, dJs, dIsT2, dIndex, dCallS, dYes, wipeE, dXf, dIsX, List.map_cons, List.map_nil, List.cons_append, List.nil_append, List.append_nil, List.length_cons, List.length_nil, List.replicate_succ, List.replicate_zero, Nat.reduceAdd, Nat.reduceSub, List.getElem?_cons_zero, List.getElem?_cons_succ, List.set_cons_zero, List.set_cons_succ, Nat.zero_add, Nat.add_zero, Nat.sub_self, x_add, x_sub, x_mulL, x_mulR, x_div, x_mod, x_lt, x_le, x_gt, x_ge, x_eq, x_ne, x_fro, x_step, x_first, x_last, x_on, x_l0, x_l1, x_l2, x_l3, x_l4, x_t0, x_t1, x_t2, x_t3, x_t4, x_intB, x_intI, x_max2, x_min2, x_lenL, x_lenT, x_sz, x_rs, x_rw, x_rf, x_ra, x_rl, x_slot, x_slotD, true_and, and_true, eq_self, decide_eq_true_eq, Bool.not_eq_true', decide_eq_false_iff_not, res_ok, res_er, x_rng1, x_rng1D, x_rng2, x_rng2E, x_rng2D, z_s, z_w, z_f, z_a, z_l, Bool.and_eq_true, if_true, if_false, Bool.false_eq_true, reduceCtorEq, decide_true, decide_false, Bool.not_true, Bool.not_false, Bool.true_eq_false, not_true_eq_false, not_false_eq_true]
  refine next_ok (by omega) (by omega) fun j j0 j1 => ?_
  simp (maxSteps := 10000000) (disch := first | assumption | omega) only [dDef, dRet, dRetL, dSeq, dIfS, dTst, dNotB, dAndB, dOrB, dAndV, dOrV, dNotV, dNeg, dIf, dCB, dCBL, dCons, dNil, dStar, dVar, dC, dCall, dOp, dOpL, dTup, dLst, dL, dSet, dAsg, dPar, dOwn, dExpr, dNx, dFor, dItL, dItT, dProp, dMeth, dMk, dMk0, dRaise, dPart, dNoPart, dSlL, dSlT, dRevL, dgName, dgTup, dgSets, dOwnIx, dOwnLen, dOwnTup, dApp, dSetI, dRel, relE, dItZip, dItTab, dItEnK, dItEn, dIsS, dJoinG, dSplit, dFmt, dJs, dIsT2, dIndex, dCallS, dYes, wipeE, dXf, dIsX, List.map_cons, List.map_nil, List.cons_append, List.nil_append, List.append_nil, List.length_cons, List.length_nil, List.replicate_succ, List.replicate_zero, Nat.reduceAdd, Nat.reduceSub, List.getElem?_cons_zero, List.getElem?_cons_succ, List.set_cons_zero, List.set_cons_succ, Nat.zero_add, Nat.add_zero, Nat.sub_self, x_add, x_sub, x_mulL, x_mulR, x_div, x_mod, x_lt, x_le, x_gt, x_ge, x_eq, x_ne, x_fro, x_step, x_first, x_last, x_on, x_l0, x_l1, x_l2, x_l3, x_l4, x_t0, x_t1, x_t2, x_t3, x_t4, x_intB, x_intI, x_max2, x_min2, x_lenL, x_lenT, x_sz, x_rs, x_rw, x_rf, x_ra, x_rl, x_slot, x_slotD, true_and, and_true, eq_self, decide_eq_true_eq, Bool.not_eq_true', decide_eq_false_iff_not, res_ok, res_er, x_rng1, x_rng1D, x_rng2, x_rng2E, x_rng2D, z_s, z_w, z_f, z_a, z_l, Bool.and_eq_true, if_true, if_false, Bool.false_eq_true, reduceCtorEq, decide_true, decide_false, Bool.not_true, Bool.not_false, Bool.true_eq_false, not_true_eq_false, not_false_eq_true]
  refine next_ok (by omega) (by omega) fun k k0 k1 => ?_
  simp (maxSteps := 10000000) (disch := first | assumption | omega) only [dDef, dRet, dRetL, dSeq, dIfS, dTst, dNotB, dAndB, dOrB, dAndV, dOrV, dNotV, dNeg, dIf, dCB, dCBL, dCons, dNil, dStar, dVar, dC, dCall, dOp, dOpL, dTup, dLst, dL, dSet, dAsg, dPar, dOwn, dExpr, dNx, dFor, dItL, dItT, dProp, dMeth, dMk, dMk0, dRaise, dPart, dNoPart, dSlL, dSlT, dRevL, dgName, dgTup, dgSets, dOwnIx, dOwnLen, dOwnTup, dApp, dSetI, dRel, relE, dItZip, dItTab, dItEnK, dItEn, dIsS, dJoinG, dSplit, dFmt, dJs, dIsT2, dIndex, dCallS, dYes, wipeE, dXf, dIsX, List.map_cons, List.map_nil, List.cons_append, List.nil_append, List.append_nil, List.length_cons, List.length_nil, List.replicate_succ, List.replicate_zero, Nat.reduceAdd, Nat.reduceSub, List.getElem?_cons_zero, List.getElem?_cons_succ, List.set_cons_zero, List.set_cons_succ, Nat.zero_add, Nat.add_zero, Nat.sub_self, x_add, x_sub, x_mulL, x_mulR, x_div, x_mod, x_lt, x_le, x_gt, x_ge, x_eq, x_ne, x_fro, x_step, x_first, x_last, x_on, x_l0, x_l1, x_l2, x_l3, x_l4, x_t0, x_t1, x_t2, x_t3, x_t4, x_intB, x_intI, x_max2, x_min2, x_lenL, x_lenT, x_sz, x_rs, x_rw, x_rf, x_ra, x_rl, x_slot, x_slotD, true_and, and_true, eq_self, decide_eq_true_eq, Bool.not_eq_true', decide_eq_false_iff_not, res_ok, res_er, x_rng1, x_rng1D, x_rng2, x_rng2E, x_rng2D, z_s, z_w, z_f, z_a, z_l, Bool.and_eq_true, if_true, if_false, Bool.false_eq_true, reduceCtorEq, decide_true, decide_false, Bool.not_true, Bool.not_false, Bool.true_eq_false, not_true_eq_false, not_false_eq_true]
  have := q (if 2 + j < 2 + i then 2 + j else 2 + i) (if 2 + j > 2 + i then 2 + j else 2 + i) (decide (k = 0)) ⟨by split <;> omega, by split <;> split <;> omega, by split <;> omega⟩ (by split <;> omega)
  exact this
theorem law_l_spread (K : PySem.W.Frag) (ds : List D) (Q : D → Prop) (R : DX) (h : F_l_spread K ds Q R) : dDef 1 (g_l_spread K) ds Q R := by
  obtain ⟨ns, hn, rfl, q⟩ := h
  simp (maxSteps := 10000000) (disch := first | assumption | omega) only [dDef, dRet, dRetL, dSeq, dIfS, dTst, dNotB, dAndB, dOrB, dAndV, dOrV, dNotV, dNeg, dIf, dCB, dCBL, dCons, dNil, dStar, dVar, dC, dCall, dOp, dOpL, dTup, dLst, dL, dSet, dAsg, dPar, dOwn, dExpr, dNx, dFor, dItL, dItT, dProp, dMeth, dMk, dMk0, dRaise, dPart, dNoPart, dSlL, dSlT, dRevL, dgName, dgTup, dgSets, dOwnIx, dOwnLen, dOwnTup, dApp, dSetI, dRel, relE, dItZip, dItTab, dItEnK, dItEn, dIsS, dJoinG, dSplit, dFmt, dJs, dIsT2, dIndex, dCallS, dYes, wipeE, dXf, dIsX, List.map_cons, List.map_nil, List.cons_append, List.nil_append, List.append_nil, List.length_cons, List.length_nil, List.replicate_succ, List.replicate_zero, Nat.reduceAdd, Nat.reduceSub, List.getElem?_cons_zero, List.getElem?_cons_succ, List.set_cons_zero, List.set_cons_succ, Nat.zero_add, Nat.add_zero, Nat.sub_self, x_add, x_sub, x_mulL, x_mulR, x_div, x_mod, x_lt, x_le, x_gt, x_ge, x_eq, x_ne, x_fro, x_step, x_first, x_last, x_on, x_l0, x_l1, x_l2, x_l3, x_l4, x_t0, x_t1, x_t2, x_t3, x_t4, x_intB, x_intI, x_max2, x_min2, x_lenL, x_lenT, x_sz, x_rs, x_rw, x_rf, x_ra, x_rl, x_slot, x_slotD, true_and, and_true, eq_self, decide_eq_true_eq, Bool.not_eq_true', decide_eq_false_iff_not, res_ok, res_er, x_rng1, x_rng1D, x_rng2, x_rng2E, x_rng2D, z_s, z_w, z_f, z_a, z_l, Bool.and_eq_true, if_true, if_false, Bool.false_eq_true, reduceCtorEq, decide_true, decide_false, Bool.not_true, Bool.not_false, Bool.true_eq_false, not_true_eq_false, not_false_eq_true, g_l_spread, x_maxL hn, x_minL hn]
  exact q
theorem law_l_whole (K : PySem.W.Frag) (ds : List D) (Q : D → Prop) (R : DX) (h : F_l_whole K ds Q R) : dDef 3 (g_l_whole K) ds Q R := by
  obtain ⟨r, m, hr, hm, rfl, q⟩ := h
  have h1 := hm.lo; have h2 := hm.hi; have h3 := hr.pos; have h4 := Ru.s3 hr; have h5 := mx_range hr
  unfold dDef g_l_whole
  refine seqE [.val (rl r), .val (.int m), .val (.int (rnd r m))] (fun N hN => ?_) ?_
  · simp (maxSteps := 10000000) (disch := first | assumption | omega) only [dDef, dRet, dRetL, dSeq, dIfS, dTst, dNotB, dAndB, dOrB, dAndV, dOrV, dNotV, dNeg, dIf, dCB, dCBL, dCons, dNil, dStar, dVar, dC, dCall, dOp, dOpL, dTup, dLst, dL, dSet, dAsg, dPar, dOwn, dExpr, dNx, dFor, dItL, dItT, dProp, dMeth, dMk, dMk0, dRaise, dPart, dNoPart, dSlL, dSlT, dRevL, dgName, dgTup, dgSets, dOwnIx, dOwnLen, dOwnTup, dApp, dSetI, dRel, relE, dItZip, dItTab, dItEnK, dItEn, dIsS, dJoinG, dSplit, dFmt, dJs, dIsT2, dIndex, dCallS, dYes, wipeE, dXf, dIsX, List.map_cons, List.map_nil, List.cons_append, List.nil_append, List.append_nil, List.length_cons, List.length_nil, List.replicate_succ, List.replicate_zero, Nat.reduceAdd, Nat.reduceSub, List.getElem?_cons_zero, List.getElem?_cons_succ, List.set_cons_zero, List.set_cons_succ, Nat.zero_add, Nat.add_zero, Nat.sub_self, x_add, x_sub, x_mulL, x_mulR, x_div, x_mod, x_lt, x_le, x_gt, x_ge, x_eq, x_ne, x_fro, x_step, x_first, x_last, x_on, x_l0, x_l1, x_l2, x_l3, x_l4, x_t0, x_t1, x_t2, x_t3, x_t4, x_intB, x_intI, x_max2, x_min2, x_lenL, x_lenT, x_sz, x_rs, x_rw, x_rf, x_ra, x_rl, x_slot, x_slotD, true_and, and_true, eq_self, decide_eq_true_eq, Bool.not_eq_true', decide_eq_false_iff_not, res_ok, res_er, x_rng1, x_rng1D, x_rng2, x_rng2E, x_rng2D, z_s, z_w, z_f, z_a, z_l, Bool.and_eq_true, if_true, if_false, Bool.false_eq_true, reduceCtorEq, decide_true, decide_false, Bool.not_true, Bool.not_false, Bool.true_eq_false, not_true_eq_false, not_false_eq_true, dDict3]
    exact rounds_ok (r := r) (m := m) (Q := fun d => N [.val (rl r), .val (.int m), .val d]) hN
  · simp (maxSteps := 10000000) (disch := first | assumption | omega) only [dDef, dRet, dRetL, dSeq, dIfS, dTst, dNotB, dAndB, dOrB, dAndV, dOrV, dNotV, dNeg, dIf, dCB, dCBL, dCons, dNil, dStar, dVar, dC, dCall, dOp, dOpL, dTup, dLst, dL, dSet, dAsg, dPar, dOwn, dExpr, dNx, dFor, dItL, dItT, dProp, dMeth, dMk, dMk0, dRaise, dPart, dNoPart, dSlL, dSlT, dRevL, dgName, dgTup, dgSets, dOwnIx, dOwnLen, dOwnTup, dApp, dSetI, dRel, relE, dItZip, dItTab, dItEnK, dItEn, dIsS, dJoinG, dSplit, dFmt, dJs, dIsT2, dIndex, dCallS, dYes, wipeE, dXf, dIsX, List.map_cons, List.map_nil, List.cons_append, List.nil_append, List.append_nil, List.length_cons, List.length_nil, List.replicate_succ, List.replicate_zero, Nat.reduceAdd, Nat.reduceSub, List.getElem?_cons_zero, List.getElem?_cons_succ, List.set_cons_zero, List.set_cons_succ, Nat.zero_add, Nat.add_zero, Nat.sub_self, x_add, x_sub, x_mulL, x_mulR, x_div, x_mod, x_lt, x_le, x_gt, x_ge, x_eq, x_ne, x_fro, x_step, x_first, x_last, x_on, x_l0, x_l1, x_l2, x_l3, x_l4, x_t0, x_t1, x_t2, x_t3, x_t4, x_intB, x_intI, x_max2, x_min2, x_lenL, x_lenT, x_sz, x_rs, x_rw, x_rf, x_ra, x_rl, x_slot, x_slotD, true_and, and_true, eq_self, decide_eq_true_eq, Bool.not_eq_true', decide_eq_false_iff_not, res_ok, res_er, x_rng1, x_rng1D, x_rng2, x_rng2E, x_rng2D, z_s, z_w, z_f, z_a, z_l, Bool.and_eq_true, if_true, if_false, Bool.false_eq_true, reduceCtorEq, decide_true, decide_false, Bool.not_true, Bool.not_false, Bool.true_eq_false, not_true_eq_false, not_false_eq_true, max_mx hr]
    exact q
theorem law_l_cases (K : PySem.W.Frag) (ds : List D) (Q : D → Prop) (R : DX) (h : F_l_cases K ds Q R) : dDef 6 (g_l_cases K) ds Q R := by
  obtain ⟨l, u, b, W, hf, w0, w1, rfl, q⟩ := h
  have h1 := hf.lo; have h2 := hf.le; have h3 := hf.hi
  simp (maxSteps := 10000000) (disch := first | assumption | omega) only [dDef, dRet, dRetL, dSeq, dIfS, dTst, dNotB, dAndB, dOrB, dAndV, dOrV, dNotV, dNeg, dIf, dCB, dCBL, dCons, dNil, dStar, dVar, dC, dCall, dOp, dOpL, dTup, dLst, dL, dSet, dAsg, dPar, dOwn, dExpr, dNx, dFor, dItL, dItT, dProp, dMeth, dMk, dMk0, dRaise, dPart, dNoPart, dSlL, dSlT, dRevL, dgName, dgTup, dgSets, dOwnIx, dOwnLen, dOwnTup, dApp, dSetI, dRel, relE, dItZip, dItTab, dItEnK, dItEn, dIsS, dJoinG, dSplit, dFmt, dJs, dIsT2, dIndex, dCallS, dYes, wipeE, dXf, dIsX, List.map_cons, List.map_nil, List.cons_append, List.nil_append, List.append_nil, List.length_cons, List.length_nil, List.replicate_succ, List.replicate_zero, Nat.reduceAdd, Nat.reduceSub, List.getElem?_cons_zero, List.getElem?_cons_succ, List.set_cons_zero, List.set_cons_succ, Nat.zero_add, Nat.add_zero, Nat.sub_self, x_add, x_sub, x_mulL, x_mulR, x_div, x_mod, x_lt, x_le, x_gt, x_ge, x_eq, x_ne, x_fro, x_step, x_first, x_last, x_on, x_l0, x_l1, x_l2, x_l3, x_l4, x_t0, x_t1, x_t2, x_t3, x_t4, x_intB, x_intI, x_max2, x_min2, x_lenL, x_lenT, x_sz, x_rs, x_rw, x_rf, x_ra, x_rl, x_slot, x_slotD, true_and, and_true, eq_self, decide_eq_true_eq, Bool.not_eq_true', decide_eq_false_iff_not, res_ok, res_er, x_rng1, x_rng1D, x_rng2, x_rng2E, x_rng2D, z_s, z_w, z_f, z_a, z_l, Bool.and_eq_true, if_true, if_false, Bool.false_eq_true, reduceCtorEq, decide_true, decide_false, Bool.not_true, Bool.not_false, Bool.true_eq_false, not_true_eq_false, not_false_eq_true, g_l_cases, fD]
  have big : ∀ pre : List Int, pre.length ≤ 11 → ((pre.flatMap fun m => (rangeL (begF b m) (begF b m + W)).map fun n => ((m, n) : Case)).map prI).length ≤ 11 * 2000 := fun pre hp => by
    have : ∀ (pre : List Int), ((pre.flatMap fun m => (rangeL (begF b m) (begF b m + W)).map fun n => ((m, n) : Case)).map prI).length = pre.length * W.toNat := by
      intro pre
      rw [List.length_map]
      induction pre with
      | nil => simp
      | cons x xs ih =>
        rw [List.flatMap_cons, List.length_append, ih, List.length_map, List.length_cons, Nat.succ_mul]
        unfold rangeL
        rw [List.length_map, upto_length]
        omega
    rw [this]
    exact Nat.mul_le_mul hp (by omega)
  refine for_list D.int (rangeL l (u + 1)) (fun pre e => ∃ x y, e = [.val (.tup [.int l, .int u, .bl b]), .val (.int W), .val (.lst ((pre.flatMap fun m => (rangeL (begF b m) (begF b m + W)).map fun n => ((m, n) : Case)).map prI)), x, y, .un]) rfl ⟨_, _, rfl⟩ ?_ ?_
  · rintro pre m post hall e N ⟨x, y, rfl⟩ hN
    have hm := rangeL_mem.mp (show m ∈ rangeL l (u + 1) by rw [hall]; simp)
    have hlen : pre.length ≤ 11 := by
      have := congrArg List.length hall
      unfold rangeL at this
      rw [List.length_map, upto_length, List.length_append] at this
      omega
    have hbig := big pre hlen
    have hN : ∀ x y, N [.val (.tup [.int l, .int u, .bl b]), .val (.int W), .val (.lst ((pre.flatMap fun m => (rangeL (begF b m) (begF b m + W)).map fun n => ((m, n) : Case)).map prI ++ (rangeL (begF b m) (begF b m + W)).map fun n => prI (m, n))), x, y, .un] := fun x y => hN _ ⟨x, y, by
      rw [List.flatMap_append, List.map_append, List.flatMap_cons, List.flatMap_nil, List.append_nil, List.map_map]; rfl⟩
    generalize (pre.flatMap fun m => (rangeL (begF b m) (begF b m + W)).map fun n => ((m, n) : Case)).map prI = zs at hbig hN ⊢
    have bg : ∀ {k : Kn}, k.nx [.val (.tup [.int l, .int u, .bl b]), .val (.int W), .val (.lst zs), .val (.int m), .val (.int (begF b m)), .un] → dSet 4 (dIf (dTst (dOp gIx (dVar 0) (dC (.int 2)))) (dOp gAddU (dVar 3) (dC (.int 1))) (dC (.int 0))) [.val (.tup [.int l, .int u, .bl b]), .val (.int W), .val (.lst zs), .val (.int m), y, .un] k := by
      intro k h
      unfold begF at h
      cases b <;> (simp (maxSteps := 10000000) (disch := first | assumption | omega) only [dDef, dRet, dRetL, dSeq, dIfS, dTst, dNotB, dAndB, dOrB, dAndV, dOrV, dNotV, dNeg, dIf, dCB, dCBL, dCons, dNil, dStar, dVar, dC, dCall, dOp, dOpL, dTup, dLst, dL, dSet, dAsg, dPar, dOwn, dExpr, dNx, dFor, dItL, dItT, dProp, dMeth, dMk, dMk0, dRaise, dPart, dNoPart, dSlL, dSlT, dRevL, dgName, dgTup, dgSets, dOwnIx, dOwnLen, dOwnTup, dApp, dSetI, dRel, relE, dItZip, dItTab, dItEnK, dItEn, dIsS, dJoinG, dSplit, dFmt, dJs, dIsT2, dIndex, dCallS, dYes, wipeE, dXf, dIsX, List.map_cons, List.map_nil, List.cons_append, List.nil_append, List.append_nil, List.length_cons, List.length_nil, List.replicate_succ, List.replicate_zero, Nat.reduceAdd, Nat.reduceSub, List.getElem?_cons_zero, List.getElem?_cons_succ, List.set_cons_zero, List.set_cons_succ, Nat.zero_add, Nat.add_zero, Nat.sub_self, x_add, x_sub, x_mulL, x_mulR, x_div, x_mod, x_lt, x_le, x_gt, x_ge, x_eq, x_ne, x_fro, x_step, x_first, x_last, x_on, x_l0, x_l1, x_l2, x_l3, x_l4, x_t0, x_t1, x_t2, x_t3, x_t4, x_intB, x_intI, x_max2, x_min2, x_lenL, x_lenT, x_sz, x_rs, x_rw, x_rf, x_ra, x_rl, x_slot, x_slotD, true_and, and_true, eq_self, decide_eq_true_eq, Bool.not_eq_true', decide_eq_false_iff_not, res_ok, res_er, x_rng1, x_rng1D, x_rng2, x_rng2E, x_rng2D, z_s, z_w, z_f, z_a, z_l, Bool.and_eq_true, if_true, if_false, Bool.false_eq_true, reduceCtorEq, decide_true, decide_false, Bool.not_true, Bool.not_false, Bool.true_eq_false, not_true_eq_false, not_false_eq_true]; exact h)
    show dSeq (dSet 4 (dIf (dTst (dOp gIx (dVar 0) (dC (.int 2)))) (dOp gAddU (dVar 3) (dC (.int 1))) (dC (.int 0)))) _ [.val (.tup [.int l, .int u, .bl b]), .val (.int W), .val (.lst zs), .val (.int m), y, .un] _
    refine seq' (bg ?_)
    have b0 : 0 ≤ begF b m ∧ begF b m ≤ 100 := by unfold begF; split <;> omega
    generalize begF b m = bv at b0 hN ⊢
    simp (maxSteps := 10000000) (disch := first | assumption | omega) only [dDef, dRet, dRetL, dSeq, dIfS, dTst, dNotB, dAndB, dOrB, dAndV, dOrV, dNotV, dNeg, dIf, dCB, dCBL, dCons, dNil, dStar, dVar, dC, dCall, dOp, dOpL, dTup, dLst, dL, dSet, dAsg, dPar, dOwn, dExpr, dNx, dFor, dItL, dItT, dProp, dMeth, dMk, dMk0, dRaise, dPart, dNoPart, dSlL, dSlT, dRevL, dgName, dgTup, dgSets, dOwnIx, dOwnLen, dOwnTup, dApp, dSetI, dRel, relE, dItZip, dItTab, dItEnK, dItEn, dIsS, dJoinG, dSplit, dFmt, dJs, dIsT2, dIndex, dCallS, dYes, wipeE, dXf, dIsX, List.map_cons, List.map_nil, List.cons_append, List.nil_append, List.append_nil, List.length_cons, List.length_nil, List.replicate_succ, List.replicate_zero, Nat.reduceAdd, Nat.reduceSub, List.getElem?_cons_zero, List.getElem?_cons_succ, List.set_cons_zero, List.set_cons_succ, Nat.zero_add, Nat.add_zero, Nat.sub_self, x_add, x_sub, x_mulL, x_mulR, x_div, x_mod, x_lt, x_le, x_gt, x_ge, x_eq, x_ne, x_fro, x_step, x_first, x_last, x_on, x_l0, x_l1, x_l2, x_l3, x_l4, x_t0, x_t1, x_t2, x_t3, x_t4, x_intB, x_intI, x_max2, x_min2, x_lenL, x_lenT, x_sz, x_rs, x_rw, x_rf, x_ra, x_rl, x_slot, x_slotD, true_and, and_true, eq_self, decide_eq_true_eq, Bool.not_eq_true', decide_eq_false_iff_not, res_ok, res_er, x_rng1, x_rng1D, x_rng2, x_rng2E, x_rng2D, z_s, z_w, z_f, z_a, z_l, Bool.and_eq_true, if_true, if_false, Bool.false_eq_true, reduceCtorEq, decide_true, decide_false, Bool.not_true, Bool.not_false, Bool.true_eq_false, not_true_eq_false, not_false_eq_true, dLc]
    refine lc_map (xs := rangeL bv (bv + W)) D.int (fun n => prI (m, n)) rfl (Nat.le_trans (m := 2000) (by unfold rangeL; rw [List.length_map, upto_length]; omega) (by decide)) (fun n hn Q1 hh => ?_) ?_
    · simp (maxSteps := 10000000) (disch := first | assumption | omega) only [dDef, dRet, dRetL, dSeq, dIfS, dTst, dNotB, dAndB, dOrB, dAndV, dOrV, dNotV, dNeg, dIf, dCB, dCBL, dCons, dNil, dStar, dVar, dC, dCall, dOp, dOpL, dTup, dLst, dL, dSet, dAsg, dPar, dOwn, dExpr, dNx, dFor, dItL, dItT, dProp, dMeth, dMk, dMk0, dRaise, dPart, dNoPart, dSlL, dSlT, dRevL, dgName, dgTup, dgSets, dOwnIx, dOwnLen, dOwnTup, dApp, dSetI, dRel, relE, dItZip, dItTab, dItEnK, dItEn, dIsS, dJoinG, dSplit, dFmt, dJs, dIsT2, dIndex, dCallS, dYes, wipeE, dXf, dIsX, List.map_cons, List.map_nil, List.cons_append, List.nil_append, List.append_nil, List.length_cons, List.length_nil, List.replicate_succ, List.replicate_zero, Nat.reduceAdd, Nat.reduceSub, List.getElem?_cons_zero, List.getElem?_cons_succ, List.set_cons_zero, List.set_cons_succ, Nat.zero_add, Nat.add_zero, Nat.sub_self, x_add, x_sub, x_mulL, x_mulR, x_div, x_mod, x_lt, x_le, x_gt, x_ge, x_eq, x_ne, x_fro, x_step, x_first, x_last, x_on, x_l0, x_l1, x_l2, x_l3, x_l4, x_t0, x_t1, x_t2, x_t3, x_t4, x_intB, x_intI, x_max2, x_min2, x_lenL, x_lenT, x_sz, x_rs, x_rw, x_rf, x_ra, x_rl, x_slot, x_slotD, true_and, and_true, eq_self, decide_eq_true_eq, Bool.not_eq_true', decide_eq_false_iff_not, res_ok, res_er, x_rng1, x_rng1D, x_rng2, x_rng2E, x_rng2D, z_s, z_w, z_f, z_a, z_l, Bool.and_eq_true, if_true, if_false, Bool.false_eq_true, reduceCtorEq, decide_true, decide_false, Bool.not_true, Bool.not_false, Bool.true_eq_false, not_true_eq_false, not_false_eq_true]
      exact hh
    · rw [x_addL (Nat.le_trans (m := 24000) (by rw [List.length_map]; unfold rangeL; rw [List.length_map, upto_length]; omega) (by decide))]
      exact hN _ _
  · rintro e ⟨x, y, rfl⟩
    simp (maxSteps := 10000000) (disch := first | assumption | omega) only [dDef, dRet, dRetL, dSeq, dIfS, dTst, dNotB, dAndB, dOrB, dAndV, dOrV, dNotV, dNeg, dIf, dCB, dCBL, dCons, dNil, dStar, dVar, dC, dCall, dOp, dOpL, dTup, dLst, dL, dSet, dAsg, dPar, dOwn, dExpr, dNx, dFor, dItL, dItT, dProp, dMeth, dMk, dMk0, dRaise, dPart, dNoPart, dSlL, dSlT, dRevL, dgName, dgTup, dgSets, dOwnIx, dOwnLen, dOwnTup, dApp, dSetI, dRel, relE, dItZip, dItTab, dItEnK, dItEn, dIsS, dJoinG, dSplit, dFmt, dJs, dIsT2, dIndex, dCallS, dYes, wipeE, dXf, dIsX, List.map_cons, List.map_nil, List.cons_append, List.nil_append, List.append_nil, List.length_cons, List.length_nil, List.replicate_succ, List.replicate_zero, Nat.reduceAdd, Nat.reduceSub, List.getElem?_cons_zero, List.getElem?_cons_succ, List.set_cons_zero, List.set_cons_succ, Nat.zero_add, Nat.add_zero, Nat.sub_self, x_add, x_sub, x_mulL, x_mulR, x_div, x_mod, x_lt, x_le, x_gt, x_ge, x_eq, x_ne, x_fro, x_step, x_first, x_last, x_on, x_l0, x_l1, x_l2, x_l3, x_l4, x_t0, x_t1, x_t2, x_t3, x_t4, x_intB, x_intI, x_max2, x_min2, x_lenL, x_lenT, x_sz, x_rs, x_rw, x_rf, x_ra, x_rl, x_slot, x_slotD, true_and, and_true, eq_self, decide_eq_true_eq, Bool.not_eq_true', decide_eq_false_iff_not, res_ok, res_er, x_rng1, x_rng1D, x_rng2, x_rng2E, x_rng2D, z_s, z_w, z_f, z_a, z_l, Bool.and_eq_true, if_true, if_false, Bool.false_eq_true, reduceCtorEq, decide_true, decide_false, Bool.not_true, Bool.not_false, Bool.true_eq_false, not_true_eq_false, not_false_eq_true]
    exact q
theorem y_spread {K : PySem.W.Frag} {r : Ru} {m n : Int} {Q : D → Prop} {R : DX} (hm : Mo m) (q : Q (.int (spreadOf r m n))) : F_l_spread K [il (lotsL r m n)] Q R := ⟨_, lotsL_ne hm, rfl, q⟩
theorem y_whole {K : PySem.W.Frag} {r : Ru} {m : Int} {Q : D → Prop} {R : DX} (hr : r.Ok) (hm : Mo m) (q : Q (.int (whole r m))) : F_l_whole K [rl r, .int m] Q R := ⟨_, _, hr, hm, rfl, q⟩
theorem y_widest {K : PySem.W.Frag} {r : Ru} {l u : Int} {b : Bool} {Q : D → Prop} {R : DX} (hr : r.Ok) (hf : Fk l u) (q : Q (bestD (bestOf r l u b))) : F_widest K [rd K r, fD l u b] Q R := .inl ⟨r, l, u, b, hr, hf, rfl, q⟩
theorem y_fails {K : PySem.W.Frag} {r : Ru} {l u bound : Int} {b : Bool} {Q : D → Prop} {R : DX} (hr : r.Ok) (hf : Fk l u) (hb : 0 ≤ bound) (q : Q (dueD (failOf r l u b bound))) : F_fails K [rd K r, fD l u b, .int bound] Q R := .inl ⟨r, l, u, b, bound, hr, hf, hb, rfl, q⟩
theorem y_own_fails {K : PySem.W.Frag} {r : Ru} {l u bound : Int} {b : Bool} {Q : D → Prop} {R : DX} (hr : r.Ok) (hf : Fk l u) (q : Q (dueD (failOf r l u b bound))) : F_own_fails K [rd K r, fD l u b, .int bound] Q R := ⟨r, l, u, b, bound, hr, hf, rfl, q⟩
theorem y_l_facts {K : PySem.W.Frag} {most : Int} {Q : D → Prop} {R : DX} (h1 : 3 ≤ most) (h2 : most ≤ 12) (q : ∀ l u b, Fk l u → u ≤ most → Q (fD l u b)) : F_l_facts K [.vol, .int most] Q R := ⟨most, h1, h2, rfl, q⟩
theorem dat_best {o : Option (Int × Case)} : dat 9 (bestD o) = true := by
  cases o <;> rfl
theorem dat_due {o : Option Case} : dat 9 (dueD o) = true := by
  cases o <;> rfl
end Pr

set_option maxHeartbeats 4000000
/-! sorted(texts), over trees. -/
namespace Dl
open PySem PySem.Spec PyProof.Rows L2 Dk
section
variable {K : PySem.W.Frag}
theorem Reps.ofStrs {vl : Option (Addr × Addr)} {G : Hp} : ∀ {vs : List V} {ns : List Str}, Reps K vl G vs (ns.map D.str) → vs = ns.map V.str
  | _, [], r => by cases r; rfl
  | _, n :: ns, r => by
    cases r with
    | cons _ _ _ _ h t => cases h; rw [Reps.ofStrs t]; rfl
/-- sorted(texts) -/
def gSortS : DCL1 := fun ds Q => match ds with
  | [.lst xs] => ∃ ss : List Str, xs = ss.map D.str ∧ ss.length < 64 ∧ ∀ ys : List Str, ys.Perm ss → sortedS ys = true → Q (ys.map D.str)
  | _ => False
theorem cdl_sortS : CallDL K (rSortedS K) gSortS := fun Z H vs ds Q0 Q gd r hg q => by
  unfold gSortS at hg
  split at hg
  · obtain ⟨v, rfl, h⟩ := r.inv1
    obtain ⟨ss, rfl, h64, hg⟩ := hg
    obtain ⟨a, vs, rfl, h1, _, r⟩ := rep_lst h
    have e := Reps.ofStrs r
    subst e
    exact ⟨a, ss, rfl, SqL.of h1, h64, fun ys p hp hs hq => q _ (hg ys hp hs) p _ H (Step.refl gd) hq (reps_strs ys)⟩
  · exact hg.elim
theorem bSortS {X : Cx} {W : WX} {e : Expr} {fs : DA} {p pos : Pos} (hm : X.mg "sorted" = none) (ha : PDA X W [e] fs) (hg : Gl X "sorted" := by rfl) (h1 : starEach [e] X.env = (false, eval e X.env) :: starEach [] X.env := by rfl) (h2 : (backTo pos (starEach [] X.env)).any (·.1) = false := by rfl) : PDL X W (.Call (.Name "sorted" p) [e] [] pos) (dCBL gSortS fs) := pdl_callB cr_sortedS cdl_sortS hg hm (by kernel_rfl) ha (by decide) (by decide) h1 h2
end
/-- by code points -/
def leS (a b : Str) : Prop := a.cps.toList ≤ b.cps.toList
theorem leS_of {a b : Str} (h : ltCps b.cps.toList a.cps.toList = false) : leS a b := by
  rw [PyProof.Rows.ltCps_eq] at h
  unfold leS
  exact List.not_lt.mp (by simpa using h)
theorem risingS_pw : ∀ (ys : List Str) (p : Str), risingS p ys = true → (p :: ys).Pairwise leS
  | [], p, _ => List.pairwise_singleton _ _
  | x :: r, p, h => by
    unfold risingS at h
    rw [Bool.and_eq_true] at h
    have ih := risingS_pw r x h.2
    have hpx : leS p x := leS_of (by simpa using h.1)
    refine List.pairwise_cons.mpr ⟨fun z hz => ?_, ih⟩
    rcases List.mem_cons.mp hz with rfl | hz
    · exact hpx
    · exact List.le_trans hpx ((List.pairwise_cons.mp ih).1 z hz)
theorem sortedS_pw {ys : List Str} (h : sortedS ys = true) : ys.Pairwise leS := by
  cases ys with
  | nil => exact List.Pairwise.nil
  | cons x r => exact risingS_pw r x h
theorem leS_anti {a b : Str} (h1 : leS a b) (h2 : leS b a) : a = b := by
  have := List.le_antisymm h1 h2
  obtain ⟨⟨x⟩⟩ := a
  obtain ⟨⟨y⟩⟩ := b
  simp only at this
  rw [this]
theorem sorted_one {xs ys : List Str} (p : xs.Perm ys) (h1 : xs.Pairwise leS) (h2 : ys.Pairwise leS) : xs = ys := List.Perm.eq_of_pairwise (le := leS) (fun _ _ _ _ => leS_anti) h1 h2 p
end Dl

set_option maxHeartbeats 4000000
/-! facts.py: partings; Rule.changed; sorted texts. -/
namespace Pr
open PySem PySem.Spec PyProof.Rows L2 Dl Dv Dk Gx Ma
theorem row_deq {a b : Ru} (h : deq (.tup (row a)) (.tup (row b)) = true) : a = b := by
  have h2 : deq (.int a.s) (.int b.s) = true ∧ deq (.str (wS a.w)) (.str (wS b.w)) = true ∧ deq (.str (fS a.f)) (.str (fS b.f)) = true ∧ deq (.int a.a) (.int b.a) = true ∧ deq (.str (lS a.l)) (.str (lS b.l)) = true := by
    unfold deq row at h
    simp only [py, pys, PyData.eqv, PyData.eqvAll, Bool.and_eq_true, Bool.and_true] at h
    unfold deq
    simp only [py, PyData.eqv]
    simpa using h
  obtain ⟨h1, h2, h3, h4, h5⟩ := h2
  rw [deq_int] at h1 h4
  have e1 : a.s = b.s := by simpa using h1
  have e4 : a.a = b.a := by simpa using h4
  obtain ⟨s, w, f, x, l⟩ := a
  obtain ⟨s', w', f', x', l'⟩ := b
  dsimp only at *
  subst e1 e4
  have e2 : w = w' := by cases w <;> cases w' <;> first | rfl | exact absurd h2 (by decide +kernel)
  have e3 : f = f' := by cases f <;> cases f' <;> first | rfl | exact absurd h3 (by decide +kernel)
  have e5 : l = l' := by cases l <;> cases l' <;> first | rfl | exact absurd h5 (by decide +kernel)
  rw [e2, e3, e5]
theorem x_eqR {K : PySem.W.Frag} {r q : Ru} {Q : D → Prop} (RC : RuC K) (h : Q (.bl (deq (.tup (row r)) (.tup (row q))))) : gEqO (aR K) (F_eq K) (rd K r) (rd K q) Q := ⟨rfl, .inr ⟨_, rfl⟩, RC, row r, dats_row, .inr ⟨row q, rfl, dats_row, h⟩⟩
def unlB (r q : Ru) (c : Case) (p : Int) : Bool := decide (ownLot r c.1 c.2 p ≠ ownLot q c.1 c.2 p)
def unlP (r q : Ru) (c : Case) : Option Int := (upto c.1.toNat).find? (unlB r q c)
def unlC (r q : Ru) (c : Case) : Option (Case × Int) := (unlP r q c).map fun p => (c, p)
def unlN (r q : Ru) (l u : Int) (b : Bool) : Option (Case × Int) := (casesN [r, q] l u b).findSome? (unlC r q)
def unlD : Option (Case × Int) → D
  | none => .non
  | some (c, p) => .tup [.int c.1, .int c.2, .int p]
theorem unl_same {r : Ru} {l u : Int} {b : Bool} : unlN r r l u b = none := by
  unfold unlN
  rw [List.findSome?_eq_none_iff]
  intro c _
  unfold unlC unlP
  rw [List.find?_eq_none.mpr (fun p _ => by unfold unlB; simp)]
  rfl
def F_own_parting (K : PySem.W.Frag) : DF := fun ds Q R => RuC K ∧ ∃ r q l u b, r.Ok ∧ q.Ok ∧ Fk l u ∧ ds = [rd K r, rd K q, fD l u b] ∧ Q (unlD (unlN r q l u b))
def F_parting (K : PySem.W.Frag) : DF := fun ds Q R => RuC K ∧ ((∃ r q l u b, r.Ok ∧ q.Ok ∧ Fk l u ∧ ds = [rd K r, rd K q, fD l u b] ∧ Q (unlD (unlN r q l u b))) ∨ ∃ r q d, d ∈ oddF ∧ ds = [rd K r, rd K q, d] ∧ R (eF K))
def F_alike (K : PySem.W.Frag) : DF := fun ds Q R => RuC K ∧ ((∃ r q l u b, r.Ok ∧ q.Ok ∧ Fk l u ∧ ds = [rd K r, rd K q, fD l u b] ∧ Q (.bl (unlN r q l u b).isNone)) ∨ ∃ r q d, d ∈ oddF ∧ ds = [rd K r, rd K q, d] ∧ R (eF K))
def g_own_parting (K : PySem.W.Frag) : DG :=
  (dSeq (dIfS (dTst (dOp (gEqO (aR K) (F_eq K)) (dVar 0) (dVar 1))) (dRet (dC .non)) dNx)
  (dSeq (Gn.dForG 2 (F_cases_of K) (dCons (dVar 2) (dCons (dL (dLst (dCons (dVar 0) (dCons (dVar 1) dNil)))) dNil)) (dgTup [3, 4]) (dFor (dRng1 (dCons (dVar 3) dNil)) (dgName 5) (dIfS (dTst (dOp gNe (dCall 4 (F_own_lot K) (dCons (dVar 0) (dCons (dVar 3) (dCons (dVar 4) (dCons (dVar 5) dNil))))) (dCall 4 (F_own_lot K) (dCons (dVar 1) (dCons (dVar 3) (dCons (dVar 4) (dCons (dVar 5) dNil))))))) (dRet (dTup (dCons (dVar 3) (dCons (dVar 4) (dCons (dVar 5) dNil))))) dNx)))
  (dRet (dC .non))))
def g_parting (K : PySem.W.Frag) : DG :=
  (dSeq (dExpr (dCall 1 (F_look_at_facts K) (dCons (dVar 2) dNil)))
  (dRet (dCall 3 (F_own_parting K) (dCons (dVar 0) (dCons (dVar 1) (dCons (dVar 2) dNil))))))
def g_alike (K : PySem.W.Frag) : DG :=
  (dSeq (dExpr (dCall 1 (F_look_at_facts K) (dCons (dVar 2) dNil)))
  (dRet (dOp gIsN (dCall 3 (F_own_parting K) (dCons (dVar 0) (dCons (dVar 1) (dCons (dVar 2) dNil)))) (dC .non))))
theorem law_own_parting (K : PySem.W.Frag) (ds : List D) (Q : D → Prop) (R : DX) (h : F_own_parting K ds Q R) : dDef 6 (g_own_parting K) ds Q R := by
  obtain ⟨RC, r, q, l, u, b, hr, hq, hf, rfl, z⟩ := h
  simp (maxSteps := 10000000) (disch := first | assumption | omega) only [dDef, dRet, dRetL, dSeq, dIfS, dTst, dNotB, dAndB, dOrB, dAndV, dOrV, dNotV, dNeg, dIf, dCB, dCBL, dCons, dNil, dStar, dVar, dC, dCall, dOp, dOpL, dTup, dLst, dL, dSet, dAsg, dPar, dOwn, dExpr, dNx, dFor, dItL, dItT, dProp, dMeth, dMk, dMk0, dRaise, dPart, dNoPart, dSlL, dSlT, dRevL, dgName, dgTup, dgSets, dOwnIx, dOwnLen, dOwnTup, dApp, dSetI, dRel, relE, dItZip, dItTab, dItEnK, dItEn, dIsS, dJoinG, dSplit, dFmt, dJs, dIsT2, dIndex, dCallS, dYes, wipeE, dXf, dIsX, List.map_cons, List.map_nil, List.cons_append, List.nil_append, List.append_nil, List.length_cons, List.length_nil, List.replicate_succ, List.replicate_zero, Nat.reduceAdd, Nat.reduceSub, List.getElem?_cons_zero, List.getElem?_cons_succ, List.set_cons_zero, List.set_cons_succ, Nat.zero_add, Nat.add_zero, Nat.sub_self, x_add, x_sub, x_mulL, x_mulR, x_div, x_mod, x_lt, x_le, x_gt, x_ge, x_eq, x_ne, x_fro, x_step, x_first, x_last, x_on, x_l0, x_l1, x_l2, x_l3, x_l4, x_t0, x_t1, x_t2, x_t3, x_t4, x_intB, x_intI, x_max2, x_min2, x_lenL, x_lenT, x_sz, x_rs, x_rw, x_rf, x_ra, x_rl, x_slot, x_slotD, true_and, and_true, eq_self, decide_eq_true_eq, Bool.not_eq_true', decide_eq_false_iff_not, res_ok, res_er, x_rng1, x_rng1D, x_rng2, x_rng2E, x_rng2D, z_s, z_w, z_f, z_a, z_l, Bool.and_eq_true, if_true, if_false, Bool.false_eq_true, reduceCtorEq, decide_true, decide_false, Bool.not_true, Bool.not_false, Bool.true_eq_false, not_true_eq_false, not_false_eq_true, g_own_parting, Gn.dForG]
  refine x_eqR RC ?_
  cases hd : deq (.tup (row r)) (.tup (row q)) with
  | true =>
    have := row_deq hd
    subst this
    rw [unl_same] at z
    exact z
  | false =>
    simp only [Bool.false_eq_true, if_false]
    refine ⟨_, y_cases (rs := [r, q]) hf (by intro x hx; simp only [List.mem_cons, List.not_mem_nil, or_false] at hx; rcases hx with rfl | rfl <;> assumption) (show 2 ≤ 2 by decide), ?_⟩
    refine for_list prI (casesN [r, q] l u b) (fun pre e => (∀ c ∈ pre, unlC r q c = none) ∧ ∃ x y w, e = [.val (rd K r), .val (rd K q), .val (fD l u b), x, y, w]) rfl ⟨by simp, _, _, _, rfl⟩ ?_ ?_
    · rintro pre c post hall e N ⟨hp, x, y, w, rfl⟩ hN
      obtain ⟨hm, _, _, _, _⟩ := cases_mem hf (show c ∈ casesN [r, q] l u b by rw [hall]; simp)
      have h1 := hm.lo; have h2 := hm.hi
      unfold prI
      simp (maxSteps := 10000000) (disch := first | assumption | omega) only [dDef, dRet, dRetL, dSeq, dIfS, dTst, dNotB, dAndB, dOrB, dAndV, dOrV, dNotV, dNeg, dIf, dCB, dCBL, dCons, dNil, dStar, dVar, dC, dCall, dOp, dOpL, dTup, dLst, dL, dSet, dAsg, dPar, dOwn, dExpr, dNx, dFor, dItL, dItT, dProp, dMeth, dMk, dMk0, dRaise, dPart, dNoPart, dSlL, dSlT, dRevL, dgName, dgTup, dgSets, dOwnIx, dOwnLen, dOwnTup, dApp, dSetI, dRel, relE, dItZip, dItTab, dItEnK, dItEn, dIsS, dJoinG, dSplit, dFmt, dJs, dIsT2, dIndex, dCallS, dYes, wipeE, dXf, dIsX, List.map_cons, List.map_nil, List.cons_append, List.nil_append, List.append_nil, List.length_cons, List.length_nil, List.replicate_succ, List.replicate_zero, Nat.reduceAdd, Nat.reduceSub, List.getElem?_cons_zero, List.getElem?_cons_succ, List.set_cons_zero, List.set_cons_succ, Nat.zero_add, Nat.add_zero, Nat.sub_self, x_add, x_sub, x_mulL, x_mulR, x_div, x_mod, x_lt, x_le, x_gt, x_ge, x_eq, x_ne, x_fro, x_step, x_first, x_last, x_on, x_l0, x_l1, x_l2, x_l3, x_l4, x_t0, x_t1, x_t2, x_t3, x_t4, x_intB, x_intI, x_max2, x_min2, x_lenL, x_lenT, x_sz, x_rs, x_rw, x_rf, x_ra, x_rl, x_slot, x_slotD, true_and, and_true, eq_self, decide_eq_true_eq, Bool.not_eq_true', decide_eq_false_iff_not, res_ok, res_er, x_rng1, x_rng1D, x_rng2, x_rng2E, x_rng2D, z_s, z_w, z_f, z_a, z_l, Bool.and_eq_true, if_true, if_false, Bool.false_eq_true, reduceCtorEq, decide_true, decide_false, Bool.not_true, Bool.not_false, Bool.true_eq_false, not_true_eq_false, not_false_eq_true]
      refine for_list D.int (upto c.1.toNat) (fun pre' e => (∀ p ∈ pre', unlB r q c p = false) ∧ ∃ w, e = [.val (rd K r), .val (rd K q), .val (fD l u b), .val (.int c.1), .val (.int c.2), w]) rfl ⟨by simp, _, rfl⟩ ?_ ?_
      · rintro pre' p post' hall' e N' ⟨hp', w, rfl⟩ hN'
        simp (maxSteps := 10000000) (disch := first | assumption | omega) only [dDef, dRet, dRetL, dSeq, dIfS, dTst, dNotB, dAndB, dOrB, dAndV, dOrV, dNotV, dNeg, dIf, dCB, dCBL, dCons, dNil, dStar, dVar, dC, dCall, dOp, dOpL, dTup, dLst, dL, dSet, dAsg, dPar, dOwn, dExpr, dNx, dFor, dItL, dItT, dProp, dMeth, dMk, dMk0, dRaise, dPart, dNoPart, dSlL, dSlT, dRevL, dgName, dgTup, dgSets, dOwnIx, dOwnLen, dOwnTup, dApp, dSetI, dRel, relE, dItZip, dItTab, dItEnK, dItEn, dIsS, dJoinG, dSplit, dFmt, dJs, dIsT2, dIndex, dCallS, dYes, wipeE, dXf, dIsX, List.map_cons, List.map_nil, List.cons_append, List.nil_append, List.append_nil, List.length_cons, List.length_nil, List.replicate_succ, List.replicate_zero, Nat.reduceAdd, Nat.reduceSub, List.getElem?_cons_zero, List.getElem?_cons_succ, List.set_cons_zero, List.set_cons_succ, Nat.zero_add, Nat.add_zero, Nat.sub_self, x_add, x_sub, x_mulL, x_mulR, x_div, x_mod, x_lt, x_le, x_gt, x_ge, x_eq, x_ne, x_fro, x_step, x_first, x_last, x_on, x_l0, x_l1, x_l2, x_l3, x_l4, x_t0, x_t1, x_t2, x_t3, x_t4, x_intB, x_intI, x_max2, x_min2, x_lenL, x_lenT, x_sz, x_rs, x_rw, x_rf, x_ra, x_rl, x_slot, x_slotD, true_and, and_true, eq_self, decide_eq_true_eq, Bool.not_eq_true', decide_eq_false_iff_not, res_ok, res_er, x_rng1, x_rng1D, x_rng2, x_rng2E, x_rng2D, z_s, z_w, z_f, z_a, z_l, Bool.and_eq_true, if_true, if_false, Bool.false_eq_true, reduceCtorEq, decide_true, decide_false, Bool.not_true, Bool.not_false, Bool.true_eq_false, not_true_eq_false, not_false_eq_true, y_own_lot]
        by_cases hs : ownLot r c.1 c.2 p = ownLot q c.1 c.2 p
        · simp only [hs, decide_true, Bool.not_true, Bool.false_eq_true, if_false]
          refine hN' _ ⟨fun d hd => ?_, _, rfl⟩
          rcases List.mem_append.mp hd with h | h
          · exact hp' d h
          · simp only [List.mem_cons, List.not_mem_nil, or_false] at h
            subst h
            unfold unlB
            simp [hs]
        · simp only [hs, decide_false, Bool.not_false, if_true]
          have e1 : unlP r q c = some p := find_at hall' hp' (by unfold unlB; simpa using hs)
          have e2 : unlN r q l u b = some (c, p) := by
            unfold unlN
            rw [hall, List.findSome?_append, List.findSome?_eq_none_iff.mpr hp, List.findSome?_cons]
            unfold unlC
            rw [e1]
            rfl
          rw [e2] at z
          exact z
      · rintro e ⟨hp', w, rfl⟩
        refine hN _ ⟨fun d hd => ?_, _, _, _, rfl⟩
        rcases List.mem_append.mp hd with h | h
        · exact hp d h
        · simp only [List.mem_cons, List.not_mem_nil, or_false] at h
          subst h
          unfold unlC unlP
          rw [List.find?_eq_none.mpr (fun p hp => by rw [hp' p hp]; simp)]
          rfl
    · rintro e ⟨hp, x, y, w, rfl⟩
      simp (maxSteps := 10000000) (disch := first | assumption | omega) only [dDef, dRet, dRetL, dSeq, dIfS, dTst, dNotB, dAndB, dOrB, dAndV, dOrV, dNotV, dNeg, dIf, dCB, dCBL, dCons, dNil, dStar, dVar, dC, dCall, dOp, dOpL, dTup, dLst, dL, dSet, dAsg, dPar, dOwn, dExpr, dNx, dFor, dItL, dItT, dProp, dMeth, dMk, dMk0, dRaise, dPart, dNoPart, dSlL, dSlT, dRevL, dgName, dgTup, dgSets, dOwnIx, dOwnLen, dOwnTup, dApp, dSetI, dRel, relE, dItZip, dItTab, dItEnK, dItEn, dIsS, dJoinG, dSplit, dFmt, dJs, dIsT2, dIndex, dCallS, dYes, wipeE, dXf, dIsX, List.map_cons, List.map_nil, List.cons_append, List.nil_append, List.append_nil, List.length_cons, List.length_nil, List.replicate_succ, List.replicate_zero, Nat.reduceAdd, Nat.reduceSub, List.getElem?_cons_zero, List.getElem?_cons_succ, List.set_cons_zero, List.set_cons_succ, Nat.zero_add, Nat.add_zero, Nat.sub_self, x_add, x_sub, x_mulL, x_mulR, x_div, x_mod, x_lt, x_le, x_gt, x_ge, x_eq, x_ne, x_fro, x_step, x_first, x_last, x_on, x_l0, x_l1, x_l2, x_l3, x_l4, x_t0, x_t1, x_t2, x_t3, x_t4, x_intB, x_intI, x_max2, x_min2, x_lenL, x_lenT, x_sz, x_rs, x_rw, x_rf, x_ra, x_rl, x_slot, x_slotD, true_and, and_true, eq_self, decide_eq_true_eq, Bool.not_eq_true', decide_eq_false_iff_not, res_ok, res_er, x_rng1, x_rng1D, x_rng2, x_rng2E, x_rng2D, z_s, z_w, z_f, z_a, z_l, Bool.and_eq_true, if_true, if_false, Bool.false_eq_true, reduceCtorEq, decide_true, decide_false, Bool.not_true, Bool.not_false, Bool.true_eq_false, not_true_eq_false, not_false_eq_true]
      unfold unlN at z
      rw [List.findSome?_eq_none_iff.mpr hp] at z
      exact z
theorem law_parting (K : PySem.W.Frag) (ds : List D) (Q : D → Prop) (R : DX) (h : F_parting K ds Q R) : dDef 3 (g_parting K) ds Q R := by
  obtain ⟨RC, ⟨r, q, l, u, b, hr, hq, hf, rfl, z⟩ | ⟨r, q, d, hd, rfl, z⟩⟩ := h
  · simp (maxSteps := 10000000) (disch := first | assumption | omega) only [dDef, dRet, dRetL, dSeq, dIfS, dTst, dNotB, dAndB, dOrB, dAndV, dOrV, dNotV, dNeg, dIf, dCB, dCBL, dCons, dNil, dStar, dVar, dC, dCall, dOp, dOpL, dTup, dLst, dL, dSet, dAsg, dPar, dOwn, dExpr, dNx, dFor, dItL, dItT, dProp, dMeth, dMk, dMk0, dRaise, dPart, dNoPart, dSlL, dSlT, dRevL, dgName, dgTup, dgSets, dOwnIx, dOwnLen, dOwnTup, dApp, dSetI, dRel, relE, dItZip, dItTab, dItEnK, dItEn, dIsS, dJoinG, dSplit, dFmt, dJs, dIsT2, dIndex, dCallS, dYes, wipeE, dXf, dIsX, List.map_cons, List.map_nil, List.cons_append, List.nil_append, List.append_nil, List.length_cons, List.length_nil, List.replicate_succ, List.replicate_zero, Nat.reduceAdd, Nat.reduceSub, List.getElem?_cons_zero, List.getElem?_cons_succ, List.set_cons_zero, List.set_cons_succ, Nat.zero_add, Nat.add_zero, Nat.sub_self, x_add, x_sub, x_mulL, x_mulR, x_div, x_mod, x_lt, x_le, x_gt, x_ge, x_eq, x_ne, x_fro, x_step, x_first, x_last, x_on, x_l0, x_l1, x_l2, x_l3, x_l4, x_t0, x_t1, x_t2, x_t3, x_t4, x_intB, x_intI, x_max2, x_min2, x_lenL, x_lenT, x_sz, x_rs, x_rw, x_rf, x_ra, x_rl, x_slot, x_slotD, true_and, and_true, eq_self, decide_eq_true_eq, Bool.not_eq_true', decide_eq_false_iff_not, res_ok, res_er, x_rng1, x_rng1D, x_rng2, x_rng2E, x_rng2D, z_s, z_w, z_f, z_a, z_l, Bool.and_eq_true, if_true, if_false, Bool.false_eq_true, reduceCtorEq, decide_true, decide_false, Bool.not_true, Bool.not_false, Bool.true_eq_false, not_true_eq_false, not_false_eq_true, g_parting]
    refine y_looked hf ?_
    exact ⟨RC, r, q, l, u, b, hr, hq, hf, rfl, z⟩
  · simp (maxSteps := 10000000) (disch := first | assumption | omega) only [dDef, dRet, dRetL, dSeq, dIfS, dTst, dNotB, dAndB, dOrB, dAndV, dOrV, dNotV, dNeg, dIf, dCB, dCBL, dCons, dNil, dStar, dVar, dC, dCall, dOp, dOpL, dTup, dLst, dL, dSet, dAsg, dPar, dOwn, dExpr, dNx, dFor, dItL, dItT, dProp, dMeth, dMk, dMk0, dRaise, dPart, dNoPart, dSlL, dSlT, dRevL, dgName, dgTup, dgSets, dOwnIx, dOwnLen, dOwnTup, dApp, dSetI, dRel, relE, dItZip, dItTab, dItEnK, dItEn, dIsS, dJoinG, dSplit, dFmt, dJs, dIsT2, dIndex, dCallS, dYes, wipeE, dXf, dIsX, List.map_cons, List.map_nil, List.cons_append, List.nil_append, List.append_nil, List.length_cons, List.length_nil, List.replicate_succ, List.replicate_zero, Nat.reduceAdd, Nat.reduceSub, List.getElem?_cons_zero, List.getElem?_cons_succ, List.set_cons_zero, List.set_cons_succ, Nat.zero_add, Nat.add_zero, Nat.sub_self, x_add, x_sub, x_mulL, x_mulR, x_div, x_mod, x_lt, x_le, x_gt, x_ge, x_eq, x_ne, x_fro, x_step, x_first, x_last, x_on, x_l0, x_l1, x_l2, x_l3, x_l4, x_t0, x_t1, x_t2, x_t3, x_t4, x_intB, x_intI, x_max2, x_min2, x_lenL, x_lenT, x_sz, x_rs, x_rw, x_rf, x_ra, x_rl, x_slot, x_slotD, true_and, and_true, eq_self, decide_eq_true_eq, Bool.not_eq_true', decide_eq_false_iff_not, res_ok, res_er, x_rng1, x_rng1D, x_rng2, x_rng2E, x_rng2D, z_s, z_w, z_f, z_a, z_l, Bool.and_eq_true, if_true, if_false, Bool.false_eq_true, reduceCtorEq, decide_true, decide_false, Bool.not_true, Bool.not_false, Bool.true_eq_false, not_true_eq_false, not_false_eq_true, g_parting]
    exact y_unlooked hd z
theorem law_alike (K : PySem.W.Frag) (ds : List D) (Q : D → Prop) (R : DX) (h : F_alike K ds Q R) : dDef 3 (g_alike K) ds Q R := by
  obtain ⟨RC, ⟨r, q, l, u, b, hr, hq, hf, rfl, z⟩ | ⟨r, q, d, hd, rfl, z⟩⟩ := h
  · simp (maxSteps := 10000000) (disch := first | assumption | omega) only [dDef, dRet, dRetL, dSeq, dIfS, dTst, dNotB, dAndB, dOrB, dAndV, dOrV, dNotV, dNeg, dIf, dCB, dCBL, dCons, dNil, dStar, dVar, dC, dCall, dOp, dOpL, dTup, dLst, dL, dSet, dAsg, dPar, dOwn, dExpr, dNx, dFor, dItL, dItT, dProp, dMeth, dMk, dMk0, dRaise, dPart, dNoPart, dSlL, dSlT, dRevL, dgName, dgTup, dgSets, dOwnIx, dOwnLen, dOwnTup, dApp, dSetI, dRel, relE, dItZip, dItTab, dItEnK, dItEn, dIsS, dJoinG, dSplit, dFmt, dJs, dIsT2, dIndex, dCallS, dYes, wipeE, dXf, dIsX, List.map_cons, List.map_nil, List.cons_append, List.nil_append, List.append_nil, List.length_cons, List.length_nil, List.replicate_succ, List.replicate_zero, Nat.reduceAdd, Nat.reduceSub, List.getElem?_cons_zero, List.getElem?_cons_succ, List.set_cons_zero, List.set_cons_succ, Nat.zero_add, Nat.add_zero, Nat.sub_self, x_add, x_sub, x_mulL, x_mulR, x_div, x_mod, x_lt, x_le, x_gt, x_ge, x_eq, x_ne, x_fro, x_step, x_first, x_last, x_on, x_l0, x_l1, x_l2, x_l3, x_l4, x_t0, x_t1, x_t2, x_t3, x_t4, x_intB, x_intI, x_max2, x_min2, x_lenL, x_lenT, x_sz, x_rs, x_rw, x_rf, x_ra, x_rl, x_slot, x_slotD, true_and, and_true, eq_self, decide_eq_true_eq, Bool.not_eq_true', decide_eq_false_iff_not, res_ok, res_er, x_rng1, x_rng1D, x_rng2, x_rng2E, x_rng2D, z_s, z_w, z_f, z_a, z_l, Bool.and_eq_true, if_true, if_false, Bool.false_eq_true, reduceCtorEq, decide_true, decide_false, Bool.not_true, Bool.not_false, Bool.true_eq_false, not_true_eq_false, not_false_eq_true, g_alike]
    refine y_looked hf ?_
    refine ⟨RC, r, q, l, u, b, hr, hq, hf, rfl, ?_⟩
    cases h : unlN r q l u b with
    | none => rw [h] at z; exact z
    | some o => rw [h] at z; exact z
  · simp (maxSteps := 10000000) (disch := first | assumption | omega) only [dDef, dRet, dRetL, dSeq, dIfS, dTst, dNotB, dAndB, dOrB, dAndV, dOrV, dNotV, dNeg, dIf, dCB, dCBL, dCons, dNil, dStar, dVar, dC, dCall, dOp, dOpL, dTup, dLst, dL, dSet, dAsg, dPar, dOwn, dExpr, dNx, dFor, dItL, dItT, dProp, dMeth, dMk, dMk0, dRaise, dPart, dNoPart, dSlL, dSlT, dRevL, dgName, dgTup, dgSets, dOwnIx, dOwnLen, dOwnTup, dApp, dSetI, dRel, relE, dItZip, dItTab, dItEnK, dItEn, dIsS, dJoinG, dSplit, dFmt, dJs, dIsT2, dIndex, dCallS, dYes, wipeE, dXf, dIsX, List.map_cons, List.map_nil, List.cons_append, List.nil_append, List.append_nil, List.length_cons, List.length_nil, List.replicate_succ, List.replicate_zero, Nat.reduceAdd, Nat.reduceSub, List.getElem?_cons_zero, List.getElem?_cons_succ, List.set_cons_zero, List.set_cons_succ, Nat.zero_add, Nat.add_zero, Nat.sub_self, x_add, x_sub, x_mulL, x_mulR, x_div, x_mod, x_lt, x_le, x_gt, x_ge, x_eq, x_ne, x_fro, x_step, x_first, x_last, x_on, x_l0, x_l1, x_l2, x_l3, x_l4, x_t0, x_t1, x_t2, x_t3, x_t4, x_intB, x_intI, x_max2, x_min2, x_lenL, x_lenT, x_sz, x_rs, x_rw, x_rf, x_ra, x_rl, x_slot, x_slotD, true_and, and_true, eq_self, decide_eq_true_eq, Bool.not_eq_true', decide_eq_false_iff_not, res_ok, res_er, x_rng1, x_rng1D, x_rng2, x_rng2E, x_rng2D, z_s, z_w, z_f, z_a, z_l, Bool.and_eq_true, if_true, if_false, Bool.false_eq_true, reduceCtorEq, decide_true, decide_false, Bool.not_true, Bool.not_false, Bool.true_eq_false, not_true_eq_false, not_false_eq_true, g_alike]
    exact y_unlooked hd z
theorem y_own_parting {K : PySem.W.Frag} {r q : Ru} {l u : Int} {b : Bool} {Q : D → Prop} {R : DX} (RC : RuC K) (hr : r.Ok) (hq : q.Ok) (hf : Fk l u) (z : Q (unlD (unlN r q l u b))) : F_own_parting K [rd K r, rd K q, fD l u b] Q R := ⟨RC, r, q, l, u, b, hr, hq, hf, rfl, z⟩
theorem y_parting {K : PySem.W.Frag} {r q : Ru} {l u : Int} {b : Bool} {Q : D → Prop} {R : DX} (RC : RuC K) (hr : r.Ok) (hq : q.Ok) (hf : Fk l u) (z : Q (unlD (unlN r q l u b))) : F_parting K [rd K r, rd K q, fD l u b] Q R := ⟨RC, .inl ⟨r, q, l, u, b, hr, hq, hf, rfl, z⟩⟩
theorem y_alike {K : PySem.W.Frag} {r q : Ru} {l u : Int} {b : Bool} {Q : D → Prop} {R : DX} (RC : RuC K) (hr : r.Ok) (hq : q.Ok) (hf : Fk l u) (z : Q (.bl (unlN r q l u b).isNone)) : F_alike K [rd K r, rd K q, fD l u b] Q R := ⟨RC, .inl ⟨r, q, l, u, b, hr, hq, hf, rfl, z⟩⟩
end Pr

set_option maxHeartbeats 4000000
/-! Rule.changed, needless. -/
namespace Pr
open PySem PySem.Spec PyProof.Rows L2 Dl Dv Dk Gx Ma
/-- the place of a point -/
def idxOf : List Str → Str → Nat → Option Nat
  | [], _, _ => none
  | k :: r, s, i => if k = s then some i else idxOf r s (i + 1)
def placeOf : D → Option Nat
  | .str s => idxOf ks_POINTS s 0
  | _ => none
def F_Rule_changed (K : PySem.W.Frag) : DF := fun ds Q R => ∃ r p v, ds = [ruleD K r, p, v] ∧ r.length = 5 ∧ (∀ d ∈ r, (dty d).isSome = true) ∧ (dty p).isSome = true ∧ (dty v).isSome = true ∧ match placeOf p with
  | none => R ⟨He.ga K "InvalidPoint", some [("point", .non)]⟩
  | some i => F_Rule K (r.set i v) Q R
def g_Rule_changed (K : PySem.W.Frag) : DG :=
  (dSeq (dSet 3 (dL (dCBL (gTabL (aP K) ks_POINTS) (dCons (dC (.raw (.ref (aP K)))) dNil))))
  (dSeq (dIfS (dOrB (dNotB (dTst (dCB gIsi (dCons (dVar 1) (dCons (dC (.raw (.ty "str"))) dNil))))) (dTst (dOp (gIn true) (dVar 1) (dVar 3)))) (dRaise (dMk (He.ga K "InvalidPoint") ["point"] (dCons (dC .non) dNil))) dNx)
  (dSeq (dSet 4 (dIndex (dVar 3) (dVar 1)))
  (dSeq (dSet 5 (dTup (dStar (dSlT (dSlot (aR K) 0 (dVar 0)) dNoPart (dPart (dVar 4))) (dCons (dVar 2) (dStar (dSlT (dSlot (aR K) 0 (dVar 0)) (dPart (dOp gAddU (dVar 4) (dC (.int 1)))) dNoPart) dNil)))))
  (dRet (dCallS 5 (F_Rule K) (dVar 5)))))))
theorem place_ok {s : Str} {i : Nat} (h : idxOf ks_POINTS s 0 = some i) : (s = "size" ∧ i = 0) ∨ (s = "way" ∧ i = 1) ∨ (s = "first" ∧ i = 2) ∨ (s = "aside" ∧ i = 3) ∨ (s = "later" ∧ i = 4) := by
  unfold ks_POINTS at h
  simp only [idxOf] at h
  split at h
  · rename_i e; cases h; exact .inl ⟨e.symm, rfl⟩
  split at h
  · rename_i e; cases h; exact .inr (.inl ⟨e.symm, rfl⟩)
  split at h
  · rename_i e; cases h; exact .inr (.inr (.inl ⟨e.symm, rfl⟩))
  split at h
  · rename_i e; cases h; exact .inr (.inr (.inr (.inl ⟨e.symm, rfl⟩)))
  split at h
  · rename_i e; cases h; exact .inr (.inr (.inr (.inr ⟨e.symm, rfl⟩)))
  cases h
theorem place_no {s : Str} (h : idxOf ks_POINTS s 0 = none) : has (.str s) (ks_POINTS.map D.str) = false := by
  unfold ks_POINTS at h
  simp only [idxOf] at h
  split at h
  · cases h
  split at h
  · cases h
  split at h
  · cases h
  split at h
  · cases h
  split at h
  · cases h
  rename_i n1 n2 n3 n4 n5
  show (([V.str "size", V.str "way", V.str "first", V.str "aside", V.str "later"] : List V).any fun y => eqV y (V.str s)) = false
  simp [eqV, n1, n2, n3, n4, n5]
theorem place_has {s : Str} {i : Nat} (h : idxOf ks_POINTS s 0 = some i) : has (.str s) (ks_POINTS.map D.str) = true := by
  rcases place_ok h with ⟨rfl, _⟩ | ⟨rfl, _⟩ | ⟨rfl, _⟩ | ⟨rfl, _⟩ | ⟨rfl, _⟩ <;> decide +kernel
theorem mins {vs : List V} {v : V} (n : Nat) (h : ((vs.take n).all fun z => !eqV z v) = true) : ∀ (m : Nat) (z' : V), m < n → vs[m]? = some z' → eqV z' v = false := fun m z' hm hz => by
  have h1 : (vs.take n)[m]? = some z' := by rw [List.getElem?_take, if_pos hm]; exact hz
  have := List.all_eq_true.mp h z' (List.mem_of_getElem? h1)
  simpa using this
theorem law_Rule_changed (K : PySem.W.Frag) (ds : List D) (Q : D → Prop) (R : DX) (h : F_Rule_changed K ds Q R) : dDef 6 (g_Rule_changed K) ds Q R := by
  obtain ⟨r, p, v, rfl, hl, hr, hp, hv, q⟩ := h
  unfold g_Rule_changed
  simp only [dDef, dRet, dRetL, dSeq, dIfS, dTst, dNotB, dAndB, dOrB, dAndV, dOrV, dNotV, dNeg, dIf, dCB, dCBL, dCons, dNil, dStar, dVar, dC, dCall, dOp, dOpL, dTup, dLst, dL, dSet, dAsg, dPar, dOwn, dExpr, dNx, dFor, dWhile, dRng1, dRng2, dItL, dItT, dSlot, dProp, dMeth, dMk, dMk0, dRaise, dPart, dNoPart, dSlL, dSlT, dRevL, dgName, dgTup, dgSets, dOwnIx, dOwnLen, dOwnTup, dApp, dSetI, dRel, relE, dItZip, dItTab, dItEnK, dItEn, dIsS, dJoinG, dSplit, dFmt, dJs, dIsT2, dIndex, dCallS, dYes, wipeE, dXf, dIsX, List.map_cons, List.map_nil, List.cons_append, List.nil_append, List.append_nil, List.length_cons, List.length_nil, List.replicate_succ, List.replicate_zero, Nat.reduceAdd, Nat.reduceSub, List.getElem?_cons_zero, List.getElem?_cons_succ, List.set_cons_zero, List.set_cons_succ, Nat.zero_add, Nat.add_zero, Nat.sub_self, gTabL]
  refine ⟨trivial, ?_⟩
  refine gIsi_ok hp (.inr (.inr (.inl rfl))) ?_
  cases p <;> simp [dty] at hp <;> first | exact ⟨trivial, q⟩ | skip
  rename_i s
  simp only [show isTy "str" (D.str s) = true from rfl, Bool.not_true, Bool.false_eq_true, if_false]
  refine gNIn_ok (v := .str s) (w := .lst (ks_POINTS.map D.str)) (ds := ks_POINTS.map D.str) rfl rfl rfl ?_
  unfold placeOf at q
  simp only at q
  cases hs : idxOf ks_POINTS s 0 with
  | none =>
    rw [hs] at q
    rw [place_no hs]
    exact ⟨trivial, q⟩
  | some i =>
    rw [hs] at q
    rw [place_has hs]
    match r, hl with
    | [a, b, c, d, e], _ =>
    rcases place_ok hs with ⟨rfl, rfl⟩ | ⟨rfl, rfl⟩ | ⟨rfl, rfl⟩ | ⟨rfl, rfl⟩ | ⟨rfl, rfl⟩
    · exact ⟨_, _, 0, _, rfl, rfl, rfl, by decide +kernel, fun m z h => by omega, rfl, _, rfl, _, rfl, rfl, _, rfl, .inl ⟨_, rfl, (show 5 ≤ sizeLine by decide), _, rfl, rfl, q⟩⟩
    · exact ⟨_, _, 1, _, rfl, rfl, rfl, by decide +kernel, mins _ (by decide +kernel), rfl, _, rfl, _, rfl, rfl, _, rfl, .inl ⟨_, rfl, (show 5 ≤ sizeLine by decide), _, rfl, rfl, q⟩⟩
    · exact ⟨_, _, 2, _, rfl, rfl, rfl, by decide +kernel, mins _ (by decide +kernel), rfl, _, rfl, _, rfl, rfl, _, rfl, .inl ⟨_, rfl, (show 5 ≤ sizeLine by decide), _, rfl, rfl, q⟩⟩
    · exact ⟨_, _, 3, _, rfl, rfl, rfl, by decide +kernel, mins _ (by decide +kernel), rfl, _, rfl, _, rfl, rfl, _, rfl, .inl ⟨_, rfl, (show 5 ≤ sizeLine by decide), _, rfl, rfl, q⟩⟩
    · exact ⟨_, _, 4, _, rfl, rfl, rfl, by decide +kernel, mins _ (by decide +kernel), rfl, _, rfl, _, rfl, rfl, _, rfl, .inl ⟨_, rfl, (show 5 ≤ sizeLine by decide), _, rfl, rfl, q⟩⟩
/-- a point's value -/
inductive PV where
  | s (i : Int) | w (x : Way) | f (x : Bool) | a (i : Int) | l (x : Bool)
namespace PV
def d : PV → D
  | s i => .int i
  | w x => .str (wS x)
  | f x => .str (fS x)
  | a i => .int i
  | l x => .str (lS x)
def k : PV → Nat
  | s _ => 0 | w _ => 1 | f _ => 2 | a _ => 3 | l _ => 4
def upd (r : Ru) : PV → Ru
  | s i => { r with s := i }
  | w x => { r with w := x }
  | f x => { r with f := x }
  | a i => { r with a := i }
  | l x => { r with l := x }
def Ok : PV → Prop
  | s i => i = 1 ∨ i = 2 ∨ i = 3
  | a i => i = 0 ∨ i = 2 ∨ i = 3 ∨ i = 4
  | _ => True
end PV
def nmK (k : Nat) : Str := ks_POINTS.getD k ""
theorem upd_ok {r : Ru} {v : PV} (hr : r.Ok) (hv : v.Ok) : (v.upd r).Ok := by
  cases v with
  | s i => exact ⟨hv, hr.a⟩
  | w x => exact ⟨hr.s, hr.a⟩
  | f x => exact ⟨hr.s, hr.a⟩
  | a i => exact ⟨hr.s, hv⟩
  | l x => exact ⟨hr.s, hr.a⟩
theorem upd_row {r : Ru} {v : PV} : (row r).set v.k v.d = row (v.upd r) := by
  cases v <;> rfl
theorem place_k {v : PV} : placeOf (.str (nmK v.k)) = some v.k := by
  have h : ∀ k : Fin 5, placeOf (.str (nmK k)) = some k.val := by decide +kernel
  cases v with
  | s i => exact h 0
  | w i => exact h 1
  | f i => exact h 2
  | a i => exact h 3
  | l i => exact h 4
theorem y_changed {K : PySem.W.Frag} {r : Ru} {v : PV} {Q : D → Prop} {R : DX} (hr : r.Ok) (hv : v.Ok) (q : Q (rd K (v.upd r))) : F_Rule_changed K [rd K r, .str (nmK v.k), v.d] Q R := by
  refine ⟨row r, _, _, rfl, rfl, fun d hd => ?_, rfl, by cases v <;> rfl, ?_⟩
  · unfold row at hd
    simp only [List.mem_cons, List.not_mem_nil, or_false] at hd
    rcases hd with rfl | rfl | rfl | rfl | rfl <;> rfl
  · rw [place_k]
    show F_Rule K ((row r).set v.k v.d) Q R
    rw [upd_row, y_Rule (upd_ok hr hv)]
    exact q
/-! ### needless -/
def progV : Nat → List PV
  | 0 => [.s 1, .s 2, .s 3]
  | 1 => [.w .fro, .w .round, .w .step]
  | 2 => [.f true, .f false]
  | 3 => [.a 0, .a 2, .a 3, .a 4]
  | 4 => [.l false, .l true]
  | _ => []
theorem prog_ok {k : Nat} {v : PV} (h : v ∈ progV k) : v.Ok ∧ v.k = k := by
  unfold progV at h
  split at h <;> simp only [List.mem_cons, List.not_mem_nil, or_false] at h
  · rcases h with rfl | rfl | rfl <;> exact ⟨by simp [PV.Ok], rfl⟩
  · rcases h with rfl | rfl | rfl <;> exact ⟨by simp [PV.Ok], rfl⟩
  · rcases h with rfl | rfl <;> exact ⟨by simp [PV.Ok], rfl⟩
  · rcases h with rfl | rfl | rfl | rfl <;> exact ⟨by simp [PV.Ok], rfl⟩
  · rcases h with rfl | rfl <;> exact ⟨by simp [PV.Ok], rfl⟩
theorem tab_look {k : Nat} (h : k < 5) : kvs_POINTS.lookup (nmK k) = some ((progV k).map PV.d) := by
  match k, h with
  | 0, _ => rfl
  | 1, _ => rfl
  | 2, _ => rfl
  | 3, _ => rfl
  | 4, _ => rfl
abbrev nOwn (s : Slot) : Prop := ∀ i j t, noOwnB i j (s :: t) = noOwnB i (j + 1) t
theorem nOwn_un : nOwn .un := fun _ _ _ => rfl
theorem nOwn_val {d : D} : nOwn (.val d) := fun _ _ _ => rfl
def needB (r : Ru) (l u : Int) (b : Bool) (k : Nat) : Bool := ((progV k).map fun v => (unlN r (v.upd r) l u b).isNone).all id
def ordK : List Nat := [3, 2, 4, 0, 1]
def needL (r : Ru) (l u : Int) (b : Bool) : List Str := (ordK.filter (needB r l u b)).map nmK
def F_needless (K : PySem.W.Frag) : DF := fun ds Q R => RuC K ∧ ((∃ r l u b, r.Ok ∧ Fk l u ∧ ds = [rd K r, fD l u b] ∧ Q (.lst ((needL r l u b).map D.str))) ∨ ∃ r d, d ∈ oddF ∧ ds = [rd K r, d] ∧ R (eF K))
theorem ord_sorted : sortedS (ordK.map nmK) = true := by decide +kernel
theorem ord_perm : (ordK.map nmK).Perm ks_POINTS := by decide +kernel
theorem ord_one {ys : List Str} (h1 : ys.Perm ks_POINTS) (h2 : sortedS ys = true) : ys = ordK.map nmK := sorted_one (h1.trans ord_perm.symm) (sortedS_pw h2) (sortedS_pw ord_sorted)
def g_needless (K : PySem.W.Frag) : DG :=
  (dSeq (dExpr (dCall 1 (F_look_at_facts K) (dCons (dVar 1) dNil)))
  (dSeq (dOwn 2 (dLst dNil))
  (dSeq (dFor (dItL (dL (dCBL (gTabS (aP K) ks_POINTS) (dCons (dC (.raw (.ref (aP K)))) dNil)))) (dgName 3) (dIfS (dTst (dCB gAll (dCons (dL (dLc (dItT (dOp (gTabIx (aP K) kvs_POINTS) (dC (.raw (.ref (aP K)))) (dVar 3))) [4] (dgName 4) dYes (dOp gIsN (dCall 3 (F_own_parting K) (dCons (dVar 0) (dCons (dMeth (aR K) 3 (F_Rule_changed K) (dVar 0) (dCons (dVar 3) (dCons (dVar 4) dNil))) (dCons (dVar 1) dNil)))) (dC .non)))) dNil))) (dApp 2 (dVar 3)) dNx))
  (dRel 2 (dRet (dVar 2))))))
theorem law_needless (K : PySem.W.Frag) (ds : List D) (Q : D → Prop) (R : DX) (h : F_needless K ds Q R) : dDef 5 (g_needless K) ds Q R := by
  obtain ⟨RC, ⟨r, l, u, b, hr, hf, rfl, z⟩ | ⟨r, d, hd, rfl, z⟩⟩ := h
  · simp (maxSteps := 10000000) (disch := first | assumption | omega) only [dDef, dRet, dRetL, dSeq, dIfS, dTst, dNotB, dAndB, dOrB, dAndV, dOrV, dNotV, dNeg, dIf, dCB, dCBL, dCons, dNil, dStar, dVar, dC, dCall, dOp, dOpL, dTup, dLst, dL, dSet, dAsg, dPar, dOwn, dExpr, dNx, dFor, dItL, dItT, dProp, dMeth, dMk, dMk0, dRaise, dPart, dNoPart, dSlL, dSlT, dRevL, dgName, dgTup, dgSets, dOwnIx, dOwnLen, dOwnTup, dApp, dSetI, dRel, relE, dItZip, dItTab, dItEnK, dItEn, dIsS, dJoinG, dSplit, dFmt, dJs, dIsT2, dIndex, dCallS, dYes, wipeE, dXf, dIsX, List.map_cons, List.map_nil, List.cons_append, List.nil_append, List.append_nil, List.length_cons, List.length_nil, List.replicate_succ, List.replicate_zero, Nat.reduceAdd, Nat.reduceSub, List.getElem?_cons_zero, List.getElem?_cons_succ, List.set_cons_zero, List.set_cons_succ, Nat.zero_add, Nat.add_zero, Nat.sub_self, x_add, x_sub, x_mulL, x_mulR, x_div, x_mod, x_lt, x_le, x_gt, x_ge, x_eq, x_ne, x_fro, x_step, x_first, x_last, x_on, x_l0, x_l1, x_l2, x_l3, x_l4, x_t0, x_t1, x_t2, x_t3, x_t4, x_intB, x_intI, x_max2, x_min2, x_lenL, x_lenT, x_sz, x_rs, x_rw, x_rf, x_ra, x_rl, x_slot, x_slotD, true_and, and_true, eq_self, decide_eq_true_eq, Bool.not_eq_true', decide_eq_false_iff_not, res_ok, res_er, x_rng1, x_rng1D, x_rng2, x_rng2E, x_rng2D, z_s, z_w, z_f, z_a, z_l, Bool.and_eq_true, if_true, if_false, Bool.false_eq_true, reduceCtorEq, decide_true, decide_false, Bool.not_true, Bool.not_false, Bool.true_eq_false, not_true_eq_false, not_false_eq_true, g_needless, gTabS]
    refine y_looked hf ?_
    refine fun ys hp hs => ?_
    rw [ord_one hp hs]
    rw [List.map_map]
    refine for_list (fun k => D.str (nmK k)) ordK (fun pre e => ∃ x, nOwn x ∧ e = [.val (rd K r), .val (fD l u b), .own ((pre.filter (needB r l u b)).map fun k => D.str (nmK k)), x, .un]) rfl ⟨_, nOwn_un, rfl⟩ ?_ ?_
    · rintro pre k post hall e N ⟨x, hx, rfl⟩ hN
      have hk : k < 5 := by
        have : k ∈ ordK := by rw [hall]; simp
        simp only [ordK, List.mem_cons, List.not_mem_nil, or_false] at this
        omega
      have hN := fun s => hN [.val (rd K r), .val (fD l u b), .own (((pre ++ [k]).filter (needB r l u b)).map fun k => D.str (nmK k)), .val s, .un] ⟨_, nOwn_val, rfl⟩
      rw [List.filter_append, List.map_append, List.filter_cons, List.filter_nil] at hN
      simp (maxSteps := 10000000) (disch := first | assumption | omega) only [dDef, dRet, dRetL, dSeq, dIfS, dTst, dNotB, dAndB, dOrB, dAndV, dOrV, dNotV, dNeg, dIf, dCB, dCBL, dCons, dNil, dStar, dVar, dC, dCall, dOp, dOpL, dTup, dLst, dL, dSet, dAsg, dPar, dOwn, dExpr, dNx, dFor, dItL, dItT, dProp, dMeth, dMk, dMk0, dRaise, dPart, dNoPart, dSlL, dSlT, dRevL, dgName, dgTup, dgSets, dOwnIx, dOwnLen, dOwnTup, dApp, dSetI, dRel, relE, dItZip, dItTab, dItEnK, dItEn, dIsS, dJoinG, dSplit, dFmt, dJs, dIsT2, dIndex, dCallS, dYes, wipeE, dXf, dIsX, List.map_cons, List.map_nil, List.cons_append, List.nil_append, List.append_nil, List.length_cons, List.length_nil, List.replicate_succ, List.replicate_zero, Nat.reduceAdd, Nat.reduceSub, List.getElem?_cons_zero, List.getElem?_cons_succ, List.set_cons_zero, List.set_cons_succ, Nat.zero_add, Nat.add_zero, Nat.sub_self, x_add, x_sub, x_mulL, x_mulR, x_div, x_mod, x_lt, x_le, x_gt, x_ge, x_eq, x_ne, x_fro, x_step, x_first, x_last, x_on, x_l0, x_l1, x_l2, x_l3, x_l4, x_t0, x_t1, x_t2, x_t3, x_t4, x_intB, x_intI, x_max2, x_min2, x_lenL, x_lenT, x_sz, x_rs, x_rw, x_rf, x_ra, x_rl, x_slot, x_slotD, true_and, and_true, eq_self, decide_eq_true_eq, Bool.not_eq_true', decide_eq_false_iff_not, res_ok, res_er, x_rng1, x_rng1D, x_rng2, x_rng2E, x_rng2D, z_s, z_w, z_f, z_a, z_l, Bool.and_eq_true, if_true, if_false, Bool.false_eq_true, reduceCtorEq, decide_true, decide_false, Bool.not_true, Bool.not_false, Bool.true_eq_false, not_true_eq_false, not_false_eq_true, gTabIx, dLc]
      refine ⟨_, tab_look hk, ?_⟩
      refine lc_map (xs := progV k) PV.d (fun v => .bl (unlN r (v.upd r) l u b).isNone) rfl (len_le (by unfold progV; split <;> simp)) (fun v hv Q1 hh => ?_) ?_
      · obtain ⟨vo, rfl⟩ := prog_ok hv
        simp (maxSteps := 10000000) (disch := first | assumption | omega) only [dDef, dRet, dRetL, dSeq, dIfS, dTst, dNotB, dAndB, dOrB, dAndV, dOrV, dNotV, dNeg, dIf, dCB, dCBL, dCons, dNil, dStar, dVar, dC, dCall, dOp, dOpL, dTup, dLst, dL, dSet, dAsg, dPar, dOwn, dExpr, dNx, dFor, dItL, dItT, dProp, dMeth, dMk, dMk0, dRaise, dPart, dNoPart, dSlL, dSlT, dRevL, dgName, dgTup, dgSets, dOwnIx, dOwnLen, dOwnTup, dApp, dSetI, dRel, relE, dItZip, dItTab, dItEnK, dItEn, dIsS, dJoinG, dSplit, dFmt, dJs, dIsT2, dIndex, dCallS, dYes, wipeE, dXf, dIsX, List.map_cons, List.map_nil, List.cons_append, List.nil_append, List.append_nil, List.length_cons, List.length_nil, List.replicate_succ, List.replicate_zero, Nat.reduceAdd, Nat.reduceSub, List.getElem?_cons_zero, List.getElem?_cons_succ, List.set_cons_zero, List.set_cons_succ, Nat.zero_add, Nat.add_zero, Nat.sub_self, x_add, x_sub, x_mulL, x_mulR, x_div, x_mod, x_lt, x_le, x_gt, x_ge, x_eq, x_ne, x_fro, x_step, x_first, x_last, x_on, x_l0, x_l1, x_l2, x_l3, x_l4, x_t0, x_t1, x_t2, x_t3, x_t4, x_intB, x_intI, x_max2, x_min2, x_lenL, x_lenT, x_sz, x_rs, x_rw, x_rf, x_ra, x_rl, x_slot, x_slotD, true_and, and_true, eq_self, decide_eq_true_eq, Bool.not_eq_true', decide_eq_false_iff_not, res_ok, res_er, x_rng1, x_rng1D, x_rng2, x_rng2E, x_rng2D, z_s, z_w, z_f, z_a, z_l, Bool.and_eq_true, if_true, if_false, Bool.false_eq_true, reduceCtorEq, decide_true, decide_false, Bool.not_true, Bool.not_false, Bool.true_eq_false, not_true_eq_false, not_false_eq_true]
        refine ⟨rfl, ?_⟩
        refine y_changed hr vo ?_
        refine y_own_parting RC hr (upd_ok hr vo) hf ?_
        unfold gIsN
        cases ho : unlN r (v.upd r) l u b with
        | none => rw [ho] at hh; exact hh
        | some o => rw [ho] at hh; exact hh
      · rw [show ((progV k).map fun v => D.bl (unlN r (v.upd r) l u b).isNone) = (((progV k).map fun v => (unlN r (v.upd r) l u b).isNone).map D.bl) by rw [List.map_map]; rfl, x_all]
        rw [show ((progV k).map fun v => (unlN r (v.upd r) l u b).isNone).all id = needB r l u b k from rfl]
        have hlen : ((pre.filter (needB r l u b)).map fun k => D.str (nmK k)).length < sizeLine := by
          have h1 := congrArg List.length hall
          rw [List.length_append, List.length_cons, show ordK.length = 5 from rfl] at h1
          have h2 := List.length_filter_le (needB r l u b) pre
          rw [List.length_map]
          exact Nat.lt_of_lt_of_le (m := 6) (by omega) (by decide)
        cases hb : needB r l u b k with
        | true =>
          rw [hb] at hN
          exact ⟨hlen, hN _⟩
        | false =>
          rw [hb, if_neg (by simp), List.map_nil, List.append_nil] at hN
          exact hN _
    · rintro e ⟨x, hx, rfl⟩
      refine ⟨by simp only [noOwnB, hx, Nat.zero_add, decide_true, Bool.true_and, Nat.reduceAdd], ?_⟩
      unfold needL at z
      rw [List.map_map] at z
      exact z
  · simp (maxSteps := 10000000) (disch := first | assumption | omega) only [dDef, dRet, dRetL, dSeq, dIfS, dTst, dNotB, dAndB, dOrB, dAndV, dOrV, dNotV, dNeg, dIf, dCB, dCBL, dCons, dNil, dStar, dVar, dC, dCall, dOp, dOpL, dTup, dLst, dL, dSet, dAsg, dPar, dOwn, dExpr, dNx, dFor, dItL, dItT, dProp, dMeth, dMk, dMk0, dRaise, dPart, dNoPart, dSlL, dSlT, dRevL, dgName, dgTup, dgSets, dOwnIx, dOwnLen, dOwnTup, dApp, dSetI, dRel, relE, dItZip, dItTab, dItEnK, dItEn, dIsS, dJoinG, dSplit, dFmt, dJs, dIsT2, dIndex, dCallS, dYes, wipeE, dXf, dIsX, List.map_cons, List.map_nil, List.cons_append, List.nil_append, List.append_nil, List.length_cons, List.length_nil, List.replicate_succ, List.replicate_zero, Nat.reduceAdd, Nat.reduceSub, List.getElem?_cons_zero, List.getElem?_cons_succ, List.set_cons_zero, List.set_cons_succ, Nat.zero_add, Nat.add_zero, Nat.sub_self, x_add, x_sub, x_mulL, x_mulR, x_div, x_mod, x_lt, x_le, x_gt, x_ge, x_eq, x_ne, x_fro, x_step, x_first, x_last, x_on, x_l0, x_l1, x_l2, x_l3, x_l4, x_t0, x_t1, x_t2, x_t3, x_t4, x_intB, x_intI, x_max2, x_min2, x_lenL, x_lenT, x_sz, x_rs, x_rw, x_rf, x_ra, x_rl, x_slot, x_slotD, true_and, and_true, eq_self, decide_eq_true_eq, Bool.not_eq_true', decide_eq_false_iff_not, res_ok, res_er, x_rng1, x_rng1D, x_rng2, x_rng2E, x_rng2D, z_s, z_w, z_f, z_a, z_l, Bool.and_eq_true, if_true, if_false, Bool.false_eq_true, reduceCtorEq, decide_true, decide_false, Bool.not_true, Bool.not_false, Bool.true_eq_false, not_true_eq_false, not_false_eq_true, g_needless]
    exact y_unlooked hd z
end Pr

set_option maxHeartbeats 4000000
namespace K06
open PySem PySem.Spec PyProof.Rows L2 Dl Dv Dk Gx Pr Ma
end K06

set_option maxHeartbeats 4000000
namespace K06
open PySem PySem.Spec PyProof.Rows L2 Dl Dv Dk Gx Pr Ma
def c1 (K : PySem.W.Frag) : DG :=
  (dSet 2 (dCall 1 (fun ds Q R => F_l_rule ds (fun es => Q (.lst es)) R) (dCons (dVar 1) dNil)))
def c2 (K : PySem.W.Frag) : DG :=
  (dSet 3 (dCall 1 (F_l_built K) (dCons (dVar 2) dNil)))
def c3 (K : PySem.W.Frag) : DG :=
  (dSet 4 (dCall 2 (F_l_facts K) (dCons (dVar 1) (dCons (dC (.int 3)) dNil))))
def c4 (K : PySem.W.Frag) : DG :=
  (dSet 5 (dL (dLst (dCons (dL (dLst (dCons (dC (.int 1)) (dCons (dC (.int 2)) (dCons (dC (.int 3)) dNil))))) (dCons (dL (dLst (dCons (dC (.str "round")) (dCons (dC (.str "fro")) (dCons (dC (.str "step")) dNil))))) (dCons (dL (dLst (dCons (dC (.str "first")) (dCons (dC (.str "last")) dNil)))) (dCons (dL (dLst (dCons (dC (.int 0)) (dCons (dC (.int 2)) (dCons (dC (.int 3)) (dCons (dC (.int 4)) dNil)))))) (dCons (dL (dLst (dCons (dC (.str "on")) (dCons (dC (.str "anew")) dNil)))) dNil))))))))
def c5 (K : PySem.W.Frag) : DG :=
  (dSet 6 (dL (dLst (dCons (dC (.str "size")) (dCons (dC (.str "way")) (dCons (dC (.str "first")) (dCons (dC (.str "aside")) (dCons (dC (.str "later")) dNil))))))))
def c6 (K : PySem.W.Frag) : DG :=
  (dOwn 7 (dLst dNil))
def c7 (K : PySem.W.Frag) : DG :=
  (dFor (dRng1 (dCons (dC (.int 5)) dNil)) (dgName 8) (dSeq (dSet 9 (dL (dLc (dItL (dOp gIx (dVar 5) (dVar 8))) [10] (dgName 10) dYes (dCall 1 (F_l_built K) (dCons (dOp gAddU (dOp gAddU (dL (dSlL (dVar 2) dNoPart (dPart (dVar 8)))) (dL (dLst (dCons (dVar 10) dNil)))) (dL (dSlL (dVar 2) (dPart (dOp gAddU (dVar 8) (dC (.int 1)))) dNoPart))) dNil)))))
  (dSeq (dIfS (dTst (dCB gAll (dCons (dL (dLc (dItL (dVar 9)) [11] (dgName 11) dYes (dCall 3 (F_alike K) (dCons (dVar 3) (dCons (dVar 11) (dCons (dVar 4) dNil)))))) dNil))) (dApp 7 (dOp gIx (dVar 6) (dVar 8))) dNx)
  (dFor (dRng1 (dCons (dCB gLen (dCons (dOp gIx (dVar 5) (dVar 8)) dNil)) dNil)) (dgName 12) (dIfS (dNotB (dTst (dOp (gEqO (aR K) (F_eq K)) (dMeth (aR K) 3 (F_Rule_changed K) (dVar 3) (dCons (dOp gIx (dVar 6) (dVar 8)) (dCons (dOp gIx (dOp gIx (dVar 5) (dVar 8)) (dVar 12)) dNil))) (dOp gIx (dVar 9) (dVar 12))))) (dRet (dC (.bl false))) dNx)))))
def c8 (K : PySem.W.Frag) : DG :=
  (dRel 7 (dRet (dOp gEq (dCall 2 (F_needless K) (dCons (dVar 3) (dCons (dVar 4) dNil))) (dL (dCBL (gSortS) (dCons (dVar 7) dNil))))))
def g_law (K : PySem.W.Frag) : DG := (dSeq (c1 K) (dSeq (c2 K) (dSeq (c3 K) (dSeq (c4 K) (dSeq (c5 K) (dSeq (c6 K) (dSeq (c7 K) (c8 K))))))))
theorem s1 {K : PySem.W.Frag} {k : Kn} (h : ∀ r : Ru, r.Ok → k.nx [.un, .val .vol, .val (rl r), .un, .un, .un, .un, .un, .un, .un, .un, .un, .un]) : c1 K (lawEnv 11) k := by
  unfold c1 lawEnv
  simp (maxSteps := 10000000) (disch := first | assumption | omega) only [dDef, dRet, dRetL, dSeq, dIfS, dTst, dNotB, dAndB, dOrB, dAndV, dOrV, dNotV, dNeg, dIf, dCB, dCBL, dCons, dNil, dStar, dVar, dC, dCall, dOp, dOpL, dTup, dLst, dL, dSet, dAsg, dPar, dOwn, dExpr, dNx, dFor, dItL, dItT, dProp, dMeth, dMk, dMk0, dRaise, dPart, dNoPart, dSlL, dSlT, dRevL, dgName, dgTup, dgSets, dOwnIx, dOwnLen, dOwnTup, dApp, dSetI, dRel, relE, dItZip, dItTab, dItEnK, dItEn, dIsS, dJoinG, dSplit, dFmt, dJs, dIsT2, dIndex, dCallS, dYes, wipeE, dXf, dIsX, List.map_cons, List.map_nil, List.cons_append, List.nil_append, List.append_nil, List.length_cons, List.length_nil, List.replicate_succ, List.replicate_zero, Nat.reduceAdd, Nat.reduceSub, List.getElem?_cons_zero, List.getElem?_cons_succ, List.set_cons_zero, List.set_cons_succ, Nat.zero_add, Nat.add_zero, Nat.sub_self, x_add, x_sub, x_mulL, x_mulR, x_div, x_mod, x_lt, x_le, x_gt, x_ge, x_eq, x_ne, x_fro, x_step, x_first, x_last, x_on, x_l0, x_l1, x_l2, x_l3, x_l4, x_t0, x_t1, x_t2, x_t3, x_t4, x_intB, x_intI, x_max2, x_min2, x_lenL, x_lenT, x_sz, x_rs, x_rw, x_rf, x_ra, x_rl, x_slot, x_slotD, true_and, and_true, eq_self, decide_eq_true_eq, Bool.not_eq_true', decide_eq_false_iff_not, res_ok, res_er, x_rng1, x_rng1D, x_rng2, x_rng2E, x_rng2D, z_s, z_w, z_f, z_a, z_l, Bool.and_eq_true, if_true, if_false, Bool.false_eq_true, reduceCtorEq, decide_true, decide_false, Bool.not_true, Bool.not_false, Bool.true_eq_false, not_true_eq_false, not_false_eq_true]
  exact y_rule h
def ev (K : PySem.W.Frag) (r : Ru) (e4 e5 e6 e7 e8 e9 e10 e11 e12 : Slot) : Env' := [.un, .val .vol, .val (rl r), .val (rd K r), e4, e5, e6, e7, e8, e9, e10, e11, e12]
theorem s2 {K : PySem.W.Frag} {k : Kn} {r : Ru} (hr : r.Ok) (h : k.nx (ev K r .un .un .un .un .un .un .un .un .un)) : c2 K [.un, .val .vol, .val (rl r), .un, .un, .un, .un, .un, .un, .un, .un, .un, .un] k := by
  unfold c2
  simp (maxSteps := 10000000) (disch := first | assumption | omega) only [dDef, dRet, dRetL, dSeq, dIfS, dTst, dNotB, dAndB, dOrB, dAndV, dOrV, dNotV, dNeg, dIf, dCB, dCBL, dCons, dNil, dStar, dVar, dC, dCall, dOp, dOpL, dTup, dLst, dL, dSet, dAsg, dPar, dOwn, dExpr, dNx, dFor, dItL, dItT, dProp, dMeth, dMk, dMk0, dRaise, dPart, dNoPart, dSlL, dSlT, dRevL, dgName, dgTup, dgSets, dOwnIx, dOwnLen, dOwnTup, dApp, dSetI, dRel, relE, dItZip, dItTab, dItEnK, dItEn, dIsS, dJoinG, dSplit, dFmt, dJs, dIsT2, dIndex, dCallS, dYes, wipeE, dXf, dIsX, List.map_cons, List.map_nil, List.cons_append, List.nil_append, List.append_nil, List.length_cons, List.length_nil, List.replicate_succ, List.replicate_zero, Nat.reduceAdd, Nat.reduceSub, List.getElem?_cons_zero, List.getElem?_cons_succ, List.set_cons_zero, List.set_cons_succ, Nat.zero_add, Nat.add_zero, Nat.sub_self, x_add, x_sub, x_mulL, x_mulR, x_div, x_mod, x_lt, x_le, x_gt, x_ge, x_eq, x_ne, x_fro, x_step, x_first, x_last, x_on, x_l0, x_l1, x_l2, x_l3, x_l4, x_t0, x_t1, x_t2, x_t3, x_t4, x_intB, x_intI, x_max2, x_min2, x_lenL, x_lenT, x_sz, x_rs, x_rw, x_rf, x_ra, x_rl, x_slot, x_slotD, true_and, and_true, eq_self, decide_eq_true_eq, Bool.not_eq_true', decide_eq_false_iff_not, res_ok, res_er, x_rng1, x_rng1D, x_rng2, x_rng2E, x_rng2D, z_s, z_w, z_f, z_a, z_l, Bool.and_eq_true, if_true, if_false, Bool.false_eq_true, reduceCtorEq, decide_true, decide_false, Bool.not_true, Bool.not_false, Bool.true_eq_false, not_true_eq_false, not_false_eq_true, y_built]
  exact h
theorem s3 {K : PySem.W.Frag} {k : Kn} {r : Ru} (h : ∀ l u b, Fk l u → k.nx (ev K r (.val (fD l u b)) .un .un .un .un .un .un .un .un)) : c3 K (ev K r .un .un .un .un .un .un .un .un .un) k := by
  unfold c3 ev
  simp (maxSteps := 10000000) (disch := first | assumption | omega) only [dDef, dRet, dRetL, dSeq, dIfS, dTst, dNotB, dAndB, dOrB, dAndV, dOrV, dNotV, dNeg, dIf, dCB, dCBL, dCons, dNil, dStar, dVar, dC, dCall, dOp, dOpL, dTup, dLst, dL, dSet, dAsg, dPar, dOwn, dExpr, dNx, dFor, dItL, dItT, dProp, dMeth, dMk, dMk0, dRaise, dPart, dNoPart, dSlL, dSlT, dRevL, dgName, dgTup, dgSets, dOwnIx, dOwnLen, dOwnTup, dApp, dSetI, dRel, relE, dItZip, dItTab, dItEnK, dItEn, dIsS, dJoinG, dSplit, dFmt, dJs, dIsT2, dIndex, dCallS, dYes, wipeE, dXf, dIsX, List.map_cons, List.map_nil, List.cons_append, List.nil_append, List.append_nil, List.length_cons, List.length_nil, List.replicate_succ, List.replicate_zero, Nat.reduceAdd, Nat.reduceSub, List.getElem?_cons_zero, List.getElem?_cons_succ, List.set_cons_zero, List.set_cons_succ, Nat.zero_add, Nat.add_zero, Nat.sub_self, x_add, x_sub, x_mulL, x_mulR, x_div, x_mod, x_lt, x_le, x_gt, x_ge, x_eq, x_ne, x_fro, x_step, x_first, x_last, x_on, x_l0, x_l1, x_l2, x_l3, x_l4, x_t0, x_t1, x_t2, x_t3, x_t4, x_intB, x_intI, x_max2, x_min2, x_lenL, x_lenT, x_sz, x_rs, x_rw, x_rf, x_ra, x_rl, x_slot, x_slotD, true_and, and_true, eq_self, decide_eq_true_eq, Bool.not_eq_true', decide_eq_false_iff_not, res_ok, res_er, x_rng1, x_rng1D, x_rng2, x_rng2E, x_rng2D, z_s, z_w, z_f, z_a, z_l, Bool.and_eq_true, if_true, if_false, Bool.false_eq_true, reduceCtorEq, decide_true, decide_false, Bool.not_true, Bool.not_false, Bool.true_eq_false, not_true_eq_false, not_false_eq_true]
  exact y_l_facts (by decide) (by decide) fun l u b hf _ => h l u b hf
def lawV : Nat → List PV
  | 0 => [.s 1, .s 2, .s 3]
  | 1 => [.w .round, .w .fro, .w .step]
  | 2 => [.f true, .f false]
  | 3 => [.a 0, .a 2, .a 3, .a 4]
  | 4 => [.l true, .l false]
  | _ => []
theorem lawV_ok {k : Nat} {v : PV} (h : v ∈ lawV k) : v.Ok ∧ v.k = k := by
  unfold lawV at h
  split at h <;> simp only [List.mem_cons, List.not_mem_nil, or_false] at h
  · rcases h with rfl | rfl | rfl <;> exact ⟨by simp [PV.Ok], rfl⟩
  · rcases h with rfl | rfl | rfl <;> exact ⟨by simp [PV.Ok], rfl⟩
  · rcases h with rfl | rfl <;> exact ⟨by simp [PV.Ok], rfl⟩
  · rcases h with rfl | rfl | rfl | rfl <;> exact ⟨by simp [PV.Ok], rfl⟩
  · rcases h with rfl | rfl <;> exact ⟨by simp [PV.Ok], rfl⟩
theorem lawV_len {k : Nat} : (lawV k).length ≤ 4 := by
  unfold lawV
  split <;> simp
def valD (k : Nat) : D := .lst ((lawV k).map PV.d)
def valsD : D := .lst [valD 0, valD 1, valD 2, valD 3, valD 4]
def namesD : D := .lst [.str (nmK 0), .str (nmK 1), .str (nmK 2), .str (nmK 3), .str (nmK 4)]
theorem s4 {K : PySem.W.Frag} {k : Kn} {r : Ru} {f : Slot} (h : k.nx (ev K r f (.val valsD) .un .un .un .un .un .un .un)) : c4 K (ev K r f .un .un .un .un .un .un .un .un) k := by
  unfold c4 ev
  simp (maxSteps := 10000000) (disch := first | assumption | omega) only [dDef, dRet, dRetL, dSeq, dIfS, dTst, dNotB, dAndB, dOrB, dAndV, dOrV, dNotV, dNeg, dIf, dCB, dCBL, dCons, dNil, dStar, dVar, dC, dCall, dOp, dOpL, dTup, dLst, dL, dSet, dAsg, dPar, dOwn, dExpr, dNx, dFor, dItL, dItT, dProp, dMeth, dMk, dMk0, dRaise, dPart, dNoPart, dSlL, dSlT, dRevL, dgName, dgTup, dgSets, dOwnIx, dOwnLen, dOwnTup, dApp, dSetI, dRel, relE, dItZip, dItTab, dItEnK, dItEn, dIsS, dJoinG, dSplit, dFmt, dJs, dIsT2, dIndex, dCallS, dYes, wipeE, dXf, dIsX, List.map_cons, List.map_nil, List.cons_append, List.nil_append, List.append_nil, List.length_cons, List.length_nil, List.replicate_succ, List.replicate_zero, Nat.reduceAdd, Nat.reduceSub, List.getElem?_cons_zero, List.getElem?_cons_succ, List.set_cons_zero, List.set_cons_succ, Nat.zero_add, Nat.add_zero, Nat.sub_self, x_add, x_sub, x_mulL, x_mulR, x_div, x_mod, x_lt, x_le, x_gt, x_ge, x_eq, x_ne, x_fro, x_step, x_first, x_last, x_on, x_l0, x_l1, x_l2, x_l3, x_l4, x_t0, x_t1, x_t2, x_t3, x_t4, x_intB, x_intI, x_max2, x_min2, x_lenL, x_lenT, x_sz, x_rs, x_rw, x_rf, x_ra, x_rl, x_slot, x_slotD, true_and, and_true, eq_self, decide_eq_true_eq, Bool.not_eq_true', decide_eq_false_iff_not, res_ok, res_er, x_rng1, x_rng1D, x_rng2, x_rng2E, x_rng2D, z_s, z_w, z_f, z_a, z_l, Bool.and_eq_true, if_true, if_false, Bool.false_eq_true, reduceCtorEq, decide_true, decide_false, Bool.not_true, Bool.not_false, Bool.true_eq_false, not_true_eq_false, not_false_eq_true]
  exact h
theorem s5 {K : PySem.W.Frag} {k : Kn} {r : Ru} {f : Slot} (h : k.nx (ev K r f (.val valsD) (.val namesD) .un .un .un .un .un .un)) : c5 K (ev K r f (.val valsD) .un .un .un .un .un .un .un) k := by
  unfold c5 ev
  simp (maxSteps := 10000000) (disch := first | assumption | omega) only [dDef, dRet, dRetL, dSeq, dIfS, dTst, dNotB, dAndB, dOrB, dAndV, dOrV, dNotV, dNeg, dIf, dCB, dCBL, dCons, dNil, dStar, dVar, dC, dCall, dOp, dOpL, dTup, dLst, dL, dSet, dAsg, dPar, dOwn, dExpr, dNx, dFor, dItL, dItT, dProp, dMeth, dMk, dMk0, dRaise, dPart, dNoPart, dSlL, dSlT, dRevL, dgName, dgTup, dgSets, dOwnIx, dOwnLen, dOwnTup, dApp, dSetI, dRel, relE, dItZip, dItTab, dItEnK, dItEn, dIsS, dJoinG, dSplit, dFmt, dJs, dIsT2, dIndex, dCallS, dYes, wipeE, dXf, dIsX, List.map_cons, List.map_nil, List.cons_append, List.nil_append, List.append_nil, List.length_cons, List.length_nil, List.replicate_succ, List.replicate_zero, Nat.reduceAdd, Nat.reduceSub, List.getElem?_cons_zero, List.getElem?_cons_succ, List.set_cons_zero, List.set_cons_succ, Nat.zero_add, Nat.add_zero, Nat.sub_self, x_add, x_sub, x_mulL, x_mulR, x_div, x_mod, x_lt, x_le, x_gt, x_ge, x_eq, x_ne, x_fro, x_step, x_first, x_last, x_on, x_l0, x_l1, x_l2, x_l3, x_l4, x_t0, x_t1, x_t2, x_t3, x_t4, x_intB, x_intI, x_max2, x_min2, x_lenL, x_lenT, x_sz, x_rs, x_rw, x_rf, x_ra, x_rl, x_slot, x_slotD, true_and, and_true, eq_self, decide_eq_true_eq, Bool.not_eq_true', decide_eq_false_iff_not, res_ok, res_er, x_rng1, x_rng1D, x_rng2, x_rng2E, x_rng2D, z_s, z_w, z_f, z_a, z_l, Bool.and_eq_true, if_true, if_false, Bool.false_eq_true, reduceCtorEq, decide_true, decide_false, Bool.not_true, Bool.not_false, Bool.true_eq_false, not_true_eq_false, not_false_eq_true]
  exact h
theorem s6 {K : PySem.W.Frag} {k : Kn} {r : Ru} {f g h' : Slot} (h : k.nx (ev K r f g h' (.own []) .un .un .un .un .un)) : c6 K (ev K r f g h' .un .un .un .un .un .un) k := by
  unfold c6 ev
  simp (maxSteps := 10000000) (disch := first | assumption | omega) only [dDef, dRet, dRetL, dSeq, dIfS, dTst, dNotB, dAndB, dOrB, dAndV, dOrV, dNotV, dNeg, dIf, dCB, dCBL, dCons, dNil, dStar, dVar, dC, dCall, dOp, dOpL, dTup, dLst, dL, dSet, dAsg, dPar, dOwn, dExpr, dNx, dFor, dItL, dItT, dProp, dMeth, dMk, dMk0, dRaise, dPart, dNoPart, dSlL, dSlT, dRevL, dgName, dgTup, dgSets, dOwnIx, dOwnLen, dOwnTup, dApp, dSetI, dRel, relE, dItZip, dItTab, dItEnK, dItEn, dIsS, dJoinG, dSplit, dFmt, dJs, dIsT2, dIndex, dCallS, dYes, wipeE, dXf, dIsX, List.map_cons, List.map_nil, List.cons_append, List.nil_append, List.append_nil, List.length_cons, List.length_nil, List.replicate_succ, List.replicate_zero, Nat.reduceAdd, Nat.reduceSub, List.getElem?_cons_zero, List.getElem?_cons_succ, List.set_cons_zero, List.set_cons_succ, Nat.zero_add, Nat.add_zero, Nat.sub_self, x_add, x_sub, x_mulL, x_mulR, x_div, x_mod, x_lt, x_le, x_gt, x_ge, x_eq, x_ne, x_fro, x_step, x_first, x_last, x_on, x_l0, x_l1, x_l2, x_l3, x_l4, x_t0, x_t1, x_t2, x_t3, x_t4, x_intB, x_intI, x_max2, x_min2, x_lenL, x_lenT, x_sz, x_rs, x_rw, x_rf, x_ra, x_rl, x_slot, x_slotD, true_and, and_true, eq_self, decide_eq_true_eq, Bool.not_eq_true', decide_eq_false_iff_not, res_ok, res_er, x_rng1, x_rng1D, x_rng2, x_rng2E, x_rng2D, z_s, z_w, z_f, z_a, z_l, Bool.and_eq_true, if_true, if_false, Bool.false_eq_true, reduceCtorEq, decide_true, decide_false, Bool.not_true, Bool.not_false, Bool.true_eq_false, not_true_eq_false, not_false_eq_true]
  exact h
def lawB (r : Ru) (l u : Int) (b : Bool) (k : Nat) : Bool := ((lawV k).map fun v => (unlN r (v.upd r) l u b).isNone).all id
theorem lawB_need {r : Ru} {l u : Int} {b : Bool} {k : Nat} : lawB r l u b k = needB r l u b k := by
  unfold lawB needB lawV progV
  split <;> simp [Bool.and_comm, Bool.and_left_comm]
theorem ix_vals {k : Nat} {Q : D → Prop} (h : k < 5) : gIx valsD (.int k) Q = Q (valD k) := by
  match k, h with
  | 0, _ => exact x_l0
  | 1, _ => exact x_l1
  | 2, _ => exact x_l2
  | 3, _ => exact x_l3
  | 4, _ => exact x_l4
theorem ix_names {k : Nat} {Q : D → Prop} (h : k < 5) : gIx namesD (.int k) Q = Q (.str (nmK k)) := by
  match k, h with
  | 0, _ => exact x_l0
  | 1, _ => exact x_l1
  | 2, _ => exact x_l2
  | 3, _ => exact x_l3
  | 4, _ => exact x_l4
theorem built_ok {K : PySem.W.Frag} {r : Ru} {v : PV} {e3 e4 e5 e6 e7 e9 e11 e12 : Slot} {Q : D → Prop} (hr : r.Ok) (hv : v.Ok) (q : Q (rd K (v.upd r))) : dCall 1 (F_l_built K) (dCons (dOp gAddU (dOp gAddU (dL (dSlL (dVar 2) dNoPart (dPart (dVar 8)))) (dL (dLst (dCons (dVar 10) dNil)))) (dL (dSlL (dVar 2) (dPart (dOp gAddU (dVar 8) (dC (.int 1)))) dNoPart))) dNil) [.un, .val .vol, .val (rl r), e3, e4, e5, e6, e7, .val (.int v.k), e9, .val v.d, e11, e12] Q FX := by
  have fin : F_l_built K [rl (v.upd r)] Q FX := by rw [y_built (upd_ok hr hv)]; exact q
  cases v <;>
  · simp (maxSteps := 10000000) (disch := first | assumption | omega) only [dDef, dRet, dRetL, dSeq, dIfS, dTst, dNotB, dAndB, dOrB, dAndV, dOrV, dNotV, dNeg, dIf, dCB, dCBL, dCons, dNil, dStar, dVar, dC, dCall, dOp, dOpL, dTup, dLst, dL, dSet, dAsg, dPar, dOwn, dExpr, dNx, dFor, dItL, dItT, dProp, dMeth, dMk, dMk0, dRaise, dPart, dNoPart, dSlL, dSlT, dRevL, dgName, dgTup, dgSets, dOwnIx, dOwnLen, dOwnTup, dApp, dSetI, dRel, relE, dItZip, dItTab, dItEnK, dItEn, dIsS, dJoinG, dSplit, dFmt, dJs, dIsT2, dIndex, dCallS, dYes, wipeE, dXf, dIsX, List.map_cons, List.map_nil, List.cons_append, List.nil_append, List.append_nil, List.length_cons, List.length_nil, List.replicate_succ, List.replicate_zero, Nat.reduceAdd, Nat.reduceSub, List.getElem?_cons_zero, List.getElem?_cons_succ, List.set_cons_zero, List.set_cons_succ, Nat.zero_add, Nat.add_zero, Nat.sub_self, x_add, x_sub, x_mulL, x_mulR, x_div, x_mod, x_lt, x_le, x_gt, x_ge, x_eq, x_ne, x_fro, x_step, x_first, x_last, x_on, x_l0, x_l1, x_l2, x_l3, x_l4, x_t0, x_t1, x_t2, x_t3, x_t4, x_intB, x_intI, x_max2, x_min2, x_lenL, x_lenT, x_sz, x_rs, x_rw, x_rf, x_ra, x_rl, x_slot, x_slotD, true_and, and_true, eq_self, decide_eq_true_eq, Bool.not_eq_true', decide_eq_false_iff_not, res_ok, res_er, x_rng1, x_rng1D, x_rng2, x_rng2E, x_rng2D, z_s, z_w, z_f, z_a, z_l, Bool.and_eq_true, if_true, if_false, Bool.false_eq_true, reduceCtorEq, decide_true, decide_false, Bool.not_true, Bool.not_false, Bool.true_eq_false, not_true_eq_false, not_false_eq_true, rl, PV.k, PV.d, Int.cast_ofNat_Int]
    rw [x_addL (len_le (Nat.le_of_ble_eq_true rfl)), x_addL (len_le (Nat.le_of_ble_eq_true rfl))]
    exact fin
theorem x_isNone {o : Option (Case × Int)} {Q : D → Prop} (q : Q (.bl o.isNone)) : gIsN (unlD o) .non Q := by
  cases o <;> exact q
theorem inner_ok {K : PySem.W.Frag} {kk : Kn} {r : Ru} {n : Nat} {e4 e7 e10 e11 w : Slot} (RC : RuC K) (hr : r.Ok) (hn : n < 5) (hw : nOwn w) (h : ∀ w', nOwn w' → kk.nx [.un, .val .vol, .val (rl r), .val (rd K r), e4, .val valsD, .val namesD, e7, .val (.int n), .val (.lst ((lawV n).map fun v => rd K (v.upd r))), e10, e11, w']) :
    gLen [valD n] (rng1D fun ds => dForL (dgName 12) (dIfS (dNotB (dTst (dOp (gEqO (aR K) (F_eq K)) (dMeth (aR K) 3 (F_Rule_changed K) (dVar 3) (dCons (dOp gIx (dVar 6) (dVar 8)) (dCons (dOp gIx (dOp gIx (dVar 5) (dVar 8)) (dVar 12)) dNil))) (dOp gIx (dVar 9) (dVar 12))))) (dRet (dC (.bl false))) dNx) ds [.un, .val .vol, .val (rl r), .val (rd K r), e4, .val valsD, .val namesD, e7, .val (.int n), .val (.lst ((lawV n).map fun v => rd K (v.upd r))), e10, e11, w] kk) := by
  have hl := lawV_len (k := n)
  unfold valD
  rw [x_lenL, List.length_map, x_rng1D (by omega) (by omega)]
  refine for_list (fun j : Nat => D.int j) (List.range (lawV n).length) (fun pre e => ∃ w, nOwn w ∧ e = [.un, .val .vol, .val (rl r), .val (rd K r), e4, .val valsD, .val namesD, e7, .val (.int n), .val (.lst ((lawV n).map fun v => rd K (v.upd r))), e10, e11, w]) ?_ ⟨w, hw, rfl⟩ ?_ ?_
  · rw [Int.toNat_natCast]
    unfold upto
    rw [List.map_map]
    rfl
  · rintro pre j post hall e N ⟨w, hw, rfl⟩ hN
    have hj : j < (lawV n).length := by
      have : j ∈ List.range (lawV n).length := by rw [hall]; simp
      simpa using this
    obtain ⟨v, hv⟩ : ∃ v, (lawV n)[j]? = some v := ⟨_, List.getElem?_eq_getElem hj⟩
    obtain ⟨vo, vk⟩ := lawV_ok (List.mem_of_getElem? hv)
    have i1 : ∀ {Q : D → Prop}, gIx (valD n) (.int j) Q = Q v.d := fun {Q} => gIx_l (atI_pos (k := j) (by rw [List.getElem?_map, hv]; rfl))
    have i2 : ∀ {Q : D → Prop}, gIx (.lst ((lawV n).map fun v => rd K (v.upd r))) (.int j) Q = Q (rd K (v.upd r)) := fun {Q} => gIx_l (atI_pos (k := j) (by rw [List.getElem?_map, hv]; rfl))
    have hN := hN _ ⟨_, nOwn_val (d := .int j), rfl⟩
    simp (maxSteps := 10000000) (disch := first | assumption | omega) only [dDef, dRet, dRetL, dSeq, dIfS, dTst, dNotB, dAndB, dOrB, dAndV, dOrV, dNotV, dNeg, dIf, dCB, dCBL, dCons, dNil, dStar, dVar, dC, dCall, dOp, dOpL, dTup, dLst, dL, dSet, dAsg, dPar, dOwn, dExpr, dNx, dFor, dItL, dItT, dProp, dMeth, dMk, dMk0, dRaise, dPart, dNoPart, dSlL, dSlT, dRevL, dgName, dgTup, dgSets, dOwnIx, dOwnLen, dOwnTup, dApp, dSetI, dRel, relE, dItZip, dItTab, dItEnK, dItEn, dIsS, dJoinG, dSplit, dFmt, dJs, dIsT2, dIndex, dCallS, dYes, wipeE, dXf, dIsX, List.map_cons, List.map_nil, List.cons_append, List.nil_append, List.append_nil, List.length_cons, List.length_nil, List.replicate_succ, List.replicate_zero, Nat.reduceAdd, Nat.reduceSub, List.getElem?_cons_zero, List.getElem?_cons_succ, List.set_cons_zero, List.set_cons_succ, Nat.zero_add, Nat.add_zero, Nat.sub_self, x_add, x_sub, x_mulL, x_mulR, x_div, x_mod, x_lt, x_le, x_gt, x_ge, x_eq, x_ne, x_fro, x_step, x_first, x_last, x_on, x_l0, x_l1, x_l2, x_l3, x_l4, x_t0, x_t1, x_t2, x_t3, x_t4, x_intB, x_intI, x_max2, x_min2, x_lenL, x_lenT, x_sz, x_rs, x_rw, x_rf, x_ra, x_rl, x_slot, x_slotD, true_and, and_true, eq_self, decide_eq_true_eq, Bool.not_eq_true', decide_eq_false_iff_not, res_ok, res_er, x_rng1, x_rng1D, x_rng2, x_rng2E, x_rng2D, z_s, z_w, z_f, z_a, z_l, Bool.and_eq_true, if_true, if_false, Bool.false_eq_true, reduceCtorEq, decide_true, decide_false, Bool.not_true, Bool.not_false, Bool.true_eq_false, not_true_eq_false, not_false_eq_true, ix_names hn, ix_vals hn, i1, i2]
    refine ⟨rfl, ?_⟩
    subst vk
    refine y_changed hr vo ?_
    refine x_eqR RC ?_
    rw [show deq (.tup (row (v.upd r))) (.tup (row (v.upd r))) = true from by unfold deq; exact deq_same (n := 9) (show dats 8 (row (v.upd r)) = true from dats_row)]
    exact hN
  · rintro e ⟨w, hw, rfl⟩
    exact h w hw
def dueL (r : Ru) (l u : Int) (b : Bool) (ks : List Nat) : List D := (ks.filter (needB r l u b)).map fun k => D.str (nmK k)
theorem s7 {K : PySem.W.Frag} {k : Kn} {r : Ru} {l u : Int} {b : Bool} (RC : RuC K) (hr : r.Ok) (hf : Fk l u) (h : ∀ x y w, nOwn x → nOwn y → nOwn w → k.nx (ev K r (.val (fD l u b)) (.val valsD) (.val namesD) (.own (dueL r l u b (List.range 5))) x y .un .un w)) : c7 K (ev K r (.val (fD l u b)) (.val valsD) (.val namesD) (.own []) .un .un .un .un .un) k := by
  unfold c7 ev
  simp (maxSteps := 10000000) (disch := first | assumption | omega) only [dDef, dRet, dRetL, dSeq, dIfS, dTst, dNotB, dAndB, dOrB, dAndV, dOrV, dNotV, dNeg, dIf, dCB, dCBL, dCons, dNil, dStar, dVar, dC, dCall, dOp, dOpL, dTup, dLst, dL, dSet, dAsg, dPar, dOwn, dExpr, dNx, dFor, dItL, dItT, dProp, dMeth, dMk, dMk0, dRaise, dPart, dNoPart, dSlL, dSlT, dRevL, dgName, dgTup, dgSets, dOwnIx, dOwnLen, dOwnTup, dApp, dSetI, dRel, relE, dItZip, dItTab, dItEnK, dItEn, dIsS, dJoinG, dSplit, dFmt, dJs, dIsT2, dIndex, dCallS, dYes, wipeE, dXf, dIsX, List.map_cons, List.map_nil, List.cons_append, List.nil_append, List.append_nil, List.length_cons, List.length_nil, List.replicate_succ, List.replicate_zero, Nat.reduceAdd, Nat.reduceSub, List.getElem?_cons_zero, List.getElem?_cons_succ, List.set_cons_zero, List.set_cons_succ, Nat.zero_add, Nat.add_zero, Nat.sub_self, x_add, x_sub, x_mulL, x_mulR, x_div, x_mod, x_lt, x_le, x_gt, x_ge, x_eq, x_ne, x_fro, x_step, x_first, x_last, x_on, x_l0, x_l1, x_l2, x_l3, x_l4, x_t0, x_t1, x_t2, x_t3, x_t4, x_intB, x_intI, x_max2, x_min2, x_lenL, x_lenT, x_sz, x_rs, x_rw, x_rf, x_ra, x_rl, x_slot, x_slotD, true_and, and_true, eq_self, decide_eq_true_eq, Bool.not_eq_true', decide_eq_false_iff_not, res_ok, res_er, x_rng1, x_rng1D, x_rng2, x_rng2E, x_rng2D, z_s, z_w, z_f, z_a, z_l, Bool.and_eq_true, if_true, if_false, Bool.false_eq_true, reduceCtorEq, decide_true, decide_false, Bool.not_true, Bool.not_false, Bool.true_eq_false, not_true_eq_false, not_false_eq_true]
  refine for_list (fun k : Nat => D.int k) (List.range 5) (fun pre e => ∃ x y w, nOwn x ∧ nOwn y ∧ nOwn w ∧ e = ev K r (.val (fD l u b)) (.val valsD) (.val namesD) (.own (dueL r l u b pre)) x y .un .un w) rfl ⟨_, _, _, nOwn_un, nOwn_un, nOwn_un, rfl⟩ ?_ ?_
  · rintro pre n post hall e N ⟨x, y, w, hx, hy, hw, rfl⟩ hN
    have hn : n < 5 := by
      have : n ∈ List.range 5 := by rw [hall]; simp
      simpa using this
    have hlen : (dueL r l u b pre).length < sizeLine := by
      have h1 := congrArg List.length hall
      rw [List.length_append, List.length_cons, List.length_range] at h1
      have h2 := List.length_filter_le (needB r l u b) pre
      unfold dueL
      rw [List.length_map]
      exact Nat.lt_of_lt_of_le (m := 6) (by omega) (by decide)
    have hN : ∀ w, nOwn w → N (ev K r (.val (fD l u b)) (.val valsD) (.val namesD) (.own (dueL r l u b pre ++ if needB r l u b n = true then [.str (nmK n)] else [])) (.val (.int n)) (.val (.lst ((lawV n).map fun v => rd K (v.upd r)))) .un .un w) := fun w hw => hN _ ⟨_, _, w, nOwn_val, nOwn_val, hw, by
      unfold dueL
      rw [List.filter_append, List.map_append, List.filter_cons, List.filter_nil]
      cases needB r l u b n <;> rfl⟩
    generalize dueL r l u b pre = du at hlen hN ⊢
    unfold ev at hN ⊢
    simp (maxSteps := 10000000) (disch := first | assumption | omega) only [dDef, dRet, dRetL, dSeq, dIfS, dTst, dNotB, dAndB, dOrB, dAndV, dOrV, dNotV, dNeg, dIf, dCB, dCBL, dCons, dNil, dStar, dVar, dC, dCall, dOp, dOpL, dTup, dLst, dL, dSet, dAsg, dPar, dOwn, dExpr, dNx, dFor, dItL, dItT, dProp, dMeth, dMk, dMk0, dRaise, dPart, dNoPart, dSlL, dSlT, dRevL, dgName, dgTup, dgSets, dOwnIx, dOwnLen, dOwnTup, dApp, dSetI, dRel, relE, dItZip, dItTab, dItEnK, dItEn, dIsS, dJoinG, dSplit, dFmt, dJs, dIsT2, dIndex, dCallS, dYes, wipeE, dXf, dIsX, List.map_cons, List.map_nil, List.cons_append, List.nil_append, List.append_nil, List.length_cons, List.length_nil, List.replicate_succ, List.replicate_zero, Nat.reduceAdd, Nat.reduceSub, List.getElem?_cons_zero, List.getElem?_cons_succ, List.set_cons_zero, List.set_cons_succ, Nat.zero_add, Nat.add_zero, Nat.sub_self, x_add, x_sub, x_mulL, x_mulR, x_div, x_mod, x_lt, x_le, x_gt, x_ge, x_eq, x_ne, x_fro, x_step, x_first, x_last, x_on, x_l0, x_l1, x_l2, x_l3, x_l4, x_t0, x_t1, x_t2, x_t3, x_t4, x_intB, x_intI, x_max2, x_min2, x_lenL, x_lenT, x_sz, x_rs, x_rw, x_rf, x_ra, x_rl, x_slot, x_slotD, true_and, and_true, eq_self, decide_eq_true_eq, Bool.not_eq_true', decide_eq_false_iff_not, res_ok, res_er, x_rng1, x_rng1D, x_rng2, x_rng2E, x_rng2D, z_s, z_w, z_f, z_a, z_l, Bool.and_eq_true, if_true, if_false, Bool.false_eq_true, reduceCtorEq, decide_true, decide_false, Bool.not_true, Bool.not_false, Bool.true_eq_false, not_true_eq_false, not_false_eq_true, ix_vals hn, dLc]
    show dLcL _ _ _ _ ((lawV n).map PV.d) _ _
    refine lc_map (xs := lawV n) PV.d (fun v => rd K (v.upd r)) rfl (len_le (Nat.le_trans lawV_len (by decide))) (fun v hv Q1 hh => ?_) ?_
    · obtain ⟨vo, rfl⟩ := lawV_ok hv
      exact built_ok hr vo hh
    · refine lc_map (xs := lawV n) (fun v => rd K (v.upd r)) (fun v => .bl (unlN r (v.upd r) l u b).isNone) rfl (len_le (Nat.le_trans lawV_len (by decide))) (fun v hv Q1 hh => ?_) ?_
      · obtain ⟨vo, rfl⟩ := lawV_ok hv
        simp (maxSteps := 10000000) (disch := first | assumption | omega) only [dDef, dRet, dRetL, dSeq, dIfS, dTst, dNotB, dAndB, dOrB, dAndV, dOrV, dNotV, dNeg, dIf, dCB, dCBL, dCons, dNil, dStar, dVar, dC, dCall, dOp, dOpL, dTup, dLst, dL, dSet, dAsg, dPar, dOwn, dExpr, dNx, dFor, dItL, dItT, dProp, dMeth, dMk, dMk0, dRaise, dPart, dNoPart, dSlL, dSlT, dRevL, dgName, dgTup, dgSets, dOwnIx, dOwnLen, dOwnTup, dApp, dSetI, dRel, relE, dItZip, dItTab, dItEnK, dItEn, dIsS, dJoinG, dSplit, dFmt, dJs, dIsT2, dIndex, dCallS, dYes, wipeE, dXf, dIsX, List.map_cons, List.map_nil, List.cons_append, List.nil_append, List.append_nil, List.length_cons, List.length_nil, List.replicate_succ, List.replicate_zero, Nat.reduceAdd, Nat.reduceSub, List.getElem?_cons_zero, List.getElem?_cons_succ, List.set_cons_zero, List.set_cons_succ, Nat.zero_add, Nat.add_zero, Nat.sub_self, x_add, x_sub, x_mulL, x_mulR, x_div, x_mod, x_lt, x_le, x_gt, x_ge, x_eq, x_ne, x_fro, x_step, x_first, x_last, x_on, x_l0, x_l1, x_l2, x_l3, x_l4, x_t0, x_t1, x_t2, x_t3, x_t4, x_intB, x_intI, x_max2, x_min2, x_lenL, x_lenT, x_sz, x_rs, x_rw, x_rf, x_ra, x_rl, x_slot, x_slotD, true_and, and_true, eq_self, decide_eq_true_eq, Bool.not_eq_true', decide_eq_false_iff_not, res_ok, res_er, x_rng1, x_rng1D, x_rng2, x_rng2E, x_rng2D, z_s, z_w, z_f, z_a, z_l, Bool.and_eq_true, if_true, if_false, Bool.false_eq_true, reduceCtorEq, decide_true, decide_false, Bool.not_true, Bool.not_false, Bool.true_eq_false, not_true_eq_false, not_false_eq_true]
        exact y_alike RC hr (upd_ok hr vo) hf hh
      · rw [show ((lawV n).map fun v => D.bl (unlN r (v.upd r) l u b).isNone) = (((lawV n).map fun v => (unlN r (v.upd r) l u b).isNone).map D.bl) by rw [List.map_map]; rfl, x_all]
        rw [show ((lawV n).map fun v => (unlN r (v.upd r) l u b).isNone).all id = needB r l u b n from lawB_need]
        cases hb : needB r l u b n with
        | true =>
          rw [hb] at hN
          simp only [if_true]
          rw [ix_names hn]
          exact ⟨hlen, inner_ok RC hr hn hw fun w hw => hN w hw⟩
        | false =>
          rw [hb, if_neg (by simp), List.append_nil] at hN
          simp only [Bool.false_eq_true, if_false]
          exact inner_ok RC hr hn hw fun w hw => hN w hw
  · rintro e ⟨x, y, w, hx, hy, hw, rfl⟩
    exact h x y w hx hy hw
theorem y_needless {K : PySem.W.Frag} {r : Ru} {l u : Int} {b : Bool} {Q : D → Prop} {R : DX} (RC : RuC K) (hr : r.Ok) (hf : Fk l u) (z : Q (.lst ((needL r l u b).map D.str))) : F_needless K [rd K r, fD l u b] Q R := ⟨RC, .inl ⟨r, l, u, b, hr, hf, rfl, z⟩⟩
theorem dat_needL {r : Ru} {l u : Int} {b : Bool} : dat 9 (.lst ((needL r l u b).map D.str)) = true := by
  refine dat_lst fun d hd => ?_
  obtain ⟨s, hs, rfl⟩ := List.mem_map.mp hd
  unfold needL at hs
  obtain ⟨k, hk, rfl⟩ := List.mem_map.mp hs
  have : k ∈ ordK := (List.mem_filter.mp hk).1
  have all : ∀ k ∈ ordK, PyData.strOk (nmK k) = true := by decide +kernel
  exact dat_str (all k this)
theorem s8 {K : PySem.W.Frag} {k : Kn} {r : Ru} {l u : Int} {b : Bool} {x y w : Slot} (RC : RuC K) (hr : r.Ok) (hf : Fk l u) (hx : nOwn x) (hy : nOwn y) (hw : nOwn w) (h : k.rt (.bl true)) : c8 K (ev K r (.val (fD l u b)) (.val valsD) (.val namesD) (.own (dueL r l u b (List.range 5))) x y .un .un w) k := by
  unfold c8 ev
  simp (maxSteps := 10000000) (disch := first | assumption | omega) only [dDef, dRet, dRetL, dSeq, dIfS, dTst, dNotB, dAndB, dOrB, dAndV, dOrV, dNotV, dNeg, dIf, dCB, dCBL, dCons, dNil, dStar, dVar, dC, dCall, dOp, dOpL, dTup, dLst, dL, dSet, dAsg, dPar, dOwn, dExpr, dNx, dFor, dItL, dItT, dProp, dMeth, dMk, dMk0, dRaise, dPart, dNoPart, dSlL, dSlT, dRevL, dgName, dgTup, dgSets, dOwnIx, dOwnLen, dOwnTup, dApp, dSetI, dRel, relE, dItZip, dItTab, dItEnK, dItEn, dIsS, dJoinG, dSplit, dFmt, dJs, dIsT2, dIndex, dCallS, dYes, wipeE, dXf, dIsX, List.map_cons, List.map_nil, List.cons_append, List.nil_append, List.append_nil, List.length_cons, List.length_nil, List.replicate_succ, List.replicate_zero, Nat.reduceAdd, Nat.reduceSub, List.getElem?_cons_zero, List.getElem?_cons_succ, List.set_cons_zero, List.set_cons_succ, Nat.zero_add, Nat.add_zero, Nat.sub_self, x_add, x_sub, x_mulL, x_mulR, x_div, x_mod, x_lt, x_le, x_gt, x_ge, x_eq, x_ne, x_fro, x_step, x_first, x_last, x_on, x_l0, x_l1, x_l2, x_l3, x_l4, x_t0, x_t1, x_t2, x_t3, x_t4, x_intB, x_intI, x_max2, x_min2, x_lenL, x_lenT, x_sz, x_rs, x_rw, x_rf, x_ra, x_rl, x_slot, x_slotD, true_and, and_true, eq_self, decide_eq_true_eq, Bool.not_eq_true', decide_eq_false_iff_not, res_ok, res_er, x_rng1, x_rng1D, x_rng2, x_rng2E, x_rng2D, z_s, z_w, z_f, z_a, z_l, Bool.and_eq_true, if_true, if_false, Bool.false_eq_true, reduceCtorEq, decide_true, decide_false, Bool.not_true, Bool.not_false, Bool.true_eq_false, not_true_eq_false, not_false_eq_true, gSortS]
  refine ⟨by simp only [noOwnB, hx, hy, hw, Nat.zero_add, decide_true, Bool.true_and, Nat.reduceAdd], ?_⟩
  refine y_needless RC hr hf ?_
  refine ⟨((List.range 5).filter (needB r l u b)).map nmK, by unfold dueL; rw [List.map_map]; rfl, ?_, fun ys hp hs => ?_⟩
  · rw [List.length_map]
    exact Nat.lt_of_le_of_lt (List.length_filter_le _ _) (by decide)
  · have hperm : ([3, 2, 4, 0, 1] : List Nat).Perm (List.range 5) := by decide
    have e : ys = needL r l u b := by
      refine sorted_one (hp.trans (List.Perm.map nmK (hperm.symm.filter _))) (sortedS_pw hs) ?_
      have := sortedS_pw ord_sorted
      exact this.sublist (List.Sublist.map nmK List.filter_sublist)
    rw [e, x_eqS dat_needL]
    exact h
theorem law_ok {K : PySem.W.Frag} (RC : RuC K) : g_law K (lawEnv 11) lawK := by
  unfold g_law
  refine seq' (s1 (K := K) fun r hr => ?_)
  refine seq' (s2 (K := K) hr ?_)
  refine seq' (s3 (K := K) fun l u b hf => ?_)
  refine seq' (s4 (K := K) ?_)
  refine seq' (s5 (K := K) ?_)
  refine seq' (s6 (K := K) ?_)
  refine seq' (s7 (K := K) RC hr hf fun x y w hx hy hw => ?_)
  exact s8 RC hr hf hx hy hw rfl
end K06

set_option maxHeartbeats 4000000
namespace K06
open PySem PySem.Spec PyProof.Rows L2 Dl Dv Dk Gx Pr
def top (i : Nat) : Stmt := PySem.Challenge.pw_dealtround_k06_whole_needless_points.main.body.getD i (.Pass ⟨0, 0, 0, 0⟩)
def mem (s : Stmt) (j : Nat) : Stmt := match s with
  | .ClassDef (body := b) .. => b.getD j (.Pass ⟨0, 0, 0, 0⟩)
  | _ => .Pass ⟨0, 0, 0, 0⟩
abbrev FnP (K : PySem.W.Frag) (x q : Str) (st : Stmt) (f : Addr) (fd : FuncData) : Prop := FunD K x q (defArgs st) (defBody st) (defScope st) [] [] f fd
structure Mg (K : PySem.W.Frag) (mg : Str → Option Value) : Prop where
  b_all : mg "all" = none
  b_bool : mg "bool" = none
  b_int : mg "int" = none
  b_isinstance : mg "isinstance" = none
  b_len : mg "len" = none
  b_list : mg "list" = none
  b_max : mg "max" = none
  b_min : mg "min" = none
  b_range : mg "range" = none
  b_sorted : mg "sorted" = none
  b_str : mg "str" = none
  b_tuple : mg "tuple" = none
  b_zip : mg "zip" = none
  c_LEAST_PEOPLE : ∃ t, mg "LEAST_PEOPLE" = some (.int 2 t)
  c_MOST_PEOPLE : ∃ t, mg "MOST_PEOPLE" = some (.int 12 t)
  c_POINTS : mg "POINTS" = some (.ref (aP K))
  c_Rule : mg "Rule" = some (.ref (aR K))
section
variable {P : Program} {w : World} {K : PySem.W.Frag} {mg : Str → Option Value} {base : Heap}
theorem sc_InvalidPointU_initU : FnScope ["self", "point"] ["self", "point"] (defScope (mem (top 3) 0)) := ⟨rfl, rfl, rfl, by decide +kernel, rfl, by decide +kernel, by decide +kernel⟩
theorem ok_InvalidPointU_initU {f : Addr} {fd : FuncData} (FD : FnP K "__init__" "InvalidPoint.__init__" (mem (top 3) 0) f fd) (T : OexC K (He.ga K "InvalidPoint")) (hno0 : PySem.W.findIn K (.ref (He.ga K "InvalidPoint")) "point" = some none) : FnOk P w K mg base (L2.CX P w) 1 f fd ["self", "point"] (spX (He.ga K "InvalidPoint") ["point"]) :=
  initX1 FD sc_InvalidPointU_initU T hno0 fun cdv A outer s H E => ps_ost (pe 0) (pe 1)
theorem sc_is_integer : FnScope ["value", "least"] ["value", "least"] (defScope (top 12)) := ⟨rfl, rfl, rfl, by decide +kernel, rfl, by decide +kernel, by decide +kernel⟩
theorem ok_is_integer {f : Addr} {fd : FuncData} (FD : FnP K "is_integer" "is_integer" (top 12) f fd) (M : Mg K mg) : FnOk P w K mg base (L2.CX P w) 1 f fd ["value", "least"] (spD K 2 (dDef 2 g_is_integer)) :=
  Dh.okD FD sc_is_integer fun cdv A outer s H E c => have hN := sc_is_integer.nd; (dss_one (ds_ret (pd_and (bIsi "int" M.b_isinstance (pda_cons (pv 0) (pda_cons (pT "int" M.b_int) pda_nil))) (pd_and (pd_not (bIsi "bool" M.b_isinstance (pda_cons (pv 0) (pda_cons (pT "bool" M.b_bool) pda_nil)))) (pd_one (cGe (pv 0) (pv 1)))))))
theorem sc_is_within : FnScope ["value", "least", "most"] ["value", "least", "most"] (defScope (top 13)) := ⟨rfl, rfl, rfl, by decide +kernel, rfl, by decide +kernel, by decide +kernel⟩
theorem ok_is_within {f : Addr} {fd : FuncData} (FD : FnP K "is_within" "is_within" (top 13) f fd) (M : Mg K mg) (C_is_integer : Cal P w K mg base 1 "is_integer" 2 F_is_integer) : FnOk P w K mg base (L2.CX P w) 2 f fd ["value", "least", "most"] (spD K 3 (dDef 3 g_is_within)) :=
  Dh.okD FD sc_is_within fun cdv A outer s H E c => have hN := sc_is_within.nd; (dss_one (ds_ret (pd_and (call c C_is_integer (pda_cons (pv 0) (pda_cons (pv 1) pda_nil))) (pd_one (cLe (pv 0) (pv 2))))))
theorem sc_is_one_of : FnScope ["value", "some"] ["value", "some"] (defScope (top 14)) := ⟨rfl, rfl, rfl, by decide +kernel, rfl, by decide +kernel, by decide +kernel⟩
theorem ok_is_one_of {f : Addr} {fd : FuncData} (FD : FnP K "is_one_of" "is_one_of" (top 14) f fd) (M : Mg K mg) (C_is_integer : Cal P w K mg base 1 "is_integer" 2 F_is_integer) : FnOk P w K mg base (L2.CX P w) 2 f fd ["value", "some"] (spD K 2 (dDef 2 g_is_one_of)) :=
  Dh.okD FD sc_is_one_of fun cdv A outer s H E c => have hN := sc_is_one_of.nd; (dss_cons (ds_if (pdb_val (bIsi "str" M.b_isinstance (pda_cons (pv 0) (pda_cons (pT "str" M.b_str) pda_nil)))) (dss_one (ds_ret (cIn (pv 0) (pv 1)))) dss_nil)
  (dss_one (ds_ret (pd_and (call c C_is_integer (pda_cons (pv 0) (pda_cons pd_int pda_nil))) (pd_one (cIn (pv 0) (pv 1)))))))
theorem sc_RuleU_initU : FnScope ["self", "size", "way", "first", "aside", "later", "found", "point", "own"] ["self", "size", "way", "first", "aside", "later"] (defScope (mem (top 15) 1)) := ⟨rfl, rfl, rfl, by decide +kernel, rfl, by decide +kernel, by decide +kernel⟩
theorem ok_Rule_init {f : Addr} {fd : FuncData} (FD : FnP K "__init__" "Rule.__init__" (mem (top 15) 1) f fd) (M : Mg K mg) (C_is_one_of : Cal P w K mg base 2 "is_one_of" 2 F_is_one_of) {nT : Nat} (T_POINTS : KTab K w (aP K) ks_POINTS nT) (TV_POINTS : TabV K w (aP K) kvs_POINTS)
    (RC : RuC K) {qR : Addr} (RCS : SlX.Slot1 K (aR K) "row" qR 0) (XI_InvalidPoint : XI P w K mg base 1 "InvalidPoint" (He.ga K "InvalidPoint") ["point"]) : FnOk P w K mg base (L2.CX P w) 3 f fd ["self", "size", "way", "first", "aside", "later"] (spI K (aR K) 5 (F_Rule K)) :=
  initOk (s1 := (defBody (mem (top 15) 1)).getD 0 (.Pass ⟨0, 0, 0, 0⟩)) (s2 := (defBody (mem (top 15) 1)).getD 1 (.Pass ⟨0, 0, 0, 0⟩)) (s3 := (defBody (mem (top 15) 1)).getD 2 (.Pass ⟨0, 0, 0, 0⟩)) FD sc_RuleU_initU rfl RC.sc RCS (fun cdv A outer s H E c => have hN := sc_RuleU_initU.nd; ⟨sSet 6 (pd_tup (pda_cons (pv 1) (pda_cons (pv 2) (pda_cons (pv 3) (pda_cons (pv 4) (pda_cons (pv 5) pda_nil)))))),
    sFor c (pdi_tabZ T_POINTS rfl M.b_zip (pda_cons (pR M.c_POINTS) (pda_cons (pv 6) pda_nil))) (pg_tup c.hc (pgs_cons (gN 7) (pgs_cons (gN 8) pgs_nil))) (tg_tup (is := [7, 8])) (dss_one (ds_if (pdb_not (pdb_val (call c C_is_one_of (pda_cons (pv 8) (pda_cons (pd_tabIx TV_POINTS (pR M.c_POINTS) (pv 7)) pda_nil))))) (dss_one (sRaise c (XI.mk' XI_InvalidPoint (c.hr.mono (by decide)) (pda_cons (pv 7) pda_nil)))) dss_nil)),
    SlX.ps_sl (pe 0) (pe 6)⟩) (init_F K)
theorem sc_Rule_size : FnScope ["self"] ["self"] (defScope (mem (top 15) 2)) := ⟨rfl, rfl, rfl, by decide +kernel, rfl, by decide +kernel, by decide +kernel⟩
theorem ok_Rule_size {f : Addr} {fd : FuncData} (FD : FnP K "size" "Rule.size" (mem (top 15) 2) f fd) (M : Mg K mg) (RC : RuC K) {qR : Addr} (RCS : SlX.Slot1 K (aR K) "row" qR 0) : FnOk P w K mg base (L2.CX P w) 1 f fd ["self"] (spD K 1 (dDef 1 (g_prop K 0))) :=
  Dh.okD FD sc_Rule_size fun cdv A outer s H E c => have hN := sc_Rule_size.nd; (dss_one (ds_ret (pd_ix (pd_slot (pv 0) RC.sc RCS) pd_int)))
theorem sc_Rule_way : FnScope ["self"] ["self"] (defScope (mem (top 15) 3)) := ⟨rfl, rfl, rfl, by decide +kernel, rfl, by decide +kernel, by decide +kernel⟩
theorem ok_Rule_way {f : Addr} {fd : FuncData} (FD : FnP K "way" "Rule.way" (mem (top 15) 3) f fd) (M : Mg K mg) (RC : RuC K) {qR : Addr} (RCS : SlX.Slot1 K (aR K) "row" qR 0) : FnOk P w K mg base (L2.CX P w) 1 f fd ["self"] (spD K 1 (dDef 1 (g_prop K 1))) :=
  Dh.okD FD sc_Rule_way fun cdv A outer s H E c => have hN := sc_Rule_way.nd; (dss_one (ds_ret (pd_ix (pd_slot (pv 0) RC.sc RCS) pd_int)))
theorem sc_Rule_first : FnScope ["self"] ["self"] (defScope (mem (top 15) 4)) := ⟨rfl, rfl, rfl, by decide +kernel, rfl, by decide +kernel, by decide +kernel⟩
theorem ok_Rule_first {f : Addr} {fd : FuncData} (FD : FnP K "first" "Rule.first" (mem (top 15) 4) f fd) (M : Mg K mg) (RC : RuC K) {qR : Addr} (RCS : SlX.Slot1 K (aR K) "row" qR 0) : FnOk P w K mg base (L2.CX P w) 1 f fd ["self"] (spD K 1 (dDef 1 (g_prop K 2))) :=
  Dh.okD FD sc_Rule_first fun cdv A outer s H E c => have hN := sc_Rule_first.nd; (dss_one (ds_ret (pd_ix (pd_slot (pv 0) RC.sc RCS) pd_int)))
theorem sc_Rule_aside : FnScope ["self"] ["self"] (defScope (mem (top 15) 5)) := ⟨rfl, rfl, rfl, by decide +kernel, rfl, by decide +kernel, by decide +kernel⟩
theorem ok_Rule_aside {f : Addr} {fd : FuncData} (FD : FnP K "aside" "Rule.aside" (mem (top 15) 5) f fd) (M : Mg K mg) (RC : RuC K) {qR : Addr} (RCS : SlX.Slot1 K (aR K) "row" qR 0) : FnOk P w K mg base (L2.CX P w) 1 f fd ["self"] (spD K 1 (dDef 1 (g_prop K 3))) :=
  Dh.okD FD sc_Rule_aside fun cdv A outer s H E c => have hN := sc_Rule_aside.nd; (dss_one (ds_ret (pd_ix (pd_slot (pv 0) RC.sc RCS) pd_int)))
theorem sc_Rule_later : FnScope ["self"] ["self"] (defScope (mem (top 15) 6)) := ⟨rfl, rfl, rfl, by decide +kernel, rfl, by decide +kernel, by decide +kernel⟩
theorem ok_Rule_later {f : Addr} {fd : FuncData} (FD : FnP K "later" "Rule.later" (mem (top 15) 6) f fd) (M : Mg K mg) (RC : RuC K) {qR : Addr} (RCS : SlX.Slot1 K (aR K) "row" qR 0) : FnOk P w K mg base (L2.CX P w) 1 f fd ["self"] (spD K 1 (dDef 1 (g_prop K 4))) :=
  Dh.okD FD sc_Rule_later fun cdv A outer s H E c => have hN := sc_Rule_later.nd; (dss_one (ds_ret (pd_ix (pd_slot (pv 0) RC.sc RCS) pd_int)))
theorem sc_RuleU_eqU : FnScope ["self", "other"] ["self", "other"] (defScope (mem (top 15) 8)) := ⟨rfl, rfl, rfl, by decide +kernel, rfl, by decide +kernel, by decide +kernel⟩
theorem ok_RuleU_eqU {f : Addr} {fd : FuncData} (FD : FnP K "__eq__" "Rule.__eq__" (mem (top 15) 8) f fd) (M : Mg K mg) (RC : RuC K) {qR : Addr} (RCS : SlX.Slot1 K (aR K) "row" qR 0) : FnOk P w K mg base (L2.CX P w) 1 f fd ["self", "other"] (spD K 2 (dDef 2 (g_eq K))) :=
  Dh.okD FD sc_RuleU_eqU fun cdv A outer s H E c => have hN := sc_RuleU_eqU.nd; (dss_one (ds_ret (pd_and (bIsC M.b_isinstance (pda_cons (pv 1) (pda_cons (pR M.c_Rule) pda_nil))) (pd_one (cEq c (pd_slot (pv 0) RC.sc RCS) (pd_slot (pv 1) RC.sc RCS))))))
theorem sc_Rule_changed : FnScope ["self", "point", "value", "names", "place", "row"] ["self", "point", "value"] (defScope (mem (top 15) 9)) := ⟨rfl, rfl, rfl, by decide +kernel, rfl, by decide +kernel, by decide +kernel⟩
theorem ok_Rule_changed {f : Addr} {fd : FuncData} (FD : FnP K "changed" "Rule.changed" (mem (top 15) 9) f fd) (M : Mg K mg) (C_Rule : MkC P w K mg base 3 "Rule" (aR K) 5 (F_Rule K)) {nT : Nat} (T_POINTS : KTab K w (aP K) ks_POINTS nT) (RC : RuC K) {qR : Addr} (RCS : SlX.Slot1 K (aR K) "row" qR 0) (XI_InvalidPoint : XI P w K mg base 1 "InvalidPoint" (He.ga K "InvalidPoint") ["point"]) : FnOk P w K mg base (L2.CX P w) 5 f fd ["self", "point", "value"] (spD K 3 (dDef 6 (g_Rule_changed K))) :=
  Dh.okD FD sc_Rule_changed fun cdv A outer s H E c => have hN := sc_Rule_changed.nd; (dss_cons (sSet 3 (PDL.pd (bTabL c T_POINTS (by decide) M.b_list (pR M.c_POINTS))))
  (dss_cons (ds_if (pdb_w (pdw_or (pdb_not (pdb_val (bIsi "str" M.b_isinstance (pda_cons (pv 1) (pda_cons (pT "str" M.b_str) pda_nil))))) (pdw_or1 (tNIn (pv 1) (pv 3))))) (dss_one (sRaise c (XI.mk' XI_InvalidPoint (c.hr.mono (by decide)) (pda_cons pd_non pda_nil)))) dss_nil)
  (dss_cons (sSet 4 (pd_index (pv 3) (pv 1)))
  (dss_cons (sSet 5 (pd_tup (pda_star (pd_sliceT (pd_slot (pv 0) RC.sc RCS) pdo_none (pdo_some (pv 4))) (pda_cons (pv 2) (pda_star (pd_sliceT (pd_slot (pv 0) RC.sc RCS) (pdo_some (pd_add (pv 4) pd_int)) pdo_none) pda_nil)))))
  (dss_one (ds_ret (pd_makeS C_Rule (c.hr.mono (by decide)) rfl c.tk (pv 5))))))))
theorem sc_place_in : FnScope ["rule", "m", "turns", "person", "place"] ["rule", "m", "turns", "person"] (defScope (top 19)) := ⟨rfl, rfl, rfl, by decide +kernel, rfl, by decide +kernel, by decide +kernel⟩
theorem ok_place_in {f : Addr} {fd : FuncData} (FD : FnP K "place_in" "place_in" (top 19) f fd) (M : Mg K mg) (RC : RuC K) {qR : Addr} (RCS : SlX.Slot1 K (aR K) "row" qR 0) : FnOk P w K mg base (L2.CX P w) 1 f fd ["rule", "m", "turns", "person"] (spD K 4 (dDef 5 (g_place_in K))) :=
  Dh.okD FD sc_place_in fun cdv A outer s H E c => have hN := sc_place_in.nd; (dss_cons (sSet 4 (pd_if (tEq c (pd_ix (pd_slot (pv 0) RC.sc RCS) pd_int) pd_str) (pv 3) (oSub (oSub (pv 1) pd_int) (pv 3))))
  (dss_cons (ds_if (tEq c (pd_ix (pd_slot (pv 0) RC.sc RCS) pd_int) pd_str) (dss_one (ds_ret (pd_if (tEq c (oMod (pv 2) pd_int) pd_int) (pv 4) (oSub (oSub (pv 1) pd_int) (pv 4))))) dss_nil)
  (dss_one (ds_ret (pd_if (tEq c (pd_ix (pd_slot (pv 0) RC.sc RCS) pd_int) pd_str) (oMod (oSub (pv 4) (pv 2)) (pv 1)) (pv 4))))))
theorem sc_person_at : FnScope ["rule", "m", "turn", "turns", "place"] ["rule", "m", "turn"] (defScope (top 20)) := ⟨rfl, rfl, rfl, by decide +kernel, rfl, by decide +kernel, by decide +kernel⟩
theorem ok_person_at {f : Addr} {fd : FuncData} (FD : FnP K "person_at" "person_at" (top 20) f fd) (M : Mg K mg) (RC : RuC K) {qR : Addr} (RCS : SlX.Slot1 K (aR K) "row" qR 0) : FnOk P w K mg base (L2.CX P w) 1 f fd ["rule", "m", "turn"] (spD K 3 (dDef 5 (g_person_at K))) :=
  Dh.okD FD sc_person_at fun cdv A outer s H E c => have hN := sc_person_at.nd; (dss_cons (ds_par (i := 3) (j := 4) c.hc hN rfl rfl (by decide) rfl rfl (pda_cons (oDiv (pv 2) (pv 1)) (pda_cons (oMod (pv 2) (pv 1)) pda_nil)) rfl)
  (dss_cons (ds_if (pdb_w (pdw_and (tEq c (pd_ix (pd_slot (pv 0) RC.sc RCS) pd_int) pd_str) (pdw_and1 (tEq c (oMod (pv 3) pd_int) pd_int)))) (dss_one (sSet 4 (oSub (oSub (pv 1) pd_int) (pv 4)))) dss_nil)
  (dss_cons (ds_if (tEq c (pd_ix (pd_slot (pv 0) RC.sc RCS) pd_int) pd_str) (dss_one (sSet 4 (oMod (pd_add (pv 4) (pv 3)) (pv 1)))) dss_nil)
  (dss_one (ds_ret (pd_if (tEq c (pd_ix (pd_slot (pv 0) RC.sc RCS) pd_int) pd_str) (pv 4) (oSub (oSub (pv 1) pd_int) (pv 4))))))))
theorem sc_turns_of : FnScope ["rule", "m", "person", "many"] ["rule", "m", "person", "many"] (defScope (top 21)) := ⟨rfl, rfl, rfl, by decide +kernel, rfl, by decide +kernel, by decide +kernel⟩
theorem ok_turns_of {f : Addr} {fd : FuncData} (FD : FnP K "turns_of" "turns_of" (top 21) f fd) (M : Mg K mg) (C_place_in : Cal P w K mg base 1 "place_in" 4 (F_place_in K)) : FnOk P w K mg base (L2.CX P w) 2 f fd ["rule", "m", "person", "many"] (spD K 4 (dDef 4 (g_turns_of K))) :=
  Dh.okD FD sc_turns_of fun cdv A outer s H E c => have hN := sc_turns_of.nd; (dss_one (ds_ret (pd_add (oDiv (pv 3) (pv 1)) (bInt M.b_int (cLt (call c C_place_in (pda_cons (pv 0) (pda_cons (pv 1) (pda_cons (oDiv (pv 3) (pv 1)) (pda_cons (pv 2) pda_nil))))) (oMod (pv 3) (pv 1)))))))
theorem sc_share : FnScope ["rule", "m", "person", "begin", "many", "size", "whole", "rest", "found"] ["rule", "m", "person", "begin", "many"] (defScope (top 22)) := ⟨rfl, rfl, rfl, by decide +kernel, rfl, by decide +kernel, by decide +kernel⟩
theorem ok_share {f : Addr} {fd : FuncData} (FD : FnP K "share" "share" (top 22) f fd) (M : Mg K mg) (C_turns_of : Cal P w K mg base 2 "turns_of" 4 (F_turns_of K)) (C_person_at : Cal P w K mg base 1 "person_at" 3 (F_person_at K)) (RC : RuC K) {qR : Addr} (RCS : SlX.Slot1 K (aR K) "row" qR 0) : FnOk P w K mg base (L2.CX P w) 3 f fd ["rule", "m", "person", "begin", "many"] (spD K 5 (dDef 9 (g_share K))) :=
  Dh.okD FD sc_share fun cdv A outer s H E c => have hN := sc_share.nd; (dss_cons (sSet 5 (pd_ix (pd_slot (pv 0) RC.sc RCS) pd_int))
  (dss_cons (ds_par (i := 6) (j := 7) c.hc hN rfl rfl (by decide) rfl rfl (pda_cons (oDiv (pv 4) (pv 5)) (pda_cons (oMod (pv 4) (pv 5)) pda_nil)) rfl)
  (dss_cons (sSet 8 (oMul (pv 5) (oSub (call c C_turns_of (pda_cons (pv 0) (pda_cons (pv 1) (pda_cons (pv 2) (pda_cons (pd_add (pv 3) (pv 6)) pda_nil))))) (call c C_turns_of (pda_cons (pv 0) (pda_cons (pv 1) (pda_cons (pv 2) (pda_cons (pv 3) pda_nil))))))))
  (dss_one (ds_ret (pd_add (pv 8) (pd_if (tEq c (call c C_person_at (pda_cons (pv 0) (pda_cons (pv 1) (pda_cons (pd_add (pv 3) (pv 6)) pda_nil)))) (pv 2)) (pv 7) pd_int)))))))
theorem sc_counts_of : FnScope ["rule", "n", "many", "main", "begin"] ["rule", "n"] (defScope (top 23)) := ⟨rfl, rfl, rfl, by decide +kernel, rfl, by decide +kernel, by decide +kernel⟩
theorem ok_counts_of {f : Addr} {fd : FuncData} (FD : FnP K "counts_of" "counts_of" (top 23) f fd) (M : Mg K mg) (RC : RuC K) {qR : Addr} (RCS : SlX.Slot1 K (aR K) "row" qR 0) : FnOk P w K mg base (L2.CX P w) 1 f fd ["rule", "n"] (spD K 2 (dDef 5 (g_counts_of K))) :=
  Dh.okD FD sc_counts_of fun cdv A outer s H E c => have hN := sc_counts_of.nd; (dss_cons (sSet 2 (pd_if (tGt (pd_ix (pd_slot (pv 0) RC.sc RCS) pd_int) pd_int) (oDiv (pv 1) (pd_ix (pd_slot (pv 0) RC.sc RCS) pd_int)) pd_int))
  (dss_cons (sSet 3 (oSub (pv 1) (pv 2)))
  (dss_cons (sSet 4 (pd_if (tEq c (pd_ix (pd_slot (pv 0) RC.sc RCS) pd_int) pd_str) (pd_neg (oDiv (pd_neg (pv 3)) (pd_ix (pd_slot (pv 0) RC.sc RCS) pd_int))) pd_int))
  (dss_one (ds_ret (pd_tup (pda_cons (pv 3) (pda_cons (pv 2) (pda_cons (pv 4) pda_nil)))))))))
theorem sc_own_lot : FnScope ["rule", "m", "n", "person", "main", "many", "begin"] ["rule", "m", "n", "person"] (defScope (top 24)) := ⟨rfl, rfl, rfl, by decide +kernel, rfl, by decide +kernel, by decide +kernel⟩
theorem ok_own_lot {f : Addr} {fd : FuncData} (FD : FnP K "own_lot" "own_lot" (top 24) f fd) (M : Mg K mg) (C_counts_of : Cal P w K mg base 1 "counts_of" 2 (F_counts_of K)) (C_share : Cal P w K mg base 3 "share" 5 (F_share K)) : FnOk P w K mg base (L2.CX P w) 4 f fd ["rule", "m", "n", "person"] (spD K 4 (dDef 7 (g_own_lot K))) :=
  Dh.okD FD sc_own_lot fun cdv A outer s H E c => have hN := sc_own_lot.nd; (dss_cons (ds_asg (call c C_counts_of (pda_cons (pv 0) (pda_cons (pv 2) pda_nil))) (pg_tup c.hc (pgs_cons (gN 4) (pgs_cons (gN 5) (pgs_cons (gN 6) pgs_nil)))) (tg_tup (is := [4, 5, 6])))
  (dss_one (ds_ret (pd_add (call c C_share (pda_cons (pv 0) (pda_cons (pv 1) (pda_cons (pv 3) (pda_cons pd_int (pda_cons (pv 4) pda_nil)))))) (call c C_share (pda_cons (pv 0) (pda_cons (pv 1) (pda_cons (pv 3) (pda_cons (pv 6) (pda_cons (pv 5) pda_nil))))))))))
theorem sc_period_of : FnScope ["rule", "m", "rounds"] ["rule", "m"] (defScope (top 25)) := ⟨rfl, rfl, rfl, by decide +kernel, rfl, by decide +kernel, by decide +kernel⟩
theorem ok_period_of {f : Addr} {fd : FuncData} (FD : FnP K "period_of" "period_of" (top 25) f fd) (M : Mg K mg) (RC : RuC K) {qR : Addr} (RCS : SlX.Slot1 K (aR K) "row" qR 0) : FnOk P w K mg base (L2.CX P w) 1 f fd ["rule", "m"] (spD K 2 (dDef 3 (g_period_of K))) :=
  Dh.okD FD sc_period_of fun cdv A outer s H E c => have hN := sc_period_of.nd; (dss_cons (sSet 2 (pd_dict3 c pd_int pd_int (pv 1) (pd_ix (pd_slot (pv 0) RC.sc RCS) pd_int)))
  (dss_one (ds_ret (oMul (oMul (oMul (pv 1) (pv 2)) (pd_ix (pd_slot (pv 0) RC.sc RCS) pd_int)) (bMax2 c M.b_max (pda_cons (pd_ix (pd_slot (pv 0) RC.sc RCS) pd_int) (pda_cons pd_int pda_nil)))))))
theorem sc_look_at_facts : FnScope ["facts", "own"] ["facts"] (defScope (top 27)) := ⟨rfl, rfl, rfl, by decide +kernel, rfl, by decide +kernel, by decide +kernel⟩
theorem ok_look_at_facts {f : Addr} {fd : FuncData} (FD : FnP K "look_at_facts" "look_at_facts" (top 27) f fd) (M : Mg K mg) (C_is_within : Cal P w K mg base 2 "is_within" 3 F_is_within) (X_InvalidFacts : X0 K mg "InvalidFacts" (He.ga K "InvalidFacts")) : FnOk P w K mg base (L2.CX P w) 3 f fd ["facts"] (spD K 1 (dDef 2 (g_look_at_facts K))) :=
  Dh.okD FD sc_look_at_facts fun cdv A outer s H E c => have hN := sc_look_at_facts.nd; (dss_cons (ds_if (pdb_w (pdw_or (pdb_not (pdb_val (bIsi "tuple" M.b_isinstance (pda_cons (pv 0) (pda_cons (pT "tuple" M.b_tuple) pda_nil))))) (pdw_or (tNe c (bLen M.b_len (pv 0)) pd_int) (pdw_or1 (pdb_not (pdb_val (bIsi "bool" M.b_isinstance (pda_cons (pd_ix (pv 0) pd_int) (pda_cons (pT "bool" M.b_bool) pda_nil))))))))) (dss_one (sRaise c X_InvalidFacts.mk')) dss_nil)
  (dss_one (ds_if (pdb_w (pdw_or (pdb_not (pdb_val (bAll c M.b_all (pda_cons (PDL.pd (pdl_lc c.hc hN (iTup (pd_sliceT (pv 0) pdo_none (pdo_some pd_int))) (own := [("own", 1)]) (blkOk (by kernel_rfl)) tg_name (by decide) (fun _ _ _ _ _ => (gN 1)) (fun _ _ _ _ _ => pdts_nil) (fun _ _ _ _ _ => (call c.blk C_is_within (pda_cons (pv 1) (pda_cons (pG M.c_LEAST_PEOPLE) (pda_cons (pG M.c_MOST_PEOPLE) pda_nil))))))) pda_nil)))) (pdw_or1 (tGt (pd_ix (pv 0) pd_int) (pd_ix (pv 0) pd_int))))) (dss_one (sRaise c X_InvalidFacts.mk')) dss_nil)))
theorem sc_common : FnScope ["one", "other", "left", "right"] ["one", "other"] (defScope (top 28)) := ⟨rfl, rfl, rfl, by decide +kernel, rfl, by decide +kernel, by decide +kernel⟩
theorem ok_common {f : Addr} {fd : FuncData} (FD : FnP K "common" "common" (top 28) f fd) (M : Mg K mg) : FnOk P w K mg base (L2.CX P w) 1 f fd ["one", "other"] (spD K 2 (dDef 4 (g_common K))) :=
  Dh.okD FD sc_common fun cdv A outer s H E c => have hN := sc_common.nd; (dss_cons (ds_par (i := 2) (j := 3) c.hc hN rfl rfl (by decide) rfl rfl (pda_cons (pv 0) (pda_cons (pv 1) pda_nil)) rfl)
  (dss_cons (ds_while c.hp (tNe c (pv 3) pd_int) (dss_one (ds_par (i := 2) (j := 3) c.hc hN rfl rfl (by decide) rfl rfl (pda_cons (pv 3) (pda_cons (oMod (pv 2) (pv 3)) pda_nil)) rfl)))
  (dss_one (ds_ret (oMul (oDiv (pv 0) (pv 2)) (pv 1))))))
theorem sc_cases_of : GScope ["facts", "rules", "least", "most", "beyond", "m", "period", "rule", "begin", "n"] ["facts", "rules"] (defScope (top 29)) := ⟨rfl, rfl, rfl, by decide +kernel, rfl, by decide +kernel, by decide +kernel⟩
theorem ok_cases_of {f : Addr} {fd : FuncData} (FD : FnP K "cases_of" "cases_of" (top 29) f fd) (M : Mg K mg) (C_common : Cal P w K mg base 1 "common" 2 (F_common K)) (C_period_of : Cal P w K mg base 1 "period_of" 2 (F_period_of K)) : Gn.GFnD P w K mg base 2 f fd ["facts", "rules"] 2 (Gn.gDef 10 (g_cases_of K)) :=
  Gn.okG FD sc_cases_of (by decide +kernel) fun cdv L outer A0 n vl gen rm ok => (Gn.gss_cons (Gn.gs_plain fun s0 H0 => have c := Gn.cnG ok rm s0 H0; have hN := (sc_cases_of).nd; (ds_asg (pv 0) (pg_tup c.hc (pgs_cons (gN 2) (pgs_cons (gN 3) (pgs_cons (gN 4) pgs_nil)))) (tg_tup (is := [2, 3, 4]))))
  (Gn.gss_cons (Gn.gs_for (fun s0 H0 => have c := Gn.cnG ok rm s0 H0; have hN := (sc_cases_of).nd; (iR2 M.b_range (pv 2) (pd_add (pv 3) pd_int))) (fun s0 H0 => have c := Gn.cnG ok rm s0 H0; have hN := (sc_cases_of).nd; (gN 5)) tg_name
  (Gn.gss_cons (Gn.gs_plain fun s0 H0 => have c := Gn.cnG ok rm s0 H0; have hN := (sc_cases_of).nd; (sSet 6 pd_int))
  (Gn.gss_cons (Gn.gs_plain fun s0 H0 => have c := Gn.cnG ok rm s0 H0; have hN := (sc_cases_of).nd; (sFor c (iList (pv 1)) (gN 7) tg_name (dss_one (sSet 6 (call c C_common (pda_cons (pv 6) (pda_cons (call c C_period_of (pda_cons (pv 7) (pda_cons (pv 5) pda_nil))) pda_nil)))))))
  (Gn.gss_cons (Gn.gs_plain fun s0 H0 => have c := Gn.cnG ok rm s0 H0; have hN := (sc_cases_of).nd; (sSet 8 (pd_if (pdb_val (pv 4)) (pd_add (pv 5) pd_int) pd_int)))
  (Gn.gss_cons (Gn.gs_for (fun s0 H0 => have c := Gn.cnG ok rm s0 H0; have hN := (sc_cases_of).nd; (iR2 M.b_range (pv 8) (pd_add (pv 8) (pv 6)))) (fun s0 H0 => have c := Gn.cnG ok rm s0 H0; have hN := (sc_cases_of).nd; (gN 9)) tg_name
  (Gn.gss_cons (Gn.gs_yield ok (fun s0 H0 => have c := Gn.cnG ok rm s0 H0; have hN := (sc_cases_of).nd; (pd_tup (pda_cons (pv 5) (pda_cons (pv 9) pda_nil)))) rfl rfl)
  Gn.gss_nil))
  Gn.gss_nil)))))
  Gn.gss_nil))
theorem sc_own_parting : FnScope ["one", "other", "facts", "m", "n", "person"] ["one", "other", "facts"] (defScope (top 30)) := ⟨rfl, rfl, rfl, by decide +kernel, rfl, by decide +kernel, by decide +kernel⟩
theorem ok_own_parting {f : Addr} {fd : FuncData} (FD : FnP K "own_parting" "own_parting" (top 30) f fd) (M : Mg K mg) (C_cases_of : Gn.CalG P w K mg base 2 "cases_of" 2 (F_cases_of K)) (C_own_lot : Cal P w K mg base 4 "own_lot" 4 (F_own_lot K)) (C_eq : EqC P w K mg base 1 (aR K) (F_eq K)) : FnOk P w K mg base (L2.CX P w) 5 f fd ["one", "other", "facts"] (spD K 3 (dDef 6 (g_own_parting K))) :=
  Dh.okD FD sc_own_parting fun cdv A outer s H E c => have hN := sc_own_parting.nd; (dss_cons (ds_if (tEqO c C_eq (pv 0) (pv 1)) (dss_one (ds_ret pd_non)) dss_nil)
  (dss_cons (Gn.ds_forG c C_cases_of (pda_cons (pv 2) (pda_cons (PDL.pd (pdl_lst (pda_cons (pv 0) (pda_cons (pv 1) pda_nil)))) pda_nil)) (pg_tup c.hc (pgs_cons (gN 3) (pgs_cons (gN 4) pgs_nil))) (tg_tup (is := [3, 4])) (dss_one (sFor (Gn.lp c) (iR1 M.b_range (pv 3)) (gN 5) tg_name (dss_one (ds_if (tNe (Gn.lp c) (call (Gn.lp c) C_own_lot (pda_cons (pv 0) (pda_cons (pv 3) (pda_cons (pv 4) (pda_cons (pv 5) pda_nil))))) (call (Gn.lp c) C_own_lot (pda_cons (pv 1) (pda_cons (pv 3) (pda_cons (pv 4) (pda_cons (pv 5) pda_nil)))))) (dss_one (ds_ret (pd_tup (pda_cons (pv 3) (pda_cons (pv 4) (pda_cons (pv 5) pda_nil)))))) dss_nil)))))
  (dss_one (ds_ret pd_non))))
theorem sc_alike : FnScope ["one", "other", "facts"] ["one", "other", "facts"] (defScope (top 31)) := ⟨rfl, rfl, rfl, by decide +kernel, rfl, by decide +kernel, by decide +kernel⟩
theorem ok_alike {f : Addr} {fd : FuncData} (FD : FnP K "alike" "alike" (top 31) f fd) (M : Mg K mg) (C_look_at_facts : Cal P w K mg base 3 "look_at_facts" 1 (F_look_at_facts K)) (C_own_parting : Cal P w K mg base 5 "own_parting" 3 (F_own_parting K)) : FnOk P w K mg base (L2.CX P w) 6 f fd ["one", "other", "facts"] (spD K 3 (dDef 3 (g_alike K))) :=
  Dh.okD FD sc_alike fun cdv A outer s H E c => have hN := sc_alike.nd; (dss_cons (ds_expr (call c C_look_at_facts (pda_cons (pv 2) pda_nil)))
  (dss_one (ds_ret (cIs (call c C_own_parting (pda_cons (pv 0) (pda_cons (pv 1) (pda_cons (pv 2) pda_nil)))) pd_non))))
theorem sc_needless : FnScope ["rule", "facts", "found", "point", "own"] ["rule", "facts"] (defScope (top 32)) := ⟨rfl, rfl, rfl, by decide +kernel, rfl, by decide +kernel, by decide +kernel⟩
theorem ok_needless {f : Addr} {fd : FuncData} (FD : FnP K "needless" "needless" (top 32) f fd) (M : Mg K mg) (C_look_at_facts : Cal P w K mg base 3 "look_at_facts" 1 (F_look_at_facts K)) (C_own_parting : Cal P w K mg base 5 "own_parting" 3 (F_own_parting K)) (C_Rule_changed : MeC P w K mg base 5 (aR K) "changed" 3 (F_Rule_changed K)) {nT : Nat} (T_POINTS : KTab K w (aP K) ks_POINTS nT) (TV_POINTS : TabV K w (aP K) kvs_POINTS) : FnOk P w K mg base (L2.CX P w) 6 f fd ["rule", "facts"] (spD K 2 (dDef 5 (g_needless K))) :=
  Dh.okD FD sc_needless fun cdv A outer s H E c => have hN := sc_needless.nd; (dss_cons (ds_expr (call c C_look_at_facts (pda_cons (pv 1) pda_nil)))
  (dss_cons (sOwn 2 (pdl_lst pda_nil))
  (dss_cons (sFor c (iList (PDL.pd (bTabS c T_POINTS (by decide) M.b_sorted (pda_cons (pR M.c_POINTS) pda_nil)))) (gN 3) tg_name (dss_one (ds_if (pdb_val (bAll c M.b_all (pda_cons (PDL.pd (pdl_lc c.hc hN (iTup (pd_tabIx TV_POINTS (pR M.c_POINTS) (pv 3))) (own := [("own", 4)]) (blkOk (by kernel_rfl)) tg_name (by decide) (fun _ _ _ _ _ => (gN 4)) (fun _ _ _ _ _ => pdts_nil) (fun _ _ _ _ _ => (cIs (call c.blk C_own_parting (pda_cons (pv 0) (pda_cons (pd_meth C_Rule_changed (c.blk.hr.mono (by decide)) c.blk.tk (pv 0) (pda_cons (pv 3) (pda_cons (pv 4) pda_nil))) (pda_cons (pv 1) pda_nil)))) pd_non)))) pda_nil))) (dss_one (ds_app (i := 2) (pe 2) (pv 3))) dss_nil)))
  (dss_rel (i := 2) (dss_one (ds_ret (pv 2)))))))
theorem sc_l_mix : FnScope ["_law_script", "_law_seed", "_law_state", "_law_cell"] ["_law_script", "_law_seed"] (defScope (top 34)) := ⟨rfl, rfl, rfl, by decide +kernel, rfl, by decide +kernel, by decide +kernel⟩
theorem ok_l_mix {f : Addr} {fd : FuncData} (FD : FnP K "_law_mix" "_law_mix" (top 34) f fd) (M : Mg K mg) : FnOk P w K mg base (L2.CX P w) 1 f fd ["_law_script", "_law_seed"] (spMix K) :=
  FD.ok sc_l_mix (fun vs H Q E h => by obtain ⟨a, s, ns, rfl, _⟩ := h; rfl) fun cdv A outer s H vs Q E hr h => ⟨t_mix K, pss_cons (ps_set sc_l_mix.nd rfl (.inl rfl) (pe 1)) (pss_cons (ps_for (passes_of rfl) rfl (pi_list (pe 0)) (gN 3 (hN := sc_l_mix.nd))
    (pss_one (ps_set (i := 2) sc_l_mix.nd rfl (.inl rfl) (pe_op op_mod (pe_callTy call_int1 rfl M.b_int (by kernel_rfl) (pa_cons (pe_op op_add (pe_op op_add (pe_op op_mul (pe 2) pe_int) (pe_op op_mod (pe_callTy call_int1 rfl M.b_int (by kernel_rfl) (pa_cons (pe 3) pa_nil)) pe_int)) pe_int) pa_nil)) pe_int))))
    (pss_one (ps_ret (pe_lst (pa_cons (pe 2) (pa_cons (pe_callTy call_list_of rfl M.b_list (by kernel_rfl) (pa_cons (pe 0) pa_nil)) (pa_cons pe_int (pa_cons pe_int pa_nil)))))))), pure_mix vs H Q E h⟩
theorem sc_l_next : FnScope ["_law_h", "_law_bound", "_law_cell"] ["_law_h", "_law_bound"] (defScope (top 35)) := ⟨rfl, rfl, rfl, by decide +kernel, rfl, by decide +kernel, by decide +kernel⟩
theorem ok_l_next {f : Addr} {fd : FuncData} (FD : FnP K "_law_next" "_law_next" (top 35) f fd) (M : Mg K mg) : FnOk P w K mg base (L2.CX P w) 1 f fd ["_law_h", "_law_bound"] (spD K 2 Fnext) :=
  FD.ok sc_l_next (fun vs H Q E h => h.1) fun cdv A outer s H vs Q E hr h => ⟨t_next K, pss_cons (ps_set (i := 2) sc_l_next.nd rfl (.inl rfl) (px (pe_op op_cat (px (pe 0) pe_int) (pe_lst (pa_cons pe_int pa_nil))) (pe_op op_mod (pe_callTy call_int1 rfl M.b_int (by kernel_rfl) (pa_cons (px (pe 0) pe_int) pa_nil)) (pe_callB (call_max2 rfl) rfl M.b_max (by kernel_rfl) (pa_cons pe_int (pa_cons (pe_callB call_len rfl M.b_len boot_len (pa_cons (px (pe 0) pe_int) pa_nil)) pa_nil))))))
      (pss_cons (ps_if (pt_cmpR op_ge (pe 2) (pe_op op_pow pe_int pe_int) (nomark _))
        (pss_cons (ps_asg (pe_op op_fdivW (pe 2) (pe 1)) (pg_sub (px (pe 0) pe_int) (pe_op op_mod (pe_callTy call_int1 rfl M.b_int (by kernel_rfl) (pa_cons (px (pe 0) pe_int) pa_nil)) (pe_callB call_len rfl M.b_len boot_len (pa_cons (px (pe 0) pe_int) pa_nil))) set_list))
          (pss_one (ps_ret (pe_op op_mod (pe_callTy call_int1 rfl M.b_int (by kernel_rfl) (pa_cons (pe 2) pa_nil)) (pe 1))))) pss_nil)
      (pss_cons (ps_asg (pe_op op_mod (pe_callTy call_int1 rfl M.b_int (by kernel_rfl) (pa_cons (pe_op op_add (pe_op op_add (pe_op op_mul (px (pe 0) pe_int) pe_int) (pe_op op_mul (pe 2) pe_int)) pe_int) pa_nil)) pe_int) (pg_sub (pe 0) pe_int set_list))
      (pss_cons (ps_asg (pe_op op_add (px (pe 0) pe_int) pe_int) (pg_sub (pe 0) pe_int set_list))
        (pss_one (ps_ret (pe_op op_mod (pe_callTy call_int1 rfl M.b_int (by kernel_rfl) (pa_cons (pe_op op_fdiv (px (pe 0) pe_int) pe_int) pa_nil)) (pe 1))))))), pure_next vs H Q E h⟩
theorem sc_l_rule : FnScope ["_law_h", "_law_found"] ["_law_h"] (defScope (top 36)) := ⟨rfl, rfl, rfl, by decide +kernel, rfl, by decide +kernel, by decide +kernel⟩
theorem ok_l_rule {f : Addr} {fd : FuncData} (FD : FnP K "_law_rule" "_law_rule" (top 36) f fd) (M : Mg K mg) (C_l_next : Cal P w K mg base 1 "_law_next" 2 Fnext) : FnOk P w K mg base (L2.CX P w) 2 f fd ["_law_h"] (Dh.spL K 1 (Dh.dDefL 2 g_l_rule)) :=
  Dh.okL FD sc_l_rule fun cdv A outer s H E c => have hN := sc_l_rule.nd; (dss_cons (sSet 1 (PDL.pd (pdl_lst (pda_cons (pd_add pd_int (call c C_l_next (pda_cons (pv 0) (pda_cons pd_int pda_nil)))) (pda_cons (pd_ix (PDL.pd (pdl_lst (pda_cons pd_str (pda_cons pd_str (pda_cons pd_str pda_nil))))) (call c C_l_next (pda_cons (pv 0) (pda_cons pd_int pda_nil)))) (pda_cons (pd_ix (PDL.pd (pdl_lst (pda_cons pd_str (pda_cons pd_str pda_nil)))) (call c C_l_next (pda_cons (pv 0) (pda_cons pd_int pda_nil)))) pda_nil))))))
  (dss_one (ds_retL (pdl_op op_cat opd_catL (pv 1) (PDL.pd (pdl_lst (pda_cons (pd_ix (PDL.pd (pdl_lst (pda_cons pd_int (pda_cons pd_int (pda_cons pd_int (pda_cons pd_int pda_nil)))))) (call c C_l_next (pda_cons (pv 0) (pda_cons pd_int pda_nil)))) (pda_cons (pd_ix (PDL.pd (pdl_lst (pda_cons pd_str (pda_cons pd_str pda_nil)))) (call c C_l_next (pda_cons (pv 0) (pda_cons pd_int pda_nil)))) pda_nil))))))))
theorem sc_l_built : FnScope ["_law_t"] ["_law_t"] (defScope (top 37)) := ⟨rfl, rfl, rfl, by decide +kernel, rfl, by decide +kernel, by decide +kernel⟩
theorem ok_l_built {f : Addr} {fd : FuncData} (FD : FnP K "_law_built" "_law_built" (top 37) f fd) (M : Mg K mg) (C_Rule : MkC P w K mg base 3 "Rule" (aR K) 5 (F_Rule K)) : FnOk P w K mg base (L2.CX P w) 5 f fd ["_law_t"] (spD K 1 (dDef 1 (g_l_built K))) :=
  Dh.okD FD sc_l_built fun cdv A outer s H E c => have hN := sc_l_built.nd; (dss_one (ds_ret (pd_make C_Rule (c.hr.mono (by decide)) rfl c.tk (pda_cons (pd_ix (pv 0) pd_int) (pda_cons (pd_ix (pv 0) pd_int) (pda_cons (pd_ix (pv 0) pd_int) (pda_cons (pd_ix (pv 0) pd_int) (pda_cons (pd_ix (pv 0) pd_int) pda_nil))))))))
theorem sc_l_facts : FnScope ["_law_h", "_law_most", "_law_one", "_law_two"] ["_law_h", "_law_most"] (defScope (top 38)) := ⟨rfl, rfl, rfl, by decide +kernel, rfl, by decide +kernel, by decide +kernel⟩
theorem ok_l_facts {f : Addr} {fd : FuncData} (FD : FnP K "_law_facts" "_law_facts" (top 38) f fd) (M : Mg K mg) (C_l_next : Cal P w K mg base 1 "_law_next" 2 Fnext) : FnOk P w K mg base (L2.CX P w) 2 f fd ["_law_h", "_law_most"] (spD K 2 (dDef 4 (g_l_facts K))) :=
  Dh.okD FD sc_l_facts fun cdv A outer s H E c => have hN := sc_l_facts.nd; (dss_cons (ds_par (i := 2) (j := 3) c.hc hN rfl rfl (by decide) rfl rfl (pda_cons (pd_add pd_int (call c C_l_next (pda_cons (pv 0) (pda_cons (oSub (pv 1) pd_int) pda_nil)))) (pda_cons (pd_add pd_int (call c C_l_next (pda_cons (pv 0) (pda_cons (oSub (pv 1) pd_int) pda_nil)))) pda_nil)) rfl)
  (dss_one (ds_ret (pd_tup (pda_cons (bMin2 c M.b_min (pda_cons (pv 2) (pda_cons (pv 3) pda_nil))) (pda_cons (bMax2 c M.b_max (pda_cons (pv 2) (pda_cons (pv 3) pda_nil))) (pda_cons (cEq c (call c C_l_next (pda_cons (pv 0) (pda_cons pd_int pda_nil))) pd_int) pda_nil)))))))
theorem sc_l_cases : FnScope ["_law_facts_here", "_law_whole", "_law_found", "_law_m", "_law_begin", "_law_n"] ["_law_facts_here", "_law_whole"] (defScope (top 39)) := ⟨rfl, rfl, rfl, by decide +kernel, rfl, by decide +kernel, by decide +kernel⟩
theorem ok_l_cases {f : Addr} {fd : FuncData} (FD : FnP K "_law_cases" "_law_cases" (top 39) f fd) (M : Mg K mg) : FnOk P w K mg base (L2.CX P w) 1 f fd ["_law_facts_here", "_law_whole"] (spD K 2 (dDef 6 (g_l_cases K))) :=
  Dh.okD FD sc_l_cases fun cdv A outer s H E c => have hN := sc_l_cases.nd; (dss_cons (sSet 2 (PDL.pd (pdl_lst pda_nil)))
  (dss_cons (sFor c (iR2 M.b_range (pd_ix (pv 0) pd_int) (pd_add (pd_ix (pv 0) pd_int) pd_int)) (gN 3) tg_name (dss_cons (sSet 4 (pd_if (pdb_val (pd_ix (pv 0) pd_int)) (pd_add (pv 3) pd_int) pd_int))
  (dss_one (sSet 2 (pd_add (pv 2) (PDL.pd (pdl_lc c.hc hN (iR2 M.b_range (pv 4) (pd_add (pv 4) (pv 1))) (own := [("_law_n", 5)]) (blkOk (by kernel_rfl)) tg_name (by decide) (fun _ _ _ _ _ => (gN 5)) (fun _ _ _ _ _ => pdts_nil) (fun _ _ _ _ _ => (pd_tup (pda_cons (pv 3) (pda_cons (pv 5) pda_nil)))))))))))
  (dss_one (ds_ret (pv 2)))))
theorem sc_l_spread : FnScope ["_law_row"] ["_law_row"] (defScope (top 40)) := ⟨rfl, rfl, rfl, by decide +kernel, rfl, by decide +kernel, by decide +kernel⟩
theorem ok_l_spread {f : Addr} {fd : FuncData} (FD : FnP K "_law_spread" "_law_spread" (top 40) f fd) (M : Mg K mg) : FnOk P w K mg base (L2.CX P w) 1 f fd ["_law_row"] (spD K 1 (dDef 1 (g_l_spread K))) :=
  Dh.okD FD sc_l_spread fun cdv A outer s H E c => have hN := sc_l_spread.nd; (dss_one (ds_ret (oSub (bMaxL c M.b_max (pda_cons (pv 0) pda_nil)) (bMinL c M.b_min (pda_cons (pv 0) pda_nil)))))
end
end K06

set_option maxHeartbeats 4000000
namespace K06
open PySem PySem.Spec PyProof.Rows L2 Dl Dv Dk Gx Pr
section
variable {P : Program} {w : World} {K : PySem.W.Frag} {mg : Str → Option Value} {base : Heap}
theorem sc_law : FnScope ["_law_script", "_law_h", "_law_t", "_law_rule_here", "_law_facts_here", "_law_values", "_law_names", "_law_due", "_law_k", "_law_others", "_law_value", "_law_other", "_law_j"] ["_law_script"] (defScope (top 41)) := ⟨rfl, rfl, rfl, by decide +kernel, rfl, by decide +kernel, by decide +kernel⟩
theorem ok_law {f : Addr} {fd : FuncData} (FD : FnP K "law" "law" (top 41) f fd) (M : Mg K mg) (RC : RuC K) {fm : Addr} {fdm : FuncData} (FM : FnOk P w K mg base (L2.CX P w) 1 fm fdm ["_law_script", "_law_seed"] (spMix K)) (gm : mg "_law_mix" = some (.ref fm)) (km : PySem.W.keepIn K (.ref fm) = true) (bm : Binds K fdm ["_law_script", "_law_seed"] [])  (C_l_rule : Dh.CalL P w K mg base 2 "_law_rule" 1 F_l_rule) (C_l_built : Cal P w K mg base 5 "_law_built" 1 (F_l_built K)) (C_l_facts : Cal P w K mg base 2 "_law_facts" 2 (F_l_facts K)) (C_alike : Cal P w K mg base 6 "alike" 3 (F_alike K)) (C_Rule_changed : MeC P w K mg base 5 (aR K) "changed" 3 (F_Rule_changed K)) (C_needless : Cal P w K mg base 6 "needless" 2 (F_needless K)) (C_eq : EqC P w K mg base 1 (aR K) (F_eq K)) : FnOk P w K mg base (L2.CX P w) 7 f fd ["_law_script"] (spLaw K) :=
  lawOk (k := 6) (seed := 6) FD sc_law (fun cdv A outer s H E c => have hN := sc_law.nd; ⟨ps_asg (pe_callS FM (c.hr.mono (by decide)) rfl gm km bm (fun σ => passAt c.tk σ) (pa_cons (pe 0) (pa_cons pe_int pa_nil))) (gN 1), (dss_cons (sSet 2 (call c C_l_rule.cal (pda_cons (pv 1) pda_nil)))
  (dss_cons (sSet 3 (call c C_l_built (pda_cons (pv 2) pda_nil)))
  (dss_cons (sSet 4 (call c C_l_facts (pda_cons (pv 1) (pda_cons pd_int pda_nil))))
  (dss_cons (sSet 5 (PDL.pd (pdl_lst (pda_cons (PDL.pd (pdl_lst (pda_cons pd_int (pda_cons pd_int (pda_cons pd_int pda_nil))))) (pda_cons (PDL.pd (pdl_lst (pda_cons pd_str (pda_cons pd_str (pda_cons pd_str pda_nil))))) (pda_cons (PDL.pd (pdl_lst (pda_cons pd_str (pda_cons pd_str pda_nil)))) (pda_cons (PDL.pd (pdl_lst (pda_cons pd_int (pda_cons pd_int (pda_cons pd_int (pda_cons pd_int pda_nil)))))) (pda_cons (PDL.pd (pdl_lst (pda_cons pd_str (pda_cons pd_str pda_nil)))) pda_nil))))))))
  (dss_cons (sSet 6 (PDL.pd (pdl_lst (pda_cons pd_str (pda_cons pd_str (pda_cons pd_str (pda_cons pd_str (pda_cons pd_str pda_nil))))))))
  (dss_cons (sOwn 7 (pdl_lst pda_nil))
  (dss_cons (sFor c (iR1 M.b_range pd_int) (gN 8) tg_name (dss_cons (ds_setLc (i := 9) c.hc hN rfl rfl rfl (iList (pd_ix (pv 5) (pv 8))) (own := [("_law_value", 10)]) (blkOk (by kernel_rfl)) tg_name (by decide) (fun _ _ _ _ _ => (gN 10)) (fun _ _ _ _ _ => pdts_nil) (fun _ _ _ _ _ => (call c.blk C_l_built (pda_cons (pd_add (pd_add (PDL.pd (pdl_slice (pv 2) pdo_none (pdo_some (pv 8)))) (PDL.pd (pdl_lst (pda_cons (pv 10) pda_nil)))) (PDL.pd (pdl_slice (pv 2) (pdo_some (pd_add (pv 8) pd_int)) pdo_none))) pda_nil))))
  (dss_cons (ds_if (pdb_val (bAll c M.b_all (pda_cons (PDL.pd (pdl_lc c.hc hN (iList (pv 9)) (own := [("_law_other", 11)]) (blkOk (by kernel_rfl)) tg_name (by decide) (fun _ _ _ _ _ => (gN 11)) (fun _ _ _ _ _ => pdts_nil) (fun _ _ _ _ _ => (call c.blk C_alike (pda_cons (pv 3) (pda_cons (pv 11) (pda_cons (pv 4) pda_nil))))))) pda_nil))) (dss_one (ds_app (i := 7) (pe 7) (pd_ix (pv 6) (pv 8)))) dss_nil)
  (dss_one (sFor c (iR1 M.b_range (bLen M.b_len (pd_ix (pv 5) (pv 8)))) (gN 12) tg_name (dss_one (ds_if (pdb_not (tEqO c C_eq (pd_meth C_Rule_changed (c.hr.mono (by decide)) c.tk (pv 3) (pda_cons (pd_ix (pv 6) (pv 8)) (pda_cons (pd_ix (pd_ix (pv 5) (pv 8)) (pv 12)) pda_nil))) (pd_ix (pv 9) (pv 12)))) (dss_one (ds_ret pd_bl)) dss_nil)))))))
  (dss_one (ds_rel (i := 7) (ds_ret (cEq c (call c C_needless (pda_cons (pv 3) (pda_cons (pv 4) pda_nil))) (PDL.pd (bSortS M.b_sorted (pda_cons (pv 7) pda_nil))))))))))))))⟩) (law_ok RC)
end
end K06

set_option maxHeartbeats 0
namespace K06
open PySem PySem.Spec PyProof.Rows L2 Dl Dv Dk Gx Pr
def dY0 : Dh.DefY := ⟨fun K => He.ma K (He.ga K "InvalidPoint") "__init__", "__init__", "InvalidPoint.__init__", defArgs (mem (top 3) 0), defBody (mem (top 3) 0), defScope (mem (top 3) 0)⟩
def dY1 : Dh.DefY := ⟨fun K => He.ga K "is_integer", "is_integer", "is_integer", defArgs (top 12), defBody (top 12), defScope (top 12)⟩
def dY2 : Dh.DefY := ⟨fun K => He.ga K "is_within", "is_within", "is_within", defArgs (top 13), defBody (top 13), defScope (top 13)⟩
def dY3 : Dh.DefY := ⟨fun K => He.ga K "is_one_of", "is_one_of", "is_one_of", defArgs (top 14), defBody (top 14), defScope (top 14)⟩
def dY4 : Dh.DefY := ⟨fun K => He.ma K (He.ga K "Rule") "__init__", "__init__", "Rule.__init__", defArgs (mem (top 15) 1), defBody (mem (top 15) 1), defScope (mem (top 15) 1)⟩
def dY5 : Dh.DefY := ⟨fun K => Hd.gAd K (He.ga K "Rule") "size", "size", "Rule.size", defArgs (mem (top 15) 2), defBody (mem (top 15) 2), defScope (mem (top 15) 2)⟩
def dY6 : Dh.DefY := ⟨fun K => Hd.gAd K (He.ga K "Rule") "way", "way", "Rule.way", defArgs (mem (top 15) 3), defBody (mem (top 15) 3), defScope (mem (top 15) 3)⟩
def dY7 : Dh.DefY := ⟨fun K => Hd.gAd K (He.ga K "Rule") "first", "first", "Rule.first", defArgs (mem (top 15) 4), defBody (mem (top 15) 4), defScope (mem (top 15) 4)⟩
def dY8 : Dh.DefY := ⟨fun K => Hd.gAd K (He.ga K "Rule") "aside", "aside", "Rule.aside", defArgs (mem (top 15) 5), defBody (mem (top 15) 5), defScope (mem (top 15) 5)⟩
def dY9 : Dh.DefY := ⟨fun K => Hd.gAd K (He.ga K "Rule") "later", "later", "Rule.later", defArgs (mem (top 15) 6), defBody (mem (top 15) 6), defScope (mem (top 15) 6)⟩
def dY10 : Dh.DefY := ⟨fun K => He.ma K (He.ga K "Rule") "__eq__", "__eq__", "Rule.__eq__", defArgs (mem (top 15) 8), defBody (mem (top 15) 8), defScope (mem (top 15) 8)⟩
def dY11 : Dh.DefY := ⟨fun K => He.ma K (He.ga K "Rule") "changed", "changed", "Rule.changed", defArgs (mem (top 15) 9), defBody (mem (top 15) 9), defScope (mem (top 15) 9)⟩
def dY12 : Dh.DefY := ⟨fun K => He.ga K "place_in", "place_in", "place_in", defArgs (top 19), defBody (top 19), defScope (top 19)⟩
def dY13 : Dh.DefY := ⟨fun K => He.ga K "person_at", "person_at", "person_at", defArgs (top 20), defBody (top 20), defScope (top 20)⟩
def dY14 : Dh.DefY := ⟨fun K => He.ga K "turns_of", "turns_of", "turns_of", defArgs (top 21), defBody (top 21), defScope (top 21)⟩
def dY15 : Dh.DefY := ⟨fun K => He.ga K "share", "share", "share", defArgs (top 22), defBody (top 22), defScope (top 22)⟩
def dY16 : Dh.DefY := ⟨fun K => He.ga K "counts_of", "counts_of", "counts_of", defArgs (top 23), defBody (top 23), defScope (top 23)⟩
def dY17 : Dh.DefY := ⟨fun K => He.ga K "own_lot", "own_lot", "own_lot", defArgs (top 24), defBody (top 24), defScope (top 24)⟩
def dY18 : Dh.DefY := ⟨fun K => He.ga K "period_of", "period_of", "period_of", defArgs (top 25), defBody (top 25), defScope (top 25)⟩
def dY19 : Dh.DefY := ⟨fun K => He.ga K "look_at_facts", "look_at_facts", "look_at_facts", defArgs (top 27), defBody (top 27), defScope (top 27)⟩
def dY20 : Dh.DefY := ⟨fun K => He.ga K "common", "common", "common", defArgs (top 28), defBody (top 28), defScope (top 28)⟩
def dY21 : Dh.DefY := ⟨fun K => He.ga K "cases_of", "cases_of", "cases_of", defArgs (top 29), defBody (top 29), defScope (top 29)⟩
def dY22 : Dh.DefY := ⟨fun K => He.ga K "own_parting", "own_parting", "own_parting", defArgs (top 30), defBody (top 30), defScope (top 30)⟩
def dY23 : Dh.DefY := ⟨fun K => He.ga K "alike", "alike", "alike", defArgs (top 31), defBody (top 31), defScope (top 31)⟩
def dY24 : Dh.DefY := ⟨fun K => He.ga K "needless", "needless", "needless", defArgs (top 32), defBody (top 32), defScope (top 32)⟩
def dY25 : Dh.DefY := ⟨fun K => He.ga K "_law_mix", "_law_mix", "_law_mix", defArgs (top 34), defBody (top 34), defScope (top 34)⟩
def dY26 : Dh.DefY := ⟨fun K => He.ga K "_law_next", "_law_next", "_law_next", defArgs (top 35), defBody (top 35), defScope (top 35)⟩
def dY27 : Dh.DefY := ⟨fun K => He.ga K "_law_rule", "_law_rule", "_law_rule", defArgs (top 36), defBody (top 36), defScope (top 36)⟩
def dY28 : Dh.DefY := ⟨fun K => He.ga K "_law_built", "_law_built", "_law_built", defArgs (top 37), defBody (top 37), defScope (top 37)⟩
def dY29 : Dh.DefY := ⟨fun K => He.ga K "_law_facts", "_law_facts", "_law_facts", defArgs (top 38), defBody (top 38), defScope (top 38)⟩
def dY30 : Dh.DefY := ⟨fun K => He.ga K "_law_cases", "_law_cases", "_law_cases", defArgs (top 39), defBody (top 39), defScope (top 39)⟩
def dY31 : Dh.DefY := ⟨fun K => He.ga K "_law_spread", "_law_spread", "_law_spread", defArgs (top 40), defBody (top 40), defScope (top 40)⟩
def dY32 : Dh.DefY := ⟨fun K => He.ga K "law", "law", "law", defArgs (top 41), defBody (top 41), defScope (top 41)⟩
def fnY : List Dh.DefY := [dY0, dY1, dY2, dY3, dY4, dY5, dY6, dY7, dY8, dY9, dY10, dY11, dY12, dY13, dY14, dY15, dY16, dY17, dY18, dY19, dY20, dY21, dY22, dY23, dY24, dY25, dY26, dY27, dY28, dY29, dY30, dY31, dY32]
def fxs : List Hd.Fx := [.fa (.free "all"), .fa (.free "bool"), .fa (.free "int"), .fa (.free "isinstance"), .fa (.free "len"), .fa (.free "list"), .fa (.free "max"), .fa (.free "min"), .fa (.free "range"), .fa (.free "sorted"), .fa (.free "str"), .fa (.free "tuple"), .fa (.free "zip"), .fa (.int "LEAST_PEOPLE" 2), .fa (.int "MOST_PEOPLE" 12), .fa (.glo "POINTS"), .fa (.glo "Rule"), .scls "Rule", .slot "Rule" "row" 0, .kit "Rule", .tabv kvs_POINTS, .oex "InvalidPoint", .fa (.noat "InvalidPoint" "point"), .fa (.glo "InvalidPoint"), .xf "InvalidPoint", .fa (.glo "is_integer"), .fa (.glo "is_within"), .fa (.glo "is_one_of"), .fa (.mkr "Rule"), .prop "Rule" "size", .prop "Rule" "way", .prop "Rule" "first", .prop "Rule" "aside", .prop "Rule" "later", .eq "Rule", .fa (.meth "Rule" "changed"), .fa (.glo "place_in"), .fa (.glo "person_at"), .fa (.glo "turns_of"), .fa (.glo "share"), .fa (.glo "counts_of"), .fa (.glo "own_lot"), .fa (.glo "period_of"), .fa (.exc "InvalidFacts"), .fa (.glo "InvalidFacts"), .fa (.glo "look_at_facts"), .fa (.glo "common"), .fa (.glo "cases_of"), .fa (.glo "own_parting"), .fa (.glo "alike"), .fa (.glo "needless"), .fa (.glo "_law_next"), .fa (.glo "_law_rule"), .fa (.glo "_law_built"), .fa (.glo "_law_facts"), .fa (.glo "_law_cases"), .fa (.glo "_law_spread"), .fa (.glo "_law_mix"), .fa (.glo "law")]
def tabs : List He.Tab := [(fun K => aP K, ks_POINTS)]
abbrev RR : PySem.W.OpenRow := PySem.W.OpenLaw.row PySem.Challenge.rw_dealtround_k06_whole_needless_points
abbrev hk : PySem.W.Hook := Dh.hookY 6 fnY tabs (Hd.exAll fxs)
def ob (s : PySem.W.SharedT) : Dh.AlY := Dh.obsY 6 fnY tabs (Hd.exAll fxs) (HandSHeadRun.getT s)
theorem ob_eq (s : PySem.W.SharedT) : ob s = hk.obs s.abs := Dh.obsY_eq (HandSHeadRun.getT_eq s)
def namesA : List Str := ["_wall", "DealError", "InvalidPoint", "InvalidFacts", "SIZES", "WAYS", "FIRSTS", "ASIDES", "LATERS", "POINTS", "is_integer", "is_within", "is_one_of", "Rule", "LEAST_PEOPLE", "MOST_PEOPLE", "place_in", "person_at", "turns_of", "share", "counts_of", "own_lot", "period_of", "look_at_facts", "common", "cases_of", "own_parting", "alike", "needless", "_law_mix"]
def namesB : List Str := ["_law_next", "_law_rule", "_law_built", "_law_facts", "_law_cases", "_law_spread"]
def namesC : List Str := []
def namesL : List Str := namesA ++ (namesB ++ namesC)
theorem run_false (w : World) : HandSHeadRun.RunEq RR (PySem.W.view RR.prog [41]) hk ob 20000 namesL (w.withFollow "special-get-raises" false) := by
  intro os
  kernel_rfl
theorem run_true (w : World) : HandSHeadRun.RunEq RR (PySem.W.view RR.prog [41]) hk ob 20000 namesL (w.withFollow "special-get-raises" true) := by
  intro os
  kernel_rfl
theorem run (w : World) : HandSHeadRun.RunEq RR (PySem.W.view RR.prog [41]) hk ob 20000 namesL w := PySem.W.byRow2 "special-get-raises" (P := fun w => HandSHeadRun.RunEq RR (PySem.W.view RR.prog [41]) hk ob 20000 namesL w) run_false run_true w
section
variable {P : Program} {w : World} {K : PySem.W.Frag} {mg : Str → Option Value} {h : Heap}
theorem facts {fa : Addr} (X : K.In h) (G : h.Ns mainGlobals mg) (hfa : mg ("law" : Str) = some (.ref fa)) (c : Dh.SaysY fnY tabs (Hd.exAll fxs) w K) :
    ∃ fd : FuncData, (∀ (s : Shared) (v : Value), BindsTo s fd ⟨[v], []⟩ [("_law_script", v)]) ∧ ∀ base : Heap, K.In base → base.Ns mainGlobals mg → FnOk P w K mg base (L2.CX P w) 7 fa fd ["_law_script"] (spLaw K) := by
  have e := c.more
  have gL : mg "law" = some (.ref (He.ga K "law")) := (He.glo_ok X G (Hd.ex_ix e 58 (f := .fa (.glo "law"))))
  obtain rfl : He.ga K "law" = fa := Value.ref.inj (Option.some.inj (gL.symm.trans hfa))
  obtain ⟨fd32, F32⟩ := c.def_ 32 (d := dY32)
  refine ⟨fd32, fun s v => (FunD.bindsA (ps := ["_law_script"]) F32 fun _ _ _ _ _ _ us hl => match us, hl with | [_], _ => rfl) s [v] rfl, fun base _ _ => ?_⟩
  have M : Mg K mg := { b_all := He.free_ok X G (Hd.ex_ix e 0 (f := .fa (.free "all"))), b_bool := He.free_ok X G (Hd.ex_ix e 1 (f := .fa (.free "bool"))), b_int := He.free_ok X G (Hd.ex_ix e 2 (f := .fa (.free "int"))), b_isinstance := He.free_ok X G (Hd.ex_ix e 3 (f := .fa (.free "isinstance"))), b_len := He.free_ok X G (Hd.ex_ix e 4 (f := .fa (.free "len"))), b_list := He.free_ok X G (Hd.ex_ix e 5 (f := .fa (.free "list"))), b_max := He.free_ok X G (Hd.ex_ix e 6 (f := .fa (.free "max"))), b_min := He.free_ok X G (Hd.ex_ix e 7 (f := .fa (.free "min"))), b_range := He.free_ok X G (Hd.ex_ix e 8 (f := .fa (.free "range"))), b_sorted := He.free_ok X G (Hd.ex_ix e 9 (f := .fa (.free "sorted"))), b_str := He.free_ok X G (Hd.ex_ix e 10 (f := .fa (.free "str"))), b_tuple := He.free_ok X G (Hd.ex_ix e 11 (f := .fa (.free "tuple"))), b_zip := He.free_ok X G (Hd.ex_ix e 12 (f := .fa (.free "zip"))), c_LEAST_PEOPLE := He.int_ok X G (Hd.ex_ix e 13 (f := .fa (.int "LEAST_PEOPLE" 2))), c_MOST_PEOPLE := He.int_ok X G (Hd.ex_ix e 14 (f := .fa (.int "MOST_PEOPLE" 12))), c_POINTS := (He.glo_ok X G (Hd.ex_ix e 15 (f := .fa (.glo "POINTS")))), c_Rule := (He.glo_ok X G (Hd.ex_ix e 16 (f := .fa (.glo "Rule")))) }
  have RC : RuC K := Hd.ruc_ok (Hd.ex_ix e 17 (f := .scls "Rule")) (Hd.ex_ix e 18 (f := .slot "Rule" "row" 0)) (Hd.ex_ix e 19 (f := .kit "Rule"))
  have RCS := Hd.slot_ok (Hd.ex_ix e 18 (f := .slot "Rule" "row" 0))
  have D0 := c.tab 0 (t := (fun K => aP K, ks_POINTS))
  obtain ⟨nT, T_POINTS⟩ := Dk.ktab_of D0 (by decide)
  have TV_POINTS : TabV K w (aP K) kvs_POINTS := Hd.tabv_ok (Hd.ex_ix e 20 (f := .tabv kvs_POINTS)) (by rw [names_eq]; exact D0) (by decide)
  obtain ⟨fd0, F0⟩ := c.def_ 0 (d := dY0)
  have B0 : Binds K fd0 ["self", "point"] [] := F0.bindsN fun _ _ _ _ _ _ us hl => match us, hl with | [_, _], _ => rfl
  have O0 := ok_InvalidPointU_initU (P := P) (w := w) (mg := mg) (base := base) F0 (Hd.oexc_ok (Hd.ex_ix e 21 (f := .oex "InvalidPoint"))) (He.noat_ok (Hd.ex_ix e 22 (f := .fa (.noat "InvalidPoint" "point"))))
  have XI_InvalidPoint := Hd.oex_ok (Hd.ex_ix e 21 (f := .oex "InvalidPoint")) O0 B0 (He.glo_ok X G (Hd.ex_ix e 23 (f := .fa (.glo "InvalidPoint"))))
  have XF_InvalidPoint : XfC K (He.ga K "InvalidPoint") := Hd.xf_ok (Hd.ex_ix e 24 (f := .xf "InvalidPoint"))
  have NOAT_InvalidPoint_point : PySem.W.findIn K (.ref (He.ga K "InvalidPoint")) "point" = some none := He.noat_ok (Hd.ex_ix e 22 (f := .fa (.noat "InvalidPoint" "point")))
  obtain ⟨fd1, F1⟩ := c.def_ 1 (d := dY1)
  have B1 : Binds K fd1 ["value", "least"] [] := F1.bindsN fun _ _ _ _ _ _ us hl => match us, hl with | [_, _], _ => rfl
  have O1 := ok_is_integer (P := P) (w := w) (base := base) F1 M 
  have C_is_integer : Cal P w K mg base 1 "is_integer" 2 F_is_integer := Hd.cal_ok O1 (fun ds Q R h => law_is_integer ds Q R h) (He.glo_ok X G (Hd.ex_ix e 25 (f := .fa (.glo "is_integer")))) F1.kp B1
  obtain ⟨fd2, F2⟩ := c.def_ 2 (d := dY2)
  have B2 : Binds K fd2 ["value", "least", "most"] [] := F2.bindsN fun _ _ _ _ _ _ us hl => match us, hl with | [_, _, _], _ => rfl
  have O2 := ok_is_within (P := P) (w := w) (base := base) F2 M C_is_integer
  have C_is_within : Cal P w K mg base 2 "is_within" 3 F_is_within := Hd.cal_ok O2 (fun ds Q R h => law_is_within ds Q R h) (He.glo_ok X G (Hd.ex_ix e 26 (f := .fa (.glo "is_within")))) F2.kp B2
  obtain ⟨fd3, F3⟩ := c.def_ 3 (d := dY3)
  have B3 : Binds K fd3 ["value", "some"] [] := F3.bindsN fun _ _ _ _ _ _ us hl => match us, hl with | [_, _], _ => rfl
  have O3 := ok_is_one_of (P := P) (w := w) (base := base) F3 M C_is_integer
  have C_is_one_of : Cal P w K mg base 2 "is_one_of" 2 F_is_one_of := Hd.cal_ok O3 (fun ds Q R h => law_is_one_of ds Q R h) (He.glo_ok X G (Hd.ex_ix e 27 (f := .fa (.glo "is_one_of")))) F3.kp B3
  obtain ⟨fd4, F4⟩ := c.def_ 4 (d := dY4)
  have B4 : Binds K fd4 ["self", "size", "way", "first", "aside", "later"] [] := F4.bindsN fun _ _ _ _ _ _ us hl => match us, hl with | [_, _, _, _, _, _], _ => rfl
  have O4 := ok_Rule_init (P := P) (w := w) (base := base) F4 M C_is_one_of T_POINTS TV_POINTS RC RCS XI_InvalidPoint
  have C_Rule := Hd.mkc_ok (Hd.ex_ix e 28 (f := .fa (.mkr "Rule"))) O4 B4 (He.glo_ok X G (Hd.ex_ix e 16 (f := .fa (.glo "Rule"))))
  obtain ⟨fd5, F5⟩ := c.def_ 5 (d := dY5)
  have B5 : Binds K fd5 ["self"] [] := F5.bindsN fun _ _ _ _ _ _ us hl => match us, hl with | [_], _ => rfl
  have O5 := ok_Rule_size (P := P) (w := w) (base := base) F5 M RC RCS
  have C_Rule_size : PrC P w K mg base 1 (aR K) "size" (F_prop K 0) := Hd.prop_ok (Hd.ex_ix e 29 (f := .prop "Rule" "size")) RC.sc O5 (fun ds Q R h => law_prop K 0 ds Q R h) B5
  obtain ⟨fd6, F6⟩ := c.def_ 6 (d := dY6)
  have B6 : Binds K fd6 ["self"] [] := F6.bindsN fun _ _ _ _ _ _ us hl => match us, hl with | [_], _ => rfl
  have O6 := ok_Rule_way (P := P) (w := w) (base := base) F6 M RC RCS
  have C_Rule_way : PrC P w K mg base 1 (aR K) "way" (F_prop K 1) := Hd.prop_ok (Hd.ex_ix e 30 (f := .prop "Rule" "way")) RC.sc O6 (fun ds Q R h => law_prop K 1 ds Q R h) B6
  obtain ⟨fd7, F7⟩ := c.def_ 7 (d := dY7)
  have B7 : Binds K fd7 ["self"] [] := F7.bindsN fun _ _ _ _ _ _ us hl => match us, hl with | [_], _ => rfl
  have O7 := ok_Rule_first (P := P) (w := w) (base := base) F7 M RC RCS
  have C_Rule_first : PrC P w K mg base 1 (aR K) "first" (F_prop K 2) := Hd.prop_ok (Hd.ex_ix e 31 (f := .prop "Rule" "first")) RC.sc O7 (fun ds Q R h => law_prop K 2 ds Q R h) B7
  obtain ⟨fd8, F8⟩ := c.def_ 8 (d := dY8)
  have B8 : Binds K fd8 ["self"] [] := F8.bindsN fun _ _ _ _ _ _ us hl => match us, hl with | [_], _ => rfl
  have O8 := ok_Rule_aside (P := P) (w := w) (base := base) F8 M RC RCS
  have C_Rule_aside : PrC P w K mg base 1 (aR K) "aside" (F_prop K 3) := Hd.prop_ok (Hd.ex_ix e 32 (f := .prop "Rule" "aside")) RC.sc O8 (fun ds Q R h => law_prop K 3 ds Q R h) B8
  obtain ⟨fd9, F9⟩ := c.def_ 9 (d := dY9)
  have B9 : Binds K fd9 ["self"] [] := F9.bindsN fun _ _ _ _ _ _ us hl => match us, hl with | [_], _ => rfl
  have O9 := ok_Rule_later (P := P) (w := w) (base := base) F9 M RC RCS
  have C_Rule_later : PrC P w K mg base 1 (aR K) "later" (F_prop K 4) := Hd.prop_ok (Hd.ex_ix e 33 (f := .prop "Rule" "later")) RC.sc O9 (fun ds Q R h => law_prop K 4 ds Q R h) B9
  obtain ⟨fd10, F10⟩ := c.def_ 10 (d := dY10)
  have B10 : Binds K fd10 ["self", "other"] [] := F10.bindsN fun _ _ _ _ _ _ us hl => match us, hl with | [_, _], _ => rfl
  have O10 := ok_RuleU_eqU (P := P) (w := w) (base := base) F10 M RC RCS
  have C_eq : EqC P w K mg base 1 (aR K) (F_eq K) := Hd.eq_ok (Hd.ex_ix e 34 (f := .eq "Rule")) O10 (fun ds Q R h => law_eq K ds Q R h) B10
  obtain ⟨fd11, F11⟩ := c.def_ 11 (d := dY11)
  have B11 : Binds K fd11 ["self", "point", "value"] [] := F11.bindsN fun _ _ _ _ _ _ us hl => match us, hl with | [_, _, _], _ => rfl
  have O11 := ok_Rule_changed (P := P) (w := w) (base := base) F11 M C_Rule T_POINTS RC RCS XI_InvalidPoint
  have C_Rule_changed : MeC P w K mg base 5 (aR K) "changed" 3 (F_Rule_changed K) := Hd.meth_ok' (Hd.ex_ix e 35 (f := .fa (.meth "Rule" "changed"))) RC.sc O11 (fun ds Q R h => law_Rule_changed K ds Q R h) B11
  obtain ⟨fd12, F12⟩ := c.def_ 12 (d := dY12)
  have B12 : Binds K fd12 ["rule", "m", "turns", "person"] [] := F12.bindsN fun _ _ _ _ _ _ us hl => match us, hl with | [_, _, _, _], _ => rfl
  have O12 := ok_place_in (P := P) (w := w) (base := base) F12 M RC RCS
  have C_place_in : Cal P w K mg base 1 "place_in" 4 (F_place_in K) := Hd.cal_ok O12 (fun ds Q R h => law_place_in K ds Q R h) (He.glo_ok X G (Hd.ex_ix e 36 (f := .fa (.glo "place_in")))) F12.kp B12
  obtain ⟨fd13, F13⟩ := c.def_ 13 (d := dY13)
  have B13 : Binds K fd13 ["rule", "m", "turn"] [] := F13.bindsN fun _ _ _ _ _ _ us hl => match us, hl with | [_, _, _], _ => rfl
  have O13 := ok_person_at (P := P) (w := w) (base := base) F13 M RC RCS
  have C_person_at : Cal P w K mg base 1 "person_at" 3 (F_person_at K) := Hd.cal_ok O13 (fun ds Q R h => law_person_at K ds Q R h) (He.glo_ok X G (Hd.ex_ix e 37 (f := .fa (.glo "person_at")))) F13.kp B13
  obtain ⟨fd14, F14⟩ := c.def_ 14 (d := dY14)
  have B14 : Binds K fd14 ["rule", "m", "person", "many"] [] := F14.bindsN fun _ _ _ _ _ _ us hl => match us, hl with | [_, _, _, _], _ => rfl
  have O14 := ok_turns_of (P := P) (w := w) (base := base) F14 M C_place_in
  have C_turns_of : Cal P w K mg base 2 "turns_of" 4 (F_turns_of K) := Hd.cal_ok O14 (fun ds Q R h => law_turns_of K ds Q R h) (He.glo_ok X G (Hd.ex_ix e 38 (f := .fa (.glo "turns_of")))) F14.kp B14
  obtain ⟨fd15, F15⟩ := c.def_ 15 (d := dY15)
  have B15 : Binds K fd15 ["rule", "m", "person", "begin", "many"] [] := F15.bindsN fun _ _ _ _ _ _ us hl => match us, hl with | [_, _, _, _, _], _ => rfl
  have O15 := ok_share (P := P) (w := w) (base := base) F15 M C_turns_of C_person_at RC RCS
  have C_share : Cal P w K mg base 3 "share" 5 (F_share K) := Hd.cal_ok O15 (fun ds Q R h => law_share K ds Q R h) (He.glo_ok X G (Hd.ex_ix e 39 (f := .fa (.glo "share")))) F15.kp B15
  obtain ⟨fd16, F16⟩ := c.def_ 16 (d := dY16)
  have B16 : Binds K fd16 ["rule", "n"] [] := F16.bindsN fun _ _ _ _ _ _ us hl => match us, hl with | [_, _], _ => rfl
  have O16 := ok_counts_of (P := P) (w := w) (base := base) F16 M RC RCS
  have C_counts_of : Cal P w K mg base 1 "counts_of" 2 (F_counts_of K) := Hd.cal_ok O16 (fun ds Q R h => law_counts_of K ds Q R h) (He.glo_ok X G (Hd.ex_ix e 40 (f := .fa (.glo "counts_of")))) F16.kp B16
  obtain ⟨fd17, F17⟩ := c.def_ 17 (d := dY17)
  have B17 : Binds K fd17 ["rule", "m", "n", "person"] [] := F17.bindsN fun _ _ _ _ _ _ us hl => match us, hl with | [_, _, _, _], _ => rfl
  have O17 := ok_own_lot (P := P) (w := w) (base := base) F17 M C_counts_of C_share
  have C_own_lot : Cal P w K mg base 4 "own_lot" 4 (F_own_lot K) := Hd.cal_ok O17 (fun ds Q R h => law_own_lot K ds Q R h) (He.glo_ok X G (Hd.ex_ix e 41 (f := .fa (.glo "own_lot")))) F17.kp B17
  obtain ⟨fd18, F18⟩ := c.def_ 18 (d := dY18)
  have B18 : Binds K fd18 ["rule", "m"] [] := F18.bindsN fun _ _ _ _ _ _ us hl => match us, hl with | [_, _], _ => rfl
  have O18 := ok_period_of (P := P) (w := w) (base := base) F18 M RC RCS
  have C_period_of : Cal P w K mg base 1 "period_of" 2 (F_period_of K) := Hd.cal_ok O18 (fun ds Q R h => law_period_of K ds Q R h) (He.glo_ok X G (Hd.ex_ix e 42 (f := .fa (.glo "period_of")))) F18.kp B18
  obtain ⟨fd19, F19⟩ := c.def_ 19 (d := dY19)
  have B19 : Binds K fd19 ["facts"] [] := F19.bindsN fun _ _ _ _ _ _ us hl => match us, hl with | [_], _ => rfl
  have X_InvalidFacts : X0 K mg "InvalidFacts" (He.ga K "InvalidFacts") := Hd.x0_ok (Hd.ex_ix e 43 (f := .fa (.exc "InvalidFacts"))) (He.glo_ok X G (Hd.ex_ix e 44 (f := .fa (.glo "InvalidFacts"))))
  have O19 := ok_look_at_facts (P := P) (w := w) (base := base) F19 M C_is_within X_InvalidFacts
  have C_look_at_facts : Cal P w K mg base 3 "look_at_facts" 1 (F_look_at_facts K) := Hd.cal_ok O19 (fun ds Q R h => law_look_at_facts K ds Q R h) (He.glo_ok X G (Hd.ex_ix e 45 (f := .fa (.glo "look_at_facts")))) F19.kp B19
  obtain ⟨fd20, F20⟩ := c.def_ 20 (d := dY20)
  have B20 : Binds K fd20 ["one", "other"] [] := F20.bindsN fun _ _ _ _ _ _ us hl => match us, hl with | [_, _], _ => rfl
  have O20 := ok_common (P := P) (w := w) (base := base) F20 M 
  have C_common : Cal P w K mg base 1 "common" 2 (F_common K) := Hd.cal_ok O20 (fun ds Q R h => law_common K ds Q R h) (He.glo_ok X G (Hd.ex_ix e 46 (f := .fa (.glo "common")))) F20.kp B20
  obtain ⟨fd21, F21⟩ := c.def_ 21 (d := dY21)
  have B21 : Binds K fd21 ["facts", "rules"] [] := F21.bindsN fun _ _ _ _ _ _ us hl => match us, hl with | [_, _], _ => rfl
  have O21 := ok_cases_of (P := P) (w := w) (base := base) F21 M C_common C_period_of
  have C_cases_of : Gn.CalG P w K mg base 2 "cases_of" 2 (F_cases_of K) := Hd.calg_ok O21 (fun ds out h => law_cases_of K ds out h) (He.glo_ok X G (Hd.ex_ix e 47 (f := .fa (.glo "cases_of")))) F21.kp B21 rfl
  obtain ⟨fd22, F22⟩ := c.def_ 22 (d := dY22)
  have B22 : Binds K fd22 ["one", "other", "facts"] [] := F22.bindsN fun _ _ _ _ _ _ us hl => match us, hl with | [_, _, _], _ => rfl
  have O22 := ok_own_parting (P := P) (w := w) (base := base) F22 M C_cases_of C_own_lot C_eq
  have C_own_parting : Cal P w K mg base 5 "own_parting" 3 (F_own_parting K) := Hd.cal_ok O22 (fun ds Q R h => law_own_parting K ds Q R h) (He.glo_ok X G (Hd.ex_ix e 48 (f := .fa (.glo "own_parting")))) F22.kp B22
  obtain ⟨fd23, F23⟩ := c.def_ 23 (d := dY23)
  have B23 : Binds K fd23 ["one", "other", "facts"] [] := F23.bindsN fun _ _ _ _ _ _ us hl => match us, hl with | [_, _, _], _ => rfl
  have O23 := ok_alike (P := P) (w := w) (base := base) F23 M C_look_at_facts C_own_parting
  have C_alike : Cal P w K mg base 6 "alike" 3 (F_alike K) := Hd.cal_ok O23 (fun ds Q R h => law_alike K ds Q R h) (He.glo_ok X G (Hd.ex_ix e 49 (f := .fa (.glo "alike")))) F23.kp B23
  obtain ⟨fd24, F24⟩ := c.def_ 24 (d := dY24)
  have B24 : Binds K fd24 ["rule", "facts"] [] := F24.bindsN fun _ _ _ _ _ _ us hl => match us, hl with | [_, _], _ => rfl
  have O24 := ok_needless (P := P) (w := w) (base := base) F24 M C_look_at_facts C_own_parting C_Rule_changed T_POINTS TV_POINTS
  have C_needless : Cal P w K mg base 6 "needless" 2 (F_needless K) := Hd.cal_ok O24 (fun ds Q R h => law_needless K ds Q R h) (He.glo_ok X G (Hd.ex_ix e 50 (f := .fa (.glo "needless")))) F24.kp B24
  obtain ⟨fd25, F25⟩ := c.def_ 25 (d := dY25)
  have B25 : Binds K fd25 ["_law_script", "_law_seed"] [] := F25.bindsN fun _ _ _ _ _ _ us hl => match us, hl with | [_, _], _ => rfl
  have O25 := ok_l_mix (P := P) (w := w) (base := base) F25 M
  obtain ⟨fd26, F26⟩ := c.def_ 26 (d := dY26)
  have B26 : Binds K fd26 ["_law_h", "_law_bound"] [] := F26.bindsN fun _ _ _ _ _ _ us hl => match us, hl with | [_, _], _ => rfl
  have O26 := ok_l_next (P := P) (w := w) (base := base) F26 M
  have C_l_next : Cal P w K mg base 1 "_law_next" 2 Fnext := Hd.cal_ok O26 (fun ds Q R h => h) (He.glo_ok X G (Hd.ex_ix e 51 (f := .fa (.glo "_law_next")))) F26.kp B26
  obtain ⟨fd27, F27⟩ := c.def_ 27 (d := dY27)
  have B27 : Binds K fd27 ["_law_h"] [] := F27.bindsN fun _ _ _ _ _ _ us hl => match us, hl with | [_], _ => rfl
  have O27 := ok_l_rule (P := P) (w := w) (base := base) F27 M C_l_next
  have C_l_rule : Dh.CalL P w K mg base 2 "_law_rule" 1 F_l_rule := Hd.calL_ok O27 (fun ds Q R h => law_l_rule ds Q R h) (He.glo_ok X G (Hd.ex_ix e 52 (f := .fa (.glo "_law_rule")))) F27.kp B27
  obtain ⟨fd28, F28⟩ := c.def_ 28 (d := dY28)
  have B28 : Binds K fd28 ["_law_t"] [] := F28.bindsN fun _ _ _ _ _ _ us hl => match us, hl with | [_], _ => rfl
  have O28 := ok_l_built (P := P) (w := w) (base := base) F28 M C_Rule
  have C_l_built : Cal P w K mg base 5 "_law_built" 1 (F_l_built K) := Hd.cal_ok O28 (fun ds Q R h => law_l_built K ds Q R h) (He.glo_ok X G (Hd.ex_ix e 53 (f := .fa (.glo "_law_built")))) F28.kp B28
  obtain ⟨fd29, F29⟩ := c.def_ 29 (d := dY29)
  have B29 : Binds K fd29 ["_law_h", "_law_most"] [] := F29.bindsN fun _ _ _ _ _ _ us hl => match us, hl with | [_, _], _ => rfl
  have O29 := ok_l_facts (P := P) (w := w) (base := base) F29 M C_l_next
  have C_l_facts : Cal P w K mg base 2 "_law_facts" 2 (F_l_facts K) := Hd.cal_ok O29 (fun ds Q R h => law_l_facts K ds Q R h) (He.glo_ok X G (Hd.ex_ix e 54 (f := .fa (.glo "_law_facts")))) F29.kp B29
  obtain ⟨fd30, F30⟩ := c.def_ 30 (d := dY30)
  have B30 : Binds K fd30 ["_law_facts_here", "_law_whole"] [] := F30.bindsN fun _ _ _ _ _ _ us hl => match us, hl with | [_, _], _ => rfl
  have O30 := ok_l_cases (P := P) (w := w) (base := base) F30 M 
  have C_l_cases : Cal P w K mg base 1 "_law_cases" 2 (F_l_cases K) := Hd.cal_ok O30 (fun ds Q R h => law_l_cases K ds Q R h) (He.glo_ok X G (Hd.ex_ix e 55 (f := .fa (.glo "_law_cases")))) F30.kp B30
  obtain ⟨fd31, F31⟩ := c.def_ 31 (d := dY31)
  have B31 : Binds K fd31 ["_law_row"] [] := F31.bindsN fun _ _ _ _ _ _ us hl => match us, hl with | [_], _ => rfl
  have O31 := ok_l_spread (P := P) (w := w) (base := base) F31 M 
  have C_l_spread : Cal P w K mg base 1 "_law_spread" 1 (F_l_spread K) := Hd.cal_ok O31 (fun ds Q R h => law_l_spread K ds Q R h) (He.glo_ok X G (Hd.ex_ix e 56 (f := .fa (.glo "_law_spread")))) F31.kp B31
  have O32 := ok_law (P := P) (w := w) (base := base) F32 M RC O25 (He.glo_ok X G (Hd.ex_ix e 57 (f := .fa (.glo "_law_mix")))) F25.kp B25 C_l_rule C_l_built C_l_facts C_alike C_Rule_changed C_needless C_eq
  exact O32
end
end K06
open PySem PySem.W PySem.Calls PyProof.Rows
theorem PySem.Challenge.cw_dealtround_k06_whole_needless_points_holds : PySem.Challenge.rw_dealtround_k06_whole_needless_points.Holds := by
  w_on; o_law
  refine HandSHeadRun.head_any (r := OpenLaw.row PySem.Challenge.rw_dealtround_k06_whole_needless_points) (q := view (OpenLaw.row PySem.Challenge.rw_dealtround_k06_whole_needless_points).prog [41]) (H := K06.hk) (ob := K06.ob) (M := 20000) (loose := K06.namesL) (d := HandSHeadRun.topDef (OpenLaw.row PySem.Challenge.rw_dealtround_k06_whole_needless_points).prog 41) (kwd := []) K06.ob_eq
    (by kernel_rfl) (fun s => by kernel_rfl) K06.run (by kernel_rfl) (by kernel_rfl) (by kernel_rfl) (by rfl) (by first | assumption | decide +kernel) (by decide +kernel) ⟨rfl, rfl, rfl, rfl, rfl, by decide +kernel⟩ ?hw ?hc
  case hw => w_witness2
  case hc =>
    refine Dh.walk_ofY (l := PySem.Challenge.rw_dealtround_k06_whole_needless_points) (n := 63) (k := 7) (x := "_law_script") (CX := fun w => L2.CX (PySem.Challenge.rw_dealtround_k06_whole_needless_points).prog w) rfl (by decide) (by kernel_rfl) ⟨rfl, by decide, by decide⟩ ?F (fun _ _ _ _ _ ⟨_, _, _, _, _, _, _, _, _, _, _, _, z⟩ => z.elim)
    intro w mg fa h Y G hmg0
    obtain ⟨K, KX, c⟩ := Y
    have hmg : mg ("law" : PySem.Str) = some (.ref fa) := by
      have e : (HandSHeadRun.topDef (OpenLaw.row PySem.Challenge.rw_dealtround_k06_whole_needless_points).prog 41).name = ("law" : PySem.Str) := by kernel_rfl
      rw [← e]
      exact hmg0
    obtain ⟨fd, hb, hF⟩ := K06.facts (P := (PySem.Challenge.rw_dealtround_k06_whole_needless_points).prog) (w := w) KX G hmg c
    exact ⟨K, fd, Dv.spLaw K, KX, hb, fun H a ns hl hbits _ hS => ⟨a, ns, rfl, hS, hl, fun x hx => Hd.bits_lt (hbits x hx), fun _ => rfl⟩, hF⟩
