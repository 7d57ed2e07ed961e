import PyProof.Rows.All
import Wide.All
import OpenK.AllK
import Wide.FinOn
import HandS.ForMost
import HandS.Deep
import HandS.EndOwn
import HandS.Wide
import HandS.Flow
import HandS.Conv
import HandS.Zip
import HandS.TupAny
import KE.SortData
import KE.SortKeyHeap
import KE.KDictKeyed
import KE.DataAny
import KE.DataMinMax
import PyProof.GenRules
import PyProof.GenQ
import HandS.GenList
import HandS.IsInst
import HandS.Style
import HandS.DictComp
import HandS.Nested
import PyProof.TupleOfGen
import PyProof.SumWalkG
import HandS.Iter
import KE.DatumOrd
import PySem.Challenge.RW_finitehouse_k89_functions_from_sums
set_option Elab.async false
set_option linter.all false
set_option maxRecDepth 100000
set_option maxHeartbeats 4000000
/-! S1: data in the abstract heap, frames as lists of data. -/
namespace Sx
open PySem PySem.Spec PyProof.Rows L2

abbrev D := PyData
abbrev Sg := L2.St
abbrev Env := List (Option D)

/-! ### keys -/
mutual
def nk : D → Option NestedKey
  | .none => some .none
  | .bool b => some (.num (if b = true then 1 else 0))
  | .int i => some (.num i)
  | .str s => some (.text s)
  | .tuple l => (nks l).map .tup
  | .list _ => none
  | .dict _ => none
def nks : List D → Option (List NestedKey)
  | [] => some []
  | d :: l => match nk d, nks l with
    | some k, some ks => some (k :: ks)
    | _, _ => none
end

/-- a dict's object, entry by entry: hash, key, value -/
def DRaw (a : Addr) (es : List (Int × V × V)) : HO := .ext fun h => ∃ (o : Obj) (en : Array DictEntry) (ep : Nat), h.get? a = some o ∧ o.ExactDict ∧ o.data = .dict en ep ∧ (a == sysModules) = false ∧
  Paired (fun (p : Int × V × V) (q : DictEntry) => q.hash = p.1 ∧ RelV p.2.1 q.key ∧ RelV p.2.2 q.val) es en.toList

/-! ### a value is a datum: its changeable objects (and tuples) lie outside O -/
mutual
inductive Rp (K : PySem.W.Frag) (w : World) (O : Addr → Prop) (H : Hp) : V → D → Prop
  | non : Rp K w O H .non .none
  | bl (b : Bool) : Rp K w O H (.bl b) (.bool b)
  | int (i : Int) : Rp K w O H (.int i) (.int i)
  | str (x : Str) : Rp K w O H (.str x) (.str x)
  | lst {a : Addr} {xs : List V} {ds : List D} : ¬ O a → SqL K H a xs → RpA K w O H xs ds → Rp K w O H (.ref a) (.list ds)
  | tup {a : Addr} {xs : List V} {ds : List D} : ¬ O a → SqT K H a xs → RpA K w O H xs ds → Rp K w O H (.ref a) (.tuple ds)
  | dic {a : Addr} {es : List (Int × V × V)} {ds : List (D × D)} : ¬ O a → H a = some (DRaw a es) → RpP K w O H es ds → Rp K w O H (.ref a) (.dict ds)
inductive RpA (K : PySem.W.Frag) (w : World) (O : Addr → Prop) (H : Hp) : List V → List D → Prop
  | nil : RpA K w O H [] []
  | cons {v : V} {vs : List V} {d : D} {ds : List D} : Rp K w O H v d → RpA K w O H vs ds → RpA K w O H (v :: vs) (d :: ds)
inductive RpP (K : PySem.W.Frag) (w : World) (O : Addr → Prop) (H : Hp) : List (Int × V × V) → List (D × D) → Prop
  | nil : RpP K w O H [] []
  | cons {h : Int} {kv vv : V} {es : List (Int × V × V)} {k d : D} {ds : List (D × D)} : (∃ q, nk k = some q ∧ h = q.hash w) → Rp K w O H kv k → Rp K w O H vv d → RpP K w O H es ds → RpP K w O H ((h, kv, vv) :: es) ((k, d) :: ds)
end

section
variable {K : PySem.W.Frag} {w : World} {O O' : Addr → Prop} {H H' : Hp}
theorem rdStay {a : Addr} {u : HO} (hk : ∀ b o, H b = some o → ¬ O b → (∀ ps, o ≠ .tbl ps) → H' b = some o) (ha : ¬ O a) (hu : ∀ ps, u ≠ .tbl ps) (h : Rd H a u) : Rd H' a u := by
  rcases h with h | ⟨o, h⟩
  · exact .inl (hk a u h ha hu)
  · exact .inr ⟨o, hk a _ h ha (by intro ps e; cases e)⟩
theorem sqlStay {a : Addr} {xs : List V} (hk : ∀ b o, H b = some o → ¬ O b → (∀ ps, o ≠ .tbl ps) → H' b = some o) (ha : ¬ O a) (h : SqL K H a xs) : SqL K H' a xs := by
  rcases h with h | h
  · exact .inl (rdStay hk ha (by intro ps e; cases e) h)
  · exact .inr h
theorem sqtStay {a : Addr} {xs : List V} (hk : ∀ b o, H b = some o → ¬ O b → (∀ ps, o ≠ .tbl ps) → H' b = some o) (ha : ¬ O a) (h : SqT K H a xs) : SqT K H' a xs := by
  rcases h with h | h
  · exact .inl (rdStay hk ha (by intro ps e; cases e) h)
  · exact .inr h
theorem sqlAt {a : Addr} {xs : List V} (h : SqL K H a xs) : H a ≠ none ∨ ∃ o, K.lookup a = some o := by
  rcases h with (h | ⟨o, h⟩) | ⟨o, _, _, h, _⟩
  · exact .inl (by rw [h]; simp)
  · exact .inl (by rw [h]; simp)
  · exact .inr ⟨o, h⟩
theorem sqtAt {a : Addr} {xs : List V} (h : SqT K H a xs) : H a ≠ none ∨ ∃ o, K.lookup a = some o := by
  rcases h with (h | ⟨o, h⟩) | ⟨o, _, _, h, _⟩
  · exact .inl (by rw [h]; simp)
  · exact .inl (by rw [h]; simp)
  · exact .inr ⟨o, h⟩
mutual
/-- it stays one while the objects outside O stay, and what is new in O' was nothing -/
theorem Rp.stay (hk : ∀ b o, H b = some o → ¬ O b → (∀ ps, o ≠ .tbl ps) → H' b = some o) (ho : ∀ b, O' b → O b ∨ (H b = none ∧ K.lookup b = none)) : ∀ (d : D) (v : V), Rp K w O H v d → Rp K w O' H' v d
  | .none, _, h => by cases h; exact .non
  | .bool b, _, h => by cases h; exact .bl b
  | .int i, _, h => by cases h; exact .int i
  | .str x, _, h => by cases h; exact .str x
  | .list ds, _, h => by
    cases h with
    | lst h1 h2 h3 =>
      refine .lst (fun z => ?_) (sqlStay hk h1 h2) (RpA.stay hk ho ds _ h3)
      rcases ho _ z with z | ⟨z1, z2⟩
      · exact h1 z
      · rcases sqlAt h2 with q | ⟨o, q⟩
        · exact q z1
        · rw [z2] at q; cases q
  | .tuple ds, _, h => by
    cases h with
    | tup h1 h2 h3 =>
      refine .tup (fun z => ?_) (sqtStay hk h1 h2) (RpA.stay hk ho ds _ h3)
      rcases ho _ z with z | ⟨z1, z2⟩
      · exact h1 z
      · rcases sqtAt h2 with q | ⟨o, q⟩
        · exact q z1
        · rw [z2] at q; cases q
  | .dict ds, _, h => by
    cases h with
    | dic h1 h2 h3 =>
      refine .dic (fun z => ?_) (hk _ _ h2 h1 (by intro ps e; cases e)) (RpP.stay hk ho ds _ h3)
      rcases ho _ z with z | ⟨z1, z2⟩
      · exact h1 z
      · rw [h2] at z1; cases z1
theorem RpA.stay (hk : ∀ b o, H b = some o → ¬ O b → (∀ ps, o ≠ .tbl ps) → H' b = some o) (ho : ∀ b, O' b → O b ∨ (H b = none ∧ K.lookup b = none)) : ∀ (ds : List D) (vs : List V), RpA K w O H vs ds → RpA K w O' H' vs ds
  | [], _, h => by cases h; exact .nil
  | d :: ds, _, h => by
    cases h with
    | cons h1 h2 => exact .cons (Rp.stay hk ho d _ h1) (RpA.stay hk ho ds _ h2)
theorem RpP.stay (hk : ∀ b o, H b = some o → ¬ O b → (∀ ps, o ≠ .tbl ps) → H' b = some o) (ho : ∀ b, O' b → O b ∨ (H b = none ∧ K.lookup b = none)) : ∀ (ds : List (D × D)) (es : List (Int × V × V)), RpP K w O H es ds → RpP K w O' H' es ds
  | [], _, h => by cases h; exact .nil
  | (k, d) :: ds, _, h => by
    cases h with
    | cons h0 h1 h2 h3 => exact .cons h0 (Rp.stay hk ho k _ h1) (Rp.stay hk ho d _ h2) (RpP.stay hk ho ds _ h3)
end
theorem Rp.weak (ho : ∀ b, O' b → O b) {d : D} {v : V} (h : Rp K w O H v d) : Rp K w O' H v d := Rp.stay (fun _ _ e _ _ => e) (fun b z => .inl (ho b z)) d v h
theorem RpA.weak (ho : ∀ b, O' b → O b) {ds : List D} {vs : List V} (h : RpA K w O H vs ds) : RpA K w O' H vs ds := RpA.stay (fun _ _ e _ _ => e) (fun b z => .inl (ho b z)) ds vs h
theorem RpA.length : ∀ {ds : List D} {vs : List V}, RpA K w O H vs ds → vs.length = ds.length
  | [], _, h => by cases h; rfl
  | _ :: _, _, h => by cases h with | cons _ h2 => simp [RpA.length h2]
theorem RpA.get : ∀ {ds : List D} {vs : List V} {i : Nat} {d : D}, RpA K w O H vs ds → ds[i]? = some d → ∃ v, vs[i]? = some v ∧ Rp K w O H v d
  | [], _, _, _, h, e => by simp at e
  | d :: ds, _, 0, _, h, e => by cases h with | cons h1 h2 => simp at e; subst e; exact ⟨_, rfl, h1⟩
  | d :: ds, _, i + 1, x, h, e => by
    cases h with
    | cons h1 h2 =>
      obtain ⟨v, q1, q2⟩ := RpA.get (i := i) (d := x) h2 (by simpa using e)
      exact ⟨v, by simpa using q1, q2⟩
theorem RpA.getV : ∀ {ds : List D} {vs : List V} {i : Nat} {v : V}, RpA K w O H vs ds → vs[i]? = some v → ∃ d, ds[i]? = some d ∧ Rp K w O H v d
  | [], _, i, _, h, e => by cases h; simp at e
  | d :: ds, _, 0, _, h, e => by cases h with | cons h1 h2 => simp at e; subst e; exact ⟨_, rfl, h1⟩
  | d :: ds, _, i + 1, x, h, e => by
    cases h with
    | cons h1 h2 =>
      obtain ⟨v, q1, q2⟩ := RpA.getV (i := i) (v := x) h2 (by simpa using e)
      exact ⟨v, by simpa using q1, q2⟩
theorem RpA.append : ∀ {ds es : List D} {vs us : List V}, RpA K w O H vs ds → RpA K w O H us es → RpA K w O H (vs ++ us) (ds ++ es)
  | [], _, _, _, h, q => by cases h; exact q
  | _ :: _, _, _, _, h, q => by cases h with | cons h1 h2 => exact .cons h1 (RpA.append h2 q)
theorem RpA.set {d : D} {v : V} (r : Rp K w O H v d) : ∀ {ds : List D} {vs : List V} (i : Nat), RpA K w O H vs ds → RpA K w O H (vs.set i v) (ds.set i d)
  | [], _, _, h => by cases h; exact .nil
  | _ :: _, _, 0, h => by cases h with | cons h1 h2 => exact .cons r h2
  | _ :: _, _, i + 1, h => by cases h with | cons h1 h2 => exact .cons h1 (RpA.set r i h2)
theorem RpA.take : ∀ {ds : List D} {vs : List V} (n : Nat), RpA K w O H vs ds → RpA K w O H (vs.take n) (ds.take n)
  | _, _, 0, _ => .nil
  | [], _, _ + 1, h => by cases h; exact .nil
  | _ :: _, _, n + 1, h => by cases h with | cons h1 h2 => exact .cons h1 (RpA.take n h2)
theorem RpA.drop : ∀ {ds : List D} {vs : List V} (n : Nat), RpA K w O H vs ds → RpA K w O H (vs.drop n) (ds.drop n)
  | _, _, 0, h => h
  | [], _, _ + 1, h => by cases h; exact .nil
  | _ :: _, _, n + 1, h => by cases h with | cons h1 h2 => exact RpA.drop n h2
end

/-! ### slots: frozen data, a list or dict of the frame's own, one that was lent to it -/
inductive Kd where
  | fz | ow | le
  deriving DecidableEq
def Kd.own : Kd → Bool
  | .fz => false
  | _ => true
abbrev Kds := Nat → Kd

def Mine (M : Kds) (σ : Sg) (ρ : Env) (b : Addr) : Prop := ∃ i d, (M i).own = true ∧ ρ[i]? = some (some d) ∧ σ[i]? = some (some (.ref b))
abbrev Ow (M : Kds) (U : Addr → Prop) (σ : Sg) (ρ : Env) : Addr → Prop := fun a => U a ∨ Mine M σ ρ a
/-- an own object: a list or a dict at a -/
def Cell (K : PySem.W.Frag) (w : World) (O : Addr → Prop) (H : Hp) (a : Addr) (d : D) : Prop :=
  (∃ xs ds, d = .list ds ∧ H a = some (.lst xs) ∧ RpA K w O H xs ds) ∨ ∃ es ds, d = .dict ds ∧ H a = some (DRaw a es) ∧ RpP K w O H es ds
/-- the code tables that may grow -/
def CodeQ (c P : Addr) : HO := .ext fun h => PySem.W.CodeHd h c P
/-- to the depth n: the code objects in the table at P are known, with tables of their own -/
def TabT : Nat → Hp → Addr → Prop
  | 0, H, P => ∃ ps : Array Value, H P = some (.tbl ps) ∧ TriplesOk ps.toList
  | n + 1, H, P => ∃ ps : Array Value, H P = some (.tbl ps) ∧ TriplesOk ps.toList ∧ ∀ (pos : Pos) (cv : Value), codeAmong pos ps.toList = some cv → ∃ c' P', cv = .ref c' ∧ H c' = some (CodeQ c' P') ∧ TabT n H P'
/-- code object, its table, made by the program's run -/
abbrev Tabs := List (Addr × Addr × Bool)
def TabOk (T : Tabs) (H : Hp) : Prop := ∀ q ∈ T, (∀ n, TabT n H q.2.1) ∧ (q.2.2 = true → H q.1 = some (CodeQ q.1 q.2.1))
theorem TabT.grow {H H' : Hp} (k : ∀ b u, H b = some u → H' b = some u) : ∀ {n : Nat} {P : Addr}, TabT n H P → TabT n H' P
  | 0, _, ⟨ps, e, q⟩ => ⟨ps, k _ _ e, q⟩
  | _ + 1, _, ⟨ps, e, q, r⟩ => ⟨ps, k _ _ e, q, fun pos cv h => let ⟨c', P', e1, e2, e3⟩ := r pos cv h; ⟨c', P', e1, k _ _ e2, TabT.grow k e3⟩⟩
theorem TabOk.grow {T : Tabs} {H H' : Hp} (k : ∀ b u, H b = some u → H' b = some u) (t : TabOk T H) : TabOk T H' := fun q hq => ⟨fun n => ((t q hq).1 n).grow k, fun z => k _ _ ((t q hq).2 z)⟩
theorem TabT.nil {H : Hp} {P : Addr} (h : H P = some (.tbl #[])) : ∀ n, TabT n H P
  | 0 => ⟨#[], h, True.intro⟩
  | _ + 1 => ⟨#[], h, True.intro, fun pos cv hc => by
    have z : codeAmong pos [] = some cv := hc
    simp [codeAmong] at z⟩

structure Sim (K : PySem.W.Frag) (w : World) (T : Tabs) (M : Kds) (U : Addr → Prop) (σ : Sg) (H : Hp) (ρ : Env) : Prop where
  len : ρ.length ≤ σ.length
  fz : ∀ i d, (M i).own = false → ρ[i]? = some (some d) → ∃ v, σ[i]? = some (some v) ∧ Rp K w (Ow M U σ ρ) H v d
  ow : ∀ i d, (M i).own = true → ρ[i]? = some (some d) → ∃ a, σ[i]? = some (some (.ref a)) ∧ ¬ U a ∧ Cell K w (Ow M U σ ρ) H a d
  ap : ∀ i j d d' a, (M i).own = true → (M j).own = true → ρ[i]? = some (some d) → ρ[j]? = some (some d') → σ[i]? = some (some (.ref a)) → σ[j]? = some (some (.ref a)) → i = j
  un : ∀ a, U a → H a ≠ none
  tb : TabOk T H
  kk : ∀ b, H b ≠ none → K.lookup b = none

/-- what a piece of code has done: nothing to what stood but to the frame's own objects -/
structure Stp (M : Kds) (σ : Sg) (ρ : Env) (H : Hp) (σ' : Sg) (ρ' : Env) (H' : Hp) : Prop where
  same : ∀ b o, H b = some o → ¬ Mine M σ ρ b → (∀ ps, o ≠ .tbl ps) → H' b = some o
  mine : ∀ b, Mine M σ' ρ' b → Mine M σ ρ b ∨ H b = none
  dom : ∀ b, H b ≠ none → H' b ≠ none
  lent : ∀ i d, M i = .le → ρ[i]? = some (some d) → σ'[i]? = σ[i]? ∧ ∃ d', ρ'[i]? = some (some d')

section
variable {K : PySem.W.Frag} {w : World} {T : Tabs} {M : Kds} {U : Addr → Prop} {σ σ' σ'' : Sg} {H H' H'' : Hp} {ρ ρ' ρ'' : Env}
theorem Cell.there {O : Addr → Prop} {a : Addr} {d : D} (c : Cell K w O H a d) : H a ≠ none := by
  rcases c with ⟨_, _, _, h, _⟩ | ⟨_, _, _, h, _⟩ <;> rw [h] <;> simp
theorem Sim.mineT (S : Sim K w T M U σ H ρ) {b : Addr} (h : Mine M σ ρ b) : H b ≠ none ∧ ¬ U b := by
  obtain ⟨i, d, h1, h2, h3⟩ := h
  obtain ⟨a, e, nu, c⟩ := S.ow i d h1 h2
  rw [h3] at e; cases e
  exact ⟨c.there, nu⟩
theorem Sim.owT (S : Sim K w T M U σ H ρ) {b : Addr} (h : Ow M U σ ρ b) : H b ≠ none := by
  rcases h with h | h
  · exact S.un b h
  · exact (S.mineT h).1
theorem Stp.refl : Stp M σ ρ H σ ρ H := ⟨fun _ _ e _ _ => e, fun _ h => .inl h, fun _ h => h, fun i d _ e => ⟨rfl, d, e⟩⟩
theorem Stp.trans (a : Stp M σ ρ H σ' ρ' H') (b : Stp M σ' ρ' H' σ'' ρ'' H'') : Stp M σ ρ H σ'' ρ'' H'' where
  same := fun c o e n t => b.same c o (a.same c o e n t) (fun z => by
    rcases a.mine c z with q | q
    · exact n q
    · rw [e] at q; cases q) t
  mine := fun c z => by
    rcases b.mine c z with q | q
    · exact a.mine c q
    · exact .inr (Classical.byContradiction fun n => a.dom c n q)
  dom := fun c h => b.dom c (a.dom c h)
  lent := fun i d h e => by
    obtain ⟨e1, d1, e2⟩ := a.lent i d h e
    obtain ⟨e3, d3, e4⟩ := b.lent i d1 h e2
    exact ⟨e3.trans e1, d3, e4⟩
/-- a frozen value over a step -/
theorem Stp.rp (s : Stp M σ ρ H σ' ρ' H') (S' : Sim K w T M U σ' H' ρ') {v : V} {d : D} (h : Rp K w (Ow M U σ ρ) H v d) : Rp K w (Ow M U σ' ρ') H' v d :=
  Rp.stay (fun b o e n t => s.same b o e (fun z => n (.inr z)) t) (fun b z => by
    rcases z with z | z
    · exact .inl (.inl z)
    · rcases s.mine b z with q | q
      · exact .inl (.inr q)
      · exact .inr ⟨q, S'.kk b (S'.mineT z).1⟩) d v h
theorem Stp.rpa (s : Stp M σ ρ H σ' ρ' H') (S' : Sim K w T M U σ' H' ρ') {v : List V} {d : List D} (h : RpA K w (Ow M U σ ρ) H v d) : RpA K w (Ow M U σ' ρ') H' v d :=
  RpA.stay (fun b o e n t => s.same b o e (fun z => n (.inr z)) t) (fun b z => by
    rcases z with z | z
    · exact .inl (.inl z)
    · rcases s.mine b z with q | q
      · exact .inl (.inr q)
      · exact .inr ⟨q, S'.kk b (S'.mineT z).1⟩) d v h
end
end Sx
/-! S2: the judgements for expressions, names, constants, argument lists, displays, operands. -/
namespace Sx
open PySem PySem.Spec PyProof.Rows L2

abbrev Ev := Env → Option (Env × D)
abbrev Evs := Env → Option (Env × List D)

def KO (K : PySem.W.Frag) (H : Hp) : Prop := ∀ b, H b ≠ none → K.lookup b = none
abbrev plus (U : Addr → Prop) (a : Addr) : Addr → Prop := fun b => U b ∨ b = a

def tE (K : PySem.W.Frag) (w : World) (T : Tabs) (M : Kds) (f : Ev) : TE := fun σ H Q => ∃ U ρ ρ' d, Sim K w T M U σ H ρ ∧ f ρ = some (ρ', d) ∧
  ∀ v H', Sim K w T M U σ H' ρ' → Stp M σ ρ H σ ρ' H' → Rp K w (Ow M U σ ρ') H' v d → Q v H'
/-- a new object, known to nobody else -/
def tF (K : PySem.W.Frag) (w : World) (T : Tabs) (M : Kds) (f : Ev) : TE := fun σ H Q => ∃ U ρ ρ' d, Sim K w T M U σ H ρ ∧ f ρ = some (ρ', d) ∧
  ∀ a H', Sim K w T M (plus U a) σ H' ρ' → Stp M σ ρ H σ ρ' H' → (Mine M σ ρ a ∨ H a = none) → Cell K w (Ow M (plus U a) σ ρ') H' a d → Q (.ref a) H'
def tA (K : PySem.W.Frag) (w : World) (T : Tabs) (M : Kds) (g : Evs) : TA := fun σ H Q => ∃ U ρ ρ' ds, Sim K w T M U σ H ρ ∧ g ρ = some (ρ', ds) ∧
  ∀ vs H', Sim K w T M U σ H' ρ' → Stp M σ ρ H σ ρ' H' → RpA K w (Ow M U σ ρ') H' vs ds → Q vs H'
abbrev SE (X : Cx) (T : Tabs) (M : Kds) (e : Expr) (f : Ev) : Prop := PE X e (tE X.K X.w T M f)
abbrev SF (X : Cx) (T : Tabs) (M : Kds) (e : Expr) (f : Ev) : Prop := PE X e (tF X.K X.w T M f)
abbrev SA (X : Cx) (T : Tabs) (M : Kds) (es : List Expr) (g : Evs) : Prop := PA X es (tA X.K X.w T M g)

theorem Inv.ko {X : Cx} {pins : List (Addr × Obj)} {σ : Sg} {H : Hp} {s : Shared} (I : Inv X pins σ H s) : KO X.K H := fun b h => by
  cases e : X.K.lookup b with
  | none => rfl
  | some o => exact absurd (I.bs b o (I.ok.mod.kin b o e)).2 h
section
variable {X : Cx} {e : Expr} {es : List Expr} {t t' : TE} {u u' : TA}
theorem PE.imp (h : PE X e t) (q : ∀ σ H Q, t' σ H Q → t σ H Q) : PE X e t' := ⟨fun pins s σ H Q I hw => h.run pins s σ H Q I (q _ _ _ hw)⟩
theorem PE.impK (h : PE X e t) (q : ∀ σ H Q, t' σ H Q → t σ H fun v H' => KO X.K H' → Q v H') : PE X e t' := ⟨fun pins s σ H Q I hw =>
  thn (h.run pins s σ H _ I (q _ _ _ hw)) fun _ _ ⟨v, H', I', r, z⟩ => ⟨v, H', I', r, z (Inv.ko I')⟩⟩
theorem PA.imp (h : PA X es u) (q : ∀ σ H Q, u' σ H Q → u σ H Q) : PA X es u' := ⟨fun pos pins s σ H Q I hw => h.run pos pins s σ H Q I (q _ _ _ hw)⟩
end

section
variable {K : PySem.W.Frag} {w : World} {T : Tabs} {M : Kds} {U U' : Addr → Prop} {σ σ' : Sg} {H H' : Hp} {ρ ρ' : Env} {a : Addr} {o : HO} {d : D} {v : V}
theorem upd_keep (hn : H a = none) : ∀ b u, H b = some u → upd H a o b = some u := fun b u e => by rw [upd_ne (ne_of_none e hn)]; exact e
/-- the state over a heap that has grown -/
theorem Sim.grow (S : Sim K w T M U σ H ρ) (k : ∀ b u, H b = some u → H' b = some u) (ko : KO K H') : Sim K w T M U σ H' ρ where
  len := S.len
  fz := fun i d h1 h2 => let ⟨v, e, r⟩ := S.fz i d h1 h2; ⟨v, e, Rp.stay (fun b o e _ _ => k b o e) (fun b z => .inl z) d v r⟩
  ow := fun i d h1 h2 => by
    obtain ⟨a, e, n, c⟩ := S.ow i d h1 h2
    refine ⟨a, e, n, ?_⟩
    rcases c with ⟨xs, ds, c1, c2, c3⟩ | ⟨es, ds, c1, c2, c3⟩
    · exact .inl ⟨xs, ds, c1, k _ _ c2, RpA.stay (fun b o e _ _ => k b o e) (fun b z => .inl z) ds xs c3⟩
    · exact .inr ⟨es, ds, c1, k _ _ c2, RpP.stay (fun b o e _ _ => k b o e) (fun b z => .inl z) ds es c3⟩
  ap := S.ap
  un := fun b h => by
    cases e : H b with
    | none => exact absurd e (S.un b h)
    | some u => rw [k b u e]; simp
  tb := S.tb.grow k
  kk := ko
theorem Stp.grow (k : ∀ b u, H b = some u → H' b = some u) : Stp M σ ρ H σ ρ H' := ⟨fun b u e _ _ => k b u e, fun _ z => .inl z, fun b h => by
    cases e : H b with
    | none => exact absurd e h
    | some u => rw [k b u e]; simp, fun i d _ e => ⟨rfl, d, e⟩⟩
theorem Sim.new (S : Sim K w T M U σ H ρ) (hn : H a = none) (ko : KO K (upd H a o)) : Sim K w T M U σ (upd H a o) ρ := S.grow (upd_keep hn) ko
theorem Stp.new (hn : H a = none) : Stp M σ ρ H σ ρ (upd H a o) := Stp.grow (upd_keep hn)
/-- less is untouchable -/
theorem Sim.less (S : Sim K w T M U' σ H ρ) (h : ∀ b, U b → U' b) : Sim K w T M U σ H ρ where
  len := S.len
  fz := fun i d h1 h2 => let ⟨v, e, r⟩ := S.fz i d h1 h2; ⟨v, e, r.weak fun b z => z.imp_left (h b)⟩
  ow := fun i d h1 h2 => by
    obtain ⟨a, e, n, c⟩ := S.ow i d h1 h2
    refine ⟨a, e, fun z => n (h a z), ?_⟩
    rcases c with ⟨xs, ds, c1, c2, c3⟩ | ⟨es, ds, c1, c2, c3⟩
    · exact .inl ⟨xs, ds, c1, c2, c3.weak fun b z => z.imp_left (h b)⟩
    · exact .inr ⟨es, ds, c1, c2, RpP.stay (fun _ _ e _ _ => e) (fun b z => .inl (z.imp_left (h b))) _ _ c3⟩
  ap := S.ap
  un := fun b z => S.un b (h b z)
  tb := S.tb
  kk := S.kk
/-- more is untouchable: a object that nobody here knows -/
theorem Sim.more (S : Sim K w T M U σ H ρ) (hn : H a = none) (ho : H' a ≠ none) (k : ∀ b u, H b = some u → H' b = some u) (ko : KO K H') : Sim K w T M (plus U a) σ H' ρ := by
  have G := S.grow k ko
  have na : ∀ {b}, Mine M σ ρ b → b ≠ a := fun {b} z e => by subst e; exact (S.mineT z).1 hn
  have key : ∀ b, Ow M (plus U a) σ ρ b → Ow M U σ ρ b ∨ (H b = none ∧ K.lookup b = none) := fun b z => by
    rcases z with (z | z) | z
    · exact .inl (.inl z)
    · subst z; exact .inr ⟨hn, ko _ ho⟩
    · exact .inl (.inr z)
  have kk : ∀ b o, H b = some o → ¬ Ow M U σ ρ b → (∀ ps, o ≠ .tbl ps) → H' b = some o := fun b o e _ _ => k b o e
  refine ⟨S.len, fun i d h1 h2 => ?_, fun i d h1 h2 => ?_, S.ap, fun b z => ?_, G.tb, ko⟩
  · obtain ⟨v, e, r⟩ := S.fz i d h1 h2
    exact ⟨v, e, Rp.stay kk key d v r⟩
  · obtain ⟨c, e, n, q⟩ := S.ow i d h1 h2
    refine ⟨c, e, fun z => ?_, ?_⟩
    · rcases z with z | z
      · exact n z
      · exact na ⟨i, d, h1, h2, e⟩ z
    rcases q with ⟨xs, ds, c1, c2, c3⟩ | ⟨es, ds, c1, c2, c3⟩
    · exact .inl ⟨xs, ds, c1, k _ _ c2, RpA.stay kk key ds xs c3⟩
    · exact .inr ⟨es, ds, c1, k _ _ c2, RpP.stay kk key ds es c3⟩
  · rcases z with z | z
    · exact G.un b z
    · rw [z]; exact ho
theorem Cell.rp {O : Addr → Prop} (c : Cell K w O H a d) (hn : ¬ O a) : Rp K w O H (.ref a) d := by
  rcases c with ⟨xs, ds, rfl, c2, c3⟩ | ⟨es, ds, rfl, c2, c3⟩
  · exact .lst hn (.of c2) c3
  · exact .dic hn c2 c3
theorem Cell.weak {O O' : Addr → Prop} (ho : ∀ b, O' b → O b) (c : Cell K w O H a d) : Cell K w O' H a d := by
  rcases c with ⟨xs, ds, rfl, c2, c3⟩ | ⟨es, ds, rfl, c2, c3⟩
  · exact .inl ⟨xs, ds, rfl, c2, c3.weak ho⟩
  · exact .inr ⟨es, ds, rfl, c2, RpP.stay (fun _ _ e _ _ => e) (fun b z => .inl (ho b z)) _ _ c3⟩
theorem Sim.own_ne (S : Sim K w T M (plus U a) σ H ρ) : ¬ Mine M σ ρ a := fun z => (S.mineT z).2 (.inr rfl)
/-- from the frozen value's heap to the new one -/
theorem Rp.grow {O : Addr → Prop} (k : ∀ b u, H b = some u → H' b = some u) (h : Rp K w O H v d) : Rp K w O H' v d := Rp.stay (fun b o e _ _ => k b o e) (fun b z => .inl z) d v h
theorem RpA.grow {O : Addr → Prop} {vs : List V} {ds : List D} (k : ∀ b u, H b = some u → H' b = some u) (h : RpA K w O H vs ds) : RpA K w O H' vs ds := RpA.stay (fun b o e _ _ => k b o e) (fun b z => .inl z) ds vs h
end

section
variable {X : Cx} {T : Tabs} {M : Kds} {e : Expr} {es : List Expr} {f : Ev} {g : Evs}
/-- a new object as a frozen value -/
theorem SF.fz (h : SF X T M e f) : SE X T M e f := by
  refine PE.imp h fun σ H Q hw => ?_
  obtain ⟨U, ρ, ρ', d, S, hf, q⟩ := hw
  refine ⟨U, ρ, ρ', d, S, hf, fun a H' S' st ha c => ?_⟩
  refine q _ H' (S'.less fun b z => .inl z) st ((c.weak fun b z => z.imp_left .inl).rp ?_)
  rintro (z | z)
  · rcases ha with ha | ha
    · exact (S.mineT ha).2 z
    · exact S.un a z ha
  · exact S'.own_ne z

/-! ### names, constants -/
def eV (i : Nat) : Ev := fun ρ => (ρ[i]?).join.map fun d => (ρ, d)
def eC (d : D) : Ev := fun ρ => some (ρ, d)
/-- the frame's own object leaves the slot -/
def eT (i : Nat) : Ev := fun ρ => (ρ[i]?).join.map fun d => (ρ.set i none, d)
theorem eV_of {i : Nat} {ρ ρ' : Env} {d : D} (h : eV i ρ = some (ρ', d)) : ρ' = ρ ∧ ρ[i]? = some (some d) := by
  unfold eV at h
  cases e : ρ[i]? with
  | none => rw [e] at h; cases h
  | some o =>
    rw [e] at h
    cases o with
    | none => cases h
    | some x => cases h; exact ⟨rfl, rfl⟩
theorem eT_of {i : Nat} {ρ ρ' : Env} {d : D} (h : eT i ρ = some (ρ', d)) : ρ' = ρ.set i none ∧ ρ[i]? = some (some d) := by
  unfold eT at h
  cases e : ρ[i]? with
  | none => rw [e] at h; cases h
  | some o =>
    rw [e] at h
    cases o with
    | none => cases h
    | some x => cases h; exact ⟨rfl, rfl⟩
theorem s_var {i : Nat} {x : Str} {pos : Pos} (h : PE X (.Name x pos) (tVar i)) (hM : (M i).own = false) : SE X T M (.Name x pos) (eV i) := by
  refine PE.imp h fun σ H Q hw => ?_
  obtain ⟨U, ρ, ρ', d, S, hf, q⟩ := hw
  obtain ⟨rfl, he⟩ := eV_of hf
  obtain ⟨v, e1, r⟩ := S.fz i d hM he
  exact ⟨v, e1, q v H S .refl r⟩
theorem set_some {ρ : Env} {i j : Nat} {d : D} (h : (ρ.set i none)[j]? = some (some d)) : ρ[j]? = some (some d) ∧ j ≠ i := by
  by_cases e : i = j
  · subst e
    by_cases hl : i < ρ.length
    · rw [List.getElem?_set_self hl] at h; cases h
    · rw [List.getElem?_eq_none (by simpa using hl)] at h; cases h
  · rw [List.getElem?_set_ne e] at h
    exact ⟨h, fun z => e z.symm⟩
theorem mine_set {M : Kds} {σ : Sg} {ρ : Env} {i : Nat} {b : Addr} (h : Mine M σ (ρ.set i none) b) : Mine M σ ρ b := by
  obtain ⟨j, d, h1, h2, h3⟩ := h
  exact ⟨j, d, h1, (set_some h2).1, h3⟩
theorem s_take {i : Nat} {x : Str} {pos : Pos} (h : PE X (.Name x pos) (tVar i)) (hM : M i = .ow) : SF X T M (.Name x pos) (eT i) := by
  refine PE.imp h fun σ H Q hw => ?_
  obtain ⟨U, ρ, ρ', d, S, hf, q⟩ := hw
  obtain ⟨rfl, he⟩ := eT_of hf
  have hM' : (M i).own = true := by rw [hM]; rfl
  obtain ⟨a, e1, nu, c⟩ := S.ow i d hM' he
  have mi : Mine M σ ρ a := ⟨i, d, hM', he, e1⟩
  have key : ∀ b, Ow M (plus U a) σ (ρ.set i none) b → Ow M U σ ρ b := fun b z => by
    rcases z with (z | z) | z
    · exact .inl z
    · rw [z]; exact .inr mi
    · exact .inr (mine_set z)
  refine ⟨.ref a, e1, q a H ⟨by simpa using S.len, fun j x h1 h2 => ?_, fun j x h1 h2 => ?_, fun j k x y b h1 h2 h3 h4 => S.ap j k x y b h1 h2 (set_some h3).1 (set_some h4).1, fun b z => ?_, S.tb, S.kk⟩
    ⟨fun b o z _ _ => z, fun b z => .inl (mine_set z), fun _ z => z, fun j x hj hx => ⟨rfl, x, ?_⟩⟩ (.inl mi) (c.weak key)⟩
  · obtain ⟨v, z, r⟩ := S.fz j x h1 (set_some h2).1
    exact ⟨v, z, r.weak key⟩
  · obtain ⟨b, z, n, cc⟩ := S.ow j x h1 (set_some h2).1
    refine ⟨b, z, ?_, cc.weak key⟩
    rintro (y | y)
    · exact n y
    · subst y
      exact (set_some h2).2 (S.ap j i x d b h1 hM' (set_some h2).1 he z e1)
  · rcases z with z | z
    · exact S.un b z
    · rw [z]; exact c.there
  · have : i ≠ j := fun z => by subst z; rw [hM] at hj; cases hj
    rw [List.getElem?_set_ne this]; exact hx
theorem s_const {v : V} {d : D} (h : PE X e (tC v)) (r : ∀ O H, Rp X.K X.w O H v d) : SE X T M e (eC d) := by
  refine PE.imp h fun σ H Q hw => ?_
  obtain ⟨U, ρ, ρ', d', S, hf, q⟩ := hw
  cases hf
  exact q v H S .refl (r _ _)

/-! ### argument lists -/
def gN : Evs := fun ρ => some (ρ, [])
def gE (f : Ev) (g : Evs) : Evs := fun ρ => (f ρ).bind fun p => (g p.1).map fun q => (q.1, p.2 :: q.2)
theorem gE_of {ρ ρ' : Env} {ds : List D} (h : gE f g ρ = some (ρ', ds)) : ∃ ρ1 d r, f ρ = some (ρ1, d) ∧ g ρ1 = some (ρ', r) ∧ ds = d :: r := by
  unfold gE at h
  cases e : f ρ with
  | none => rw [e] at h; cases h
  | some p =>
    rw [e] at h
    cases e2 : g p.1 with
    | none => rw [Option.bind_some, e2] at h; cases h
    | some q =>
      rw [Option.bind_some, e2] at h
      cases h
      exact ⟨p.1, p.2, q.2, rfl, e2, rfl⟩
theorem sa_nil : SA X T M [] gN := by
  refine PA.imp pa_nil fun σ H Q hw => ?_
  obtain ⟨U, ρ, ρ', ds, S, hf, q⟩ := hw
  cases hf
  exact q [] H S .refl .nil
/-- no star -/
def plainArg : Expr → Bool
  | .Starred .. => false
  | _ => true
theorem star_cons {env : PySem.Env} (h : plainArg e = true) : starEach (e :: es) env = (false, eval e env) :: starEach es env := by
  cases e <;> first | rfl | exact absurd h (by simp [plainArg])
theorem star_none {env : PySem.Env} {pos : Pos} : ∀ {es : List Expr}, es.all plainArg = true → (backTo pos (starEach es env)).any (·.1) = false
  | [], _ => rfl
  | e :: es, h => by
    rw [List.all_cons, Bool.and_eq_true] at h
    rw [star_cons h.1]
    show (false || (backTo pos (starEach es env)).any (·.1)) = false
    rw [star_none h.2] <;> rfl
theorem sa_cons (hp : plainArg e = true) (he : SE X T M e f) (hr : SA X T M es g) : SA X T M (e :: es) (gE f g) := by
  refine PA.imp (pa_cons he hr (star_cons hp)) fun σ H Q hw => ?_
  obtain ⟨U, ρ, ρ', ds, S, hf, q⟩ := hw
  obtain ⟨ρ1, d, r, e1, e2, rfl⟩ := gE_of hf
  refine ⟨U, ρ, ρ1, d, S, e1, fun v H1 S1 st1 rv => ?_⟩
  exact ⟨U, ρ1, ρ', r, S1, e2, fun vs H2 S2 st2 rvs => q _ H2 S2 (st1.trans st2) (.cons (st2.rp S2 rv) rvs)⟩

/-! ### displays -/
abbrev small (ds : List D) : Bool := decide (ds.length ≤ 16777216)
theorem small_line {ds : List D} (h : small ds = true) : ds.length ≤ sizeLine := by rw [sizeLine_eq]; exact of_decide_eq_true h
def eTup (g : Evs) : Ev := fun ρ => (g ρ).bind fun p => if small p.2 then some (p.1, .tuple p.2) else none
def eLst (g : Evs) : Ev := fun ρ => (g ρ).bind fun p => if small p.2 then some (p.1, .list p.2) else none
theorem bind_of {α β : Type} {o : Option α} {k : α → Option β} {b : β} (h : o.bind k = some b) : ∃ a, o = some a ∧ k a = some b := by
  cases o with
  | none => cases h
  | some a => exact ⟨a, rfl, h⟩
theorem ite_of {α : Type} {c : Bool} {x : α} {y : α} (h : (if c = true then some x else none) = some y) : c = true ∧ x = y := by
  cases c with
  | true => rw [if_pos rfl] at h; exact ⟨rfl, Option.some.inj h⟩
  | false => rw [if_neg (by simp)] at h; cases h
theorem upd_some {H : Hp} {a : Addr} {o : HO} : upd H a o a ≠ none := by rw [upd_same]; simp
/-- a new object that holds frozen data: a tuple -/
theorem newTup {U : Addr → Prop} {σ : Sg} {H : Hp} {ρ : Env} {p : Addr} {vs : List V} {ds : List D} {K : PySem.W.Frag} {w : World} (S : Sim K w T M U σ H ρ) (hp : H p = none) (r : RpA K w (Ow M U σ ρ) H vs ds) (ko : KO K (upd H p (.tup vs))) :
    Sim K w T M U σ (upd H p (.tup vs)) ρ ∧ Rp K w (Ow M U σ ρ) (upd H p (.tup vs)) (.ref p) (.tuple ds) :=
  ⟨S.new hp ko, .tup (fun z => S.owT z hp) (.of upd_same) (r.grow (upd_keep hp))⟩
theorem newLst {U : Addr → Prop} {σ : Sg} {H : Hp} {ρ : Env} {p : Addr} {vs : List V} {ds : List D} {K : PySem.W.Frag} {w : World} (S : Sim K w T M U σ H ρ) (hp : H p = none) (r : RpA K w (Ow M U σ ρ) H vs ds) (ko : KO K (upd H p (.lst vs))) :
    Sim K w T M (plus U p) σ (upd H p (.lst vs)) ρ ∧ Cell K w (Ow M (plus U p) σ ρ) (upd H p (.lst vs)) p (.list ds) := by
  refine ⟨S.more hp upd_some (upd_keep hp) ko, .inl ⟨vs, ds, rfl, upd_same, RpA.stay (fun b o e _ _ => upd_keep hp b o e) (fun b z => ?_) ds vs r⟩⟩
  rcases z with (z | z) | z
  · exact .inl (.inl z)
  · rw [z]; exact .inr ⟨hp, ko p upd_some⟩
  · exact .inl (.inr z)
theorem s_tup {k : Nat} {pos : Pos} (h : SA X T M es g) : SE X T M (.Tuple es k pos) (eTup g) := by
  refine PE.impK (pe_tup h) fun σ H Q hw => ?_
  obtain ⟨U, ρ, ρ', d, S, hf, q⟩ := hw
  obtain ⟨⟨ρ1, ds⟩, e1, e2⟩ := bind_of hf
  obtain ⟨hs, e2⟩ := ite_of e2
  cases e2
  refine ⟨U, ρ, ρ1, ds, S, e1, fun vs H1 S1 st1 r => ⟨by rw [r.length]; exact small_line hs, fun p hp ko => ?_⟩⟩
  obtain ⟨S2, r2⟩ := newTup S1 hp r ko
  exact q _ _ S2 (st1.trans (Stp.new hp)) r2
theorem s_lst {pos : Pos} (h : SA X T M es g) : SF X T M (.List es pos) (eLst g) := by
  refine PE.impK (pe_lst h) fun σ H Q hw => ?_
  obtain ⟨U, ρ, ρ', d, S, hf, q⟩ := hw
  obtain ⟨⟨ρ1, ds⟩, e1, e2⟩ := bind_of hf
  obtain ⟨hs, e2⟩ := ite_of e2
  cases e2
  refine ⟨U, ρ, ρ1, ds, S, e1, fun vs H1 S1 st1 r => ⟨by rw [r.length]; exact small_line hs, fun p hp ko => ?_⟩⟩
  obtain ⟨S2, c⟩ := newLst S1 hp r ko
  refine q _ _ S2 (st1.trans (Stp.new hp)) (.inr ?_) c
  exact Classical.byContradiction fun n => st1.dom p n hp
end

/-! ### operands: frozen values, or what stands in an own slot when the operation is done -/
def Pk (K : PySem.W.Frag) (w : World) (M : Kds) (U : Addr → Prop) (σ : Sg) (ρ : Env) (H : Hp) (v : V) (d : D) : Prop :=
  Rp K w (Ow M U σ ρ) H v d ∨ ∃ a, Mine M σ ρ a ∧ v = .ref a ∧ Cell K w (Ow M U σ ρ) H a d
abbrev Pks (K : PySem.W.Frag) (w : World) (M : Kds) (U : Addr → Prop) (σ : Sg) (ρ : Env) (H : Hp) : List V → List D → Prop := Paired (Pk K w M U σ ρ H)
def OpsT (K : PySem.W.Frag) (w : World) (T : Tabs) (M : Kds) (t : TA) (g : Evs) : Prop := ∀ (σ : Sg) (H : Hp) (U : Addr → Prop) (ρ ρ' : Env) (ds : List D) (R : List V → Hp → Prop), Sim K w T M U σ H ρ → g ρ = some (ρ', ds) →
  (∀ vs H', Sim K w T M U σ H' ρ' → Stp M σ ρ H σ ρ' H' → Pks K w M U σ ρ' H' vs ds → R vs H') → t σ H R
def gV (i : Nat) (g : Evs) : Evs := fun ρ => (ρ[i]?).join.bind fun _ => (g ρ).bind fun p => ((p.1[i]?).join).map fun d => (p.1, d :: p.2)
theorem slot_of {ρ : Env} {i : Nat} {d : D} (h : (ρ[i]?).join = some d) : ρ[i]? = some (some d) := by
  cases e : ρ[i]? with
  | none => rw [e] at h; cases h
  | some o =>
    rw [e] at h
    cases o with
    | none => cases h
    | some x => cases h; rfl
theorem Sim.has {K : PySem.W.Frag} {w : World} {T : Tabs} {M : Kds} {U : Addr → Prop} {σ : Sg} {H : Hp} {ρ : Env} (S : Sim K w T M U σ H ρ) {i : Nat} {d : D} (h : ρ[i]? = some (some d)) : ∃ v, σ[i]? = some (some v) ∧ Pk K w M U σ ρ H v d := by
  cases hM : (M i).own with
  | false =>
    obtain ⟨v, e, r⟩ := S.fz i d hM h
    exact ⟨v, e, .inl r⟩
  | true =>
    obtain ⟨a, e, n, c⟩ := S.ow i d hM h
    exact ⟨_, e, .inr ⟨a, ⟨i, d, hM, h, e⟩, rfl, c⟩⟩
/-- an operand e that adds G to the list -/
structure SO (X : Cx) (T : Tabs) (M : Kds) (e : Expr) (G : Evs → Evs) : Prop where
  pe : ∃ te, PE X e te ∧ ∀ tr g, OpsT X.K X.w T M tr g → OpsT X.K X.w T M (tCons te tr) (G g)
section
variable {X : Cx} {T : Tabs} {M : Kds} {e : Expr} {es : List Expr} {f : Ev} {g : Evs} {K : PySem.W.Frag} {w : World}
theorem ops_nil : OpsT K w T M tNil gN := fun σ H U ρ ρ' ds R S hf q => by
  cases hf
  exact q [] H S .refl .nil
theorem ops_e {tr : TA} (h : OpsT K w T M tr g) : OpsT K w T M (tCons (tE K w T M f) tr) (gE f g) := fun σ H U ρ ρ' ds R S hf q => by
  obtain ⟨ρ1, d, r, e1, e2, rfl⟩ := gE_of hf
  refine ⟨U, ρ, ρ1, d, S, e1, fun v H1 S1 st1 rv => ?_⟩
  exact h σ H1 U ρ1 ρ' r _ S1 e2 fun vs H2 S2 st2 rvs => q _ H2 S2 (st1.trans st2) (.cons (.inl (st2.rp S2 rv)) rvs)
theorem so_e (h : SE X T M e f) : SO X T M e (gE f) := ⟨_, h, fun _ _ hr => ops_e hr⟩
/-- a name -/
theorem so_v {i : Nat} {x : Str} {pos : Pos} (h : PE X (.Name x pos) (tVar i)) : SO X T M (.Name x pos) (gV i) := by
  refine ⟨_, h, fun tr g hr σ H U ρ ρ' ds R S hf q => ?_⟩
  obtain ⟨d0, e0, hf⟩ := bind_of hf
  obtain ⟨⟨ρ1, r⟩, e1, e2⟩ := bind_of hf
  obtain ⟨d, e3, e4⟩ := Option.map_eq_some_iff.mp e2
  cases e4
  obtain ⟨v, ev, _⟩ := S.has (slot_of e0)
  refine ⟨v, ev, hr σ H U ρ ρ1 r _ S e1 fun vs H2 S2 st2 rvs => ?_⟩
  obtain ⟨v', ev', pk⟩ := S2.has (slot_of e3)
  rw [ev] at ev'; cases ev'
  exact q _ H2 S2 st2 (.cons pk rvs)
end
end Sx
/-! S3: operations on operands. -/
namespace Sx
open PySem PySem.Spec PyProof.Rows L2

abbrev RV := List V → Hp → VK → Prop
def fOp (sem : List D → Option D) (g : Evs) : Ev := fun ρ => (g ρ).bind fun p => (sem p.2).map fun d => (p.1, d)
theorem fOp_of {sem : List D → Option D} {g : Evs} {ρ ρ' : Env} {d : D} (h : fOp sem g ρ = some (ρ', d)) : ∃ ds, g ρ = some (ρ', ds) ∧ sem ds = some d := by
  obtain ⟨⟨ρ1, ds⟩, e1, e2⟩ := bind_of h
  obtain ⟨x, e3, e4⟩ := Option.map_eq_some_iff.mp e2
  cases e4
  exact ⟨ds, e1, e3⟩
/-- an operation on values does on data what sem says -/
def RuE (K : PySem.W.Frag) (w : World) (T : Tabs) (M : Kds) (r : RV) (sem : List D → Option D) : Prop := ∀ (σ : Sg) (U : Addr → Prop) (H : Hp) (ρ : Env) (vs : List V) (ds : List D) (d : D) (Q : VK), Sim K w T M U σ H ρ → Pks K w M U σ ρ H vs ds → sem ds = some d →
  (∀ v H', Sim K w T M U σ H' ρ → Stp M σ ρ H σ ρ H' → Rp K w (Ow M U σ ρ) H' v d → Q v H') → r vs H fun v H' => KO K H' → Q v H'
def RuF (K : PySem.W.Frag) (w : World) (T : Tabs) (M : Kds) (r : RV) (sem : List D → Option D) : Prop := ∀ (σ : Sg) (U : Addr → Prop) (H : Hp) (ρ : Env) (vs : List V) (ds : List D) (d : D) (Q : VK), Sim K w T M U σ H ρ → Pks K w M U σ ρ H vs ds → sem ds = some d →
  (∀ a H', Sim K w T M (plus U a) σ H' ρ → Stp M σ ρ H σ ρ H' → H a = none → Cell K w (Ow M (plus U a) σ ρ) H' a d → Q (.ref a) H') → r vs H fun v H' => KO K H' → Q v H'
abbrev r2L (r : R2) : RV := fun vs H Q => match vs with | [x, y] => r x y H Q | _ => False
abbrev r1L (r : V → Hp → VK → Prop) : RV := fun vs H Q => match vs with | [x] => r x H Q | _ => False
section
variable {X : Cx} {T : Tabs} {M : Kds} {e a b : Expr} {es : List Expr} {f : Ev} {g : Evs} {Ga Gb Gc : Evs → Evs} {K : PySem.W.Frag} {w : World} {r : RV} {sem : List D → Option D} {t : TA} {pos : Pos}
theorem ru_te {te : TE} (h : PE X e te) (ht : OpsT X.K X.w T M t g) (hr : RuE X.K X.w T M r sem) (hte : ∀ σ H Q, t σ H (fun vs H1 => r vs H1 Q) → te σ H Q) : SE X T M e (fOp sem g) := by
  refine PE.impK h fun σ H Q hw => hte _ _ _ ?_
  obtain ⟨U, ρ, ρ', d, S, hf, q⟩ := hw
  obtain ⟨ds, e1, e2⟩ := fOp_of hf
  exact ht σ H U ρ ρ' ds _ S e1 fun vs H1 S1 st1 pk => hr σ U H1 ρ' vs ds d Q S1 pk e2 fun v H2 S2 st2 rv => q v H2 S2 (st1.trans st2) rv
theorem ru_tf {te : TE} (h : PE X e te) (ht : OpsT X.K X.w T M t g) (hr : RuF X.K X.w T M r sem) (hte : ∀ σ H Q, t σ H (fun vs H1 => r vs H1 Q) → te σ H Q) : SF X T M e (fOp sem g) := by
  refine PE.impK h fun σ H Q hw => hte _ _ _ ?_
  obtain ⟨U, ρ, ρ', d, S, hf, q⟩ := hw
  obtain ⟨ds, e1, e2⟩ := fOp_of hf
  refine ht σ H U ρ ρ' ds _ S e1 fun vs H1 S1 st1 pk => hr σ U H1 ρ' vs ds d Q S1 pk e2 fun a H2 S2 st2 hn c => q a H2 S2 (st1.trans st2) (.inr ?_) c
  exact Classical.byContradiction fun n => st1.dom a n hn
/-- a op b -/
theorem s_bin {op : Operator} {r : R2} (ho : OpR X (binaryOp op) r) (ha : SO X T M a Ga) (hb : SO X T M b Gb) (hr : RuE X.K X.w T M (r2L r) sem) : SE X T M (.BinOp a op b pos) (fOp sem (Ga (Gb gN))) := by
  obtain ⟨ta, pa, oa⟩ := ha.pe
  obtain ⟨tb, pb, ob⟩ := hb.pe
  exact ru_te (pe_op ho pa pb) (oa _ _ (ob _ _ ops_nil)) hr fun σ H Q h => h
theorem s_binF {op : Operator} {r : R2} (ho : OpR X (binaryOp op) r) (ha : SO X T M a Ga) (hb : SO X T M b Gb) (hr : RuF X.K X.w T M (r2L r) sem) : SF X T M (.BinOp a op b pos) (fOp sem (Ga (Gb gN))) := by
  obtain ⟨ta, pa, oa⟩ := ha.pe
  obtain ⟨tb, pb, ob⟩ := hb.pe
  exact ru_tf (pe_op ho pa pb) (oa _ _ (ob _ _ ops_nil)) hr fun σ H Q h => h
theorem s_un {op : UnaryOp} {r : V → Hp → VK → Prop} (ho : UnR X (unaryOp op) r) (ha : SO X T M a Ga) (hr : RuE X.K X.w T M (r1L r) sem) : SE X T M (.UnaryOp op a pos) (fOp sem (Ga gN)) := by
  obtain ⟨ta, pa, oa⟩ := ha.pe
  exact ru_te (pe_un ho pa) (oa _ _ ops_nil) hr fun σ H Q h => h
theorem s_cmp {op : CmpOp} {r : R2} (ho : OpR X (compareOp op) r) (ha : SO X T M a Ga) (hb : SO X T M b Gb) (hm : behindInMarks op b = false) (hr : RuE X.K X.w T M (r2L r) sem) : SE X T M (.Compare a [op] [b] pos) (fOp sem (Ga (Gb gN))) := by
  obtain ⟨ta, pa, oa⟩ := ha.pe
  obtain ⟨tb, pb, ob⟩ := hb.pe
  exact ru_te (pe_cmpR ho pa pb hm) (oa _ _ (ob _ _ ops_nil)) hr fun σ H Q h => h
theorem s_ix {r : R2} (ho : IxR X r) (ha : SO X T M a Ga) (hb : SO X T M b Gb) (hs : PlainIx b) (hr : RuE X.K X.w T M (r2L r) sem) : SE X T M (.Subscript a b pos) (fOp sem (Ga (Gb gN))) := by
  obtain ⟨ta, pa, oa⟩ := ha.pe
  obtain ⟨tb, pb, ob⟩ := hb.pe
  exact ru_te (pe_ix ho pa pb hs) (oa _ _ (ob _ _ ops_nil)) hr fun σ H Q h => h
/-- operands in an argument list -/
def SOs (X : Cx) (T : Tabs) (M : Kds) (es : List Expr) (g : Evs) : Prop := ∃ t, PA X es t ∧ OpsT X.K X.w T M t g
theorem sos_nil : SOs X T M [] gN := ⟨_, pa_nil, ops_nil⟩
theorem sos_cons (hp : plainArg e = true) (h : SO X T M e Ga) (hr : SOs X T M es g) : SOs X T M (e :: es) (Ga g) := by
  obtain ⟨ta, pa, oa⟩ := h.pe
  obtain ⟨t, pr, o⟩ := hr
  exact ⟨_, pa_cons pa pr (star_cons hp), oa _ _ o⟩
/-- f(..), f a built-in function or type -/
theorem s_callB {id : String} {x : Str} {p : Pos} (hc : CallR X (.builtin id) r) (hg : Gl X x) (hm : X.mg x = none) (hv : bootBuiltins x = some (.builtin id)) (ha : SOs X T M (e :: es) g) (hn : x ≠ "__name__") (hdb : (x == ("__debug__" : Str)) = false)
    (hp : (e :: es).all plainArg = true) (hr : RuE X.K X.w T M r sem) : SE X T M (.Call (.Name x p) (e :: es) [] pos) (fOp sem g) := by
  obtain ⟨t, pt, ot⟩ := ha
  rw [List.all_cons, Bool.and_eq_true] at hp
  exact ru_te (pe_callB hc hg hm hv pt hn hdb (star_cons hp.1) (star_none hp.2)) ot hr fun σ H Q h => h
theorem s_callBF {id : String} {x : Str} {p : Pos} (hc : CallR X (.builtin id) r) (hg : Gl X x) (hm : X.mg x = none) (hv : bootBuiltins x = some (.builtin id)) (ha : SOs X T M (e :: es) g) (hn : x ≠ "__name__") (hdb : (x == ("__debug__" : Str)) = false)
    (hp : (e :: es).all plainArg = true) (hr : RuF X.K X.w T M r sem) : SF X T M (.Call (.Name x p) (e :: es) [] pos) (fOp sem g) := by
  obtain ⟨t, pt, ot⟩ := ha
  rw [List.all_cons, Bool.and_eq_true] at hp
  exact ru_tf (pe_callB hc hg hm hv pt hn hdb (star_cons hp.1) (star_none hp.2)) ot hr fun σ H Q h => h
theorem s_callT {id : String} {x : Str} {p : Pos} (hc : CallR X (.type id) r) (hg : Gl X x) (hm : X.mg x = none) (hv : bootBuiltins x = some (.type id)) (ha : SOs X T M (e :: es) g) (hn : x ≠ "__name__") (hdb : (x == ("__debug__" : Str)) = false)
    (hp : (e :: es).all plainArg = true) (hr : RuE X.K X.w T M r sem) : SE X T M (.Call (.Name x p) (e :: es) [] pos) (fOp sem g) := by
  obtain ⟨t, pt, ot⟩ := ha
  rw [List.all_cons, Bool.and_eq_true] at hp
  exact ru_te (pe_callTy hc hg hm hv pt hn hdb (star_cons hp.1) (star_none hp.2)) ot hr fun σ H Q h => h
theorem s_callTF {id : String} {x : Str} {p : Pos} (hc : CallR X (.type id) r) (hg : Gl X x) (hm : X.mg x = none) (hv : bootBuiltins x = some (.type id)) (ha : SOs X T M (e :: es) g) (hn : x ≠ "__name__") (hdb : (x == ("__debug__" : Str)) = false)
    (hp : (e :: es).all plainArg = true) (hr : RuF X.K X.w T M r sem) : SF X T M (.Call (.Name x p) (e :: es) [] pos) (fOp sem g) := by
  obtain ⟨t, pt, ot⟩ := ha
  rw [List.all_cons, Bool.and_eq_true] at hp
  exact ru_tf (pe_callTy hc hg hm hv pt hn hdb (star_cons hp.1) (star_none hp.2)) ot hr fun σ H Q h => h
end

/-! ### reading operands -/
section
variable {T : Tabs} {M : Kds} {K : PySem.W.Frag} {w : World} {U : Addr → Prop} {σ : Sg} {ρ : Env} {H : Hp} {v : V} {d : D}
theorem Pk.int {i : Int} (h : Pk K w M U σ ρ H v (.int i)) : v = .int i := by
  rcases h with h | ⟨a, _, _, c⟩
  · cases h; rfl
  · rcases c with ⟨_, _, e, _⟩ | ⟨_, _, e, _⟩ <;> cases e
theorem Pk.str {i : Str} (h : Pk K w M U σ ρ H v (.str i)) : v = .str i := by
  rcases h with h | ⟨a, _, _, c⟩
  · cases h; rfl
  · rcases c with ⟨_, _, e, _⟩ | ⟨_, _, e, _⟩ <;> cases e
theorem Pk.bl {i : Bool} (h : Pk K w M U σ ρ H v (.bool i)) : v = .bl i := by
  rcases h with h | ⟨a, _, _, c⟩
  · cases h; rfl
  · rcases c with ⟨_, _, e, _⟩ | ⟨_, _, e, _⟩ <;> cases e
theorem Pk.non (h : Pk K w M U σ ρ H v .none) : v = .non := by
  rcases h with h | ⟨a, _, _, c⟩
  · cases h; rfl
  · rcases c with ⟨_, _, e, _⟩ | ⟨_, _, e, _⟩ <;> cases e
theorem Pk.tup {ds : List D} (h : Pk K w M U σ ρ H v (.tuple ds)) : ∃ a xs, v = .ref a ∧ SqT K H a xs ∧ RpA K w (Ow M U σ ρ) H xs ds ∧ Rp K w (Ow M U σ ρ) H v (.tuple ds) := by
  rcases h with h | ⟨a, _, _, c⟩
  · cases h with
    | tup h1 h2 h3 => exact ⟨_, _, rfl, h2, h3, .tup h1 h2 h3⟩
  · rcases c with ⟨_, _, e, _⟩ | ⟨_, _, e, _⟩ <;> cases e
theorem Pk.lst {ds : List D} (h : Pk K w M U σ ρ H v (.list ds)) : ∃ a xs, v = .ref a ∧ SqL K H a xs ∧ RpA K w (Ow M U σ ρ) H xs ds := by
  rcases h with h | ⟨a, _, rfl, c⟩
  · cases h with
    | lst h1 h2 h3 => exact ⟨_, _, rfl, h2, h3⟩
  · rcases c with ⟨xs, _, e, h2, h3⟩ | ⟨_, _, e, _⟩
    · cases e; exact ⟨a, xs, rfl, .of h2, h3⟩
    · cases e
theorem Pk.dic {ds : List (D × D)} (h : Pk K w M U σ ρ H v (.dict ds)) : ∃ a es, v = .ref a ∧ H a = some (DRaw a es) ∧ RpP K w (Ow M U σ ρ) H es ds := by
  rcases h with h | ⟨a, _, rfl, c⟩
  · cases h with
    | dic h1 h2 h3 => exact ⟨_, _, rfl, h2, h3⟩
  · rcases c with ⟨xs, _, e, h2, h3⟩ | ⟨es, _, e, h2, h3⟩
    · cases e
    · cases e; exact ⟨a, es, rfl, h2, h3⟩
theorem pks1 {vs : List V} {a : D} (h : Pks K w M U σ ρ H vs [a]) : ∃ v, vs = [v] ∧ Pk K w M U σ ρ H v a := by
  cases h with | cons r t => cases t; exact ⟨_, rfl, r⟩
theorem pks2 {vs : List V} {a b : D} (h : Pks K w M U σ ρ H vs [a, b]) : ∃ v u, vs = [v, u] ∧ Pk K w M U σ ρ H v a ∧ Pk K w M U σ ρ H u b := by
  cases h with | cons r t => cases t with | cons r2 t2 => cases t2; exact ⟨_, _, rfl, r, r2⟩
theorem pks3 {vs : List V} {a b c : D} (h : Pks K w M U σ ρ H vs [a, b, c]) : ∃ v u z, vs = [v, u, z] ∧ Pk K w M U σ ρ H v a ∧ Pk K w M U σ ρ H u b ∧ Pk K w M U σ ρ H z c := by
  cases h with | cons r t => cases t with | cons r2 t2 => cases t2 with | cons r3 t3 => cases t3; exact ⟨_, _, _, rfl, r, r2, r3⟩

/-! ### arithmetic -/
def addI : List D → Option D
  | [.int i, .int j] => some (.int (i + j))
  | [.str i, .str j] => if i.length + j.length ≤ 16777216 then some (.str (i ++ j)) else none
  | [.tuple i, .tuple j] => if i.length + j.length ≤ 16777216 then some (.tuple (i ++ j)) else none
  | [.list i, .list j] => if i.length + j.length ≤ 16777216 then some (.list (i ++ j)) else none
  | _ => none
def addL : List D → Option D
  | [.list i, .list j] => if i.length + j.length ≤ 16777216 then some (.list (i ++ j)) else none
  | _ => none
def subI : List D → Option D
  | [.int i, .int j] => some (.int (i - j))
  | _ => none
def mulI : List D → Option D
  | [.int i, .int j] => if (-(2 ^ 64) < i ∧ i < 2 ^ 64) ∨ (-(2 ^ 64) < j ∧ j < 2 ^ 64) then some (.int (i * j)) else none
  | _ => none
def fdivI : List D → Option D
  | [.int i, .int j] => if 0 < j ∧ j < 1073741824 then some (.int (i / j)) else none
  | _ => none
def modI : List D → Option D
  | [.int i, .int j] => if 0 < j then some (.int (i % j)) else none
  | _ => none
def negI : List D → Option D
  | [.int i] => some (.int (-i))
  | _ => none
def powI : List D → Option D
  | [.int i, .int j] => if 0 ≤ j ∧ j ≤ 1000000 ∧ i.natAbs < 2 ^ 64 then some (.int (i ^ j.toNat)) else none
  | _ => none
theorem ru_int2 {g : Int → Int → Int} {C : Int → Int → Prop} [∀ i j, Decidable (C i j)] {sem : List D → Option D} (hs : ∀ ds d, sem ds = some d → ∃ i j, ds = [.int i, .int j] ∧ C i j ∧ d = .int (g i j)) :
    RuE K w T M (r2L (rI C fun i j => .int (g i j))) sem := fun σ U H ρ vs ds d Q S pk e q => by
  obtain ⟨i, j, rfl, hc, rfl⟩ := hs ds d e
  obtain ⟨v, u, rfl, p1, p2⟩ := pks2 pk
  exact ⟨i, j, p1.int, p2.int, hc, fun _ => q _ H S .refl (.int _)⟩
theorem ru_int0 {g : Int → Int → Int} {sem : List D → Option D} (hs : ∀ ds d, sem ds = some d → ∃ i j, ds = [.int i, .int j] ∧ d = .int (g i j)) :
    RuE K w T M (r2L (rI0 fun i j => .int (g i j))) sem := fun σ U H ρ vs ds d Q S pk e q => by
  obtain ⟨i, j, rfl, rfl⟩ := hs ds d e
  obtain ⟨v, u, rfl, p1, p2⟩ := pks2 pk
  exact ⟨i, j, p1.int, p2.int, fun _ => q _ H S .refl (.int _)⟩
theorem ru_sub : RuE K w T M (r2L (rI0 fun i j => .int (i - j))) subI := ru_int0 fun ds d h => by
  unfold subI at h
  split at h
  · cases h; exact ⟨_, _, rfl, rfl⟩
  · cases h
theorem ru_mul : RuE K w T M (r2L (rI CMul fun i j => .int (i * j))) mulI := by
  intro σ U H ρ vs ds d Q S pk e q
  unfold mulI at e
  split at e
  · split at e
    · rename_i i j hc
      cases e
      obtain ⟨v, u, rfl, p1, p2⟩ := pks2 pk
      exact ⟨_, _, p1.int, p2.int, hc, fun _ => q _ H S .refl (.int _)⟩
    · cases e
  · cases e
theorem ru_fdiv : RuE K w T M (r2L (rI CDiv fun i j => .int (i / j))) fdivI := by
  intro σ U H ρ vs ds d Q S pk e q
  unfold fdivI at e
  split at e
  · split at e
    · rename_i i j hc
      cases e
      obtain ⟨v, u, rfl, p1, p2⟩ := pks2 pk
      exact ⟨_, _, p1.int, p2.int, hc, fun _ => q _ H S .refl (.int _)⟩
    · cases e
  · cases e
theorem ru_mod : RuE K w T M (r2L (rI (fun _ j => 0 < j) fun i j => .int (i % j))) modI := by
  intro σ U H ρ vs ds d Q S pk e q
  unfold modI at e
  split at e
  · split at e
    · rename_i i j hc
      cases e
      obtain ⟨v, u, rfl, p1, p2⟩ := pks2 pk
      exact ⟨_, _, p1.int, p2.int, hc, fun _ => q _ H S .refl (.int _)⟩
    · cases e
  · cases e
theorem ru_pow : RuE K w T M (r2L (rI CPow fun i j => .int (i ^ j.toNat))) powI := by
  intro σ U H ρ vs ds d Q S pk e q
  unfold powI at e
  split at e
  · split at e
    · rename_i i j hc
      cases e
      obtain ⟨v, u, rfl, p1, p2⟩ := pks2 pk
      exact ⟨_, _, p1.int, p2.int, hc, fun _ => q _ H S .refl (.int _)⟩
    · cases e
  · cases e
theorem ru_neg : RuE K w T M (r1L (rU fun i => .int (-i))) negI := by
  intro σ U H ρ vs ds d Q S pk e q
  unfold negI at e
  split at e
  · cases e
    obtain ⟨v, rfl, p1⟩ := pks1 pk
    exact ⟨_, p1.int, fun _ => q _ H S .refl (.int _)⟩
  · cases e
end
/-- list + list, whatever lists they are -/
def rCatL (K : PySem.W.Frag) : R2 := fun x y H Q => ∃ l b xs zs, x = .ref l ∧ y = .ref b ∧ SqL K H l xs ∧ SqL K H b zs ∧ xs.length + zs.length ≤ sizeLine ∧ ∀ p, H p = none → Q (.ref p) (upd H p (.lst (xs ++ zs)))
theorem op_catL {X : Cx} : OpR X (binaryOp .Add) (rCatL X.K) := by
  intro pins s σ H x y v u Q I rx ry h
  obtain ⟨l, b, xs, zs, rfl, rfl, hH, hB, hz, q⟩ := h
  cases rx
  cases ry
  obtain ⟨its, r, p1, _⟩ := I.list hH
  obtain ⟨its2, r2, p2, _⟩ := I.list hB
  obtain ⟨⟨cls, dd, data, sl⟩, ho, hc, n, hd⟩ := id p1.isList
  obtain ⟨⟨cls2, dd2, data2, sl2⟩, ho2, hc2, n2, hd2⟩ := id p2.isList
  simp only at hc hd hc2 hd2
  subst hc hd hc2 hd2
  have e : its.toArray ++ its2.toArray = (its ++ its2).toArray := by simp
  refine concat_meets ⟨_, ho, rfl⟩ ⟨_, ho2, rfl⟩ noFill_list_add seq_list_add PySem.F.slot_list_add PySem.F.entry_list_add (PySem.F.args_list_add_2 _ _) (list_addW l b its.toArray its2.toArray n n2 dd dd2 sl sl2 (by rw [List.size_toArray, List.size_toArray, ← r.length, ← r2.length]; exact hz)) ⟨ho, ho2, ?_⟩
  rw [e]
  exact ⟨.ref _, _, I.lnew (t' := s.toks) (r.append r2) (by rw [List.length_append]; omega), rfl, q _ I.fresh⟩
abbrev rAdd (K : PySem.W.Frag) : R2 := fun x y H Q => (rI0 fun i j => .int (i + j)) x y H Q ∨ (∃ i j, x = .str i ∧ y = .str j ∧ i.length + j.length ≤ sizeLine ∧ Q (.str (i ++ j)) H) ∨ rCatA K x y H Q ∨ rCatL K x y H Q
theorem op_addA {X : Cx} : OpR X (binaryOp .Add) (rAdd X.K) := op_add.or (op_add_str.or (op_catA.or op_catL))
section
variable {T : Tabs} {M : Kds} {K : PySem.W.Frag} {w : World}
theorem ru_addL : RuF K w T M (r2L (rCatL K)) addL := by
  intro σ U H ρ vs ds d Q S pk e q
  unfold addL at e
  split at e
  · split at e
    · rename_i i j hc
      cases e
      obtain ⟨v, u, rfl, p1, p2⟩ := pks2 pk
      obtain ⟨a, xs, rfl, s1, r1⟩ := p1.lst
      obtain ⟨b, ys, rfl, s2, r2⟩ := p2.lst
      refine ⟨a, b, xs, ys, rfl, rfl, s1, s2, by rw [r1.length, r2.length, sizeLine_eq]; exact hc, fun p hp ko => ?_⟩
      obtain ⟨S2, c⟩ := newLst S hp (r1.append r2) ko
      exact q p _ S2 (.new hp) hp c
    · cases e
  · cases e
theorem fz_of {σ : Sg} {U : Addr → Prop} {H H' : Hp} {ρ : Env} {a : Addr} {d : D} (S : Sim K w T M U σ H ρ) (hn : H a = none) (S' : Sim K w T M (plus U a) σ H' ρ) (c : Cell K w (Ow M (plus U a) σ ρ) H' a d) :
    Sim K w T M U σ H' ρ ∧ Rp K w (Ow M U σ ρ) H' (.ref a) d := by
  refine ⟨S'.less fun b z => .inl z, (c.weak fun b z => z.imp_left .inl).rp fun z => ?_⟩
  rcases z with z | z
  · exact S.un a z hn
  · exact S'.own_ne z
theorem ru_of_f {r : RV} {sem : List D → Option D} (h : RuF K w T M r sem) : RuE K w T M r sem := fun σ U H ρ vs ds d Q S pk e q =>
  h σ U H ρ vs ds d Q S pk e fun a H' S' st hn c => q _ H' (fz_of S hn S' c).1 st (fz_of S hn S' c).2
theorem ru_add : RuE K w T M (r2L (rAdd K)) addI := by
  intro σ U H ρ vs ds d Q S pk e q
  unfold addI at e
  split at e
  · cases e
    obtain ⟨v, u, rfl, p1, p2⟩ := pks2 pk
    exact .inl ⟨_, _, p1.int, p2.int, fun _ => q _ H S .refl (.int _)⟩
  · split at e
    · rename_i i j hc
      cases e
      obtain ⟨v, u, rfl, p1, p2⟩ := pks2 pk
      exact .inr (.inl ⟨_, _, p1.str, p2.str, by rw [sizeLine_eq]; exact hc, fun _ => q _ H S .refl (.str _)⟩)
    · cases e
  · split at e
    · rename_i i j hc
      cases e
      obtain ⟨v, u, rfl, p1, p2⟩ := pks2 pk
      obtain ⟨a, xs, rfl, s1, r1, z1⟩ := p1.tup
      obtain ⟨b, ys, rfl, s2, r2, z2⟩ := p2.tup
      refine .inr (.inr (.inl ⟨a, b, xs, ys, rfl, rfl, s1, s2, by rw [r1.length, r2.length, sizeLine_eq]; exact hc, fun h _ => ?_, fun _ h _ => ?_, fun _ _ p hp ko => ?_⟩))
      · subst h
        cases r1
        exact q _ H S .refl z2
      · subst h
        cases r2
        rw [List.append_nil] at q
        exact q _ H S .refl z1
      · obtain ⟨S2, r⟩ := newTup S hp (r1.append r2) ko
        exact q _ _ S2 (.new hp) r
    · cases e
  · split at e
    · rename_i i j hc
      cases e
      exact (fun h => by
        obtain ⟨v, u, rfl, p1, p2⟩ := pks2 pk
        exact .inr (.inr (.inr h))) (ru_of_f (T := T) ru_addL σ U H ρ vs [.list i, .list j] (.list (i ++ j)) Q S pk (by simp [addL, hc]) q)
    · cases e
  · cases e
end
end Sx
/-! S4: comparisons, tests, subscripts, slices, built-ins. -/
namespace Sx
open PySem PySem.Spec PyProof.Rows L2

/-! ### reading deep -/
section
variable {K : PySem.W.Frag} {w : World} {O : Addr → Prop} {H : Hp}
mutual
theorem Rp.dp : ∀ (d : D) (v : V), d.plain = true → Rp K w O H v d → Dp K H v d
  | .none, _, _, h => by cases h; exact .non
  | .bool b, _, _, h => by cases h; exact .bl b
  | .int i, _, _, h => by cases h; exact .int i
  | .str x, _, _, h => by cases h; exact .str x
  | .list ds, _, p, h => by cases h with | lst _ h2 h3 => exact .lst h2 (RpA.dp ds _ (by simpa [PyData.plain] using p) h3)
  | .tuple ds, _, p, h => by cases h with | tup _ h2 h3 => exact .tup h2 (RpA.dp ds _ (by simpa [PyData.plain] using p) h3)
  | .dict _, _, p, _ => by simp [PyData.plain] at p
theorem RpA.dp : ∀ (ds : List D) (vs : List V), PyData.plainAll ds = true → RpA K w O H vs ds → DpAll K H vs ds
  | [], _, _, h => by cases h; exact .nil
  | d :: ds, _, p, h => by
    rw [PyData.plainAll, Bool.and_eq_true] at p
    cases h with | cons h1 h2 => exact .cons (Rp.dp d _ p.1 h1) (RpA.dp ds _ p.2 h2)
end
end
theorem Pk.dp {K : PySem.W.Frag} {w : World} {M : Kds} {U : Addr → Prop} {σ : Sg} {ρ : Env} {H : Hp} {v : V} {d : D} (p : d.plain = true) (h : Pk K w M U σ ρ H v d) : Dp K H v d := by
  rcases h with h | ⟨a, _, rfl, c⟩
  · exact Rp.dp d v p h
  · rcases c with ⟨xs, ds, rfl, h2, h3⟩ | ⟨es, ds, rfl, _, _⟩
    · exact .lst (.of h2) (RpA.dp ds _ (by simpa [PyData.plain] using p) h3)
    · simp [PyData.plain] at p

/-! ### == != in, of data -/
def rEqP (K : PySem.W.Frag) : R2 := fun x y H Q => ∃ d e, Dp K H x d ∧ Dp K H y e ∧ d.plain = true ∧ e.plain = true ∧ min d.depth e.depth ≤ 60 ∧ Q (.bl (PyData.eqv d e)) H
def rNeP (K : PySem.W.Frag) : R2 := fun x y H Q => ∃ d e, Dp K H x d ∧ Dp K H y e ∧ d.plain = true ∧ e.plain = true ∧ min d.depth e.depth ≤ 60 ∧ Q (.bl (!PyData.eqv d e)) H
def rInP (K : PySem.W.Frag) : R2 := fun x y H Q => ∃ d e, Dp K H x d ∧ (∃ c, Dp K H y c ∧ (c = .list e ∨ c = .tuple e)) ∧ d.plain = true ∧ PyData.plainAll e = true ∧ min (PyData.depthAll e) d.depth ≤ 60 ∧ Q (.bl (e.any fun z => PyData.eqv z d)) H
def rNiP (K : PySem.W.Frag) : R2 := fun x y H Q => ∃ d e, Dp K H x d ∧ (∃ c, Dp K H y c ∧ (c = .list e ∨ c = .tuple e)) ∧ d.plain = true ∧ PyData.plainAll e = true ∧ min (PyData.depthAll e) d.depth ≤ 60 ∧ Q (.bl (!e.any fun z => PyData.eqv z d)) H
section
variable {X : Cx}
theorem op_eqP (hu : X.A.units + 64 < cLine) : OpR X (compareOp .Eq) (rEqP X.K) := by
  intro pins s σ H x y v u Q I rx ry h
  obtain ⟨d, e, hd, he, p1, p2, hm, q⟩ := h
  obtain ⟨as, r1⟩ := Dp.reads I d x v hd rx
  obtain ⟨bs, r2⟩ := Dp.reads I e y u he ry
  exact SeqAt.eq_plain r1 r2 p1 p2 (by omega) ⟨.bl _, H, I, rfl, q⟩
theorem op_neP (hu : X.A.units + 64 < cLine) : OpR X (compareOp .NotEq) (rNeP X.K) := by
  intro pins s σ H x y v u Q I rx ry h
  obtain ⟨d, e, hd, he, p1, p2, hm, q⟩ := h
  obtain ⟨as, r1⟩ := Dp.reads I d x v hd rx
  obtain ⟨bs, r2⟩ := Dp.reads I e y u he ry
  exact SeqAt.ne_plain r1 r2 p1 p2 (by omega) ⟨.bl _, H, I, rfl, q⟩
theorem op_inP (hu : X.A.units + 64 < cLine) : OpR X (compareOp .In) (rInP X.K) := by
  intro pins s σ H x y v u Q I rx ry h
  obtain ⟨d, e, hd, ⟨c, hc, hcc⟩, p1, p2, hm, q⟩ := h
  obtain ⟨as, r1⟩ := Dp.reads I d x v hd rx
  obtain ⟨bs, r2⟩ := Dp.reads I c y u hc ry
  rcases hcc with rfl | rfl
  · exact SeqAt.in_list_data r2 r1 p2 p1 (by omega) ⟨.bl _, H, I, rfl, q⟩
  · exact SeqAt.in_tuple_data r2 r1 p2 p1 (by omega) ⟨.bl _, H, I, rfl, q⟩
theorem op_niP (hu : X.A.units + 64 < cLine) : OpR X (compareOp .NotIn) (rNiP X.K) := by
  intro pins s σ H x y v u Q I rx ry h
  obtain ⟨d, e, hd, ⟨c, hc, hcc⟩, p1, p2, hm, q⟩ := h
  obtain ⟨as, r1⟩ := Dp.reads I d x v hd rx
  obtain ⟨bs, r2⟩ := Dp.reads I c y u hc ry
  rcases hcc with rfl | rfl
  · exact SeqAt.notIn_list_data r2 r1 p2 p1 (by omega) ⟨.bl _, H, I, rfl, q⟩
  · exact SeqAt.notIn_tuple_data r2 r1 p2 p1 (by omega) ⟨.bl _, H, I, rfl, q⟩
end
def eqOk (a b : D) : Bool := a.plain && b.plain && decide (min a.depth b.depth ≤ 60)
def inOk (d : D) (e : List D) : Bool := d.plain && PyData.plainAll e && decide (min (PyData.depthAll e) d.depth ≤ 60)
def eqI : List D → Option D
  | [a, b] => if eqOk a b = true then some (.bool (PyData.eqv a b)) else none
  | _ => none
def neI : List D → Option D
  | [a, b] => if eqOk a b = true then some (.bool (!PyData.eqv a b)) else none
  | _ => none
def subStr (x y : Str) : Bool := !(Builtin.Str.occurrences y x 0 y.length 1).isEmpty
def inI : List D → Option D
  | [d, .list e] => if inOk d e = true then some (.bool (e.any fun z => PyData.eqv z d)) else none
  | [d, .tuple e] => if inOk d e = true then some (.bool (e.any fun z => PyData.eqv z d)) else none
  | [.str x, .str y] => some (.bool (subStr x y))
  | _ => none
def niI : List D → Option D
  | [d, .list e] => if inOk d e = true then some (.bool (!e.any fun z => PyData.eqv z d)) else none
  | [d, .tuple e] => if inOk d e = true then some (.bool (!e.any fun z => PyData.eqv z d)) else none
  | [.str x, .str y] => some (.bool (!subStr x y))
  | _ => none
abbrev rIn2 (K : PySem.W.Frag) : R2 := fun x y H Q => rInP K x y H Q ∨ ∃ i j, x = .str i ∧ y = .str j ∧ Q (.bl (subStr i j)) H
abbrev rNi2 (K : PySem.W.Frag) : R2 := fun x y H Q => rNiP K x y H Q ∨ ∃ i j, x = .str i ∧ y = .str j ∧ Q (.bl (!subStr i j)) H
theorem op_in2 {X : Cx} (hu : X.A.units + 64 < cLine) : OpR X (compareOp .In) (rIn2 X.K) := (op_inP hu).or op_in_str
theorem op_ni2 {X : Cx} (hu : X.A.units + 64 < cLine) : OpR X (compareOp .NotIn) (rNi2 X.K) := (op_niP hu).or op_notIn_str
def ltI : List D → Option D
  | [.int i, .int j] => some (.bool (decide (i < j)))
  | _ => none
def leI : List D → Option D
  | [.int i, .int j] => some (.bool (decide (i ≤ j)))
  | _ => none
def gtI : List D → Option D
  | [.int i, .int j] => some (.bool (decide (j < i)))
  | _ => none
def geI : List D → Option D
  | [.int i, .int j] => some (.bool (decide (j ≤ i)))
  | _ => none
section
variable {T : Tabs} {M : Kds} {K : PySem.W.Frag} {w : World}
theorem eqOk_of {a b : D} (h : eqOk a b = true) : a.plain = true ∧ b.plain = true ∧ min a.depth b.depth ≤ 60 := by
  unfold eqOk at h
  rw [Bool.and_eq_true, Bool.and_eq_true] at h
  exact ⟨h.1.1, h.1.2, of_decide_eq_true h.2⟩
theorem inOk_of {a : D} {b : List D} (h : inOk a b = true) : a.plain = true ∧ PyData.plainAll b = true ∧ min (PyData.depthAll b) a.depth ≤ 60 := by
  unfold inOk at h
  rw [Bool.and_eq_true, Bool.and_eq_true] at h
  exact ⟨h.1.1, h.1.2, of_decide_eq_true h.2⟩
theorem ru_eq : RuE K w T M (r2L (rEqP K)) eqI := by
  intro σ U H ρ vs ds d Q S pk e q
  unfold eqI at e
  split at e
  · split at e
    · rename_i a b hc
      cases e
      obtain ⟨p1, p2, hm⟩ := eqOk_of hc
      obtain ⟨v, u, rfl, k1, k2⟩ := pks2 pk
      exact ⟨a, b, k1.dp p1, k2.dp p2, p1, p2, hm, fun _ => q _ H S .refl (.bl _)⟩
    · cases e
  · cases e
theorem ru_ne : RuE K w T M (r2L (rNeP K)) neI := by
  intro σ U H ρ vs ds d Q S pk e q
  unfold neI at e
  split at e
  · split at e
    · rename_i a b hc
      cases e
      obtain ⟨p1, p2, hm⟩ := eqOk_of hc
      obtain ⟨v, u, rfl, k1, k2⟩ := pks2 pk
      exact ⟨a, b, k1.dp p1, k2.dp p2, p1, p2, hm, fun _ => q _ H S .refl (.bl _)⟩
    · cases e
  · cases e
theorem ru_in : RuE K w T M (r2L (rIn2 K)) inI := by
  intro σ U H ρ vs ds d Q S pk e q
  unfold inI at e
  split at e
  · split at e
    · rename_i a b hc
      cases e
      obtain ⟨p1, p2, hm⟩ := inOk_of hc
      obtain ⟨v, u, rfl, k1, k2⟩ := pks2 pk
      exact .inl ⟨a, b, k1.dp p1, ⟨_, k2.dp (by simpa [PyData.plain] using p2), .inl rfl⟩, p1, p2, hm, fun _ => q _ H S .refl (.bl _)⟩
    · cases e
  · split at e
    · rename_i a b hc
      cases e
      obtain ⟨p1, p2, hm⟩ := inOk_of hc
      obtain ⟨v, u, rfl, k1, k2⟩ := pks2 pk
      exact .inl ⟨a, b, k1.dp p1, ⟨_, k2.dp (by simpa [PyData.plain] using p2), .inr rfl⟩, p1, p2, hm, fun _ => q _ H S .refl (.bl _)⟩
    · cases e
  · cases e
    obtain ⟨v, u, rfl, k1, k2⟩ := pks2 pk
    exact .inr ⟨_, _, k1.str, k2.str, fun _ => q _ H S .refl (.bl _)⟩
  · cases e
theorem ru_ni : RuE K w T M (r2L (rNi2 K)) niI := by
  intro σ U H ρ vs ds d Q S pk e q
  unfold niI at e
  split at e
  · split at e
    · rename_i a b hc
      cases e
      obtain ⟨p1, p2, hm⟩ := inOk_of hc
      obtain ⟨v, u, rfl, k1, k2⟩ := pks2 pk
      exact .inl ⟨a, b, k1.dp p1, ⟨_, k2.dp (by simpa [PyData.plain] using p2), .inl rfl⟩, p1, p2, hm, fun _ => q _ H S .refl (.bl _)⟩
    · cases e
  · split at e
    · rename_i a b hc
      cases e
      obtain ⟨p1, p2, hm⟩ := inOk_of hc
      obtain ⟨v, u, rfl, k1, k2⟩ := pks2 pk
      exact .inl ⟨a, b, k1.dp p1, ⟨_, k2.dp (by simpa [PyData.plain] using p2), .inr rfl⟩, p1, p2, hm, fun _ => q _ H S .refl (.bl _)⟩
    · cases e
  · cases e
    obtain ⟨v, u, rfl, k1, k2⟩ := pks2 pk
    exact .inr ⟨_, _, k1.str, k2.str, fun _ => q _ H S .refl (.bl _)⟩
  · cases e
theorem ru_intB {g : Int → Int → Bool} {sem : List D → Option D} (hs : ∀ ds d, sem ds = some d → ∃ i j, ds = [.int i, .int j] ∧ d = .bool (g i j)) :
    RuE K w T M (r2L (rI0 fun i j => .bl (g i j))) sem := fun σ U H ρ vs ds d Q S pk e q => by
  obtain ⟨i, j, rfl, rfl⟩ := hs ds d e
  obtain ⟨v, u, rfl, p1, p2⟩ := pks2 pk
  exact ⟨i, j, p1.int, p2.int, fun _ => q _ H S .refl (.bl _)⟩
theorem ru_lt : RuE K w T M (r2L (rI0 fun i j => .bl (decide (i < j)))) ltI := ru_intB fun ds d h => by
  unfold ltI at h
  split at h
  · cases h; exact ⟨_, _, rfl, rfl⟩
  · cases h
theorem ru_le : RuE K w T M (r2L (rI0 fun i j => .bl (decide (i ≤ j)))) leI := ru_intB fun ds d h => by
  unfold leI at h
  split at h
  · cases h; exact ⟨_, _, rfl, rfl⟩
  · cases h
theorem ru_gt : RuE K w T M (r2L (rI0 fun i j => .bl (decide (j < i)))) gtI := ru_intB fun ds d h => by
  unfold gtI at h
  split at h
  · cases h; exact ⟨_, _, rfl, rfl⟩
  · cases h
theorem ru_ge : RuE K w T M (r2L (rI0 fun i j => .bl (decide (j ≤ i)))) geI := ru_intB fun ds d h => by
  unfold geI at h
  split at h
  · cases h; exact ⟨_, _, rfl, rfl⟩
  · cases h
end

/-! ### is None -/
def isN : D → Bool
  | .none => true
  | _ => false
def isI : List D → Option D
  | [d, .none] => some (.bool (isN d))
  | _ => none
def isnI : List D → Option D
  | [d, .none] => some (.bool (!isN d))
  | _ => none
section
variable {T : Tabs} {M : Kds} {K : PySem.W.Frag} {w : World}
theorem Pk.isN {U : Addr → Prop} {σ : Sg} {ρ : Env} {H : Hp} {v : V} {d : D} (h : Pk K w M U σ ρ H v d) : decide (v = .non) = isN d := by
  rcases h with h | ⟨a, _, rfl, c⟩
  · cases h <;> simp [Sx.isN]
  · rcases c with ⟨xs, ds, rfl, _, _⟩ | ⟨xs, ds, rfl, _, _⟩ <;> simp [Sx.isN]
theorem ru_is : RuE K w T M (r2L fun x y H Q => y = .non ∧ Q (.bl (decide (x = .non))) H) isI := by
  intro σ U H ρ vs ds d Q S pk e q
  unfold isI at e
  split at e
  · cases e
    obtain ⟨v, u, rfl, k1, k2⟩ := pks2 pk
    exact ⟨k2.non, fun _ => by rw [k1.isN]; exact q _ H S .refl (.bl _)⟩
  · cases e
theorem ru_isn : RuE K w T M (r2L fun x y H Q => y = .non ∧ Q (.bl (!decide (x = .non))) H) isnI := by
  intro σ U H ρ vs ds d Q S pk e q
  unfold isnI at e
  split at e
  · cases e
    obtain ⟨v, u, rfl, k1, k2⟩ := pks2 pk
    exact ⟨k2.non, fun _ => by rw [k1.isN]; exact q _ H S .refl (.bl _)⟩
  · cases e
end

/-! ### tests -/
abbrev Tv := Env → Option (Env × Bool)
def tT (K : PySem.W.Frag) (w : World) (T : Tabs) (M : Kds) (h : Tv) : TT := fun σ H Q => ∃ U ρ ρ' b, Sim K w T M U σ H ρ ∧ h ρ = some (ρ', b) ∧
  ∀ H', Sim K w T M U σ H' ρ' → Stp M σ ρ H σ ρ' H' → Q b H'
abbrev ST (X : Cx) (T : Tabs) (M : Kds) (e : Expr) (h : Tv) : Prop := PT X e (tT X.K X.w T M h)
abbrev SW (X : Cx) (T : Tabs) (M : Kds) (e : Expr) (h : Tv) : Prop := PW X e (tT X.K X.w T M h)
section
variable {X : Cx} {e : Expr} {t t' : TT}
theorem PT.imp (h : PT X e t) (q : ∀ σ H Q, t' σ H Q → t σ H Q) : PT X e t' := ⟨fun pins s σ H Q I hw => h.run pins s σ H Q I (q _ _ _ hw)⟩
theorem PT.impK (h : PT X e t) (q : ∀ σ H Q, t' σ H Q → t σ H fun v H' => KO X.K H' → Q v H') : PT X e t' := ⟨fun pins s σ H Q I hw =>
  thn (h.run pins s σ H _ I (q _ _ _ hw)) fun _ _ ⟨H', I', z⟩ => ⟨H', I', z (Inv.ko I')⟩⟩
theorem PW.imp (h : PW X e t) (q : ∀ σ H Q, t' σ H Q → t σ H Q) : PW X e t' := ⟨fun wh pins s σ H Q I hw => h.run wh pins s σ H Q I (q _ _ _ hw)⟩
end
def hOp (sem : List D → Option D) (g : Evs) : Tv := fun ρ => (g ρ).bind fun p => match sem p.2 with
  | some (.bool b) => some (p.1, b)
  | _ => none
theorem hOp_of {sem : List D → Option D} {g : Evs} {ρ ρ' : Env} {b : Bool} (h : hOp sem g ρ = some (ρ', b)) : ∃ ds, g ρ = some (ρ', ds) ∧ sem ds = some (.bool b) := by
  obtain ⟨⟨ρ1, ds⟩, e1, e2⟩ := bind_of h
  dsimp only at e2
  split at e2
  · rename_i c hc
    cases e2
    exact ⟨ds, e1, hc⟩
  · cases e2
section
variable {X : Cx} {T : Tabs} {M : Kds} {e a b c : Expr} {es rest : List Expr} {f f1 f2 : Ev} {g : Evs} {h h1 h2 : Tv} {Ga Gb Gc : Evs → Evs} {r : RV} {sem : List D → Option D} {pos : Pos}
theorem rp_bl {K : PySem.W.Frag} {w : World} {O : Addr → Prop} {H : Hp} {v : V} {k : Bool} (h : Rp K w O H v (.bool k)) : v = .bl k := by cases h; rfl
theorem pt_cmpK {ta tb : TE} {op : CmpOp} {r : R2} (ho : OpR X (compareOp op) r) (ha : PE X a ta) (hb : PE X b tb) (hm : behindInMarks op b = false) : PT X (.Compare a [op] [b] pos) (fun σ H Q => tOp r ta tb σ H fun x H' => KO X.K H' → ∃ k, x = .bl k ∧ Q k H') := by
  refine ⟨fun pins s σ H Q I h => ?_⟩
  refine wpAny_isTrue_Compare1 (thn (ha.run pins s σ H _ I h) fun v s1 ⟨x, H1, I1, r1, q1⟩ => thn (hb.run pins s1 σ H1 _ I1 q1) fun u s2 ⟨y, H2, I2, r2, q2⟩ =>
    thn (ho pins s2 σ H2 x y v u _ I2 r1 r2 q2) fun c s3 ⟨z, H3, I3, r3, q3⟩ => ?_) hm
  obtain ⟨k, e, q4⟩ := q3 (Inv.ko I3)
  subst e
  cases r3
  exact wpAny_truthy_bool ⟨H3, I3, q4⟩
theorem st_cmp {op : CmpOp} {r : R2} (ho : OpR X (compareOp op) r) (ha : SO X T M a Ga) (hb : SO X T M b Gb) (hm : behindInMarks op b = false) (hr : RuE X.K X.w T M (r2L r) sem) : ST X T M (.Compare a [op] [b] pos) (hOp sem (Ga (Gb gN))) := by
  obtain ⟨ta, pa, oa⟩ := ha.pe
  obtain ⟨tb, pb, ob⟩ := hb.pe
  refine PT.imp (pt_cmpK ho pa pb hm) fun σ H Q hw => ?_
  obtain ⟨U, ρ, ρ', k, S, hf, q⟩ := hw
  obtain ⟨ds, e1, e2⟩ := hOp_of hf
  exact (oa _ _ (ob _ _ ops_nil)) σ H U ρ ρ' ds (fun vs H1 => r2L r vs H1 fun v H2 => KO X.K H2 → ∃ k, v = .bl k ∧ Q k H2) S e1 fun vs H1 S1 st1 pk =>
    hr σ U H1 ρ' vs ds (.bool k) (fun v H2 => ∃ k, v = .bl k ∧ Q k H2) S1 pk e2 fun v H2 S2 st2 rv => ⟨k, rp_bl rv, q H2 S2 (st1.trans st2)⟩
/-- a expression's truth -/
def plainTest : Expr → Bool
  | .UnaryOp .Not _ _ | .BoolOp .. | .IfExp .. | .Compare .. => false
  | _ => true
theorem test_of {env : PySem.Env} (h : plainTest e = true) : ∀ whole, isTrue e env whole = (do let v ← whole; standAt e.pos; holding [v] (truthy v)) := by
  intro whole
  cases e with
  | UnaryOp op x p => cases op <;> first | rfl | exact absurd h (by simp [plainTest])
  | _ => first | rfl | exact absurd h (by simp [plainTest])
def truD : D → Option Bool
  | .none => some false
  | .bool b => some b
  | .int i => some (i != 0)
  | .str y => if y.length ≤ 16777216 then some ((y.length : Int) != 0) else none
  | .list xs => some (!xs.isEmpty)
  | .tuple xs => some (!xs.isEmpty)
  | .dict _ => none
theorem rpa_empty {K : PySem.W.Frag} {w : World} {O : Addr → Prop} {H : Hp} {xs : List V} {ds : List D} (h : RpA K w O H xs ds) : xs.isEmpty = ds.isEmpty := by cases h <;> rfl
theorem Pk.tru {K : PySem.W.Frag} {w : World} {U : Addr → Prop} {σ : Sg} {ρ : Env} {H : Hp} {v : V} {d : D} {k : Bool} (h : Pk K w M U σ ρ H v d) (e : truD d = some k) : TruV K v H k := by
  cases d with
  | none => cases h.non; cases e; exact rfl
  | bool b => cases h.bl; cases e; exact rfl
  | int i => cases h.int; cases e; exact rfl
  | str y =>
    cases h.str
    have e' : (if y.length ≤ 16777216 then some ((y.length : Int) != 0) else none) = some k := e
    split at e'
    · rename_i hl
      cases e'
      exact ⟨by rw [sizeLine_eq]; exact hl, rfl⟩
    · cases e'
  | list ds =>
    obtain ⟨a, xs, rfl, h2, h3⟩ := h.lst
    cases e
    exact .inl ⟨xs, h2, by rw [rpa_empty h3]⟩
  | tuple ds =>
    obtain ⟨a, xs, rfl, h2, h3, _⟩ := h.tup
    cases e
    exact .inr (.inl ⟨xs, h2, by rw [rpa_empty h3]⟩)
  | dict _ => cases e
def hTru (g : Evs) : Tv := fun ρ => (g ρ).bind fun p => match p.2 with
  | [d] => (truD d).map fun b => (p.1, b)
  | _ => none
theorem hTru_of {ρ ρ' : Env} {b : Bool} (h : hTru g ρ = some (ρ', b)) : ∃ d, g ρ = some (ρ', [d]) ∧ truD d = some b := by
  obtain ⟨⟨ρ1, ds⟩, e1, e2⟩ := bind_of h
  dsimp only at e2
  split at e2
  · rename_i d
    obtain ⟨x, e3, e4⟩ := Option.map_eq_some_iff.mp e2
    cases e4
    exact ⟨d, e1, e3⟩
  · cases e2
theorem st_tru (hp : plainTest a = true) (ha : SO X T M a Ga) : ST X T M a (hTru (Ga gN)) := by
  obtain ⟨ta, pa, oa⟩ := ha.pe
  refine PT.imp (pt_truth pa (test_of hp)) fun σ H Q hw => ?_
  obtain ⟨U, ρ, ρ', k, S, hf, q⟩ := hw
  obtain ⟨d, e1, e2⟩ := hTru_of hf
  exact (oa _ _ ops_nil) σ H U ρ ρ' [d] (fun vs H1 => match vs with | [x] => ∃ k, TruV X.K x H1 k ∧ Q k H1 | _ => False) S e1 fun vs H1 S1 st1 pk => by
    obtain ⟨v, rfl, p1⟩ := pks1 pk
    exact ⟨k, p1.tru e2, q H1 S1 st1⟩

def hNot (h : Tv) : Tv := fun ρ => (h ρ).map fun p => (p.1, !p.2)
def hAnd (h1 h2 : Tv) : Tv := fun ρ => (h1 ρ).bind fun p => if p.2 = true then h2 p.1 else some (p.1, false)
def hOr (h1 h2 : Tv) : Tv := fun ρ => (h1 ρ).bind fun p => if p.2 = true then some (p.1, true) else h2 p.1
theorem st_not (ha : ST X T M a h) : ST X T M (.UnaryOp .Not a pos) (hNot h) := by
  refine PT.imp (pt_not ha) fun σ H Q hw => ?_
  obtain ⟨U, ρ, ρ', k, S, hf, q⟩ := hw
  obtain ⟨⟨ρ1, b⟩, e1, e2⟩ := Option.map_eq_some_iff.mp hf
  cases e2
  exact ⟨U, ρ, ρ1, b, S, e1, q⟩
theorem sw_and1 (ha : ST X T M a h) : SW X T M (.BoolOp .And [a] pos) h := pw_and1 ha
theorem sw_or1 (ha : ST X T M a h) : SW X T M (.BoolOp .Or [a] pos) h := pw_or1 ha
theorem sw_and (ha : ST X T M a h1) (hb : SW X T M (.BoolOp .And (b :: rest) pos) h2) : SW X T M (.BoolOp .And (a :: b :: rest) pos) (hAnd h1 h2) := by
  refine PW.imp (pw_and ha hb) fun σ H Q hw => ?_
  obtain ⟨U, ρ, ρ', k, S, hf, q⟩ := hw
  obtain ⟨⟨ρ1, c⟩, e1, e2⟩ := bind_of hf
  refine ⟨U, ρ, ρ1, c, S, e1, fun H1 S1 st1 => ?_⟩
  cases c with
  | true =>
    rw [if_pos rfl] at e2 ⊢
    exact ⟨U, ρ1, ρ', k, S1, e2, fun H2 S2 st2 => q H2 S2 (st1.trans st2)⟩
  | false =>
    rw [if_neg (by simp)] at e2 ⊢
    cases e2
    exact q H1 S1 st1
theorem sw_or (ha : ST X T M a h1) (hb : SW X T M (.BoolOp .Or (b :: rest) pos) h2) : SW X T M (.BoolOp .Or (a :: b :: rest) pos) (hOr h1 h2) := by
  refine PW.imp (pw_or ha hb) fun σ H Q hw => ?_
  obtain ⟨U, ρ, ρ', k, S, hf, q⟩ := hw
  obtain ⟨⟨ρ1, c⟩, e1, e2⟩ := bind_of hf
  refine ⟨U, ρ, ρ1, c, S, e1, fun H1 S1 st1 => ?_⟩
  cases c with
  | false =>
    rw [if_neg (by simp)] at e2 ⊢
    exact ⟨U, ρ1, ρ', k, S1, e2, fun H2 S2 st2 => q H2 S2 (st1.trans st2)⟩
  | true =>
    rw [if_pos rfl] at e2 ⊢
    cases e2
    exact q H1 S1 st1
theorem st_w (ha : SW X T M a h) : ST X T M a h := ha.pt
/-! as values -/
def eAnd (f1 f2 : Ev) : Ev := fun ρ => (f1 ρ).bind fun p => (truD p.2).bind fun k => if k = true then f2 p.1 else some p
def eOr (f1 f2 : Ev) : Ev := fun ρ => (f1 ρ).bind fun p => (truD p.2).bind fun k => if k = true then some p else f2 p.1
def eNot (g : Evs) : Ev := fun ρ => (hTru g ρ).map fun p => (p.1, .bool (!p.2))
def eIf (h : Tv) (f1 f2 : Ev) : Ev := fun ρ => (h ρ).bind fun p => if p.2 = true then f1 p.1 else f2 p.1
theorem s_one {op : BoolOp} (ha : SE X T M a f) : SE X T M (.BoolOp op [a] pos) f := pe_one ha
theorem s_and (ha : SE X T M a f1) (hb : SE X T M (.BoolOp .And (b :: rest) pos) f2) : SE X T M (.BoolOp .And (a :: b :: rest) pos) (eAnd f1 f2) := by
  refine PE.imp (pe_andT ha hb) fun σ H Q hw => ?_
  obtain ⟨U, ρ, ρ', d, S, hf, q⟩ := hw
  obtain ⟨⟨ρ1, x⟩, e1, e2⟩ := bind_of hf
  obtain ⟨k, e3, e4⟩ := bind_of e2
  refine ⟨U, ρ, ρ1, x, S, e1, fun v H1 S1 st1 rv => ⟨k, Pk.tru (.inl rv) e3, ?_⟩⟩
  cases k with
  | true =>
    rw [if_pos rfl] at e4 ⊢
    exact ⟨U, ρ1, ρ', d, S1, e4, fun v2 H2 S2 st2 => q v2 H2 S2 (st1.trans st2)⟩
  | false =>
    rw [if_neg (by simp)] at e4 ⊢
    cases e4
    exact q v H1 S1 st1 rv
theorem s_or (ha : SE X T M a f1) (hb : SE X T M (.BoolOp .Or (b :: rest) pos) f2) : SE X T M (.BoolOp .Or (a :: b :: rest) pos) (eOr f1 f2) := by
  refine PE.imp (pe_orT ha hb) fun σ H Q hw => ?_
  obtain ⟨U, ρ, ρ', d, S, hf, q⟩ := hw
  obtain ⟨⟨ρ1, x⟩, e1, e2⟩ := bind_of hf
  obtain ⟨k, e3, e4⟩ := bind_of e2
  refine ⟨U, ρ, ρ1, x, S, e1, fun v H1 S1 st1 rv => ⟨k, Pk.tru (.inl rv) e3, ?_⟩⟩
  cases k with
  | false =>
    rw [if_neg (by simp)] at e4 ⊢
    exact ⟨U, ρ1, ρ', d, S1, e4, fun v2 H2 S2 st2 => q v2 H2 S2 (st1.trans st2)⟩
  | true =>
    rw [if_pos rfl] at e4 ⊢
    cases e4
    exact q v H1 S1 st1 rv
theorem s_not (ha : SO X T M a Ga) : SE X T M (.UnaryOp .Not a pos) (eNot (Ga gN)) := by
  obtain ⟨ta, pa, oa⟩ := ha.pe
  refine PE.imp (pe_notT pa) fun σ H Q hw => ?_
  obtain ⟨U, ρ, ρ', d, S, hf, q⟩ := hw
  obtain ⟨⟨ρ1, b⟩, e1, e2⟩ := Option.map_eq_some_iff.mp hf
  cases e2
  obtain ⟨x, e3, e4⟩ := hTru_of e1
  exact (oa _ _ ops_nil) σ H U ρ ρ1 [x] (fun vs H1 => match vs with | [x] => ∃ k, TruV X.K x H1 k ∧ Q (.bl (!k)) H1 | _ => False) S e3 fun vs H1 S1 st1 pk => by
    obtain ⟨v, rfl, p1⟩ := pks1 pk
    exact ⟨b, p1.tru e4, q _ H1 S1 st1 (.bl _)⟩
theorem s_if (hc : ST X T M c h) (ha : SE X T M a f1) (hb : SE X T M b f2) : SE X T M (.IfExp c a b pos) (eIf h f1 f2) := by
  refine PE.imp (pe_ifExp hc ha hb) fun σ H Q hw => ?_
  obtain ⟨U, ρ, ρ', d, S, hf, q⟩ := hw
  obtain ⟨⟨ρ1, k⟩, e1, e2⟩ := bind_of hf
  refine ⟨U, ρ, ρ1, k, S, e1, fun H1 S1 st1 => ?_⟩
  cases k with
  | true =>
    rw [if_pos rfl] at e2 ⊢
    exact ⟨U, ρ1, ρ', d, S1, e2, fun v2 H2 S2 st2 => q v2 H2 S2 (st1.trans st2)⟩
  | false =>
    rw [if_neg (by simp)] at e2 ⊢
    exact ⟨U, ρ1, ρ', d, S1, e2, fun v2 H2 S2 st2 => q v2 H2 S2 (st1.trans st2)⟩
end

/-! ### subscripts, slices -/
def ixI : List D → Option D
  | [.list ds, .int i] => atI ds i
  | [.tuple ds, .int i] => atI ds i
  | [.str z, .int i] => if z.length ≤ 16777216 then (atI z.cps.toList i).map fun c => .str ⟨#[c]⟩ else none
  | _ => none
theorem rpa_at {K : PySem.W.Frag} {w : World} {O : Addr → Prop} {H : Hp} {xs : List V} {ds : List D} {i : Int} {d : D} (h : RpA K w O H xs ds) (e : atI ds i = some d) : ∃ v, atI xs i = some v ∧ Rp K w O H v d := by
  unfold atI at e ⊢
  rw [h.length]
  obtain ⟨j, e1, e2⟩ := bind_of e
  obtain ⟨v, q1, q2⟩ := h.get e2
  exact ⟨v, by rw [e1]; exact q1, q2⟩
section
variable {T : Tabs} {M : Kds} {K : PySem.W.Frag} {w : World}
theorem ru_ix : RuE K w T M (r2L (rIx K)) ixI := by
  intro σ U H ρ vs ds d Q S pk e q
  unfold ixI at e
  split at e
  · obtain ⟨v, u, rfl, k1, k2⟩ := pks2 pk
    obtain ⟨a, xs, rfl, h2, h3⟩ := k1.lst
    obtain ⟨x, e1, r⟩ := rpa_at h3 e
    exact .inl ⟨a, xs, _, x, rfl, k2.int, h2, e1, fun _ => q _ H S .refl r⟩
  · obtain ⟨v, u, rfl, k1, k2⟩ := pks2 pk
    obtain ⟨a, xs, rfl, h2, h3, _⟩ := k1.tup
    obtain ⟨x, e1, r⟩ := rpa_at h3 e
    exact .inr (.inl ⟨a, xs, _, x, rfl, k2.int, h2, e1, fun _ => q _ H S .refl r⟩)
  · split at e
    · rename_i z i hl
      obtain ⟨c, e1, e2⟩ := Option.map_eq_some_iff.mp e
      cases e2
      obtain ⟨v, u, rfl, k1, k2⟩ := pks2 pk
      exact .inr (.inr ⟨z, i, c, k1.str, k2.int, by rw [sizeLine_eq]; exact hl, e1, fun _ => q _ H S .refl (.str _)⟩)
    · cases e
  · cases e
end
def notSlice : Expr → Bool
  | .Slice .. => false
  | _ => true
theorem plainIx_of {b : Expr} (h : notSlice b = true) : PlainIx b := by
  intro o i
  cases b <;> first | rfl | exact absurd h (by simp [notSlice])
end Sx
/-! S5: statements. -/
namespace Sx
open PySem PySem.Spec PyProof.Rows L2

inductive Out where
  | nx (ρ : Env) | rt (ρ : Env) (d : D) | bk (ρ : Env) | ct (ρ : Env)
abbrev Sv := Env → Option Out
def Post (K : PySem.W.Frag) (w : World) (T : Tabs) (M : Kds) (fr : Bool) (U : Addr → Prop) (σ : Sg) (ρ : Env) (H : Hp) (Dn : Ends) : Out → Prop
  | .nx ρ' => ∀ σ' H', Sim K w T M U σ' H' ρ' → Stp M σ ρ H σ' ρ' H' → Dn.nx σ' H'
  | .bk ρ' => ∀ σ' H', Sim K w T M U σ' H' ρ' → Stp M σ ρ H σ' ρ' H' → Dn.bk σ' H'
  | .ct ρ' => ∀ σ' H', Sim K w T M U σ' H' ρ' → Stp M σ ρ H σ' ρ' H' → Dn.ct σ' H'
  | .rt ρ' d => match fr with
    | false => ∀ v σ' H', Sim K w T M U σ' H' ρ' → Stp M σ ρ H σ' ρ' H' → Rp K w (Ow M U σ' ρ') H' v d → Dn.rt v H'
    | true => ∀ a σ' H', Sim K w T M (plus U a) σ' H' ρ' → Stp M σ ρ H σ' ρ' H' → (Mine M σ ρ a ∨ H a = none) → Cell K w (Ow M (plus U a) σ' ρ') H' a d → Dn.rt (.ref a) H'
def tS (K : PySem.W.Frag) (w : World) (T : Tabs) (M : Kds) (fr : Bool) (f : Sv) : TS := fun Dn σ H => ∃ U ρ o, Sim K w T M U σ H ρ ∧ f ρ = some o ∧ Post K w T M fr U σ ρ H Dn o
abbrev SS (X : Cx) (T : Tabs) (M : Kds) (fr : Bool) (st : Stmt) (f : Sv) : Prop := PS X st (tS X.K X.w T M fr f)
abbrev SSs (X : Cx) (T : Tabs) (M : Kds) (fr : Bool) (st : List Stmt) (f : Sv) : Prop := PSs X st (tS X.K X.w T M fr f)
section
variable {X : Cx} {st : Stmt} {sts : List Stmt} {t t' : TS}
theorem PS.imp (h : PS X st t) (q : ∀ D σ H, t' D σ H → t D σ H) : PS X st t' := ⟨fun pins s σ H D I hw => h.run pins s σ H D I (q _ _ _ hw)⟩
theorem PSs.imp (h : PSs X sts t) (q : ∀ D σ H, t' D σ H → t D σ H) : PSs X sts t' := ⟨fun pins s σ H D I hw => h.run pins s σ H D I (q _ _ _ hw)⟩
end
section
variable {K : PySem.W.Frag} {w : World} {T : Tabs} {M : Kds} {fr : Bool} {U : Addr → Prop} {σ σ1 : Sg} {ρ ρ1 : Env} {H H1 : Hp} {Dn Dn' : Ends}
theorem Stp.own (st : Stp M σ ρ H σ1 ρ1 H1) {a : Addr} (h : Mine M σ1 ρ1 a ∨ H1 a = none) : Mine M σ ρ a ∨ H a = none := by
  rcases h with h | h
  · exact st.mine a h
  · exact .inr (Classical.byContradiction fun n => st.dom a n h)
/-- a step ahead of the rest -/
theorem Post.step {o : Out} (st : Stp M σ ρ H σ1 ρ1 H1) (h : Post K w T M fr U σ ρ H Dn o) : Post K w T M fr U σ1 ρ1 H1 Dn o := by
  cases o with
  | nx ρ' => exact fun σ' H' S' st' => h σ' H' S' (st.trans st')
  | bk ρ' => exact fun σ' H' S' st' => h σ' H' S' (st.trans st')
  | ct ρ' => exact fun σ' H' S' st' => h σ' H' S' (st.trans st')
  | rt ρ' d =>
    cases fr with
    | false => exact fun v σ' H' S' st' => h v σ' H' S' (st.trans st')
    | true => exact fun a σ' H' S' st' ha => h a σ' H' S' (st.trans st') (st.own ha)
end
section
variable {X : Cx} {T : Tabs} {M : Kds} {fr : Bool} {st : Stmt} {sts body els : List Stmt} {e : Expr} {f f1 f2 : Sv} {h : Tv} {pos : Pos} {fe : Ev}
def aNil : Sv := fun ρ => some (.nx ρ)
def aSeq (f1 f2 : Sv) : Sv := fun ρ => (f1 ρ).bind fun o => match o with
  | .nx ρ1 => f2 ρ1
  | o => some o
theorem ss_nil : SSs X T M fr [] aNil := by
  refine PSs.imp pss_nil fun Dn σ H hw => ?_
  obtain ⟨U, ρ, o, S, hf, q⟩ := hw
  cases hf
  exact q σ H S .refl
theorem ss_cons (ha : SS X T M fr st f1) (hb : SSs X T M fr sts f2) : SSs X T M fr (st :: sts) (aSeq f1 f2) := by
  refine PSs.imp (pss_cons ha hb) fun Dn σ H hw => ?_
  obtain ⟨U, ρ, o, S, hf, q⟩ := hw
  obtain ⟨o1, e1, e2⟩ := bind_of hf
  refine ⟨U, ρ, o1, S, e1, ?_⟩
  cases o1 with
  | nx ρ1 => exact fun σ1 H1 S1 st1 => ⟨U, ρ1, o, S1, e2, q.step st1⟩
  | bk ρ1 => cases e2; exact q
  | ct ρ1 => cases e2; exact q
  | rt ρ1 d => cases e2; exact q
theorem ss_pass : SS X T M fr (.Pass pos) aNil := by
  refine PS.imp ps_pass fun Dn σ H hw => ?_
  obtain ⟨U, ρ, o, S, hf, q⟩ := hw
  cases hf
  exact q σ H S .refl
def aBreak : Sv := fun ρ => some (.bk ρ)
def aCont : Sv := fun ρ => some (.ct ρ)
theorem ss_break : SS X T M fr (.Break pos) aBreak := by
  refine PS.imp ps_break fun Dn σ H hw => ?_
  obtain ⟨U, ρ, o, S, hf, q⟩ := hw
  cases hf
  exact q σ H S .refl
theorem ss_cont : SS X T M fr (.Continue pos) aCont := by
  refine PS.imp ps_continue fun Dn σ H hw => ?_
  obtain ⟨U, ρ, o, S, hf, q⟩ := hw
  cases hf
  exact q σ H S .refl
/-- never asked -/
def aNo : Sv := fun _ => none
theorem ss_no : SS X T M fr st aNo := by
  refine PS.imp ps_never fun Dn σ H hw => ?_
  obtain ⟨U, ρ, o, S, hf, q⟩ := hw
  cases hf
theorem sss_no : SSs X T M fr sts aNo := by
  refine PSs.imp pss_never fun Dn σ H hw => ?_
  obtain ⟨U, ρ, o, S, hf, q⟩ := hw
  cases hf
def aIf (h : Tv) (f1 f2 : Sv) : Sv := fun ρ => (h ρ).bind fun p => if p.2 = true then f1 p.1 else f2 p.1
theorem ss_if {c : Expr} (hc : ST X T M c h) (ha : SSs X T M fr body f1) (hb : SSs X T M fr els f2) : SS X T M fr (.If c body els pos) (aIf h f1 f2) := by
  refine PS.imp (ps_if hc ha hb) fun Dn σ H hw => ?_
  obtain ⟨U, ρ, o, S, hf, q⟩ := hw
  obtain ⟨⟨ρ1, k⟩, e1, e2⟩ := bind_of hf
  refine ⟨U, ρ, ρ1, k, S, e1, fun H1 S1 st1 => ?_⟩
  cases k with
  | true =>
    rw [if_pos rfl] at e2 ⊢
    exact ⟨U, ρ1, o, S1, e2, q.step st1⟩
  | false =>
    rw [if_neg (by simp)] at e2 ⊢
    exact ⟨U, ρ1, o, S1, e2, q.step st1⟩
/-- an expression that is dropped -/
def aDrop (fe : Ev) : Sv := fun ρ => (fe ρ).map fun p => .nx p.1
def notComp : Expr → Bool
  | .ListComp .. | .SetComp .. | .DictComp .. => false
  | _ => true
theorem sw_false {env : PySem.Env} {t : Option Expr} {l : Nat} (hn : notComp e = true) : swapsWith e t l env = pure false := by
  cases e <;> first | rfl | exact absurd hn (by simp [notComp])
theorem ss_drop (hn : notComp e = true) (he : SE X T M e fe) : SS X T M fr (.Expr e pos) (aDrop fe) := by
  refine PS.imp (ps_expr he (sw_false hn)) fun Dn σ H hw => ?_
  obtain ⟨U, ρ, o, S, hf, q⟩ := hw
  obtain ⟨⟨ρ1, d⟩, e1, e2⟩ := Option.map_eq_some_iff.mp hf
  cases e2
  exact ⟨U, ρ, ρ1, d, S, e1, fun v H1 S1 st1 r => q σ H1 S1 st1⟩
def aRet (fe : Ev) : Sv := fun ρ => (fe ρ).map fun p => .rt p.1 p.2
theorem ss_ret (he : SE X T M e fe) : SS X T M false (.Return (some e) pos) (aRet fe) := by
  refine PS.imp (ps_ret he) fun Dn σ H hw => ?_
  obtain ⟨U, ρ, o, S, hf, q⟩ := hw
  obtain ⟨⟨ρ1, d⟩, e1, e2⟩ := Option.map_eq_some_iff.mp hf
  cases e2
  exact ⟨U, ρ, ρ1, d, S, e1, fun v H1 S1 st1 r => q v σ H1 S1 st1 r⟩
theorem ss_retF (he : SF X T M e fe) : SS X T M true (.Return (some e) pos) (aRet fe) := by
  refine PS.imp (ps_ret he) fun Dn σ H hw => ?_
  obtain ⟨U, ρ, o, S, hf, q⟩ := hw
  obtain ⟨⟨ρ1, d⟩, e1, e2⟩ := Option.map_eq_some_iff.mp hf
  cases e2
  exact ⟨U, ρ, ρ1, d, S, e1, fun a H1 S1 st1 ha c => q a σ H1 S1 st1 ha c⟩
def aRetN : Sv := fun ρ => some (.rt ρ .none)
theorem ss_retN : SS X T M false (.Return none pos) aRetN := by
  refine PS.imp ps_retN fun Dn σ H hw => ?_
  obtain ⟨U, ρ, o, S, hf, q⟩ := hw
  cases hf
  exact q _ σ H S .refl .non
end

/-! ### storing into slots -/
section
variable {K : PySem.W.Frag} {w : World} {T : Tabs} {M : Kds} {U : Addr → Prop} {σ : Sg} {ρ : Env} {H : Hp} {i : Nat} {d : D} {v : V} {a : Addr}
theorem get_set {α : Type} {l : List α} {i j : Nat} {x : α} {y : α} (h : (l.set i x)[j]? = some y) : (j = i ∧ y = x ∧ i < l.length) ∨ (j ≠ i ∧ l[j]? = some y) := by
  by_cases e : i = j
  · subst e
    by_cases hl : i < l.length
    · rw [List.getElem?_set_self hl] at h; cases h; exact .inl ⟨rfl, rfl, hl⟩
    · rw [List.getElem?_eq_none (by simpa using hl)] at h; cases h
  · rw [List.getElem?_set_ne e] at h
    exact .inr ⟨fun z => e z.symm, h⟩
/-- frozen data into a frozen slot -/
theorem Sim.putF (S : Sim K w T M U σ H ρ) (hM : M i = .fz) (r : Rp K w (Ow M U σ ρ) H v d) : Sim K w T M U (σ.set i (some v)) H (ρ.set i (some d)) ∧ Stp M σ ρ H (σ.set i (some v)) (ρ.set i (some d)) H := by
  have hM' : (M i).own = false := by rw [hM]; rfl
  have mi : ∀ b, Mine M (σ.set i (some v)) (ρ.set i (some d)) b → Mine M σ ρ b := fun b ⟨j, x, h1, h2, h3⟩ => by
    have hj : j ≠ i := fun z => by subst z; rw [hM'] at h1; cases h1
    rw [List.getElem?_set_ne (Ne.symm hj)] at h2 h3
    exact ⟨j, x, h1, h2, h3⟩
  have key : ∀ b, Ow M U (σ.set i (some v)) (ρ.set i (some d)) b → Ow M U σ ρ b := fun b z => z.imp_right (mi b)
  refine ⟨⟨by simpa using S.len, fun j x h1 h2 => ?_, fun j x h1 h2 => ?_, fun j k x y b h1 h2 h3 h4 h5 h6 => ?_, S.un, S.tb, S.kk⟩, ⟨fun _ _ e _ _ => e, fun b z => .inl (mi b z), fun _ z => z, fun j x h1 h2 => ?_⟩⟩
  · rcases get_set h2 with ⟨rfl, e, hl⟩ | ⟨hj, h2⟩
    · cases e
      exact ⟨v, List.getElem?_set_self (Nat.lt_of_lt_of_le hl S.len), r.weak key⟩
    · obtain ⟨u, e, q⟩ := S.fz j x h1 h2
      exact ⟨u, by rw [List.getElem?_set_ne (Ne.symm hj)]; exact e, q.weak key⟩
  · have hj : j ≠ i := fun z => by subst z; rw [hM'] at h1; cases h1
    rw [List.getElem?_set_ne (Ne.symm hj)] at h2
    obtain ⟨b, e, n, c⟩ := S.ow j x h1 h2
    exact ⟨b, by rw [List.getElem?_set_ne (Ne.symm hj)]; exact e, n, c.weak key⟩
  · have hj : j ≠ i := fun z => by subst z; rw [hM'] at h1; cases h1
    have hk : k ≠ i := fun z => by subst z; rw [hM'] at h2; cases h2
    rw [List.getElem?_set_ne (Ne.symm hj)] at h3 h5
    rw [List.getElem?_set_ne (Ne.symm hk)] at h4 h6
    exact S.ap j k x y b h1 h2 h3 h4 h5 h6
  · have hj : j ≠ i := fun z => by subst z; rw [hM] at h1; cases h1
    exact ⟨by rw [List.getElem?_set_ne (Ne.symm hj)], x, by rw [List.getElem?_set_ne (Ne.symm hj)]; exact h2⟩
/-- a new object into an own slot -/
theorem Sim.putO (S : Sim K w T M (plus U a) σ H ρ) (hM : M i = .ow) (c : Cell K w (Ow M (plus U a) σ ρ) H a d) (hU : ¬ U a) : Sim K w T M U (σ.set i (some (.ref a))) H (ρ.set i (some d)) := by
  have hM' : (M i).own = true := by rw [hM]; rfl
  have mi : ∀ b, Mine M (σ.set i (some (.ref a))) (ρ.set i (some d)) b → Mine M σ ρ b ∨ b = a := fun b ⟨j, x, h1, h2, h3⟩ => by
    rcases get_set h2 with ⟨rfl, e, hl⟩ | ⟨hj, h2⟩
    · rw [List.getElem?_set_self (Nat.lt_of_lt_of_le hl S.len)] at h3
      cases h3; exact .inr rfl
    · rw [List.getElem?_set_ne (Ne.symm hj)] at h3
      exact .inl ⟨j, x, h1, h2, h3⟩
  have key : ∀ b, Ow M U (σ.set i (some (.ref a))) (ρ.set i (some d)) b → Ow M (plus U a) σ ρ b := fun b z => by
    rcases z with z | z
    · exact .inl (.inl z)
    · rcases mi b z with z | z
      · exact .inr z
      · exact .inl (.inr z)
  have na : ∀ {j x b}, (M j).own = true → ρ[j]? = some (some x) → σ[j]? = some (some (.ref b)) → b ≠ a := fun h1 h2 h3 z => by
    subst z
    exact S.own_ne ⟨_, _, h1, h2, h3⟩
  refine ⟨by simpa using S.len, fun j x h1 h2 => ?_, fun j x h1 h2 => ?_, fun j k x y b h1 h2 h3 h4 h5 h6 => ?_, fun b z => S.un b (.inl z), S.tb, S.kk⟩
  · have hj : j ≠ i := fun z => by subst z; rw [hM'] at h1; cases h1
    rw [List.getElem?_set_ne (Ne.symm hj)] at h2
    obtain ⟨u, e, q⟩ := S.fz j x h1 h2
    exact ⟨u, by rw [List.getElem?_set_ne (Ne.symm hj)]; exact e, q.weak key⟩
  · rcases get_set h2 with ⟨rfl, e, hl⟩ | ⟨hj, h2⟩
    · cases e
      exact ⟨a, List.getElem?_set_self (Nat.lt_of_lt_of_le hl S.len), hU, c.weak key⟩
    · obtain ⟨b, e, n, q⟩ := S.ow j x h1 h2
      exact ⟨b, by rw [List.getElem?_set_ne (Ne.symm hj)]; exact e, fun z => n (.inl z), q.weak key⟩
  · rcases get_set h3 with ⟨rfl, e, hl⟩ | ⟨hj, h3'⟩
    · rcases get_set h4 with ⟨rfl, e', hl'⟩ | ⟨hk, h4⟩
      · rfl
      · rw [List.getElem?_set_self (Nat.lt_of_lt_of_le hl S.len)] at h5
        rw [List.getElem?_set_ne (Ne.symm hk)] at h6
        cases h5
        exact absurd rfl (na h2 h4 h6)
    · rcases get_set h4 with ⟨rfl, e', hl'⟩ | ⟨hk, h4⟩
      · rw [List.getElem?_set_self (Nat.lt_of_lt_of_le hl' S.len)] at h6
        rw [List.getElem?_set_ne (Ne.symm hj)] at h5
        cases h6
        exact absurd rfl (na h1 h3' h5)
      · rw [List.getElem?_set_ne (Ne.symm hj)] at h5
        rw [List.getElem?_set_ne (Ne.symm hk)] at h6
        exact S.ap j k x y b h1 h2 h3' h4 h5 h6
theorem Stp.putO {σ0 : Sg} {ρ0 : Env} {H0 : Hp} (st : Stp M σ0 ρ0 H0 σ ρ H) (len : ρ.length ≤ σ.length) (hM : M i = .ow) (ha : Mine M σ0 ρ0 a ∨ H0 a = none) : Stp M σ0 ρ0 H0 (σ.set i (some (.ref a))) (ρ.set i (some d)) H where
  same := st.same
  mine := fun b ⟨j, x, h1, h2, h3⟩ => by
    rcases get_set h2 with ⟨rfl, e, hl⟩ | ⟨hj, h2⟩
    · rw [List.getElem?_set_self (Nat.lt_of_lt_of_le hl len)] at h3
      cases h3; exact ha
    · rw [List.getElem?_set_ne (Ne.symm hj)] at h3
      exact st.mine b ⟨j, x, h1, h2, h3⟩
  dom := st.dom
  lent := fun j x h1 h2 => by
    have hj : j ≠ i := fun z => by subst z; rw [hM] at h1; cases h1
    obtain ⟨e1, y, e2⟩ := st.lent j x h1 h2
    exact ⟨by rw [List.getElem?_set_ne (Ne.symm hj)]; exact e1, y, by rw [List.getElem?_set_ne (Ne.symm hj)]; exact e2⟩
end
section
variable {X : Cx} {T : Tabs} {M : Kds} {fr : Bool} {e : Expr} {f : Ev} {pos p' : Pos} {i : Nat} {x : Str}
def aSet (i : Nat) (f : Ev) : Sv := fun ρ => (f ρ).map fun p => .nx (p.1.set i (some p.2))
theorem ss_set (hM : M i = .fz) (hN : X.N.Nodup) (hi : X.N[i]? = some x) (hx : Loc X.env.scope x) (hn : notComp e = true) (he : SE X T M e f) (hf : X.fn x = true ∨ X.env.scope.names.lookup x = some .local) : SS X T M fr (.Assign [.Name x p'] e pos) (aSet i f) := by
  refine PS.imp (ps_set hN hi hx he (sw_false hn) hf) fun Dn σ H hw => ?_
  obtain ⟨U, ρ, o, S, hf, q⟩ := hw
  obtain ⟨⟨ρ1, d⟩, e1, e2⟩ := Option.map_eq_some_iff.mp hf
  cases e2
  refine ⟨U, ρ, ρ1, d, S, e1, fun v H1 S1 st1 r => ?_⟩
  obtain ⟨S2, st2⟩ := S1.putF hM r
  exact q _ H1 S2 (st1.trans st2)
theorem ss_setO (hM : M i = .ow) (hN : X.N.Nodup) (hi : X.N[i]? = some x) (hx : Loc X.env.scope x) (hn : notComp e = true) (he : SF X T M e f) (hf : X.fn x = true ∨ X.env.scope.names.lookup x = some .local) : SS X T M fr (.Assign [.Name x p'] e pos) (aSet i f) := by
  refine PS.imp (ps_set hN hi hx he (sw_false hn) hf) fun Dn σ H hw => ?_
  obtain ⟨U, ρ, o, S, hf, q⟩ := hw
  obtain ⟨⟨ρ1, d⟩, e1, e2⟩ := Option.map_eq_some_iff.mp hf
  cases e2
  refine ⟨U, ρ, ρ1, d, S, e1, fun a H1 S1 st1 ha c => ?_⟩
  refine q _ H1 (S1.putO hM c fun z => ?_) (st1.putO S1.len hM ha)
  rcases ha with ha | ha
  · exact (S.mineT ha).2 z
  · exact S.un a z ha

/-! ### targets -/
abbrev Gv := D → Env → Option Env
def KeepS (ts : List Nat) (σ σ' : Sg) : Prop := σ'.length = σ.length ∧ ∀ i, i ∉ ts → σ'[i]? = σ[i]?
theorem KeepS.refl {ts : List Nat} {σ : Sg} : KeepS ts σ σ := ⟨rfl, fun _ _ => rfl⟩
theorem KeepS.trans {ts ts' : List Nat} {σ σ' σ'' : Sg} (a : KeepS ts σ σ') (b : KeepS ts' σ' σ'') : KeepS (ts ++ ts') σ σ'' := ⟨b.1.trans a.1, fun i h => by
  rw [List.mem_append, not_or] at h
  exact (b.2 i h.2).trans (a.2 i h.1)⟩
def tGt (K : PySem.W.Frag) (w : World) (T : Tabs) (M : Kds) (ts : List Nat) (G : Gv) : TG := fun v σ H Q => ∃ U ρ d ρ', Sim K w T M U σ H ρ ∧ Rp K w (Ow M U σ ρ) H v d ∧ G d ρ = some ρ' ∧ ∀ σ' H', Sim K w T M U σ' H' ρ' → Stp M σ ρ H σ' ρ' H' → KeepS ts σ σ' → Q σ' H'
abbrev SG (X : Cx) (T : Tabs) (M : Kds) (ts : List Nat) (tg : Expr) (G : Gv) : Prop := PG X tg (tGt X.K X.w T M ts G)
abbrev Gvs := List D → Env → Option Env
def tGts (K : PySem.W.Frag) (w : World) (T : Tabs) (M : Kds) (ts : List Nat) (G : Gvs) : TGs := fun vs σ H Q => ∃ U ρ ds ρ', Sim K w T M U σ H ρ ∧ RpA K w (Ow M U σ ρ) H vs ds ∧ G ds ρ = some ρ' ∧ ∀ σ' H', Sim K w T M U σ' H' ρ' → Stp M σ ρ H σ' ρ' H' → KeepS ts σ σ' → Q σ' H'
abbrev SGs (X : Cx) (T : Tabs) (M : Kds) (ts : List Nat) (tg : List Expr) (G : Gvs) : Prop := PGs X tg (tGts X.K X.w T M ts G)
theorem PG.imp {X : Cx} {tg : Expr} {t t' : TG} (h : PG X tg t) (q : ∀ v σ H Q, t' v σ H Q → t v σ H Q) : PG X tg t' := ⟨fun pins s σ H v u Q I r hw => h.run pins s σ H v u Q I r (q _ _ _ _ hw)⟩
theorem PGs.imp {X : Cx} {tg : List Expr} {t t' : TGs} (h : PGs X tg t) (q : ∀ v σ H Q, t' v σ H Q → t v σ H Q) : PGs X tg t' := ⟨fun pins s σ H v u Q I r hw => h.run pins s σ H v u Q I r (q _ _ _ _ hw)⟩
def gSet (i : Nat) : Gv := fun d ρ => some (ρ.set i (some d))
theorem sg_name (hM : M i = .fz) (hN : X.N.Nodup) (hi : X.N[i]? = some x) (hx : Loc X.env.scope x) (hf : X.fn x = true ∨ X.env.scope.names.lookup x = some .local) : SG X T M [i] (.Name x pos) (gSet i) := by
  refine PG.imp (pg_name hN hi hx hf) fun v σ H Q hw => ?_
  obtain ⟨U, ρ, d, ρ', S, r, e, q⟩ := hw
  cases e
  obtain ⟨S2, st2⟩ := S.putF hM r
  exact q _ H S2 st2 ⟨by simp, fun j h => List.getElem?_set_ne (fun e => h (by rw [e]; exact List.mem_singleton.mpr rfl))⟩
def gsNil : Gvs := fun ds ρ => match ds with
  | [] => some ρ
  | _ => none
def gsCons (G : Gv) (R : Gvs) : Gvs := fun ds ρ => match ds with
  | d :: r => (G d ρ).bind fun ρ1 => R r ρ1
  | [] => none
def gTupT (n : Nat) (R : Gvs) : Gv := fun d ρ => match d with
  | .tuple ds => if ds.length = n then R ds ρ else none
  | _ => none
def notStarT : Expr → Bool
  | .Starred .. => false
  | _ => true
theorem assign_cons {t : Expr} {ts : List Expr} {env : PySem.Env} (h : plainArg t = true) : (assignEach (t :: ts) env).map (·.2) = assign t env :: (assignEach ts env).map (·.2) := by
  cases t <;> first | rfl | exact absurd h (by simp [plainArg])
theorem assign_len {env : PySem.Env} : ∀ {ts : List Expr}, (assignEach ts env).length = ts.length
  | [] => rfl
  | t :: ts => by
    have e : (assignEach (t :: ts) env).length = (assignEach ts env).length + 1 := by cases t <;> rfl
    rw [e, assign_len (ts := ts)] <;> rfl
theorem assign_star {env : PySem.Env} : ∀ {ts : List Expr}, ts.all plainArg = true → (assignEach ts env).findIdx? (·.1) = none
  | [], _ => rfl
  | t :: ts, h => by
    rw [List.all_cons, Bool.and_eq_true] at h
    have e : assignEach (t :: ts) env = (false, assign t env) :: assignEach ts env := by
      cases t <;> first | rfl | exact absurd h.1 (by simp [plainArg])
    rw [e, List.findIdx?_cons]
    simp [assign_star h.2]
theorem sgs_nil : SGs X T M [] [] gsNil := by
  refine PGs.imp pgs_nil fun v σ H Q hw => ?_
  obtain ⟨U, ρ, d, ρ', S, r, e, q⟩ := hw
  cases d with
  | nil => cases e; cases r; exact ⟨rfl, q σ H S .refl .refl⟩
  | cons _ _ => cases e
theorem sgs_cons {t : Expr} {ts : List Expr} {n1 n2 : List Nat} {G : Gv} {R : Gvs} (hp : plainArg t = true) (ha : SG X T M n1 t G) (hr : SGs X T M n2 ts R) : SGs X T M (n1 ++ n2) (t :: ts) (gsCons G R) := by
  refine PGs.imp (pgs_cons ha hr (assign_cons hp)) fun v σ H Q hw => ?_
  obtain ⟨U, ρ, d, ρ', S, r, e, q⟩ := hw
  cases d with
  | nil => cases e
  | cons d ds =>
    obtain ⟨ρ1, e1, e2⟩ := bind_of e
    cases r with
    | cons r rs =>
      refine ⟨_, _, rfl, U, ρ, d, ρ1, S, r, e1, fun σ1 H1 S1 st1 k1 => ?_⟩
      exact ⟨U, ρ1, ds, ρ', S1, st1.rpa S1 rs, e2, fun σ2 H2 S2 st2 k2 => q σ2 H2 S2 (st1.trans st2) (k1.trans k2)⟩
theorem sg_tup {ts : List Expr} {k : Nat} {ns : List Nat} {R : Gvs} (hc : X.calm = true) (hp : ts.all plainArg = true) (h : SGs X T M ns ts R) : SG X T M ns (.Tuple ts k pos) (gTupT ts.length R) := by
  refine PG.imp (pg_tup (n := ts.length) hc h assign_len (assign_star hp)) fun v σ H Q hw => ?_
  obtain ⟨U, ρ, d, ρ', S, r, e, q⟩ := hw
  unfold gTupT at e
  split at e
  · split at e
    · rename_i ds hl
      cases r with
      | @tup a xs _ h1 h2 h3 => exact ⟨a, xs, rfl, h2, by rw [h3.length]; exact hl, U, ρ, ds, ρ', S, h3, e, q⟩
    · cases e
  · cases e
/-- target = value -/
def aAsg (f : Ev) (G : Gv) : Sv := fun ρ => (f ρ).bind fun p => (G p.2 p.1).map .nx
def plainVal (tg e : Expr) : Bool := match tg, e with
  | .Tuple .., .Tuple .. => false
  | .List .., .Tuple .. => false
  | _, _ => true
theorem sws_none {tg : Expr} {env : PySem.Env} (h : plainVal tg e = true) : swappedStores [tg] e env = pure none := by
  cases tg <;> cases e <;> first | rfl | exact absurd h (by simp [plainVal])
theorem ss_asg {tg : Expr} {ns : List Nat} {G : Gv} (hp : plainArg tg = true) (hv : plainVal tg e = true) (hn : notComp e = true) (he : SE X T M e f) (hg : SG X T M ns tg G) : SS X T M fr (.Assign [tg] e pos) (aAsg f G) := by
  refine PS.imp (ps_asg he hg (sw_false hn) (sws_none hv) (assign_cons hp)) fun Dn σ H hw => ?_
  obtain ⟨U, ρ, o, S, hf, q⟩ := hw
  obtain ⟨⟨ρ1, d⟩, e1, e2⟩ := bind_of hf
  obtain ⟨ρ2, e3, e4⟩ := Option.map_eq_some_iff.mp e2
  cases e4
  exact ⟨U, ρ, ρ1, d, S, e1, fun v H1 S1 st1 r => ⟨U, ρ1, d, ρ2, S1, r, e3, fun σ2 H2 S2 st2 _ => q σ2 H2 S2 (st1.trans st2)⟩⟩
end
end Sx
/-! S6: calls of the text's defs. -/
namespace Sx
open PySem PySem.Spec PyProof.Rows L2

abbrev Fn := List D → Option (D × List D)
/-- which arguments are lent: the caller's slots -/
abbrev Ls := List (Option Nat)
def putB : Ls → List D → Env → Env
  | some i :: ls, d :: ds, ρ => putB ls ds (ρ.set i (some d))
  | none :: ls, _ :: ds, ρ => putB ls ds ρ
  | _, _, ρ => ρ
theorem putB_len : ∀ (ls : Ls) (ds : List D) (ρ : Env), (putB ls ds ρ).length = ρ.length
  | [], _, _ => by simp [putB]
  | none :: _, [], _ => by simp [putB]
  | some _ :: _, [], _ => by simp [putB]
  | some i :: ls, d :: ds, ρ => by simp [putB, putB_len ls ds]
  | none :: ls, d :: ds, ρ => by simp [putB, putB_len ls ds]
theorem putB_out {i : Nat} : ∀ (ls : Ls) (ds : List D) (ρ : Env), some i ∉ ls → (putB ls ds ρ)[i]? = ρ[i]?
  | [], _, _, _ => by simp [putB]
  | none :: _, [], _, _ => by simp [putB]
  | some _ :: _, [], _, _ => by simp [putB]
  | some j :: ls, d :: ds, ρ, h => by
    have h1 : j ≠ i := fun z => h (by rw [z]; exact List.mem_cons_self)
    rw [putB, putB_out ls ds _ (fun z => h (List.mem_cons_of_mem _ z)), List.getElem?_set_ne h1]
  | none :: ls, d :: ds, ρ, h => by rw [putB, putB_out ls ds _ (fun z => h (List.mem_cons_of_mem _ z))]
theorem putB_in {i : Nat} : ∀ (ls : Ls) (ds : List D) (ρ : Env) (k : Nat), (ls.filterMap id).Nodup → ls[k]? = some (some i) → k < ds.length → i < ρ.length → (putB ls ds ρ)[i]? = some ds[k]?
  | [], _, _, _, _, h, _, _ => by simp at h
  | _ :: _, [], _, _, _, _, h, _ => by simp at h
  | some j :: ls, d :: ds, ρ, 0, nd, h, _, hi => by
    simp at h
    subst h
    rw [putB, putB_out ls ds _ ?_, List.getElem?_set_self hi]
    · rfl
    · intro z
      simp only [List.filterMap_cons, id, List.nodup_cons] at nd
      exact nd.1 (List.mem_filterMap.mpr ⟨_, z, rfl⟩)
  | none :: ls, d :: ds, ρ, 0, nd, h, _, hi => by simp at h
  | some j :: ls, d :: ds, ρ, k + 1, nd, h, hk, hi => by
    simp only [List.filterMap_cons, id, List.nodup_cons] at nd
    rw [putB, putB_in ls ds _ k nd.2 (by simpa using h) (by simpa using hk) (by simpa using hi)] <;> simp
  | none :: ls, d :: ds, ρ, k + 1, nd, h, hk, hi => by
    simp only [List.filterMap_cons, id] at nd
    rw [putB, putB_in ls ds _ k nd (by simpa using h) (by simpa using hk) hi] <;> simp

/-- the arguments at the call -/
inductive Ar (K : PySem.W.Frag) (w : World) (M : Kds) (U : Addr → Prop) (σ : Sg) (ρ : Env) (H : Hp) : Ls → List V → List D → Prop
  | nil : Ar K w M U σ ρ H [] [] []
  | fz {ls : Ls} {v : V} {d : D} {vs : List V} {ds : List D} : Rp K w (Ow M U σ ρ) H v d → Ar K w M U σ ρ H ls vs ds → Ar K w M U σ ρ H (none :: ls) (v :: vs) (d :: ds)
  | le {ls : Ls} {i : Nat} {a : Addr} {d : D} {vs : List V} {ds : List D} : (M i).own = true → ρ[i]? = some (some d) → σ[i]? = some (some (.ref a)) → Ar K w M U σ ρ H ls vs ds → Ar K w M U σ ρ H (some i :: ls) (.ref a :: vs) (d :: ds)
section
variable {K : PySem.W.Frag} {w : World} {T : Tabs} {M Mc : Kds} {U : Addr → Prop} {σ : Sg} {ρ : Env} {H H' : Hp} {ls : Ls} {vs : List V} {ds ds' : List D}
theorem Ar.len : ∀ {ls : Ls} {vs : List V} {ds : List D}, Ar K w M U σ ρ H ls vs ds → vs.length = ls.length ∧ ds.length = ls.length
  | _, _, _, .nil => ⟨rfl, rfl⟩
  | _, _, _, .fz _ t => by simp [t.len.1, t.len.2]
  | _, _, _, .le _ _ _ t => by simp [t.len.1, t.len.2]
theorem Ar.atN : ∀ {ls : Ls} {vs : List V} {ds : List D} {k : Nat} {d : D}, Ar K w M U σ ρ H ls vs ds → ls[k]? = some none → ds[k]? = some d → ∃ v, vs[k]? = some v ∧ Rp K w (Ow M U σ ρ) H v d
  | _, _, _, k, _, .nil, h, _ => by simp at h
  | _, _, _, 0, _, .fz r _, _, e => by simp at e; subst e; exact ⟨_, rfl, r⟩
  | _, _, _, 0, _, .le _ _ _ _, h, _ => by simp at h
  | _, _, _, k + 1, _, .fz _ t, h, e => by simpa using t.atN (k := k) (by simpa using h) (by simpa using e)
  | _, _, _, k + 1, _, .le _ _ _ t, h, e => by simpa using t.atN (k := k) (by simpa using h) (by simpa using e)
theorem Ar.atL : ∀ {ls : Ls} {vs : List V} {ds : List D} {k i : Nat}, Ar K w M U σ ρ H ls vs ds → ls[k]? = some (some i) → ∃ a d, vs[k]? = some (.ref a) ∧ ds[k]? = some d ∧ (M i).own = true ∧ ρ[i]? = some (some d) ∧ σ[i]? = some (some (.ref a))
  | _, _, _, k, _, .nil, h => by simp at h
  | _, _, _, 0, _, .fz r _, h => by simp at h
  | _, _, _, 0, _, .le h1 h2 h3 _, h => by simp at h; subst h; exact ⟨_, _, rfl, rfl, h1, h2, h3⟩
  | _, _, _, k + 1, _, .fz _ t, h => by simpa using t.atL (k := k) (by simpa using h)
  | _, _, _, k + 1, _, .le _ _ _ t, h => by simpa using t.atL (k := k) (by simpa using h)
/-- the callee's kinds fit -/
def fits (Mc : Kds) (ls : Ls) : Bool := (List.range ls.length).all fun k => match ls[k]? with
  | some (some _) => decide (Mc k = .le)
  | _ => decide (Mc k = .fz)
theorem fits_le {k i : Nat} (h : fits Mc ls = true) (e : ls[k]? = some (some i)) : Mc k = .le := by
  have hk : k < ls.length := (List.getElem?_eq_some_iff.mp e).1
  have q := List.all_eq_true.mp h k (List.mem_range.mpr hk)
  rw [e] at q
  exact of_decide_eq_true q
theorem fits_fz {k : Nat} (h : fits Mc ls = true) (e : ls[k]? = some none) : Mc k = .fz := by
  have hk : k < ls.length := (List.getElem?_eq_some_iff.mp e).1
  have q := List.all_eq_true.mp h k (List.mem_range.mpr hk)
  rw [e] at q
  exact of_decide_eq_true q
/-- lent addresses -/
def Lent (σ : Sg) (ls : Ls) (b : Addr) : Prop := ∃ i, some i ∈ ls ∧ σ[i]? = some (some (.ref b))
/-- what the callee may not touch -/
def Uc (M : Kds) (U : Addr → Prop) (σ : Sg) (ρ : Env) (ls : Ls) (b : Addr) : Prop := U b ∨ (Mine M σ ρ b ∧ ¬ Lent σ ls b)
theorem map_some {α : Type} {l : List α} {k : Nat} {x : α} (h : (l.map some)[k]? = some (some x)) : l[k]? = some x := by
  rw [List.getElem?_map] at h
  cases e : l[k]? with
  | none => rw [e] at h; cases h
  | some y => rw [e] at h; cases h; rfl
theorem some_map {α : Type} {l : List α} {k : Nat} {x : α} (h : l[k]? = some x) : (l.map some)[k]? = some (some x) := by rw [List.getElem?_map, h] <;> rfl
theorem mine_call (A : Ar K w M U σ ρ H ls vs ds) (hf : fits Mc ls = true) (hl : ds'.length = ls.length) {b : Addr} : Mine Mc (vs.map some) (ds'.map some) b ↔ Lent σ ls b := by
  constructor
  · rintro ⟨k, d, h1, h2, h3⟩
    have h2' := map_some h2
    have hk : k < ls.length := by rw [← hl]; exact (List.getElem?_eq_some_iff.mp h2').1
    cases e : ls[k]? with
    | none => rw [List.getElem?_eq_none_iff] at e; omega
    | some o =>
      cases o with
      | none => rw [fits_fz hf e] at h1; cases h1
      | some i =>
        obtain ⟨a, x, e1, e2, e3, e4, e5⟩ := A.atL e
        rw [map_some h3] at e1
        cases e1
        exact ⟨i, List.mem_of_getElem? e, e5⟩
  · rintro ⟨i, hi, e⟩
    obtain ⟨k, hk⟩ := List.getElem?_of_mem hi
    obtain ⟨a, x, e1, e2, e3, e4, e5⟩ := A.atL hk
    rw [e] at e5
    cases e5
    have hk' : k < ds'.length := by rw [hl]; exact (List.getElem?_eq_some_iff.mp hk).1
    exact ⟨k, ds'[k], by rw [fits_le hf hk]; rfl, some_map (List.getElem?_eq_getElem hk'), some_map e1⟩
theorem lent_mine (A : Ar K w M U σ ρ H ls vs ds) {b : Addr} (h : Lent σ ls b) : Mine M σ ρ b := by
  obtain ⟨i, hi, e⟩ := h
  obtain ⟨k, hk⟩ := List.getElem?_of_mem hi
  obtain ⟨a, x, e1, e2, e3, e4, e5⟩ := A.atL hk
  exact ⟨i, x, e3, e4, e⟩
theorem ow_call (A : Ar K w M U σ ρ H ls vs ds) (hf : fits Mc ls = true) {b : Addr} (h : Ow Mc (Uc M U σ ρ ls) (vs.map some) (ds.map some) b) : Ow M U σ ρ b := by
  rcases h with (h | h) | h
  · exact .inl h
  · exact .inr h.1
  · exact .inr (lent_mine A ((mine_call A hf A.len.2).mp h))
/-- the callee's state at its entry -/
theorem sim_call (S : Sim K w T M U σ H ρ) (A : Ar K w M U σ ρ H ls vs ds) (hf : fits Mc ls = true) (nd : (ls.filterMap id).Nodup) : Sim K w T Mc (Uc M U σ ρ ls) (vs.map some) H (ds.map some) where
  len := by simp [A.len.1, A.len.2]
  fz := fun k d h1 h2 => by
    have h2' := map_some h2
    have hk : k < ls.length := by rw [← A.len.2]; exact (List.getElem?_eq_some_iff.mp h2').1
    cases e : ls[k]? with
    | none => rw [List.getElem?_eq_none_iff] at e; omega
    | some o =>
      cases o with
      | none =>
        obtain ⟨v, q1, q2⟩ := A.atN e h2'
        exact ⟨v, some_map q1, q2.weak fun b z => ow_call A hf z⟩
      | some i => rw [fits_le hf e] at h1; cases h1
  ow := fun k d h1 h2 => by
    have h2' := map_some h2
    have hk : k < ls.length := by rw [← A.len.2]; exact (List.getElem?_eq_some_iff.mp h2').1
    cases e : ls[k]? with
    | none => rw [List.getElem?_eq_none_iff] at e; omega
    | some o =>
      cases o with
      | none => rw [fits_fz hf e] at h1; cases h1
      | some i =>
        obtain ⟨a, x, e1, e2, e3, e4, e5⟩ := A.atL e
        rw [h2'] at e2
        cases e2
        obtain ⟨a', z1, z2, z3⟩ := S.ow i _ e3 e4
        rw [e5] at z1
        cases z1
        refine ⟨a, some_map e1, ?_, z3.weak fun b z => ow_call A hf z⟩
        rintro (z | z)
        · exact z2 z
        · exact z.2 ⟨i, List.mem_of_getElem? e, e5⟩
  ap := fun k l d d' a h1 h2 h3 h4 h5 h6 => by
    have key : ∀ {k : Nat} {d : D}, (Mc k).own = true → (ds.map some)[k]? = some (some d) → ∃ i, ls[k]? = some (some i) := fun {k d} h1 h2 => by
      have h2' := map_some h2
      have hk : k < ls.length := by rw [← A.len.2]; exact (List.getElem?_eq_some_iff.mp h2').1
      cases e : ls[k]? with
      | none => rw [List.getElem?_eq_none_iff] at e; omega
      | some o =>
        cases o with
        | none => rw [fits_fz hf e] at h1; cases h1
        | some i => exact ⟨i, rfl⟩
    obtain ⟨i, hi⟩ := key h1 h3
    obtain ⟨j, hj⟩ := key h2 h4
    obtain ⟨a1, x, e1, e2, e3, e4, e5⟩ := A.atL hi
    obtain ⟨a2, y, g1, g2, g3, g4, g5⟩ := A.atL hj
    rw [map_some h5] at e1
    rw [map_some h6] at g1
    cases e1; cases g1
    have ij := S.ap i j x y a e3 g3 e4 g4 e5 g5
    subst ij
    -- the same slot stands once
    have go : ∀ (ls : Ls) (k l : Nat), (ls.filterMap id).Nodup → ls[k]? = some (some i) → ls[l]? = some (some i) → k = l := by
      intro ls
      induction ls with
      | nil => intro k l _ h _; simp at h
      | cons o r ih =>
        intro k l nd hk hl
        cases k with
        | zero =>
          cases l with
          | zero => rfl
          | succ l =>
            simp at hk; subst hk
            simp only [List.filterMap_cons, id, List.nodup_cons] at nd
            exact absurd (List.mem_filterMap.mpr ⟨some i, List.mem_of_getElem? (i := l) (by simpa using hl), rfl⟩ : i ∈ r.filterMap id) nd.1
        | succ k =>
          cases l with
          | zero =>
            simp at hl; subst hl
            simp only [List.filterMap_cons, id, List.nodup_cons] at nd
            exact absurd (List.mem_filterMap.mpr ⟨some i, List.mem_of_getElem? (i := k) (by simpa using hk), rfl⟩ : i ∈ r.filterMap id) nd.1
          | succ l =>
            have nd' : (r.filterMap id).Nodup := by
              cases o with
              | none => simpa using nd
              | some z => simp only [List.filterMap_cons, id, List.nodup_cons] at nd; exact nd.2
            rw [ih k l nd' (by simpa using hk) (by simpa using hl)]
    exact go ls k l nd hi hj
  un := fun b z => by
    rcases z with z | z
    · exact S.un b z
    · exact (S.mineT z.1).1
  tb := S.tb
  kk := S.kk
theorem put_some (A : Ar K w M U σ ρ H ls vs ds) (nd : (ls.filterMap id).Nodup) (hl : ds'.length = ls.length) {j : Nat} {x : D} (h : (putB ls ds' ρ)[j]? = some (some x)) :
    (∃ k : Nat, ls[k]? = some (some j) ∧ ds'[k]? = some x) ∨ (some j ∉ ls ∧ ρ[j]? = some (some x)) := by
  by_cases hj : some j ∈ ls
  · obtain ⟨k, hk⟩ := List.getElem?_of_mem hj
    obtain ⟨a, y, e1, e2, e3, e4, e5⟩ := A.atL hk
    have hk' : k < ds'.length := by rw [hl]; exact (List.getElem?_eq_some_iff.mp hk).1
    rw [putB_in ls ds' ρ k nd hk hk' (List.getElem?_eq_some_iff.mp e4).1] at h
    exact .inl ⟨k, hk, Option.some.inj h⟩
  · rw [putB_out ls ds' ρ hj] at h
    exact .inr ⟨hj, h⟩
theorem mine_put (A : Ar K w M U σ ρ H ls vs ds) (nd : (ls.filterMap id).Nodup) (hl : ds'.length = ls.length) {b : Addr} (h : Mine M σ (putB ls ds' ρ) b) : Mine M σ ρ b := by
  obtain ⟨j, x, h1, h2, h3⟩ := h
  rcases put_some A nd hl h2 with ⟨k, hk, _⟩ | ⟨_, h2⟩
  · obtain ⟨a, y, e1, e2, e3, e4, e5⟩ := A.atL hk
    exact ⟨j, y, h1, e4, h3⟩
  · exact ⟨j, x, h1, h2, h3⟩
/-- behind the call: E, what is new and untouchable -/
theorem sim_back {E : Addr → Prop} (S : Sim K w T M U σ H ρ) (A : Ar K w M U σ ρ H ls vs ds) (hf : fits Mc ls = true) (nd : (ls.filterMap id).Nodup) (hl : ds'.length = ls.length) (hE : ∀ b, E b → H b = none)
    (S' : Sim K w T Mc (fun b => Uc M U σ ρ ls b ∨ E b) (vs.map some) H' (ds'.map some)) (st : Stp Mc (vs.map some) (ds.map some) H (vs.map some) (ds'.map some) H') :
    Sim K w T M (fun b => U b ∨ E b) σ H' (putB ls ds' ρ) ∧ Stp M σ ρ H σ (putB ls ds' ρ) H' ∧ ∀ b, Ow M (fun b => U b ∨ E b) σ (putB ls ds' ρ) b → Ow Mc (fun b => Uc M U σ ρ ls b ∨ E b) (vs.map some) (ds'.map some) b := by
  have same : ∀ b o, H b = some o → ¬ Mine M σ ρ b → (∀ ps, o ≠ .tbl ps) → H' b = some o := fun b o e n t => st.same b o e (fun z => n (lent_mine A ((mine_call A hf A.len.2).mp z))) t
  have key : ∀ b, Ow M (fun b => U b ∨ E b) σ (putB ls ds' ρ) b → Ow M U σ ρ b ∨ (H b = none ∧ K.lookup b = none) := fun b z => by
    rcases z with (z | z) | z
    · exact .inl (.inl z)
    · exact .inr ⟨hE b z, S'.kk b (S'.un b (.inr z))⟩
    · exact .inl (.inr (mine_put A nd hl z))
  have kk : ∀ b o, H b = some o → ¬ Ow M U σ ρ b → (∀ ps, o ≠ .tbl ps) → H' b = some o := fun b o e n t => same b o e (fun z => n (.inr z)) t
  have sub : ∀ b, Ow M (fun b => U b ∨ E b) σ (putB ls ds' ρ) b → Ow Mc (fun b => Uc M U σ ρ ls b ∨ E b) (vs.map some) (ds'.map some) b := fun b z => by
    rcases z with (z | z) | z
    · exact .inl (.inl (.inl z))
    · exact .inl (.inr z)
    · by_cases hb : Lent σ ls b
      · exact .inr ((mine_call A hf hl).mpr hb)
      · exact .inl (.inl (.inr ⟨mine_put A nd hl z, hb⟩))
  refine ⟨⟨by rw [putB_len]; exact S.len, fun j x h1 h2 => ?_, fun j x h1 h2 => ?_, fun i j x y b h1 h2 h3 h4 h5 h6 => ?_, fun b z => ?_, S'.tb, S'.kk⟩, ⟨same, fun b z => .inl (mine_put A nd hl z), st.dom, fun j x h1 h2 => ⟨rfl, ?_⟩⟩, sub⟩
  · rcases put_some A nd hl h2 with ⟨k, hk, _⟩ | ⟨_, h2⟩
    · obtain ⟨a, y, e1, e2, e3, e4, e5⟩ := A.atL hk
      rw [h1] at e3; cases e3
    · obtain ⟨v, e, r⟩ := S.fz j x h1 h2
      exact ⟨v, e, Rp.stay kk key x v r⟩
  · rcases put_some A nd hl h2 with ⟨k, hk, hx⟩ | ⟨hj, h2⟩
    · obtain ⟨a, y, e1, e2, e3, e4, e5⟩ := A.atL hk
      obtain ⟨a', z1, z2, z3⟩ := S'.ow k x (by rw [fits_le hf hk]; rfl) (some_map hx)
      have : a' = a := by
        have := map_some z1
        rw [e1] at this
        cases this; rfl
      subst this
      refine ⟨a', e5, fun z => ?_, z3.weak sub⟩
      rcases z with z | z
      · exact z2 (.inl (.inl z))
      · exact z2 (.inr z)
    · obtain ⟨a, e, n, c⟩ := S.ow j x h1 h2
      have mi : Mine M σ ρ a := ⟨j, x, h1, h2, e⟩
      have nl : ¬ Lent σ ls a := fun ⟨i, hi, ei⟩ => by
        obtain ⟨k, hk⟩ := List.getElem?_of_mem hi
        obtain ⟨a2, y, e1, e2, e3, e4, e5⟩ := A.atL hk
        have := S.ap i j y x a e3 h1 e4 h2 ei e
        subst this
        exact hj hi
      have hs : ∀ o, H a = some o → (∀ ps, o ≠ .tbl ps) → H' a = some o := fun o ho t => st.same a o ho (fun z => nl ((mine_call A hf A.len.2).mp z)) t
      refine ⟨a, e, fun z => ?_, ?_⟩
      · rcases z with z | z
        · exact n z
        · exact c.there (hE a z)
      · rcases c with ⟨xs, dd, c1, c2, c3⟩ | ⟨es, dd, c1, c2, c3⟩
        · exact .inl ⟨xs, dd, c1, hs _ c2 (by intro ps z; cases z), RpA.stay kk key dd xs c3⟩
        · exact .inr ⟨es, dd, c1, hs _ c2 (by intro ps z; cases z), RpP.stay kk key dd es c3⟩
  · have up : ∀ {j x}, (putB ls ds' ρ)[j]? = some (some x) → ∃ y, ρ[j]? = some (some y) := fun {j x} h => by
      rcases put_some A nd hl h with ⟨k, hk, _⟩ | ⟨_, h⟩
      · obtain ⟨a, y, e1, e2, e3, e4, e5⟩ := A.atL hk
        exact ⟨y, e4⟩
      · exact ⟨x, h⟩
    obtain ⟨x', h3'⟩ := up h3
    obtain ⟨y', h4'⟩ := up h4
    exact S.ap i j x' y' b h1 h2 h3' h4' h5 h6
  · rcases z with z | z
    · exact S'.un b (.inl (.inl z))
    · exact S'.un b (.inr z)
  · by_cases hj : some j ∈ ls
    · obtain ⟨k, hk⟩ := List.getElem?_of_mem hj
      obtain ⟨a, y, e1, e2, e3, e4, e5⟩ := A.atL hk
      have hk' : k < ds'.length := by rw [hl]; exact (List.getElem?_eq_some_iff.mp hk).1
      exact ⟨ds'[k], by rw [putB_in ls ds' ρ k nd hk hk' (List.getElem?_eq_some_iff.mp e4).1, List.getElem?_eq_getElem hk']⟩
    · exact ⟨x, by rw [putB_out ls ds' ρ hj]; exact h2⟩
end

/-! ### the promise -/
def spF (K : PySem.W.Frag) (w : World) (T0 : Tabs) (Mc : Kds) (p : Nat) (fr : Bool) (Φ : Fn) : Sp := fun vs H Q _ => ∃ T, (∀ q ∈ T0, q ∈ T) ∧ ∃ U ds d ds', vs.length = p ∧ ds.length = p ∧ Sim K w T Mc U (vs.map some) H (ds.map some) ∧ Φ ds = some (d, ds') ∧ ds'.length = p ∧
  match fr with
  | false => ∀ v H', Sim K w T Mc U (vs.map some) H' (ds'.map some) → Stp Mc (vs.map some) (ds.map some) H (vs.map some) (ds'.map some) H' → Rp K w (Ow Mc U (vs.map some) (ds'.map some)) H' v d → Q v H'
  | true => ∀ a H', Sim K w T Mc (plus U a) (vs.map some) H' (ds'.map some) → Stp Mc (vs.map some) (ds.map some) H (vs.map some) (ds'.map some) H' → H a = none → Cell K w (Ow Mc (plus U a) (vs.map some) (ds'.map some)) H' a d → Q (.ref a) H'
/-- an argument list, some of it lent -/
def ArgT (K : PySem.W.Frag) (w : World) (T : Tabs) (M : Kds) (ls : Ls) (t : TA) (g : Evs) : Prop := ∀ (σ : Sg) (H : Hp) (U : Addr → Prop) (ρ ρ' : Env) (ds : List D) (R : List V → Hp → Prop), Sim K w T M U σ H ρ → g ρ = some (ρ', ds) →
  (∀ vs H', Sim K w T M U σ H' ρ' → Stp M σ ρ H σ ρ' H' → Ar K w M U σ ρ' H' ls vs ds → R vs H') → t σ H R
def CAs (X : Cx) (T : Tabs) (M : Kds) (ls : Ls) (es : List Expr) (g : Evs) : Prop := ∃ t, PA X es t ∧ ArgT X.K X.w T M ls t g
section
variable {X : Cx} {T T0 : Tabs} {M Mc : Kds} {e : Expr} {es : List Expr} {f : Ev} {g : Evs} {ls : Ls}
theorem ca_nil : CAs X T M [] [] gN := ⟨_, pa_nil, fun σ H U ρ ρ' ds R S hf q => by cases hf; exact q [] H S .refl .nil⟩
theorem ca_e (hp : plainArg e = true) (he : SE X T M e f) (hr : CAs X T M ls es g) : CAs X T M (none :: ls) (e :: es) (gE f g) := by
  obtain ⟨t, pt, ot⟩ := hr
  refine ⟨_, pa_cons he pt (star_cons hp), fun σ H U ρ ρ' ds R S hf q => ?_⟩
  obtain ⟨ρ1, d, r, e1, e2, rfl⟩ := gE_of hf
  refine ⟨U, ρ, ρ1, d, S, e1, fun v H1 S1 st1 rv => ?_⟩
  exact ot σ H1 U ρ1 ρ' r _ S1 e2 fun vs H2 S2 st2 rvs => q _ H2 S2 (st1.trans st2) (.fz (st2.rp S2 rv) rvs)
theorem ca_l {i : Nat} {x : Str} {pos : Pos} (h : PE X (.Name x pos) (tVar i)) (hM : (M i).own = true) (hr : CAs X T M ls es g) : CAs X T M (some i :: ls) (.Name x pos :: es) (gV i g) := by
  obtain ⟨t, pt, ot⟩ := hr
  refine ⟨_, pa_cons h pt (star_cons rfl), fun σ H U ρ ρ' ds R S hf q => ?_⟩
  obtain ⟨d0, e0, hf⟩ := bind_of hf
  obtain ⟨⟨ρ1, r⟩, e1, e2⟩ := bind_of hf
  obtain ⟨d, e3, e4⟩ := Option.map_eq_some_iff.mp e2
  cases e4
  obtain ⟨a, ea, na, c⟩ := S.ow i d0 hM (slot_of e0)
  refine ⟨.ref a, ea, ot σ H U ρ ρ1 r _ S e1 fun vs H2 S2 st2 rvs => ?_⟩
  exact q _ H2 S2 st2 (.le hM (slot_of e3) ea rvs)
/-- f(..) -/
def eCall (ls : Ls) (Φ : Fn) (g : Evs) : Ev := fun ρ => (g ρ).bind fun p => (Φ p.2).bind fun q => if q.2.length = ls.length then some (putB ls q.2 p.1, q.1) else none
theorem eCall_of {Φ : Fn} {ρ ρ' : Env} {d : D} (h : eCall ls Φ g ρ = some (ρ', d)) : ∃ ρ1 ds ds', g ρ = some (ρ1, ds) ∧ Φ ds = some (d, ds') ∧ ds'.length = ls.length ∧ ρ' = putB ls ds' ρ1 := by
  obtain ⟨⟨ρ1, ds⟩, e1, e2⟩ := bind_of h
  obtain ⟨⟨x, ds'⟩, e3, e4⟩ := bind_of e2
  dsimp only at e4
  split at e4
  · rename_i hl
    cases e4
    exact ⟨ρ1, ds, ds', e1, e3, hl, rfl⟩
  · cases e4
theorem or_false_iff {U : Addr → Prop} : (fun b => U b ∨ (fun _ : Addr => False) b) = U := by funext b; simp
theorem s_call {Φ : Fn} {k : Nat} {fa : Addr} {fd : FuncData} {ps : List Str} {x : Str} {p pos : Pos} (F : FnOk X.prog X.w X.K X.mg X.base CX0 k fa fd ps (spF X.K X.w T0 Mc ls.length false Φ)) (sub0 : ∀ q ∈ T0, q ∈ T) (hr : Room k X.A) (hg : Gl X x) (hm : X.mg x = some (.ref fa)) (hk : PySem.W.keepIn X.K (.ref fa) = true) (hb : Binds X.K fd ps [])
    (ha : CAs X T M ls (e :: es) g) (hf : fits Mc ls = true) (nd : (ls.filterMap id).Nodup) (hdb : (x == ("__debug__" : Str)) = false) (hp : (e :: es).all plainArg = true) : SE X T M (.Call (.Name x p) (e :: es) [] pos) (eCall ls Φ g) := by
  obtain ⟨t, pt, ot⟩ := ha
  rw [List.all_cons, Bool.and_eq_true] at hp
  refine PE.imp (pe_call F hr hg hm hk hb .nil pass0 pt hdb (star_cons hp.1) (star_none hp.2)) fun σ H Q hw => ?_
  obtain ⟨U, ρ, ρ', d, S, hf', q⟩ := hw
  obtain ⟨ρ1, ds, ds', e1, e2, e3, rfl⟩ := eCall_of hf'
  refine ot σ H U ρ ρ1 ds _ S e1 fun vs H1 S1 st1 A => ?_
  rw [List.append_nil]
  refine ⟨T, sub0, Uc M U σ ρ1 ls, ds, d, ds', A.len.1, A.len.2, sim_call S1 A hf nd, e2, e3, fun v H2 S2 st2 r => ?_⟩
  have S2' : Sim X.K X.w T Mc (fun b => Uc M U σ ρ1 ls b ∨ (fun _ : Addr => False) b) (vs.map some) H2 (ds'.map some) := by rw [or_false_iff]; exact S2
  obtain ⟨S3, st3, sub⟩ := sim_back (E := fun _ => False) S1 A hf nd e3 (fun _ z => z.elim) S2' st2
  rw [or_false_iff] at S3 sub
  rw [or_false_iff] at sub
  exact q v H2 S3 (st1.trans st3) (r.weak sub)
theorem s_callF {Φ : Fn} {k : Nat} {fa : Addr} {fd : FuncData} {ps : List Str} {x : Str} {p pos : Pos} (F : FnOk X.prog X.w X.K X.mg X.base CX0 k fa fd ps (spF X.K X.w T0 Mc ls.length true Φ)) (sub0 : ∀ q ∈ T0, q ∈ T) (hr : Room k X.A) (hg : Gl X x) (hm : X.mg x = some (.ref fa)) (hk : PySem.W.keepIn X.K (.ref fa) = true) (hb : Binds X.K fd ps [])
    (ha : CAs X T M ls (e :: es) g) (hf : fits Mc ls = true) (nd : (ls.filterMap id).Nodup) (hdb : (x == ("__debug__" : Str)) = false) (hp : (e :: es).all plainArg = true) : SF X T M (.Call (.Name x p) (e :: es) [] pos) (eCall ls Φ g) := by
  obtain ⟨t, pt, ot⟩ := ha
  rw [List.all_cons, Bool.and_eq_true] at hp
  refine PE.imp (pe_call F hr hg hm hk hb .nil pass0 pt hdb (star_cons hp.1) (star_none hp.2)) fun σ H Q hw => ?_
  obtain ⟨U, ρ, ρ', d, S, hf', q⟩ := hw
  obtain ⟨ρ1, ds, ds', e1, e2, e3, rfl⟩ := eCall_of hf'
  refine ot σ H U ρ ρ1 ds _ S e1 fun vs H1 S1 st1 A => ?_
  rw [List.append_nil]
  refine ⟨T, sub0, Uc M U σ ρ1 ls, ds, d, ds', A.len.1, A.len.2, sim_call S1 A hf nd, e2, e3, fun a H2 S2 st2 ha c => ?_⟩
  obtain ⟨S3, st3, sub⟩ := sim_back (E := fun b => b = a) S1 A hf nd e3 (fun b z => by rw [z]; exact ha) S2 st2
  exact q a H2 S3 (st1.trans st3) (.inr (Classical.byContradiction fun n => st1.dom a n ha)) (c.weak sub)
end

/-! ### a def's body -/
def outsAux (Mc : Kds) (ρ : Env) : Nat → List D → List D
  | _, [] => []
  | k, d :: ds => (match Mc k with
    | .le => ((ρ[k]?).join).getD d
    | _ => d) :: outsAux Mc ρ (k + 1) ds
def outs (Mc : Kds) (ρ : Env) (ds : List D) : List D := outsAux Mc ρ 0 ds
def fBody (Mc : Kds) (n : Nat) (fr : Bool) (f : Sv) : Fn := fun ds => (f (ds.map some ++ List.replicate n none)).bind fun o => match o with
  | .nx ρ => if fr = true then none else some (.none, outs Mc ρ ds)
  | .rt ρ d => some (d, outs Mc ρ ds)
  | _ => none
theorem outsAux_len (Mc : Kds) (ρ : Env) : ∀ (ds : List D) (k : Nat), (outsAux Mc ρ k ds).length = ds.length
  | [], _ => rfl
  | d :: ds, k => by simp [outsAux, outsAux_len Mc ρ ds (k + 1)]
theorem outsAux_get (Mc : Kds) (ρ : Env) : ∀ (ds : List D) (k i : Nat), (outsAux Mc ρ k ds)[i]? = (ds[i]?).map fun d => match Mc (k + i) with
    | .le => ((ρ[k + i]?).join).getD d
    | _ => d
  | [], _, _ => by simp [outsAux]
  | d :: ds, k, 0 => by simp [outsAux]
  | d :: ds, k, i + 1 => by
    simp only [outsAux, List.getElem?_cons_succ]
    rw [outsAux_get Mc ρ ds (k + 1) i]
    have : k + 1 + i = k + (i + 1) := by omega
    rw [this]

theorem outs_len (Mc : Kds) (ρ : Env) (ds : List D) : (outs Mc ρ ds).length = ds.length := outsAux_len Mc ρ ds 0
theorem outs_get (Mc : Kds) (ρ : Env) (ds : List D) (i : Nat) : (outs Mc ρ ds)[i]? = (ds[i]?).map fun d => match Mc i with
    | .le => ((ρ[i]?).join).getD d
    | _ => d := by
  have h := outsAux_get Mc ρ ds 0 i
  rw [Nat.zero_add] at h
  exact h
section
variable {K : PySem.W.Frag} {w : World} {T : Tabs} {Mc : Kds} {U : Addr → Prop} {σ' : Sg} {ρ' : Env} {H H' : Hp} {vs : List V} {ds : List D} {n : Nat}
theorem start_get {vs : List V} {k : Nat} {v : V} (h : vs[k]? = some v) : (vs.map some ++ List.replicate n (none : Option V))[k]? = some (some v) := by
  have hk : k < vs.length := (List.getElem?_eq_some_iff.mp h).1
  rw [List.getElem?_append_left (by simpa using hk), List.getElem?_map, h] <;> rfl
theorem startD_get {k : Nat} {d : D} (h : ds[k]? = some d) : (ds.map some ++ List.replicate n (none : Option D))[k]? = some (some d) := by
  have hk : k < ds.length := (List.getElem?_eq_some_iff.mp h).1
  rw [List.getElem?_append_left (by simpa using hk), List.getElem?_map, h] <;> rfl
theorem startD_of {k : Nat} {d : D} (h : (ds.map some ++ List.replicate n (none : Option D))[k]? = some (some d)) : ds[k]? = some d := by
  by_cases hk : k < ds.length
  · rw [List.getElem?_append_left (by simpa using hk)] at h
    exact map_some h
  · rw [List.getElem?_append_right (by simpa using hk), List.getElem?_replicate] at h
    split at h <;> cases h
theorem start_of {vs : List V} {k : Nat} {v : V} (h : (vs.map some ++ List.replicate n (none : Option V))[k]? = some (some v)) : vs[k]? = some v := by
  by_cases hk : k < vs.length
  · rw [List.getElem?_append_left (by simpa using hk)] at h
    exact map_some h
  · rw [List.getElem?_append_right (by simpa using hk), List.getElem?_replicate] at h
    split at h <;> cases h
theorem mine_start {b : Addr} : Mine Mc (vs.map some ++ List.replicate n none) (ds.map some ++ List.replicate n none) b ↔ Mine Mc (vs.map some) (ds.map some) b :=
  ⟨fun ⟨k, d, h1, h2, h3⟩ => ⟨k, d, h1, some_map (startD_of h2), some_map (start_of h3)⟩, fun ⟨k, d, h1, h2, h3⟩ => ⟨k, d, h1, startD_get (map_some h2), start_get (map_some h3)⟩⟩
theorem ow_start {b : Addr} : Ow Mc U (vs.map some ++ List.replicate n none) (ds.map some ++ List.replicate n none) b ↔ Ow Mc U (vs.map some) (ds.map some) b := by
  constructor <;> intro h <;> exact h.imp_right (by first | exact mine_start.mp | exact mine_start.mpr)
/-- the state at a body's start -/
theorem sim_start (S : Sim K w T Mc U (vs.map some) H (ds.map some)) (hl : ds.length = vs.length) : Sim K w T Mc U (vs.map some ++ List.replicate n none) H (ds.map some ++ List.replicate n none) where
  len := by simp [hl]
  fz := fun k d h1 h2 => by
    obtain ⟨v, e, r⟩ := S.fz k d h1 (some_map (startD_of h2))
    exact ⟨v, start_get (map_some e), r.weak fun b z => ow_start.mp z⟩
  ow := fun k d h1 h2 => by
    obtain ⟨a, e, m, c⟩ := S.ow k d h1 (some_map (startD_of h2))
    exact ⟨a, start_get (map_some e), m, c.weak fun b z => ow_start.mp z⟩
  ap := fun i j d d' a h1 h2 h3 h4 h5 h6 => S.ap i j d d' a h1 h2 (some_map (startD_of h3)) (some_map (startD_of h4)) (some_map (start_of h5)) (some_map (start_of h6))
  un := S.un
  tb := S.tb
  kk := S.kk
def noOw (Mc : Kds) (p : Nat) : Bool := (List.range p).all fun k => !decide (Mc k = .ow)
theorem noOw_of {p k : Nat} (h : noOw Mc p = true) (hk : k < p) : Mc k ≠ .ow := fun z => by
  have q := List.all_eq_true.mp h k (List.mem_range.mpr hk)
  rw [z] at q
  exact absurd q (by simp)
/-- the lent parameters at the end -/
theorem lent_end {E : Addr → Prop} (hn : noOw Mc ds.length = true) (S' : Sim K w T Mc (fun b => U b ∨ E b) σ' H' ρ') (st : Stp Mc (vs.map some ++ List.replicate n none) (ds.map some ++ List.replicate n none) H σ' ρ' H') {k : Nat} {d : D} (h1 : (Mc k).own = true) (h2 : (outs Mc ρ' ds)[k]? = some d) :
    ρ'[k]? = some (some d) ∧ ∀ v, vs[k]? = some v → σ'[k]? = some (some v) := by
  rw [outs_get] at h2
  obtain ⟨x, e1, e2⟩ := Option.map_eq_some_iff.mp h2
  have hk : k < ds.length := (List.getElem?_eq_some_iff.mp e1).1
  have hle : Mc k = .le := by
    have := noOw_of hn hk
    cases e : Mc k with
    | fz => rw [e] at h1; cases h1
    | ow => exact absurd e this
    | le => rfl
  obtain ⟨q1, d', q2⟩ := st.lent k x hle (startD_get e1)
  rw [hle] at e2
  rw [q2] at e2
  have e2 : d' = d := e2
  subst e2
  exact ⟨q2, fun v hv => q1.trans (start_get hv)⟩
theorem mine_end {E : Addr → Prop} (hn : noOw Mc ds.length = true) (S' : Sim K w T Mc (fun b => U b ∨ E b) σ' H' ρ') (st : Stp Mc (vs.map some ++ List.replicate n none) (ds.map some ++ List.replicate n none) H σ' ρ' H') {b : Addr} (h : Mine Mc (vs.map some) ((outs Mc ρ' ds).map some) b) : Mine Mc σ' ρ' b := by
  obtain ⟨k, d, h1, h2, h3⟩ := h
  obtain ⟨q1, q2⟩ := lent_end hn S' st h1 (map_some h2)
  exact ⟨k, d, h1, q1, q2 _ (map_some h3)⟩
theorem sim_end {E : Addr → Prop} (hn : noOw Mc ds.length = true) (hl : ds.length = vs.length) (S : Sim K w T Mc U (vs.map some) H (ds.map some)) (S' : Sim K w T Mc (fun b => U b ∨ E b) σ' H' ρ') (hE : ∀ b, E b → H b = none)
    (st : Stp Mc (vs.map some ++ List.replicate n none) (ds.map some ++ List.replicate n none) H σ' ρ' H') :
    Sim K w T Mc (fun b => U b ∨ E b) (vs.map some) H' ((outs Mc ρ' ds).map some) ∧ Stp Mc (vs.map some) (ds.map some) H (vs.map some) ((outs Mc ρ' ds).map some) H' ∧ ∀ b, Ow Mc (fun b => U b ∨ E b) (vs.map some) ((outs Mc ρ' ds).map some) b → Ow Mc (fun b => U b ∨ E b) σ' ρ' b := by
  have sub : ∀ b, Ow Mc (fun b => U b ∨ E b) (vs.map some) ((outs Mc ρ' ds).map some) b → Ow Mc (fun b => U b ∨ E b) σ' ρ' b := fun b z => z.imp_right (mine_end hn S' st)
  have atV : ∀ {k : Nat} {d : D}, (outs Mc ρ' ds)[k]? = some d → ∃ v x, vs[k]? = some v ∧ ds[k]? = some x := fun {k d} h => by
    rw [outs_get] at h
    obtain ⟨x, e1, e2⟩ := Option.map_eq_some_iff.mp h
    have hk : k < ds.length := (List.getElem?_eq_some_iff.mp e1).1
    exact ⟨vs[k], x, List.getElem?_eq_getElem (by omega), e1⟩
  refine ⟨⟨by simp [outs_len, hl], fun k d h1 h2 => ?_, fun k d h1 h2 => ?_, fun i j d d' a h1 h2 h3 h4 h5 h6 => ?_, S'.un, S'.tb, S'.kk⟩, ⟨fun b o e n' t => st.same b o e (fun z => n' (mine_start.mp z)) t, fun b h => ?_, st.dom, fun k d h1 h2 => ⟨rfl, ?_⟩⟩, sub⟩
  · have h2' := map_some h2
    rw [outs_get] at h2'
    obtain ⟨x, e1, e2⟩ := Option.map_eq_some_iff.mp h2'
    have hd : x = d := by
      cases e : Mc k with
      | fz => rw [e] at e2; exact e2
      | ow => rw [e] at h1; cases h1
      | le => rw [e] at h1; cases h1
    subst hd
    obtain ⟨v, q1, q2⟩ := S.fz k x h1 (some_map e1)
    have r : Rp K w (Ow Mc U (vs.map some ++ List.replicate n none) (ds.map some ++ List.replicate n none)) H v x := q2.weak fun b z => ow_start.mp z
    refine ⟨v, q1, Rp.stay (fun b o e n' t => st.same b o e (fun z => n' (.inr z)) t) (fun b z => ?_) x v r⟩
    rcases z with (z | z) | z
    · exact .inl (.inl z)
    · exact .inr ⟨hE b z, S'.kk b (S'.un b (.inr z))⟩
    · have mi := mine_end hn S' st z
      rcases st.mine b mi with q | q
      · exact .inl (.inr q)
      · exact .inr ⟨q, S'.kk b (S'.mineT mi).1⟩
  · obtain ⟨q1, q2⟩ := lent_end hn S' st h1 (map_some h2)
    obtain ⟨v, x, q3, _⟩ := atV (map_some h2)
    obtain ⟨a, e, m, c⟩ := S'.ow k d h1 q1
    rw [q2 v q3] at e
    cases e
    exact ⟨a, some_map q3, m, c.weak sub⟩
  · obtain ⟨p1, p2⟩ := lent_end hn S' st h1 (map_some h3)
    obtain ⟨q1, q2⟩ := lent_end hn S' st h2 (map_some h4)
    exact S'.ap i j d d' a h1 h2 p1 q1 (p2 _ (map_some h5)) (q2 _ (map_some h6))
  · rcases st.mine b (mine_end hn S' st h) with q | q
    · exact .inl (mine_start.mp q)
    · exact .inr q
  · have hk := map_some h2
    have hk' : k < (outs Mc ρ' ds).length := by rw [outs_len]; exact (List.getElem?_eq_some_iff.mp hk).1
    exact ⟨(outs Mc ρ' ds)[k], some_map (List.getElem?_eq_getElem hk')⟩
end
theorem fBody_of {Mc : Kds} {n : Nat} {fr : Bool} {f : Sv} {ds ds' : List D} {d : D} (h : fBody Mc n fr f ds = some (d, ds')) : ∃ o, f (ds.map some ++ List.replicate n none) = some o ∧ ((∃ ρ, o = .nx ρ ∧ fr = false ∧ d = .none ∧ ds' = outs Mc ρ ds) ∨ ∃ ρ, o = .rt ρ d ∧ ds' = outs Mc ρ ds) := by
  obtain ⟨o, e1, e2⟩ := bind_of h
  refine ⟨o, e1, ?_⟩
  cases o with
  | nx ρ =>
    cases fr with
    | false => cases e2; exact .inl ⟨ρ, rfl, rfl, rfl, rfl⟩
    | true => cases e2
  | rt ρ x => cases e2; exact .inr ⟨ρ, rfl, rfl⟩
  | bk ρ => cases e2
  | ct ρ => cases e2
theorem len_start {N ps : List Str} {vs : List V} {ds : List D} (hv : vs.length = ps.length) : L2.start N vs = vs.map some ++ List.replicate (N.length - ps.length) none := by unfold L2.start; rw [hv]
/-- a body's reading -/
theorem body_core {X : Cx} {body : List Stmt} {K : PySem.W.Frag} {w : World} {N ps : List Str} {T0 : Tabs} {Mc : Kds} {fr : Bool} {f : Sv} {vs : List V} {H : Hp} {Q : VK} {E : XK} (hn : noOw Mc ps.length = true) (h : spF K w T0 Mc ps.length fr (fBody Mc (N.length - ps.length) fr f) vs H Q E)
    (hb : ∀ (T : Tabs) (_ : ∀ q ∈ T0, q ∈ T), PSs X body (tS K w T Mc fr f)) : ∃ t, PSs X body t ∧ t { nx := fun _ H' => Q .non H', rt := Q } (L2.start N vs) H := by
  obtain ⟨T, sub0, U, ds, d, ds', h1, h2, S0, h3, h4, q⟩ := h
  obtain ⟨o, e1, e2⟩ := fBody_of h3
  refine ⟨_, hb T sub0, ?_⟩
  rw [len_start (N := N) (ds := ds) h1]
  have hl : ds.length = vs.length := h2.trans h1.symm
  have hn' : noOw Mc ds.length = true := by rw [h2]; exact hn
  refine ⟨U, _, o, sim_start S0 hl, e1, ?_⟩
  rcases e2 with ⟨ρ, rfl, rfl, rfl, rfl⟩ | ⟨ρ, rfl, rfl⟩
  · intro σ' H' S' st'
    · have S'' : Sim K w T Mc (fun b => U b ∨ (fun _ : Addr => False) b) σ' H' ρ := by rw [or_false_iff]; exact S'
      obtain ⟨S2, st2, sub⟩ := sim_end (E := fun _ => False) hn' hl S0 S'' (fun _ z => z.elim) st'
      rw [or_false_iff] at S2
      exact q .non H' S2 st2 .non
  · cases fr with
    | false =>
      intro v σ' H' S' st' r
      have S'' : Sim K w T Mc (fun b => U b ∨ (fun _ : Addr => False) b) σ' H' ρ := by rw [or_false_iff]; exact S'
      obtain ⟨S2, st2, sub⟩ := sim_end (E := fun _ => False) hn' hl S0 S'' (fun _ z => z.elim) st'
      rw [or_false_iff] at S2 sub
      exact q v H' S2 st2 (r.weak sub)
    | true =>
      intro a σ' H' S' st' ha c
      have ha' : H a = none := by
        rcases ha with ha | ha
        · exfalso
          obtain ⟨i, y, g1, g2, g3⟩ := mine_start.mp ha
          have hi : i < ds.length := (List.getElem?_eq_some_iff.mp (map_some g2)).1
          have hle : Mc i = .le := by
            have := noOw_of hn' hi
            cases e : Mc i with
            | fz => rw [e] at g1; cases g1
            | ow => exact absurd e this
            | le => rfl
          obtain ⟨q1, d', q2⟩ := st'.lent i y hle (startD_get (map_some g2))
          exact S'.own_ne ⟨i, d', g1, q2, q1.trans (start_get (map_some g3))⟩
        · exact ha
      obtain ⟨S2, st2, sub⟩ := sim_end (E := fun b => b = a) hn' hl S0 S' (fun b z => by rw [z]; exact ha') st'
      exact q a H' S2 st2 ha' (c.weak sub)
/-- THE RULE for a def of the text -/
theorem body_ok {P : Program} {w : World} {K : PySem.W.Frag} {mg : Str → Option Value} {base : Heap} {x qual : Str} {st : Stmt} {fa : Addr} {fd : FuncData} {N ps : List Str} {k : Nat} {T0 : Tabs} {Mc : Kds} {fr : Bool} {f : Sv} (F : Fun K x qual st fa fd) (S : FnScope N ps (defScope st)) (hn : noOw Mc ps.length = true)
    (hb : ∀ (T : Tabs) (_ : ∀ q ∈ T0, q ∈ T) (cdv : Value) (A : Around) (outer : List PySem.Env) (s : Shared) (H : Hp) (E : XK), Room k (A.deeper (envOfC qual (defScope st) s.heap.objs.size fa cdv)) →
      SSs (cxOf CX0 P w K mg base N qual (defScope st) fa cdv A outer s H E).nox T Mc fr (defBody st) f) : FnOk P w K mg base CX0 (k + 1) fa fd ps (spF K w T0 Mc ps.length fr (fBody Mc (N.length - ps.length) fr f)) := by
  refine F.ok S (fun vs H Q E h => ?_) fun cdv A outer s H vs Q E hr h => body_core hn h fun T sub0 => hb T sub0 cdv A outer s H E hr
  obtain ⟨T, sub0, U, ds, d, ds', h1, _⟩ := h
  exact h1
end Sx
/-! S7: loops; own lists changed. -/
namespace Sx
open PySem PySem.Spec PyProof.Rows L2

/-! ### what is walked -/
/-- what stands outside O stays -/
def OStay (O : Addr → Prop) (H H2 : Hp) : Prop := ∀ b o, H b = some o → ¬ O b → (∀ ps, o ≠ .tbl ps) → H2 b = some o
def OSub (K : PySem.W.Frag) (O O' : Addr → Prop) (H : Hp) : Prop := ∀ b, O' b → O b ∨ (H b = none ∧ K.lookup b = none)
theorem OStay.refl {O : Addr → Prop} {H : Hp} : OStay O H H := fun _ _ e _ _ => e
theorem OSub.refl {K : PySem.W.Frag} {O : Addr → Prop} {H : Hp} : OSub K O O H := fun _ z => .inl z
structure ItOk (K : PySem.W.Frag) (w : World) (O : Addr → Prop) (J : It) (ds : List D) (H : Hp) : Prop where
  go : ∀ i H2, i < ds.length → OStay O H H2 → J.go i H2
  yld : ∀ i H2 x H3 O', OSub K O O' H → (∀ b, O' b → H2 b ≠ none) → i < ds.length → OStay O H H2 → J.yld i H2 x H3 → KO K H3 → (∀ b u, H2 b = some u → H3 b = some u) ∧ ∃ d, ds[i]? = some d ∧ Rp K w O' H3 x d
  stop : ∀ H2, OStay O H H2 → J.stop ds.length H2
section
variable {K : PySem.W.Frag} {w : World} {T : Tabs} {M : Kds} {U U' : Addr → Prop} {σ σ' : Sg} {H H' : Hp} {ρ ρ' : Env}
theorem Stp.ostay (s : Stp M σ ρ H σ' ρ' H') : OStay (Ow M U σ ρ) H H' := fun b o e n t => s.same b o e (fun z => n (.inr z)) t
theorem Stp.osub (s : Stp M σ ρ H σ' ρ' H') (S' : Sim K w T M U' σ' H' ρ') (hU : ∀ b, U' b → U b ∨ (H b = none ∧ K.lookup b = none)) : OSub K (Ow M U σ ρ) (Ow M U' σ' ρ') H := fun b z => by
  rcases z with z | z
  · exact (hU b z).imp_left .inl
  · rcases s.mine b z with q | q
    · exact .inl (.inr q)
    · exact .inr ⟨q, S'.kk b (S'.mineT z).1⟩
end
abbrev Iv := Env → Option (Env × List D)
def IterT (K : PySem.W.Frag) (w : World) (T : Tabs) (M : Kds) (wi : TI) (gi : Iv) : Prop := ∀ (σ : Sg) (H : Hp) (U : Addr → Prop) (ρ ρ' : Env) (ds : List D) (R : It → Hp → Prop), Sim K w T M U σ H ρ → gi ρ = some (ρ', ds) →
  (∀ J H1, Sim K w T M U σ H1 ρ' → Stp M σ ρ H σ ρ' H1 → ItOk K w (Ow M U σ ρ') J ds H1 → R J H1) → wi σ H R
def SI (X : Cx) (T : Tabs) (M : Kds) (tg iter : Expr) (gi : Iv) : Prop := ∃ wi, PI X tg iter wi ∧ IterT X.K X.w T M wi gi

def iAny (K : PySem.W.Frag) (te : TE) : TI := fun σ H R => te σ H fun x H1 => (∃ a, x = .ref a ∧ (∃ xs, SqL K H1 a xs) ∧ R (Itl K a) H1) ∨ (∃ a, x = .ref a ∧ (∃ xs, SqT K H1 a xs) ∧ R (Itt K a) H1) ∨ ∃ z, x = .str z ∧ R (Its z) H1
theorem pi_any {X : Cx} {tg l : Expr} {tl : TE} (hl : PE X l tl) : PI X tg l (iAny X.K tl) := by
  refine ⟨fun pins s σ H R I h => ?_⟩
  refine thn (hl.run pins s σ H _ I h) fun v s1 ⟨x, H1, I1, r1, q1⟩ => ?_
  rcases q1 with ⟨a, e, ⟨xs, hq⟩, q⟩ | ⟨a, e, ⟨xs, hq⟩, q⟩ | ⟨z, e, q⟩
  · subst e
    cases r1
    obtain ⟨its, rv, p, hz⟩ := I1.list hq
    refine wpAny_pyIter_list p.isList ?_
    refine ⟨s1.heap.objs.size, [s1.heap.objs.size], _, _, H1, rfl, I1.kept (t' := s1.toks) fun b o e => Heap.get?_push_of_some _ e, turn_list a _, ⟨_, Heap.get?_push_size _ rfl, rfl, rfl⟩, fun b hb => ?_, q⟩
    have e : b = s1.heap.objs.size := by simpa using hb
    subst e
    exact I1.fpOk (Nat.le_refl _) (I1.hok.fresh (Nat.le_refl _))
  · subst e
    cases r1
    obtain ⟨its, rv, p, hz⟩ := I1.tuple hq
    refine wpAny_pyIter_tuple (show s1.heap.IsTuple a its.toArray from p) ?_
    refine ⟨s1.heap.objs.size, [s1.heap.objs.size], _, _, H1, rfl, I1.kept (t' := s1.toks) fun b o e => Heap.get?_push_of_some _ e, turn_tuple a _, ⟨_, Heap.get?_push_size _ rfl, rfl, rfl⟩, fun b hb => ?_, q⟩
    have e : b = s1.heap.objs.size := by simpa using hb
    subst e
    exact I1.fpOk (Nat.le_refl _) (I1.hok.fresh (Nat.le_refl _))
  · subst e
    obtain ⟨t, rfl⟩ := r1
    cases ha : z.cps.all (· < 128)
    · exact wpAny_pyIter_wide ha (pi_one (tk := s1.toks) I1 _ (turn_str _ z t "str_iterator" (.inr rfl)) ⟨_, Heap.get?_push_size _ rfl, rfl, rfl⟩ q)
    · exact wpAny_pyIter_ascii ha (pi_one (tk := s1.toks) I1 _ (turn_str _ z t "str_ascii_iterator" (.inl rfl)) ⟨_, Heap.get?_push_size _ rfl, rfl, rfl⟩ q)
def signs (z : Str) : List D := z.cps.toList.map fun c => .str ⟨#[c]⟩
def items : D → Option (List D)
  | .list ds => some ds
  | .tuple ds => some ds
  | .str z => some (signs z)
  | _ => none
def iE (f : Ev) : Iv := fun ρ => (f ρ).bind fun p => (items p.2).map fun ds => (p.1, ds)
section
variable {K : PySem.W.Frag} {w : World} {T : Tabs} {M : Kds} {U : Addr → Prop} {σ : Sg} {ρ : Env} {H : Hp} {a : Addr} {xs : List V} {ds : List D}
theorem Rd.inj {H : Hp} {a : Addr} {xs ys : List V} {f : List V → HO} (hf : ∀ xs ys, f xs = f ys → xs = ys) (hn : ∀ o u xs, HO.frz o u ≠ f xs) (h : Rd H a (f xs)) (h' : Rd H a (f ys)) : xs = ys := by
  rcases h with h | ⟨o, h⟩ <;> rcases h' with h' | ⟨o', h'⟩
  · rw [h] at h'; exact hf _ _ (Option.some.inj h')
  · rw [h] at h'; exact absurd (Option.some.inj h').symm (hn _ _ _)
  · rw [h] at h'; exact absurd (Option.some.inj h') (hn _ _ _)
  · rw [h] at h'
    have := Option.some.inj h'
    injection this with _ e
    exact hf _ _ e
theorem kLst {o : Obj} {its its' : Array Value} {n n' : Nat} (h : o.data = .seq its n) (h' : o.data = .seq its' n') : its = its' := by
  rw [h] at h'; injection h'
theorem sqlInj {ys : List V} (ko : KO K H) (h : SqL K H a xs) (h' : SqL K H a ys) : xs = ys := by
  have nk : ∀ {u}, Rd H a u → K.lookup a = none := fun {u} r => ko a (by rcases r with r | ⟨_, r⟩ <;> rw [r] <;> simp)
  rcases h with h | ⟨o, its, n, k1, _, _, k4, _, k6⟩ <;> rcases h' with h' | ⟨o', its', n', k1', _, _, k4', _, k6'⟩
  · exact Rd.inj (f := .lst) (fun _ _ e => by injection e) (fun _ _ _ e => by cases e) h h'
  · rw [nk h] at k1'; cases k1'
  · rw [nk h'] at k1; cases k1
  · rw [k1] at k1'; cases k1'
    have := kLst k4 k4'
    subst this
    exact k6.inj k6'
theorem sqtInj {ys : List V} (ko : KO K H) (h : SqT K H a xs) (h' : SqT K H a ys) : xs = ys := by
  have nk : ∀ {u}, Rd H a u → K.lookup a = none := fun {u} r => ko a (by rcases r with r | ⟨_, r⟩ <;> rw [r] <;> simp)
  rcases h with h | ⟨o, its, n, k1, _, k4, _, k6⟩ <;> rcases h' with h' | ⟨o', its', n', k1', _, k4', _, k6'⟩
  · exact Rd.inj (f := .tup) (fun _ _ e => by injection e) (fun _ _ _ e => by cases e) h h'
  · rw [nk h] at k1'; cases k1'
  · rw [nk h'] at k1; cases k1
  · rw [k1] at k1'; cases k1'
    have := kLst k4 k4'
    subst this
    exact k6.inj k6'
theorem itl_ok {O : Addr → Prop} (hO : ¬ O a) (h : SqL K H a xs) (r : RpA K w O H xs ds) : ItOk K w O (Itl K a) ds H := by
  have at2 : ∀ {H2}, OStay O H H2 → SqL K H2 a xs := fun st => sqlStay st hO h
  refine ⟨fun i H2 hi st => ⟨xs, xs[i]'(by rw [r.length]; exact hi), at2 st, by simp⟩, fun i H2 x H3 O' hU hD hi st y ko => ?_, fun H2 st => ⟨xs, at2 st, by rw [r.length]; exact Nat.le_refl _⟩⟩
  obtain ⟨rfl, y⟩ := y
  obtain ⟨d, e1, e2⟩ := (RpA.stay st hU ds xs r).getV (y xs (at2 st))
  exact ⟨fun _ _ e => e, d, e1, e2⟩
theorem itt_ok {O : Addr → Prop} (hO : ¬ O a) (h : SqT K H a xs) (r : RpA K w O H xs ds) : ItOk K w O (Itt K a) ds H := by
  have at2 : ∀ {H2}, OStay O H H2 → SqT K H2 a xs := fun st => sqtStay st hO h
  refine ⟨fun i H2 hi st => ⟨xs, xs[i]'(by rw [r.length]; exact hi), at2 st, by simp⟩, fun i H2 x H3 O' hU hD hi st y ko => ?_, fun H2 st => ⟨xs, at2 st, by rw [r.length]; exact Nat.le_refl _⟩⟩
  obtain ⟨rfl, y⟩ := y
  obtain ⟨d, e1, e2⟩ := (RpA.stay st hU ds xs r).getV (y xs (at2 st))
  exact ⟨fun _ _ e => e, d, e1, e2⟩
theorem its_ok {O : Addr → Prop} {z : Str} : ItOk K w O (Its z) (signs z) H := by
  have hl : (signs z).length = z.cps.size := by simp [signs]
  refine ⟨fun i H2 hi st => by rw [hl] at hi; exact hi, fun i H2 x H3 O' hU hD hi st y ko => ?_, fun H2 st => by show z.cps.size ≤ _; rw [hl]; exact Nat.le_refl _⟩
  obtain ⟨rfl, c, hc, rfl⟩ := y
  refine ⟨fun _ _ e => e, .str ⟨#[c]⟩, ?_, .str _⟩
  unfold signs
  rw [List.getElem?_map, Array.getElem?_toList, hc] <;> rfl
theorem itr_ok {O : Addr → Prop} {lo : Int} {n : Nat} (hd : ds = (List.range n).map fun (k : Nat) => (.int (lo + (k : Int)) : D)) : ItOk K w O (Itr lo n) ds H := by
  have hl : ds.length = n := by rw [hd]; simp
  refine ⟨fun i H2 hi st => by rw [hl] at hi; exact hi, fun i H2 x H3 O' hU hD hi st y ko => ?_, fun H2 st => by show n ≤ _; rw [hl]; exact Nat.le_refl _⟩
  obtain ⟨rfl, rfl⟩ := y
  rw [hl] at hi
  exact ⟨fun _ _ e => e, .int (lo + i), by rw [hd, List.getElem?_map, List.getElem?_range hi] <;> rfl, .int _⟩
end
section
variable {X : Cx} {T : Tabs} {M : Kds} {fr : Bool} {e tg iter a b : Expr} {f : Ev} {g : Evs} {gi : Iv} {G : Gv} {Ga Gb : Evs → Evs} {body : List Stmt} {fb : Sv} {pos : Pos} {h : Tv}
theorem si_e (he : SE X T M e f) : SI X T M tg e (iE f) := by
  refine ⟨_, pi_any he, fun σ H U ρ ρ' ds R S hf q => ?_⟩
  obtain ⟨⟨ρ1, d⟩, e1, e2⟩ := bind_of hf
  obtain ⟨ds', e3, e4⟩ := Option.map_eq_some_iff.mp e2
  cases e4
  refine ⟨U, ρ, ρ1, d, S, e1, fun v H1 S1 st1 r => ?_⟩
  dsimp only at e3
  cases r with
  | non => cases e3
  | bl _ => cases e3
  | int _ => cases e3
  | str z => cases e3; exact .inr (.inr ⟨z, rfl, q _ H1 S1 st1 its_ok⟩)
  | lst h1 h2 h3 => cases e3; exact .inl ⟨_, rfl, ⟨_, h2⟩, q _ H1 S1 st1 (itl_ok h1 h2 h3)⟩
  | tup h1 h2 h3 => cases e3; exact .inr (.inl ⟨_, rfl, ⟨_, h2⟩, q _ H1 S1 st1 (itt_ok h1 h2 h3)⟩)
  | dic _ _ _ => cases e3
def upTo (lo hi : Int) : List D := (List.range (hi - lo).toNat).map fun (k : Nat) => (.int (lo + (k : Int)) : D)
def ok62 (i : Int) : Bool := decide (-(2 ^ 62) ≤ i) && decide (i < 2 ^ 62)
def iRg1 (g : Evs) : Iv := fun ρ => (g ρ).bind fun p => match p.2 with
  | [.int j] => if ok62 j = true then some (p.1, upTo 0 j) else none
  | _ => none
def iRg2 (g : Evs) : Iv := fun ρ => (g ρ).bind fun p => match p.2 with
  | [.int i, .int j] => if (ok62 i && ok62 j) = true then some (p.1, upTo i j) else none
  | _ => none
theorem ok62_of {i : Int} (h : ok62 i = true) : -(2 ^ 62) ≤ i ∧ i < 2 ^ 62 := by
  unfold ok62 at h
  rw [Bool.and_eq_true] at h
  exact ⟨of_decide_eq_true h.1, of_decide_eq_true h.2⟩
theorem si_range1 {p : Pos} (hg : Gl X "range") (hm : X.mg "range" = none) (ha : SOs X T M [a] g) (hp : plainArg a = true) : SI X T M tg (.Call (.Name "range" p) [a] [] pos) (iRg1 g) := by
  obtain ⟨t, pt, ot⟩ := ha
  refine ⟨_, pi_range1 hg hm pt (star_cons hp), fun σ H U ρ ρ' ds R S hf q => ?_⟩
  obtain ⟨⟨ρ1, d⟩, e1, e2⟩ := bind_of hf
  refine ot σ H U ρ ρ1 d _ S e1 fun vs H1 S1 st1 pk => ?_
  dsimp only at e2
  split at e2
  · rename_i j
    obtain ⟨hj, e2⟩ := ite_of e2
    cases e2
    obtain ⟨v, rfl, k1⟩ := pks1 pk
    have h62 := ok62_of hj
    exact ⟨j, by rw [k1.int], h62.1, h62.2, q _ H1 S1 st1 (itr_ok (by unfold upTo; rw [Int.sub_zero]))⟩
  · cases e2
theorem si_range2 {p : Pos} (hg : Gl X "range") (hm : X.mg "range" = none) (ha : SOs X T M [a, b] g) (hp : plainArg a = true) (hp2 : plainArg b = true) : SI X T M tg (.Call (.Name "range" p) [a, b] [] pos) (iRg2 g) := by
  obtain ⟨t, pt, ot⟩ := ha
  refine ⟨_, pi_range2 hg hm pt (by rw [star_cons hp, star_cons hp2]; rfl) (by rw [star_cons hp2]; rfl), fun σ H U ρ ρ' ds R S hf q => ?_⟩
  obtain ⟨⟨ρ1, d⟩, e1, e2⟩ := bind_of hf
  refine ot σ H U ρ ρ1 d _ S e1 fun vs H1 S1 st1 pk => ?_
  dsimp only at e2
  split at e2
  · rename_i i j
    obtain ⟨hj, e2⟩ := ite_of e2
    cases e2
    rw [Bool.and_eq_true] at hj
    obtain ⟨v, u, rfl, k1, k2⟩ := pks2 pk
    have h1 := ok62_of hj.1
    have h2 := ok62_of hj.2
    exact ⟨i, j, by rw [k1.int, k2.int], ⟨h1.1, h1.2, h2.1, h2.2⟩, q _ H1 S1 st1 (itr_ok rfl)⟩
  · cases e2

/-! ### for, while -/
/-- what a loop wants of its context -/
structure Cz (X : Cx) : Prop where
  owns : PassesOwn (model X.prog X.w) X.A X.env X.xe
  calm : X.calm = true
def forL (G : Gv) (f : Sv) : List D → Env → Option Out
  | [], ρ => some (.nx ρ)
  | d :: ds, ρ => (G d ρ).bind fun ρ1 => (f ρ1).bind fun o => match o with
    | .nx ρ2 => forL G f ds ρ2
    | .ct ρ2 => forL G f ds ρ2
    | .bk ρ2 => some (.nx ρ2)
    | .rt ρ2 d => some (.rt ρ2 d)
def aFor (gi : Iv) (G : Gv) (f : Sv) : Sv := fun ρ => (gi ρ).bind fun p => forL G f p.2 p.1
theorem PG.imp_ko {tg : Expr} {t t' : TG} (h : PG X tg t) (q : ∀ v σ H Q, KO X.K H → t' v σ H Q → t v σ H Q) : PG X tg t' := ⟨fun pins s σ H v u Q I r hw => h.run pins s σ H v u Q I r (q _ _ _ _ (Inv.ko I) hw)⟩
def noSetE : Expr → Bool
  | .Set .. => false
  | _ => true
theorem noSet {env : PySem.Env} (h : noSetE iter = true) : ∀ x, foldedSetIterable iter env x = pure x := by
  intro x
  cases iter <;> first | rfl | exact absurd h (by simp [noSetE])
theorem ss_for {ns : List Nat} (hz : Cz X) (hi : SI X T M tg iter gi) (hg : SG X T M ns tg G) (hb : SSs X T M fr body fb) (hs : noSetE iter = true) : SS X T M fr (.For tg iter body [] pos) (aFor gi G fb) := by
  obtain ⟨wi, hw, hit⟩ := hi
  refine PS.imp (ps_for (g := fun v σ H Q => KO X.K H → tGt X.K X.w T M ns G v σ H Q) hz.owns hz.calm hw (PG.imp_ko hg fun v σ H Q ko z => z ko) hb (noSet hs)) fun Dn σ H hww => ?_
  obtain ⟨U, ρ, o, S, hf, q⟩ := hww
  obtain ⟨⟨ρ1, ds⟩, e1, e2⟩ := bind_of hf
  refine hit σ H U ρ ρ1 ds _ S e1 fun J H1 S1 st1 J1 => ?_
  refine ⟨fun i m σ' H' => m = ds.length - i ∧ i ≤ ds.length ∧ ∃ ρ', Sim X.K X.w T M U σ' H' ρ' ∧ Stp M σ ρ1 H1 σ' ρ' H' ∧ forL G fb (ds.drop i) ρ' = some o, ⟨_, rfl, Nat.zero_le _, ρ1, S1, .refl, e2⟩, ?_⟩
  rintro i m σ' H' ⟨rfl, hi, ρ', S', st', e'⟩
  by_cases hlt : i < ds.length
  · refine .inr ⟨J1.go i H' hlt st'.ostay, ?_⟩
    rw [List.drop_eq_getElem_cons hlt] at e'
    unfold forL at e'
    obtain ⟨ρ2, e3, e4⟩ := bind_of e'
    obtain ⟨o2, e5, e6⟩ := bind_of e4
    refine ⟨fun σ3 H3 => ∃ ρ3, Sim X.K X.w T M U σ3 H3 ρ3 ∧ Stp M σ ρ1 H1 σ3 ρ3 H3 ∧ forL G fb (ds.drop (i + 1)) ρ3 = some o, fun σ3 H3 ⟨ρ3, h1, h2, h3⟩ => ⟨ds.length - (i + 1), by omega, rfl, hlt, ρ3, h1, h2, h3⟩, fun x H2 y ko => ?_⟩
    obtain ⟨gr, d, e7, r⟩ := J1.yld i H' x H2 (Ow M U σ' ρ') (st'.osub S' fun b z => .inl z) (fun b => S'.owT) hlt st'.ostay y ko
    have S2 := S'.grow gr ko
    have st2 : Stp M σ' ρ' H' σ' ρ' H2 := Stp.grow gr
    rw [List.getElem?_eq_getElem hlt] at e7
    cases e7
    refine ⟨U, ρ', _, ρ2, S2, r, e3, fun σ3 H3 S3 st3 _ => ?_⟩
    refine ⟨U, ρ2, o2, S3, e5, ?_⟩
    have st0 : Stp M σ ρ1 H1 σ3 ρ2 H3 := (st'.trans st2).trans st3
    cases o2 with
    | nx ρ3 => exact fun σ4 H4 S4 st4 => ⟨ρ3, S4, st0.trans st4, e6⟩
    | ct ρ3 => exact fun σ4 H4 S4 st4 => ⟨ρ3, S4, st0.trans st4, e6⟩
    | bk ρ3 => cases e6; exact fun σ4 H4 S4 st4 => q σ4 H4 S4 (st1.trans (st0.trans st4))
    | rt ρ3 d3 => cases e6; exact (q.step (st1.trans st0) : Post X.K X.w T M fr U σ3 ρ2 H3 Dn (.rt ρ3 d3))
  · have e : i = ds.length := by omega
    subst e
    rw [List.drop_length] at e'
    cases e'
    exact .inl ⟨J1.stop H' st'.ostay, q σ' H' S' (st1.trans st')⟩
def fuel : Nat := 2 ^ 200
def whL (h : Tv) (f : Sv) : Nat → Env → Option Out
  | 0, _ => none
  | n + 1, ρ => (h ρ).bind fun p => if p.2 = true then (f p.1).bind fun o => match o with
    | .nx ρ2 => whL h f n ρ2
    | .ct ρ2 => whL h f n ρ2
    | .bk ρ2 => some (.nx ρ2)
    | .rt ρ2 d => some (.rt ρ2 d) else some (.nx p.1)
def aWhile (h : Tv) (f : Sv) : Sv := fun ρ => whL h f fuel ρ
theorem ss_while {c : Expr} (hz : Cz X) (hc : ST X T M c h) (hb : SSs X T M fr body fb) : SS X T M fr (.While c body [] pos) (aWhile h fb) := by
  refine PS.imp (ps_while hz.owns hc hb) fun Dn σ H hw => ?_
  obtain ⟨U, ρ, o, S, hf, q⟩ := hw
  refine ⟨fun m σ' H' => ∃ ρ', Sim X.K X.w T M U σ' H' ρ' ∧ Stp M σ ρ H σ' ρ' H' ∧ whL h fb m ρ' = some o, ⟨fuel, ρ, S, .refl, hf⟩, ?_⟩
  rintro m σ' H' ⟨ρ', S', st', e'⟩
  cases m with
  | zero => cases e'
  | succ n =>
    obtain ⟨⟨ρ1, k⟩, e1, e2⟩ := bind_of e'
    refine ⟨U, ρ', ρ1, k, S', e1, fun H1 S1 st1 => ?_⟩
    have st2 := st'.trans st1
    cases k with
    | false =>
      rw [if_neg (by simp)] at e2
      cases e2
      exact q σ' H1 S1 st2
    | true =>
      rw [if_pos rfl] at e2
      obtain ⟨o2, e5, e6⟩ := bind_of e2
      refine ⟨fun σ3 H3 => ∃ ρ3, Sim X.K X.w T M U σ3 H3 ρ3 ∧ Stp M σ ρ H σ3 ρ3 H3 ∧ whL h fb n ρ3 = some o, fun σ3 H3 hh => ⟨n, Nat.lt_succ_self n, hh⟩, ?_⟩
      refine ⟨U, ρ1, o2, S1, e5, ?_⟩
      cases o2 with
      | nx ρ3 => exact fun σ4 H4 S4 st4 => ⟨ρ3, S4, st2.trans st4, e6⟩
      | ct ρ3 => exact fun σ4 H4 S4 st4 => ⟨ρ3, S4, st2.trans st4, e6⟩
      | bk ρ3 => cases e6; exact fun σ4 H4 S4 st4 => q σ4 H4 S4 (st2.trans st4)
      | rt ρ3 d3 => cases e6; exact q.step st2
end
end Sx
/-! S8: list comprehensions. -/
namespace Sx
open PySem PySem.Spec PyProof.Rows L2

def wipeD (ρ : Env) : List Nat → Env
  | [] => ρ
  | v :: vs => (wipeD ρ vs).set v none
theorem wipeD_len (ρ : Env) : ∀ vs : List Nat, (wipeD ρ vs).length = ρ.length
  | [] => rfl
  | v :: vs => by unfold wipeD; rw [List.length_set, wipeD_len ρ vs]
theorem wipeD_some {ρ : Env} {i : Nat} {x : D} : ∀ {vs : List Nat}, (wipeD ρ vs)[i]? = some (some x) → ρ[i]? = some (some x) ∧ i ∉ vs
  | [], h => ⟨h, by simp⟩
  | v :: vs, h => by
    unfold wipeD at h
    by_cases hi : v = i
    · subst hi
      by_cases hv : v < (wipeD ρ vs).length
      · rw [List.getElem?_set_self hv] at h; cases h
      · rw [List.getElem?_eq_none (by simpa using hv)] at h; cases h
    · rw [List.getElem?_set_ne hi] at h
      obtain ⟨h1, h2⟩ := wipeD_some h
      exact ⟨h1, by simp only [List.mem_cons, not_or]; exact ⟨fun e => hi e.symm, h2⟩⟩
theorem wipeD_out {ρ : Env} {i : Nat} : ∀ {vs : List Nat}, i ∉ vs → (wipeD ρ vs)[i]? = ρ[i]?
  | [], _ => rfl
  | v :: vs, h => by
    unfold wipeD
    rw [List.mem_cons, not_or] at h
    rw [List.getElem?_set_ne (Ne.symm h.1), wipeD_out h.2]
theorem wipe_ext : ∀ {vs : List Nat} {σ σ' : Sg}, KeepS vs σ σ' → wipe σ' vs = wipe σ vs := fun {vs σ σ'} k => by
  have key : ∀ (i : Nat), (wipe σ' vs)[i]? = (wipe σ vs)[i]? := fun i => by
    by_cases h : i ∈ vs
    · have at_ : ∀ (τ : Sg) (vs : List Nat), i ∈ vs → (wipe τ vs)[i]? = (if i < τ.length then some none else none) := fun τ vs => by
        induction vs with
        | nil => intro h; cases h
        | cons v vs ih =>
          intro h
          unfold wipe
          by_cases e : v = i
          · subst e
            by_cases hl : v < (wipe τ vs).length
            · rw [List.getElem?_set_self hl, if_pos (by rw [wipe_length] at hl; exact hl)]
            · rw [List.getElem?_eq_none (by simpa using hl), if_neg (by rw [wipe_length] at hl; exact hl)]
          · rw [List.getElem?_set_ne e]
            exact ih (by rcases List.mem_cons.mp h with h | h; exact absurd h.symm e; exact h)
      rw [at_ _ _ h, at_ _ _ h, k.1]
    · rw [wipe_out h, wipe_out h, k.2 i h]
  exact List.ext_getElem? key
/-- the comprehension's own names as they were -/
def backD (ρ1 : Env) : List Nat → Env → Env
  | [], ρ => ρ
  | v :: vs, ρ => (backD ρ1 vs ρ).set v ((ρ1[v]?).join)
theorem backD_len {ρ1 ρ : Env} : ∀ {vs : List Nat}, (backD ρ1 vs ρ).length = ρ.length
  | [] => rfl
  | v :: vs => by unfold backD; rw [List.length_set, backD_len (vs := vs)]
theorem backD_out {ρ1 ρ : Env} {i : Nat} : ∀ {vs : List Nat}, i ∉ vs → (backD ρ1 vs ρ)[i]? = ρ[i]?
  | [], _ => rfl
  | v :: vs, h => by
    unfold backD
    rw [List.mem_cons, not_or] at h
    rw [List.getElem?_set_ne (Ne.symm h.1), backD_out h.2]
theorem backD_in {ρ1 ρ : Env} {i : Nat} {d : D} : ∀ {vs : List Nat}, i ∈ vs → (backD ρ1 vs ρ)[i]? = some (some d) → ρ1[i]? = some (some d)
  | v :: vs, h, e => by
    unfold backD at e
    by_cases hv : v = i
    · subst hv
      by_cases hl : v < (backD ρ1 vs ρ).length
      · rw [List.getElem?_set_self hl] at e
        cases q : ρ1[v]? with
        | none => rw [q] at e; cases e
        | some o =>
          rw [q] at e
          cases o with
          | none => cases e
          | some x => cases e; rfl
      · rw [List.getElem?_eq_none (by simpa using hl)] at e; cases e
    · rw [List.getElem?_set_ne hv] at e
      exact backD_in (by rcases List.mem_cons.mp h with h | h; exact absurd h.symm hv; exact h) e
section
variable {K : PySem.W.Frag} {w : World} {T : Tabs} {M : Kds} {U : Addr → Prop} {σ : Sg} {ρ ρ1 ρ2 : Env} {H H1 H2 : Hp} {vs : List Nat}
theorem own_out (hv : ∀ i ∈ vs, M i = .fz) {i : Nat} (h : (M i).own = true) : i ∉ vs := fun z => by rw [hv i z] at h; cases h
theorem mine_wipe (hv : ∀ i ∈ vs, M i = .fz) {ρ : Env} {b : Addr} : Mine M (wipe σ vs) (wipeD ρ vs) b ↔ Mine M σ ρ b := by
  constructor
  · rintro ⟨i, d, h1, h2, h3⟩
    exact ⟨i, d, h1, (wipeD_some h2).1, (wipe_some h3).1⟩
  · rintro ⟨i, d, h1, h2, h3⟩
    have o := own_out hv h1
    exact ⟨i, d, h1, by rw [wipeD_out o]; exact h2, by rw [wipe_out o]; exact h3⟩
theorem mine_wipeS (hv : ∀ i ∈ vs, M i = .fz) {ρ : Env} {b : Addr} : Mine M (wipe σ vs) ρ b ↔ Mine M σ ρ b := by
  constructor
  · rintro ⟨i, d, h1, h2, h3⟩
    exact ⟨i, d, h1, h2, (wipe_some h3).1⟩
  · rintro ⟨i, d, h1, h2, h3⟩
    have o := own_out hv h1
    exact ⟨i, d, h1, h2, by rw [wipe_out o]; exact h3⟩
theorem Cell.stay0 {O O' : Addr → Prop} {a : Addr} {d : D} (ho : ∀ b, O' b → O b) (c : Cell K w O H a d) : Cell K w O' H a d := c.weak ho
theorem Sim.wipe (hv : ∀ i ∈ vs, M i = .fz) (S : Sim K w T M U σ H ρ) : Sim K w T M U (L2.wipe σ vs) H (wipeD ρ vs) := by
  have key : ∀ b, Ow M U (L2.wipe σ vs) (wipeD ρ vs) b → Ow M U σ ρ b := fun b z => z.imp_right (mine_wipe hv).mp
  refine ⟨by rw [wipeD_len, wipe_length]; exact S.len, fun i d h1 h2 => ?_, fun i d h1 h2 => ?_, fun i j d d' a h1 h2 h3 h4 h5 h6 => S.ap i j d d' a h1 h2 (wipeD_some h3).1 (wipeD_some h4).1 (wipe_some h5).1 (wipe_some h6).1, S.un, S.tb, S.kk⟩
  · obtain ⟨e, o⟩ := wipeD_some h2
    obtain ⟨v, q, r⟩ := S.fz i d h1 e
    exact ⟨v, by rw [wipe_out o]; exact q, r.weak key⟩
  · obtain ⟨e, o⟩ := wipeD_some h2
    obtain ⟨a, q, n, c⟩ := S.ow i d h1 e
    exact ⟨a, by rw [wipe_out o]; exact q, n, c.weak key⟩
theorem Stp.wipe (hv : ∀ i ∈ vs, M i = .fz) : Stp M σ ρ H (L2.wipe σ vs) (wipeD ρ vs) H := ⟨fun _ _ e _ _ => e, fun b z => .inl ((mine_wipe hv).mp z), fun _ z => z, fun i d h1 h2 => by
  have o : i ∉ vs := own_out hv (by rw [h1]; rfl)
  exact ⟨wipe_out o, d, by rw [wipeD_out o]; exact h2⟩⟩
/-- behind the loop: the def's names as they were -/
theorem Sim.back {U' : Addr → Prop} (hv : ∀ i ∈ vs, M i = .fz) (S1 : Sim K w T M U σ H1 ρ1) (S2 : Sim K w T M U' (L2.wipe σ vs) H2 ρ2) (st : Stp M σ ρ1 H1 (L2.wipe σ vs) ρ2 H2) (hU : ∀ b, U' b → U b ∨ (H1 b = none ∧ K.lookup b = none)) (hU2 : ∀ b, U b → U' b) :
    Sim K w T M U' σ H2 (backD ρ1 vs ρ2) ∧ Stp M σ ρ1 H1 σ (backD ρ1 vs ρ2) H2 ∧ ∀ b, Ow M U' σ (backD ρ1 vs ρ2) b → Ow M U' (L2.wipe σ vs) ρ2 b := by
  have mi : ∀ b, Mine M σ (backD ρ1 vs ρ2) b → Mine M (L2.wipe σ vs) ρ2 b := fun b ⟨i, d, h1, h2, h3⟩ => by
    have o := own_out hv h1
    rw [backD_out o] at h2
    exact ⟨i, d, h1, h2, by rw [wipe_out o]; exact h3⟩
  have key : ∀ b, Ow M U' σ (backD ρ1 vs ρ2) b → Ow M U' (L2.wipe σ vs) ρ2 b := fun b z => z.imp_right (mi b)
  refine ⟨⟨by rw [backD_len]; have := S2.len; rw [wipe_length] at this; exact this, fun i d h1 h2 => ?_, fun i d h1 h2 => ?_, fun i j d d' a h1 h2 h3 h4 h5 h6 => ?_, S2.un, S2.tb, S2.kk⟩, ⟨st.same, fun b z => st.mine b (mi b z), st.dom, fun i d h1 h2 => ?_⟩, key⟩
  · by_cases hi : i ∈ vs
    · obtain ⟨v, q, r⟩ := S1.fz i d h1 (backD_in hi h2)
      refine ⟨v, q, Rp.stay (fun b o e n t => st.same b o e (fun z => n (.inr z)) t) (fun b z => ?_) d v r⟩
      rcases key b z with z | z
      · exact (hU b z).imp_left .inl
      · rcases st.mine b z with y | y
        · exact .inl (.inr y)
        · exact .inr ⟨y, S2.kk b (S2.mineT z).1⟩
    · rw [backD_out hi] at h2
      obtain ⟨v, q, r⟩ := S2.fz i d h1 h2
      rw [wipe_out hi] at q
      exact ⟨v, q, r.weak key⟩
  · have o := own_out hv h1
    rw [backD_out o] at h2
    obtain ⟨a, q, n, c⟩ := S2.ow i d h1 h2
    rw [wipe_out o] at q
    exact ⟨a, q, n, c.weak key⟩
  · have o := own_out hv h1
    have o' := own_out hv h2
    rw [backD_out o] at h3
    rw [backD_out o'] at h4
    exact S2.ap i j d d' a h1 h2 h3 h4 (by rw [wipe_out o]; exact h5) (by rw [wipe_out o']; exact h6)
  · have o : i ∉ vs := own_out hv (by rw [h1]; rfl)
    obtain ⟨_, d', e⟩ := st.lent i d h1 h2
    exact ⟨rfl, d', by rw [backD_out o]; exact e⟩
end
/-! ### the loop -/
abbrev Gt := D → Env → Option (Env × Option D)
def gTurn (G : Gv) (h : Tv) (fe : Ev) : Gt := fun d ρ => (G d ρ).bind fun ρ1 => (h ρ1).bind fun p => if p.2 = true then (fe p.1).map fun q => (q.1, some q.2) else some (p.1, none)
def lcL (vs : List Nat) (t : Gt) : List D → Env → Option (Env × List D)
  | [], ρ => some (ρ, [])
  | d :: ds, ρ => (t d ρ).bind fun p => (lcL vs t ds (wipeD p.1 vs)).map fun q => (q.1, p.2.toList ++ q.2)
def eLc (gi : Iv) (t : Gt) (vs : List Nat) : Ev := fun ρ => (gi ρ).bind fun p => (lcL vs t p.2 (wipeD p.1 vs)).bind fun q => if small q.2 then some (backD p.1 vs q.1, .list q.2) else none
/-- the parts of a comprehension, in every context of its block -/
def LBody (X : Cx) (T : Tabs) (M : Kds) (scope : Scope) (vs : List Nat) (tg elt : Expr) (ifs : List Expr) (G : Gv) (h : Tv) (fe : Ev) : Prop :=
  ∀ Xb : Cx, (∃ s H C cl fp, Xb = X.blk s H scope (compEnvC scope cl C X.env) fp) → SG Xb T M vs tg G ∧ PTs Xb ifs (tT Xb.K Xb.w T M h) ∧ SE Xb T M elt fe
/-! ### an iterator that minds the constants -/
def koIt (K : PySem.W.Frag) (J : It) : It := ⟨fun i H => KO K H → J.go i H, fun i H x H' => J.yld i H x H' ∧ KO K H, fun i H => KO K H → J.stop i H⟩
theorem Turn.ko {P : Program} {w : World} {K : PySem.W.Frag} {tg : Expr} {J : It} {fp : List Addr} {it : Addr} {tn : Nat → Heap → Prop} (T : Turn P w K tg J fp it tn) : Turn P w K tg (koIt K J) fp it tn where
  mem := T.mem
  obj := T.obj
  keep := T.keep
  item := fun X hP hw hK hc i pins s σ H E I hf st hg => by
    have ko : KO K H := by rw [← hK]; exact Inv.ko I
    refine wpAny_mono (T.item X hP hw hK hc i pins s σ H E I hf st (hg ko)) (fun r s1 ⟨u, e, q⟩ => ⟨u, e, wpAny_mono q (fun _ s2 ⟨x, H', a, b, c, d⟩ => ⟨x, H', a, b, ⟨c, ko⟩, d⟩) fun _ _ z => z⟩) fun _ _ z => z
  done := fun X hP hw hK hc i pins s σ H E I hf st hg => T.done X hP hw hK hc i pins s σ H E I hf st (hg (by rw [← hK]; exact Inv.ko I))
  self := T.self
def koTI (K : PySem.W.Frag) (wi : TI) : TI := fun σ H R => wi σ H fun J H1 => R (koIt K J) H1
theorem PI.ko {X : Cx} {tg iter : Expr} {wi : TI} (h : PI X tg iter wi) : PI X tg iter (koTI X.K wi) := ⟨fun pins s σ H R I hw =>
  thn (h.run pins s σ H _ I hw) fun v s1 h1 => thn h1 fun itv s2 ⟨it, fp, tn, J, H', a, b, c, d, e, f⟩ => ⟨it, fp, tn, koIt X.K J, H', a, b, Turn.ko c, d, e, f⟩⟩
section
variable {K : PySem.W.Frag} {w : World} {T : Tabs} {M : Kds} {U : Addr → Prop} {σ : Sg} {ρ ρ1 ρ2 : Env} {H H1 H2 : Hp} {vs : List Nat} {wi : TI} {gi : Iv} {G : Gv} {h : Tv} {fe : Ev} {ds r : List D}
abbrev tGk (K : PySem.W.Frag) (w : World) (T : Tabs) (M : Kds) (ts : List Nat) (G : Gv) : TG := fun v σ H Q => KO K H → tGt K w T M ts G v σ H Q
/-- what is known at a turn's head -/
structure LAt (K : PySem.W.Frag) (w : World) (T : Tabs) (M : Kds) (U : Addr → Prop) (σ : Sg) (ρ1 : Env) (H1 : Hp) (vs : List Nat) (D : Addr) (ρi : Env) (dacc : List PyData) (H : Hp) : Prop where
  sim : Sim K w T M (plus U D) (wipe σ vs) H ρi
  stp : Stp M σ ρ1 H1 (wipe σ vs) ρi H
  acc : ∃ acc, H D = some (.lst acc) ∧ RpA K w (Ow M (plus U D) (wipe σ vs) ρi) H acc dacc
theorem Cell.lst_of {O : Addr → Prop} {a : Addr} {ds : List D} (c : Cell K w O H a (.list ds)) : ∃ xs, H a = some (.lst xs) ∧ RpA K w O H xs ds := by
  rcases c with ⟨xs, ds', e, c2, c3⟩ | ⟨es, ds', e, _⟩
  · cases e; exact ⟨xs, c2, c3⟩
  · cases e
theorem TabT.updL {D : Addr} {xs ys : List V} (e : H D = some (.lst xs)) : ∀ {n : Nat} {P : Addr}, TabT n H P → TabT n (upd H D (.lst ys)) P
  | 0, P, ⟨ps, q, t⟩ => ⟨ps, by rw [upd_ne (fun z => by rw [z, e] at q; cases q)]; exact q, t⟩
  | n + 1, P, ⟨ps, q, t, r⟩ => ⟨ps, by rw [upd_ne (fun z => by rw [z, e] at q; cases q)]; exact q, t, fun pos cv hc => by
    obtain ⟨c', P', e1, e2, e3⟩ := r pos cv hc
    exact ⟨c', P', e1, by rw [upd_ne (fun z => by rw [z, e] at e2; cases e2)]; exact e2, TabT.updL e e3⟩⟩
theorem TabOk.updL {D : Addr} {xs ys : List V} (e : H D = some (.lst xs)) (t : TabOk T H) : TabOk T (upd H D (.lst ys)) := fun q hq => ⟨fun n => TabT.updL e ((t q hq).1 n), fun z => by
  have := (t q hq).2 z
  rw [upd_ne (fun y => by rw [y, e] at this; cases this)]; exact this⟩
/-- one item more in the list at D -/
theorem LAt.push {D : Addr} {ρi : Env} {dacc : List PyData} {acc : List V} {y : V} {d : PyData} (l : LAt K w T M U σ ρ1 H1 vs D ρi dacc H) (nD : H1 D = none) (e : H D = some (.lst acc)) (r : RpA K w (Ow M (plus U D) (wipe σ vs) ρi) H acc dacc) (ry : Rp K w (Ow M (plus U D) (wipe σ vs) ρi) H y d) (ko : KO K (upd H D (.lst (acc ++ [y])))) :
    LAt K w T M U σ ρ1 H1 vs D ρi (dacc ++ [d]) (upd H D (.lst (acc ++ [y]))) := by
  have nO : ∀ b o, H b = some o → ¬ Ow M (plus U D) (L2.wipe σ vs) ρi b → (∀ ps, o ≠ .tbl ps) → upd H D (.lst (acc ++ [y])) b = some o := fun b o eb n _ => by
    have hb : b ≠ D := fun z => n (.inl (.inr z))
    rw [upd_ne hb]; exact eb
  have mD : ∀ {i d a}, (M i).own = true → ρi[i]? = some (some d) → (L2.wipe σ vs)[i]? = some (some (.ref a)) → a ≠ D := fun h1 h2 h3 z => by
    subst z
    exact l.sim.own_ne ⟨_, _, h1, h2, h3⟩
  have ap : RpA K w (Ow M (plus U D) (L2.wipe σ vs) ρi) H (acc ++ [y]) (dacc ++ [d]) := r.append (.cons ry .nil)
  refine ⟨⟨l.sim.len, fun i x h1 h2 => ?_, fun i x h1 h2 => ?_, l.sim.ap, fun b z => ?_, fun q hq => ?_, ko⟩, ⟨fun b o eb n t => ?_, l.stp.mine, fun b z => ?_, l.stp.lent⟩, acc ++ [y], upd_same, RpA.stay nO (fun b z => .inl z) _ _ ap⟩
  · obtain ⟨v, q1, q2⟩ := l.sim.fz i x h1 h2
    exact ⟨v, q1, Rp.stay nO (fun b z => .inl z) _ _ q2⟩
  · obtain ⟨a, q1, q2, c⟩ := l.sim.ow i x h1 h2
    refine ⟨a, q1, q2, ?_⟩
    have ha := mD h1 h2 q1
    rcases c with ⟨xs, ds, c1, c2, c3⟩ | ⟨es, ds, c1, c2, c3⟩
    · exact .inl ⟨xs, ds, c1, by rw [upd_ne ha]; exact c2, RpA.stay nO (fun b z => .inl z) _ _ c3⟩
    · exact .inr ⟨es, ds, c1, by rw [upd_ne ha]; exact c2, RpP.stay nO (fun b z => .inl z) _ _ c3⟩
  · by_cases hb : b = D
    · rw [hb]; exact upd_some
    · rw [upd_ne hb]; exact l.sim.un b z
  · exact (TabOk.updL e l.sim.tb) q hq
  · rw [upd_ne (ne_of_none eb nD)]
    exact l.stp.same b o eb n t
  · rw [upd_ne (show b ≠ D from fun y => z (by rw [y]; exact nD))]
    exact l.stp.dom b z
theorem lc_sim (hv : ∀ i ∈ vs, M i = .fz) (hit : IterT K w T M wi gi) (S : Sim K w T M U σ H ρ) (hf : gi ρ = some (ρ1, ds)) (hl : lcL vs (gTurn G h fe) ds (wipeD ρ1 vs) = some (ρ2, r)) (hs : r.length ≤ sizeLine) {Q : VK}
    (q : ∀ a H', KO K H' → Sim K w T M (plus U a) σ H' (backD ρ1 vs ρ2) → Stp M σ ρ H σ (backD ρ1 vs ρ2) H' → (Mine M σ ρ a ∨ H a = none) → Cell K w (Ow M (plus U a) σ (backD ρ1 vs ρ2)) H' a (.list r) → Q (.ref a) H') :
    tLc (koTI K wi) (tGk K w T M vs G) (tT K w T M h) (fun σ H Q => tE K w T M fe σ H fun v H' => KO K H' → Q v H') vs σ H (fun v H' => KO K H' → Q v H') := by
  refine hit σ H U ρ ρ1 ds _ S hf fun J H1 S1 st1 J1 => ?_
  intro D nD
  refine ⟨fun i m H' => m = ds.length - i ∧ i ≤ ds.length ∧ (KO K H' → ∃ ρi dacc rest, LAt K w T M U σ ρ1 H1 vs D ρi dacc H' ∧ lcL vs (gTurn G h fe) (ds.drop i) ρi = some (ρ2, rest) ∧ r = dacc ++ rest), ⟨_, rfl, Nat.zero_le _, fun ko => ⟨wipeD ρ1 vs, [], r, ⟨?_, ?_, [], upd_same, .nil⟩, hl, rfl⟩⟩, ?_⟩
  · exact ((S1.wipe hv).more nD upd_some (upd_keep nD) ko)
  · exact (Stp.wipe hv).trans (Stp.new nD)
  rintro i m H' ⟨rfl, hi, hw⟩
  have less : ∀ {ρi dacc H'}, LAt K w T M U σ ρ1 H1 vs D ρi dacc H' → Sim K w T M U (wipe σ vs) H' ρi := fun l => l.sim.less fun b z => .inl z
  by_cases hlt : i < ds.length
  · refine .inr ⟨fun ko => ?_, fun H2 => (KO K H2 → ∃ ρi dacc rest, LAt K w T M U σ ρ1 H1 vs D ρi dacc H2 ∧ lcL vs (gTurn G h fe) (ds.drop (i + 1)) ρi = some (ρ2, rest) ∧ r = dacc ++ rest), fun H2 h2 => ⟨_, by omega, rfl, hlt, h2⟩, fun x H2 ⟨y, ko⟩ ko2 => ?_⟩
    · obtain ⟨ρi, dacc, rest, l, _, _⟩ := hw ko
      exact J1.go i H' hlt l.stp.ostay
    obtain ⟨ρi, dacc, rest, l, e1, e2⟩ := hw ko
    have hUD : ∀ b, plus U D b → U b ∨ (H1 b = none ∧ K.lookup b = none) := fun b z => z.imp_right fun e => by
      rw [e]; exact ⟨nD, l.sim.kk D (l.sim.un D (.inr rfl))⟩
    obtain ⟨gr, d, e3, rx⟩ := J1.yld i H' x H2 (Ow M (plus U D) (wipe σ vs) ρi) (l.stp.osub l.sim hUD) (fun b => l.sim.owT) hlt l.stp.ostay y ko2
    rw [List.getElem?_eq_getElem hlt] at e3
    cases e3
    rw [List.drop_eq_getElem_cons hlt] at e1
    obtain ⟨⟨ρt, oy⟩, e4, e5⟩ := bind_of e1
    obtain ⟨⟨ρ2', rest'⟩, e6, e7⟩ := Option.map_eq_some_iff.mp e5
    cases e7
    obtain ⟨ρa, eG, e4⟩ := bind_of e4
    obtain ⟨⟨ρb, b⟩, eh, e4⟩ := bind_of e4
    have S2 : Sim K w T M (plus U D) (wipe σ vs) H2 ρi := l.sim.grow gr ko2
    obtain ⟨acc, hD, racc⟩ := l.acc
    have nM : ¬ Mine M (wipe σ vs) ρi D := l.sim.own_ne
    have ww : wipe (wipe σ vs) vs = wipe σ vs := wipe_ext ⟨wipe_length σ vs, fun i h => wipe_out h⟩
    refine ⟨plus U D, ρi, ds[i], ρa, S2, rx, eG, fun σ3 H3 S3 st3 k3 => ?_⟩
    have w3 : wipe σ3 vs = wipe σ vs := (wipe_ext k3).trans ww
    refine ⟨w3, plus U D, ρa, ρb, b, S3, eh, fun H4 S4 st4 => ?_⟩
    -- behind a turn
    have again : ∀ {H5 : Hp} {ρ5 : Env}, Sim K w T M (plus U D) σ3 H5 ρ5 → Stp M (wipe σ vs) ρi H' σ3 ρ5 H5 → LAt K w T M U σ ρ1 H1 vs D (wipeD ρ5 vs) dacc H5 ∧ H5 D = some (.lst acc) ∧ RpA K w (Ow M (plus U D) (wipe σ vs) (wipeD ρ5 vs)) H5 acc dacc := fun {H5 ρ5} S5 st5 => by
      have h5 : H5 D = some (.lst acc) := st5.same D _ hD nM (by intro ps z; cases z)
      have Sw := S5.wipe hv
      have tw := st5.trans (Stp.wipe hv)
      rw [w3] at Sw tw
      have ra := tw.rpa Sw racc
      exact ⟨⟨Sw, l.stp.trans tw, acc, h5, ra⟩, h5, ra⟩
    have st04 : Stp M (wipe σ vs) ρi H' σ3 ρb H4 := (Stp.grow gr).trans (st3.trans st4)
    cases b with
    | false =>
      rw [if_neg (by simp)] at e4
      cases e4
      intro ko4
      obtain ⟨l4, _, _⟩ := again S4 st04
      exact ⟨_, dacc, rest', l4, e6, e2⟩
    | true =>
      rw [if_pos rfl] at e4
      obtain ⟨⟨ρc, y2⟩, ef, e4⟩ := Option.map_eq_some_iff.mp e4
      cases e4
      refine ⟨plus U D, ρb, ρc, y2, S4, ef, fun v5 H5 S5 st5 r5 ko5 => ?_⟩
      obtain ⟨l5, h5, ra5⟩ := again S5 (st04.trans st5)
      have e2' : r = dacc ++ y2 :: rest' := e2
      refine ⟨acc, h5, ?_, fun ko6 => ?_⟩
      · have q1 := ra5.length
        rw [e2', List.length_append, List.length_cons] at hs
        omega
      · refine ⟨wipeD ρc vs, dacc ++ [y2], rest', l5.push nD h5 ra5 ?_ ko6, e6, by rw [e2']; simp⟩
        refine r5.weak fun b z => ?_
        rcases z with z | z
        · exact .inl z
        · have z' : Mine M (wipe σ3 vs) (wipeD ρc vs) b := by rw [w3]; exact z
          exact .inr ((mine_wipe hv).mp z')
  · have e : i = ds.length := by omega
    subst e
    refine .inl ⟨fun ko => ?_, fun ko => ?_⟩
    · obtain ⟨ρi, dacc, rest, l, _, _⟩ := hw ko
      exact J1.stop H' l.stp.ostay
    · obtain ⟨ρi, dacc, rest, l, e1, e2⟩ := hw ko
      rw [List.drop_length] at e1
      cases e1
      rw [List.append_nil] at e2
      subst e2
      obtain ⟨acc, hD, racc⟩ := l.acc
      obtain ⟨Sb, sb, kb⟩ := Sim.back hv S1 l.sim l.stp (fun b z => z.imp_right fun e => by
        rw [e]; exact ⟨nD, l.sim.kk D (l.sim.un D (.inr rfl))⟩) (fun b z => .inl z)
      refine q D H' ko Sb (st1.trans sb) ?_ (.inl ⟨acc, _, rfl, hD, racc.weak kb⟩)
      exact .inr (Classical.byContradiction fun n => st1.dom D n nD)
end
/-! ### the expression -/
section
variable {X : Cx} {T : Tabs} {M : Kds} {fr : Bool} {tg iter elt : Expr} {ifs : List Expr} {scope : Scope} {own : List (Str × Nat)} {pos spos py : Pos} {gi : Iv} {G : Gv} {h : Tv} {fe : Ev}
theorem PE.ko {X : Cx} {e : Expr} {t : TE} (he : PE X e t) : PE X e (fun σ H Q => t σ H fun v H' => KO X.K H' → Q v H') := ⟨fun pins s σ H Q I hw => thn (he.run pins s σ H _ I hw) fun v s' ⟨x, H', I', r, q⟩ => ⟨x, H', I', r, q (Inv.ko I')⟩⟩
def koE (K : PySem.W.Frag) (D : Ends) : Ends := ⟨fun σ H => KO K H → D.nx σ H, fun v H => KO K H → D.rt v H, fun σ H => KO K H → D.bk σ H, fun σ H => KO K H → D.ct σ H⟩
theorem PS.ko {X : Cx} {st : Stmt} {t : TS} (h : PS X st t) : PS X st (fun D σ H => t (koE X.K D) σ H) := ⟨fun pins s σ H D I hw => thn (h.run pins s σ H _ I hw) fun f s' q => by
  cases f with
  | next => obtain ⟨σ', H', I', q⟩ := q; exact ⟨σ', H', I', q (Inv.ko I')⟩
  | brk => obtain ⟨σ', H', I', q⟩ := q; exact ⟨σ', H', I', q (Inv.ko I')⟩
  | cont => obtain ⟨σ', H', I', q⟩ := q; exact ⟨σ', H', I', q (Inv.ko I')⟩
  | ret u => obtain ⟨v, σ', H', I', r, q⟩ := q; exact ⟨v, σ', H', I', r, q (Inv.ko I')⟩⟩
structure LEx (X : Cx) (T : Tabs) (M : Kds) (own : List (Str × Nat)) (scope : Scope) (tg iter elt : Expr) (ifs : List Expr) (gi : Iv) (G : Gv) (h : Tv) (fe : Ev) : Prop where
  calm : X.calm = true
  nd : X.N.Nodup
  ok : BlkOk X.N X.env.scope scope own
  fz : ∀ i ∈ own.map (·.2), M i = .fz
  it : SI X T M tg iter gi
  body : LBody X T M scope (own.map (·.2)) tg elt ifs G h fe
  ns : noSetE iter = true
theorem s_lc (l : LEx X T M own scope tg iter elt ifs gi G h fe) : SF X T M (.ListComp elt [⟨tg, iter, ifs, 0⟩] scope pos) (eLc gi (gTurn G h fe) (own.map (·.2))) := by
  obtain ⟨wi, hw, hit⟩ := l.it
  have b := fun s H C cl fp => l.body (X.blk s H scope (compEnvC scope cl C X.env) fp) ⟨s, H, C, cl, fp, rfl⟩
  refine PE.imp (PE.ko (pe_lc (g := tGk X.K X.w T M (own.map (·.2)) G) (tt := tT X.K X.w T M h) (te := fun σ H Q => tE X.K X.w T M fe σ H fun v H' => KO X.K H' → Q v H') l.calm l.nd (PI.ko hw) l.ok (fun s H C cl fp => PG.imp_ko (b s H C cl fp).1 fun v σ H Q ko z => z ko) (fun s H C cl fp => (b s H C cl fp).2.1) (fun s H C cl fp => PE.ko (b s H C cl fp).2.2) (noSet l.ns))) fun σ H Q hw => ?_
  obtain ⟨U, ρ, ρ', d, S, hf, q⟩ := hw
  obtain ⟨⟨ρ1, ds⟩, e1, e2⟩ := bind_of hf
  obtain ⟨⟨ρ2, r⟩, e3, e4⟩ := bind_of e2
  obtain ⟨hs, e4⟩ := ite_of e4
  cases e4
  exact lc_sim l.fz hit S e1 e3 (small_line hs) fun a H' ko S' st ha c => q a H' S' st ha c
theorem ss_setLc {i : Nat} {y : Str} (hM : M i = .ow) (hy : X.N[i]? = some y) (hk : X.env.scope.kind = .function) (hyl : X.env.scope.names.lookup y = some .local) (hl : (py.line == pos.line) = true) (ha : (scope.names.any fun (n, k) => n == y && (k == .local || k == .cell)) = false) (l : LEx X T M own scope tg iter elt ifs gi G h fe) :
    SS X T M fr (.Assign [.Name y py] (.ListComp elt [⟨tg, iter, ifs, 0⟩] scope pos) spos) (aSet i (eLc gi (gTurn G h fe) (own.map (·.2)))) := by
  obtain ⟨wi, hw, hit⟩ := l.it
  have b := fun s H C cl fp => l.body (X.blk s H scope (compEnvC scope cl C X.env) fp) ⟨s, H, C, cl, fp, rfl⟩
  refine PS.imp (PS.ko (ps_setLc (g := tGk X.K X.w T M (own.map (·.2)) G) (tt := tT X.K X.w T M h) (te := fun σ H Q => tE X.K X.w T M fe σ H fun v H' => KO X.K H' → Q v H') l.calm l.nd hy hyl (sw_true hk hyl hl ha) (PI.ko hw) l.ok (fun s H C cl fp => PG.imp_ko (b s H C cl fp).1 fun v σ H Q ko z => z ko) (fun s H C cl fp => (b s H C cl fp).2.1) (fun s H C cl fp => PE.ko (b s H C cl fp).2.2) (noSet l.ns))) fun Dn σ H hw => ?_
  obtain ⟨U, ρ, o, S, hf, q⟩ := hw
  obtain ⟨⟨ρ', d⟩, e0, e1⟩ := Option.map_eq_some_iff.mp hf
  cases e1
  obtain ⟨⟨ρ1, ds⟩, e1, e2⟩ := bind_of e0
  obtain ⟨⟨ρ2, r⟩, e3, e4⟩ := bind_of e2
  obtain ⟨hs, e4⟩ := ite_of e4
  cases e4
  refine lc_sim (Q := fun v H' => Dn.nx (σ.set i (some v)) H') l.fz hit S e1 e3 (small_line hs) fun a H' ko S' st ha c => ?_
  refine q _ H' (S'.putO hM c fun z => ?_) (st.putO S'.len hM ha)
  rcases ha with ha | ha
  · exact (S.mineT ha).2 z
  · exact S.un a z ha
/-- into a frozen slot -/
theorem ss_setLcF {i : Nat} {y : Str} (hM : M i = .fz) (hy : X.N[i]? = some y) (hk : X.env.scope.kind = .function) (hyl : X.env.scope.names.lookup y = some .local) (hl : (py.line == pos.line) = true) (ha : (scope.names.any fun (n, k) => n == y && (k == .local || k == .cell)) = false) (l : LEx X T M own scope tg iter elt ifs gi G h fe) :
    SS X T M fr (.Assign [.Name y py] (.ListComp elt [⟨tg, iter, ifs, 0⟩] scope pos) spos) (aSet i (eLc gi (gTurn G h fe) (own.map (·.2)))) := by
  obtain ⟨wi, hw, hit⟩ := l.it
  have b := fun s H C cl fp => l.body (X.blk s H scope (compEnvC scope cl C X.env) fp) ⟨s, H, C, cl, fp, rfl⟩
  refine PS.imp (PS.ko (ps_setLc (g := tGk X.K X.w T M (own.map (·.2)) G) (tt := tT X.K X.w T M h) (te := fun σ H Q => tE X.K X.w T M fe σ H fun v H' => KO X.K H' → Q v H') l.calm l.nd hy hyl (sw_true hk hyl hl ha) (PI.ko hw) l.ok (fun s H C cl fp => PG.imp_ko (b s H C cl fp).1 fun v σ H Q ko z => z ko) (fun s H C cl fp => (b s H C cl fp).2.1) (fun s H C cl fp => PE.ko (b s H C cl fp).2.2) (noSet l.ns))) fun Dn σ H hw => ?_
  obtain ⟨U, ρ, o, S, hf, q⟩ := hw
  obtain ⟨⟨ρ', d⟩, e0, e1⟩ := Option.map_eq_some_iff.mp hf
  cases e1
  obtain ⟨⟨ρ1, ds⟩, e1, e2⟩ := bind_of e0
  obtain ⟨⟨ρ2, r⟩, e3, e4⟩ := bind_of e2
  obtain ⟨hs, e4⟩ := ite_of e4
  cases e4
  refine lc_sim (Q := fun v H' => Dn.nx (σ.set i (some v)) H') l.fz hit S e1 e3 (small_line hs) fun a H' ko S' st ha c => ?_
  have nU : ¬ U a := fun z => by
    rcases ha with ha | ha
    · exact (S.mineT ha).2 z
    · exact S.un a z ha
  have rp : Rp X.K X.w (Ow M U σ (backD ρ1 (own.map (·.2)) ρ2)) H' (.ref a) (.list r) := (c.weak fun b z => z.imp_left .inl).rp fun z => z.elim nU S'.own_ne
  obtain ⟨S2, st2⟩ := (S'.less fun b z => .inl z).putF hM rp
  exact q _ H' S2 (st.trans st2)
end
end Sx
/-! S9: list comprehensions of two clauses. -/
namespace Sx
open PySem PySem.Spec PyProof.Rows L2

theorem OStay.trans {K : PySem.W.Frag} {O O' : Addr → Prop} {H H' H'' : Hp} (s1 : OStay O H H') (u1 : OSub K O O' H) (s2 : OStay O' H' H'') : OStay O H H'' := fun b o e n t => s2 b o (s1 b o e n t) (fun z => by
  rcases u1 b z with q | ⟨q, _⟩
  · exact n q
  · rw [e] at q; cases q) t
theorem OSub.trans {K : PySem.W.Frag} {O O' O'' : Addr → Prop} {H H' : Hp} (u1 : OSub K O O' H) (dom : ∀ b, H b ≠ none → H' b ≠ none) (u2 : OSub K O' O'' H') : OSub K O O'' H := fun b z => by
  rcases u2 b z with q | ⟨q, k⟩
  · exact u1 b q
  · exact .inr ⟨Classical.byContradiction fun n => dom b n q, k⟩
def wI (K : PySem.W.Frag) (w : World) (T : Tabs) (M : Kds) (gi : Iv) : TI := fun σ H R => ∃ U ρ ρ' ds, Sim K w T M U σ H ρ ∧ gi ρ = some (ρ', ds) ∧ ∀ J H1, Sim K w T M U σ H1 ρ' → Stp M σ ρ H σ ρ' H1 → ItOk K w (Ow M U σ ρ') J ds H1 → R J H1
theorem SI.pi {X : Cx} {T : Tabs} {M : Kds} {tg iter : Expr} {gi : Iv} (h : SI X T M tg iter gi) : PI X tg iter (wI X.K X.w T M gi) := by
  obtain ⟨wi, hp, hit⟩ := h
  refine ⟨fun pins s σ H R I hw => hp.run pins s σ H R I ?_⟩
  obtain ⟨U, ρ, ρ', ds, S, hf, q⟩ := hw
  exact hit σ H U ρ ρ' ds R S hf q
/-- what is known at a turn's head: σ, ρ1, H1 at the comprehension's start, τ now -/
structure LAt2 (K : PySem.W.Frag) (w : World) (T : Tabs) (M : Kds) (U : Addr → Prop) (σ : Sg) (ρ1 : Env) (H1 : Hp) (τ : Sg) (D : Addr) (ρi : Env) (dacc : List PyData) (H : Hp) : Prop where
  sim : Sim K w T M (plus U D) τ H ρi
  stp : Stp M σ ρ1 H1 τ ρi H
  acc : ∃ acc, H D = some (.lst acc) ∧ RpA K w (Ow M (plus U D) τ ρi) H acc dacc
section
variable {K : PySem.W.Frag} {w : World} {T : Tabs} {M : Kds} {U : Addr → Prop} {σ τ τ' : Sg} {ρ ρ1 ρ2 ρi ρ' : Env} {H H1 H2 H' : Hp} {vs : List Nat} {wi : TI} {gi : Iv} {G : Gv} {h : Tv} {fe : Ev} {ds r : List D} {D : Addr} {dacc : List PyData}
theorem LAt2.push {acc : List V} {y : V} {d : PyData} (l : LAt2 K w T M U σ ρ1 H1 τ D ρi dacc H) (nD : H1 D = none) (e : H D = some (.lst acc)) (r : RpA K w (Ow M (plus U D) τ ρi) H acc dacc) (ry : Rp K w (Ow M (plus U D) τ ρi) H y d) (ko : KO K (upd H D (.lst (acc ++ [y])))) :
    LAt2 K w T M U σ ρ1 H1 τ D ρi (dacc ++ [d]) (upd H D (.lst (acc ++ [y]))) := by
  have nO : ∀ b o, H b = some o → ¬ Ow M (plus U D) τ ρi b → (∀ ps, o ≠ .tbl ps) → upd H D (.lst (acc ++ [y])) b = some o := fun b o eb n _ => by
    have hb : b ≠ D := fun z => n (.inl (.inr z))
    rw [upd_ne hb]; exact eb
  have mD : ∀ {i d a}, (M i).own = true → ρi[i]? = some (some d) → τ[i]? = some (some (.ref a)) → a ≠ D := fun h1 h2 h3 z => by
    subst z
    exact l.sim.own_ne ⟨_, _, h1, h2, h3⟩
  have ap : RpA K w (Ow M (plus U D) τ ρi) H (acc ++ [y]) (dacc ++ [d]) := r.append (.cons ry .nil)
  refine ⟨⟨l.sim.len, fun i x h1 h2 => ?_, fun i x h1 h2 => ?_, l.sim.ap, fun b z => ?_, TabOk.updL e l.sim.tb, ko⟩, ⟨fun b o eb n t => ?_, l.stp.mine, fun b z => ?_, l.stp.lent⟩, acc ++ [y], upd_same, RpA.stay nO (fun b z => .inl z) _ _ ap⟩
  · obtain ⟨v, q1, q2⟩ := l.sim.fz i x h1 h2
    exact ⟨v, q1, Rp.stay nO (fun b z => .inl z) _ _ q2⟩
  · obtain ⟨a, q1, q2, c⟩ := l.sim.ow i x h1 h2
    refine ⟨a, q1, q2, ?_⟩
    have ha := mD h1 h2 q1
    rcases c with ⟨xs, ds, c1, c2, c3⟩ | ⟨es, ds, c1, c2, c3⟩
    · exact .inl ⟨xs, ds, c1, by rw [upd_ne ha]; exact c2, RpA.stay nO (fun b z => .inl z) _ _ c3⟩
    · exact .inr ⟨es, ds, c1, by rw [upd_ne ha]; exact c2, RpP.stay nO (fun b z => .inl z) _ _ c3⟩
  · by_cases hb : b = D
    · rw [hb]; exact upd_some
    · rw [upd_ne hb]; exact l.sim.un b z
  · rw [upd_ne (ne_of_none eb nD)]
    exact l.stp.same b o eb n t
  · rw [upd_ne (show b ≠ D from fun y => z (by rw [y]; exact nD))]
    exact l.stp.dom b z
/-- a step of other code -/
theorem LAt2.step (l : LAt2 K w T M U σ ρ1 H1 τ D ρi dacc H) (S : Sim K w T M (plus U D) τ' H' ρ') (st : Stp M τ ρi H τ' ρ' H') : LAt2 K w T M U σ ρ1 H1 τ' D ρ' dacc H' := by
  obtain ⟨acc, hD, r⟩ := l.acc
  exact ⟨S, l.stp.trans st, acc, st.same D _ hD l.sim.own_ne (by intro ps z; cases z), st.rpa S r⟩
theorem LAt2.wipe (hv : ∀ i ∈ vs, M i = .fz) (l : LAt2 K w T M U σ ρ1 H1 τ D ρi dacc H) : LAt2 K w T M U σ ρ1 H1 (L2.wipe τ vs) D (wipeD ρi vs) dacc H := l.step (l.sim.wipe hv) (Stp.wipe hv)
theorem wipe_wipe {vs : List Nat} : wipe (wipe σ vs) vs = wipe σ vs := wipe_ext ⟨wipe_length σ vs, fun i h => wipe_out h⟩
/-- the loop, with the list at D: what follows is reached from its end -/
theorem loop_sim {J1 : It} {Nx : Hp → Prop} {τ0 : Sg} {ρ0 : Env} {H0 : Hp} {d0 : List PyData} (hv : ∀ i ∈ vs, M i = .fz) (nD : H1 D = none) (l0 : LAt2 K w T M U σ ρ1 H1 τ0 D ρ0 d0 H0) (J : ItOk K w (Ow M (plus U D) τ0 ρ0) J1 ds H0) (hl : lcL vs (gTurn G h fe) ds (wipeD ρ0 vs) = some (ρ2, r)) (hs : (d0 ++ r).length ≤ sizeLine)
    (q : ∀ H', KO K H' → LAt2 K w T M U σ ρ1 H1 (wipe τ0 vs) D ρ2 (d0 ++ r) H' → Nx H') :
    ∃ W : Nat → Nat → Hp → Prop, (∃ m, W 0 m H0) ∧ ∀ i m H, W i m H → ((koIt K J1).stop i H ∧ (KO K H → Nx H)) ∨ ((koIt K J1).go i H ∧ ∃ Nx1 : Hp → Prop, (∀ H', Nx1 H' → ∃ m', m' < m ∧ W (i + 1) m' H') ∧ ∀ x H', (koIt K J1).yld i H x H' → tGk K w T M vs G x (wipe τ0 vs) H' fun σ2 H2 => wipe σ2 vs = wipe τ0 vs ∧ tT K w T M h σ2 H2 fun b H3 =>
      if b = true then tE K w T M fe σ2 H3 fun y H4 => KO K H4 → ∃ acc, H4 D = some (.lst acc) ∧ acc.length < sizeLine ∧ Nx1 (upd H4 D (.lst (acc ++ [y]))) else Nx1 H3) := by
  refine ⟨fun i m H' => m = ds.length - i ∧ i ≤ ds.length ∧ (KO K H' → ∃ ρi dacc rest, LAt2 K w T M U σ ρ1 H1 (wipe τ0 vs) D ρi dacc H' ∧ OStay (Ow M (plus U D) τ0 ρ0) H0 H' ∧ OSub K (Ow M (plus U D) τ0 ρ0) (Ow M (plus U D) (wipe τ0 vs) ρi) H0 ∧ (∀ b, H0 b ≠ none → H' b ≠ none) ∧ lcL vs (gTurn G h fe) (ds.drop i) ρi = some (ρ2, rest) ∧ d0 ++ r = dacc ++ rest),
    ⟨_, rfl, Nat.zero_le _, fun ko => ⟨wipeD ρ0 vs, d0, r, l0.wipe hv, .refl, (Stp.wipe hv).osub (l0.sim.wipe hv) (fun b z => .inl z), fun _ z => z, hl, rfl⟩⟩, ?_⟩
  rintro i m H' ⟨rfl, hi, hw⟩
  by_cases hlt : i < ds.length
  · refine .inr ⟨fun ko => ?_, fun H2 => (KO K H2 → ∃ ρi dacc rest, LAt2 K w T M U σ ρ1 H1 (wipe τ0 vs) D ρi dacc H2 ∧ OStay (Ow M (plus U D) τ0 ρ0) H0 H2 ∧ OSub K (Ow M (plus U D) τ0 ρ0) (Ow M (plus U D) (wipe τ0 vs) ρi) H0 ∧ (∀ b, H0 b ≠ none → H2 b ≠ none) ∧ lcL vs (gTurn G h fe) (ds.drop (i + 1)) ρi = some (ρ2, rest) ∧ d0 ++ r = dacc ++ rest), fun H2 h2 => ⟨_, by omega, rfl, hlt, h2⟩, fun x H2 ⟨y, ko⟩ ko2 => ?_⟩
    · obtain ⟨ρi, dacc, rest, l, os, _⟩ := hw ko
      exact J.go i H' hlt os
    obtain ⟨ρi, dacc, rest, l, os, ou, dm, e1, e2⟩ := hw ko
    obtain ⟨gr, d, e3, rx⟩ := J.yld i H' x H2 (Ow M (plus U D) (wipe τ0 vs) ρi) ou (fun b => l.sim.owT) hlt os y ko2
    rw [List.getElem?_eq_getElem hlt] at e3
    cases e3
    rw [List.drop_eq_getElem_cons hlt] at e1
    obtain ⟨⟨ρt, oy⟩, e4, e5⟩ := bind_of e1
    obtain ⟨⟨ρ2', rest'⟩, e6, e7⟩ := Option.map_eq_some_iff.mp e5
    cases e7
    obtain ⟨ρa, eG, e4⟩ := bind_of e4
    obtain ⟨⟨ρb, b⟩, eh, e4⟩ := bind_of e4
    have S2 : Sim K w T M (plus U D) (wipe τ0 vs) H2 ρi := l.sim.grow gr ko2
    refine ⟨plus U D, ρi, ds[i], ρa, S2, rx, eG, fun σ3 H3 S3 st3 k3 => ?_⟩
    have w3 : wipe σ3 vs = wipe τ0 vs := (wipe_ext k3).trans wipe_wipe
    refine ⟨w3, plus U D, ρa, ρb, b, S3, eh, fun H4 S4 st4 => ?_⟩
    have again : ∀ {H5 : Hp} {ρ5 : Env}, Sim K w T M (plus U D) σ3 H5 ρ5 → Stp M (wipe τ0 vs) ρi H' σ3 ρ5 H5 → LAt2 K w T M U σ ρ1 H1 (wipe τ0 vs) D (wipeD ρ5 vs) dacc H5 ∧ OStay (Ow M (plus U D) τ0 ρ0) H0 H5 ∧ OSub K (Ow M (plus U D) τ0 ρ0) (Ow M (plus U D) (wipe τ0 vs) (wipeD ρ5 vs)) H0 ∧ ∀ b, H0 b ≠ none → H5 b ≠ none := fun {H5 ρ5} S5 st5 => by
      have Sw := S5.wipe hv
      have tw := st5.trans (Stp.wipe hv)
      rw [w3] at Sw tw
      exact ⟨l.step Sw tw, os.trans ou tw.ostay, ou.trans dm (tw.osub Sw fun b z => .inl z), fun b z => tw.dom b (dm b z)⟩
    have st04 : Stp M (wipe τ0 vs) ρi H' σ3 ρb H4 := (Stp.grow gr).trans (st3.trans st4)
    cases b with
    | false =>
      rw [if_neg (by simp)] at e4
      cases e4
      intro ko4
      obtain ⟨l4, o4, u4, d4⟩ := again S4 st04
      exact ⟨_, dacc, rest', l4, o4, u4, d4, e6, e2⟩
    | true =>
      rw [if_pos rfl] at e4
      obtain ⟨⟨ρc, y2⟩, ef, e4⟩ := Option.map_eq_some_iff.mp e4
      cases e4
      refine ⟨plus U D, ρb, ρc, y2, S4, ef, fun v5 H5 S5 st5 r5 ko5 => ?_⟩
      obtain ⟨l5, o5, u5, d5⟩ := again S5 (st04.trans st5)
      have e2' : d0 ++ r = dacc ++ y2 :: rest' := e2
      obtain ⟨acc, h5, ra5⟩ := l5.acc
      refine ⟨acc, h5, ?_, fun ko6 => ?_⟩
      · have q1 := ra5.length
        rw [e2', List.length_append, List.length_cons] at hs
        omega
      · refine ⟨wipeD ρc vs, dacc ++ [y2], rest', l5.push nD h5 ra5 ?_ ko6, fun b o e n t => ?_, u5, fun b z => ?_, e6, by rw [e2']; simp⟩
        · refine r5.weak fun b z => ?_
          rcases z with z | z
          · exact .inl z
          · have z' : Mine M (wipe σ3 vs) (wipeD ρc vs) b := by rw [w3]; exact z
            exact .inr ((mine_wipe hv).mp z')
        · rw [upd_ne (show b ≠ D from fun y => n (.inl (.inr y)))]
          exact o5 b o e n t
        · by_cases hb : b = D
          · rw [hb]; exact upd_some
          · rw [upd_ne hb]; exact d5 b z
  · have e : i = ds.length := by omega
    subst e
    refine .inl ⟨fun ko => ?_, fun ko => ?_⟩
    · obtain ⟨ρi, dacc, rest, l, os, _⟩ := hw ko
      exact J.stop H' os
    · obtain ⟨ρi, dacc, rest, l, os, ou, dm, e1, e2⟩ := hw ko
      rw [List.drop_length] at e1
      cases e1
      rw [List.append_nil] at e2
      rw [e2] at q
      exact q H' ko l
end
def lcL2 (vs vs1 : List Nat) (G : Gv) (h : Tv) (gi1 : Iv) (t1 : Gt) : List D → Env → Option (Env × List D)
  | [], ρ => some (ρ, [])
  | d :: ds, ρ => (G d ρ).bind fun ρ1 => (h ρ1).bind fun p => if p.2 = true then (gi1 p.1).bind fun q => (lcL vs1 t1 q.2 (wipeD q.1 vs1)).bind fun u => (lcL2 vs vs1 G h gi1 t1 ds (wipeD u.1 vs)).map fun v => (v.1, u.2 ++ v.2) else lcL2 vs vs1 G h gi1 t1 ds (wipeD p.1 vs)
def eLc2 (gi : Iv) (G : Gv) (h : Tv) (gi1 : Iv) (t1 : Gt) (vs vs1 : List Nat) : Ev := fun ρ => (gi ρ).bind fun p => (lcL2 vs vs1 G h gi1 t1 p.2 (wipeD p.1 vs)).bind fun q => if small q.2 then some (backD p.1 vs q.1, .list q.2) else none
section
variable {K : PySem.W.Frag} {w : World} {T : Tabs} {M : Kds} {U : Addr → Prop} {σ : Sg} {ρ ρ1 ρ2 : Env} {H : Hp} {vs vs1 : List Nat} {gi gi1 : Iv} {G G1 : Gv} {h h1 : Tv} {fe : Ev} {ds r : List D}
theorem lc2_sim (hv : ∀ i ∈ vs, M i = .fz) (hv1 : ∀ i ∈ vs1, i ∈ vs) (S : Sim K w T M U σ H ρ) (hf : gi ρ = some (ρ1, ds)) (hl : lcL2 vs vs1 G h gi1 (gTurn G1 h1 fe) ds (wipeD ρ1 vs) = some (ρ2, r)) (hs : r.length ≤ sizeLine) {Q : VK}
    (q : ∀ a H', KO K H' → Sim K w T M (plus U a) σ H' (backD ρ1 vs ρ2) → Stp M σ ρ H σ (backD ρ1 vs ρ2) H' → (Mine M σ ρ a ∨ H a = none) → Cell K w (Ow M (plus U a) σ (backD ρ1 vs ρ2)) H' a (.list r) → Q (.ref a) H') :
    tLc2 (koTI K (wI K w T M gi)) (tGk K w T M vs G) (tT K w T M h) (koTI K (wI K w T M gi1)) (tGk K w T M vs1 G1) (tT K w T M h1) (fun σ H Q => tE K w T M fe σ H fun v H' => KO K H' → Q v H') vs vs1 σ H (fun v H' => KO K H' → Q v H') := by
  refine ⟨U, ρ, ρ1, ds, S, hf, fun J H1 S1 st1 J1 D nD => ?_⟩
  have hvz : ∀ i ∈ vs1, M i = .fz := fun i hi => hv i (hv1 i hi)
  refine ⟨fun i m H' => m = ds.length - i ∧ i ≤ ds.length ∧ (KO K H' → ∃ ρi dacc rest, LAt2 K w T M U σ ρ1 H1 (wipe σ vs) D ρi dacc H' ∧ lcL2 vs vs1 G h gi1 (gTurn G1 h1 fe) (ds.drop i) ρi = some (ρ2, rest) ∧ r = dacc ++ rest), ⟨_, rfl, Nat.zero_le _, fun ko => ⟨wipeD ρ1 vs, [], r, ⟨(S1.wipe hv).more nD upd_some (upd_keep nD) ko, (Stp.wipe hv).trans (Stp.new nD), [], upd_same, .nil⟩, hl, rfl⟩⟩, ?_⟩
  rintro i m H' ⟨rfl, hi, hw⟩
  by_cases hlt : i < ds.length
  · refine .inr ⟨fun ko => ?_, fun H2 => (KO K H2 → ∃ ρi dacc rest, LAt2 K w T M U σ ρ1 H1 (wipe σ vs) D ρi dacc H2 ∧ lcL2 vs vs1 G h gi1 (gTurn G1 h1 fe) (ds.drop (i + 1)) ρi = some (ρ2, rest) ∧ r = dacc ++ rest), fun H2 h2 => ⟨_, by omega, rfl, hlt, h2⟩, fun x H2 ⟨y, ko⟩ ko2 => ?_⟩
    · obtain ⟨ρi, dacc, rest, l, _, _⟩ := hw ko
      exact J1.go i H' hlt l.stp.ostay
    obtain ⟨ρi, dacc, rest, l, e1, e2⟩ := hw ko
    have hUD : ∀ b, plus U D b → U b ∨ (H1 b = none ∧ K.lookup b = none) := fun b z => z.imp_right fun e => by
      rw [e]; exact ⟨nD, l.sim.kk D (l.sim.un D (.inr rfl))⟩
    obtain ⟨gr, d, e3, rx⟩ := J1.yld i H' x H2 (Ow M (plus U D) (wipe σ vs) ρi) (l.stp.osub l.sim hUD) (fun b => l.sim.owT) hlt l.stp.ostay y ko2
    rw [List.getElem?_eq_getElem hlt] at e3
    cases e3
    rw [List.drop_eq_getElem_cons hlt] at e1
    obtain ⟨ρa, eG, e4⟩ := bind_of e1
    obtain ⟨⟨ρb, b⟩, eh, e4⟩ := bind_of e4
    have S2 : Sim K w T M (plus U D) (wipe σ vs) H2 ρi := l.sim.grow gr ko2
    refine ⟨plus U D, ρi, ds[i], ρa, S2, rx, eG, fun σ3 H3 S3 st3 k3 => ?_⟩
    have w3 : wipe σ3 vs = wipe σ vs := (wipe_ext k3).trans wipe_wipe
    refine ⟨w3, plus U D, ρa, ρb, b, S3, eh, fun H4 S4 st4 => ?_⟩
    have st04 : Stp M (wipe σ vs) ρi H' σ3 ρb H4 := (Stp.grow gr).trans (st3.trans st4)
    have l4 : LAt2 K w T M U σ ρ1 H1 σ3 D ρb dacc H4 := l.step S4 st04
    cases b with
    | false =>
      rw [if_neg (by simp)] at e4
      intro ko4
      have := l4.wipe hv
      rw [w3] at this
      exact ⟨_, dacc, rest, this, e4, e2⟩
    | true =>
      rw [if_pos rfl] at e4
      obtain ⟨⟨ρc, ds1⟩, e5, e4⟩ := bind_of e4
      obtain ⟨⟨ρd, r1⟩, e6, e4⟩ := bind_of e4
      obtain ⟨⟨ρe, r2⟩, e7, e4⟩ := Option.map_eq_some_iff.mp e4
      cases e4
      refine ⟨plus U D, ρb, ρc, ds1, S4, e5, fun Ji H5 S5 st5 J5 => ?_⟩
      have l5 : LAt2 K w T M U σ ρ1 H1 σ3 D ρc dacc H5 := l4.step S5 st5
      have e2' : r = dacc ++ (r1 ++ r2) := e2
      exact loop_sim hvz nD l5 J5 e6 (by rw [e2'] at hs; simp only [List.length_append] at hs ⊢; omega) fun H6 ko6 l6 => by
        have q6 := l6.wipe hv
        have ww : wipe (wipe σ3 vs1) vs = wipe σ vs := by
          rw [← w3]
          exact wipe_ext ⟨wipe_length σ3 vs1, fun i h => wipe_out fun z => h (hv1 i z)⟩
        rw [ww] at q6
        exact ⟨_, dacc ++ r1, r2, q6, e7, by rw [e2']; simp⟩
  · have e : i = ds.length := by omega
    subst e
    refine .inl ⟨fun ko => ?_, fun ko => ?_⟩
    · obtain ⟨ρi, dacc, rest, l, _, _⟩ := hw ko
      exact J1.stop H' l.stp.ostay
    · obtain ⟨ρi, dacc, rest, l, e1, e2⟩ := hw ko
      rw [List.drop_length] at e1
      cases e1
      rw [List.append_nil] at e2
      subst e2
      obtain ⟨acc, hD, racc⟩ := l.acc
      obtain ⟨Sb, sb, kb⟩ := Sim.back hv S1 l.sim l.stp (fun b z => z.imp_right fun e => by
        rw [e]; exact ⟨nD, l.sim.kk D (l.sim.un D (.inr rfl))⟩) (fun b z => .inl z)
      exact q D H' ko Sb (st1.trans sb) (.inr (Classical.byContradiction fun n => st1.dom D n nD)) (.inl ⟨acc, _, rfl, hD, racc.weak kb⟩)
end
/-! ### the expression -/
def LBody2 (X : Cx) (T : Tabs) (M : Kds) (scope : Scope) (vs vs1 : List Nat) (tg tg1 iter1 elt : Expr) (ifs ifs1 : List Expr) (G : Gv) (h : Tv) (gi1 : Iv) (G1 : Gv) (h1 : Tv) (fe : Ev) : Prop :=
  ∀ Xb : Cx, (∃ s H C cl fp, Xb = X.blk s H scope (compEnvC scope cl C X.env) fp) → SG Xb T M vs tg G ∧ PTs Xb ifs (tT Xb.K Xb.w T M h) ∧ SI Xb T M tg1 iter1 gi1 ∧ SG Xb T M vs1 tg1 G1 ∧ PTs Xb ifs1 (tT Xb.K Xb.w T M h1) ∧ SE Xb T M elt fe
structure LEx2 (X : Cx) (T : Tabs) (M : Kds) (own : List (Str × Nat)) (vs1 : List Nat) (scope : Scope) (tg iter tg1 iter1 elt : Expr) (ifs ifs1 : List Expr) (gi : Iv) (G : Gv) (h : Tv) (gi1 : Iv) (G1 : Gv) (h1 : Tv) (fe : Ev) : Prop where
  calm : X.calm = true
  nd : X.N.Nodup
  ok : BlkOk X.N X.env.scope scope own
  fz : ∀ i ∈ own.map (·.2), M i = .fz
  v1 : ∀ i ∈ vs1, i ∈ own.map (·.2)
  it : SI X T M tg iter gi
  body : LBody2 X T M scope (own.map (·.2)) vs1 tg tg1 iter1 elt ifs ifs1 G h gi1 G1 h1 fe
  ns : noSetE iter = true
  ns1 : noSetE iter1 = true
section
variable {X : Cx} {T : Tabs} {M : Kds} {fr : Bool} {tg iter tg1 iter1 elt : Expr} {ifs ifs1 : List Expr} {scope : Scope} {own : List (Str × Nat)} {vs1 : List Nat} {pos spos py : Pos} {gi gi1 : Iv} {G G1 : Gv} {h h1 : Tv} {fe : Ev}
theorem s_lc2 (l : LEx2 X T M own vs1 scope tg iter tg1 iter1 elt ifs ifs1 gi G h gi1 G1 h1 fe) : SF X T M (.ListComp elt [⟨tg, iter, ifs, 0⟩, ⟨tg1, iter1, ifs1, 0⟩] scope pos) (eLc2 gi G h gi1 (gTurn G1 h1 fe) (own.map (·.2)) vs1) := by
  have b := fun s H C cl fp => l.body (X.blk s H scope (compEnvC scope cl C X.env) fp) ⟨s, H, C, cl, fp, rfl⟩
  refine PE.imp (PE.ko (pe_lc2 (vs1 := vs1) (g := tGk X.K X.w T M (own.map (·.2)) G) (tt := tT X.K X.w T M h) (g1 := tGk X.K X.w T M vs1 G1) (tt1 := tT X.K X.w T M h1) (wi1 := koTI X.K (wI X.K X.w T M gi1)) (te := fun σ H Q => tE X.K X.w T M fe σ H fun v H' => KO X.K H' → Q v H') l.calm l.nd (PI.ko l.it.pi) l.ok l.v1
    (fun s H C cl fp => PG.imp_ko (b s H C cl fp).1 fun v σ H Q ko z => z ko) (fun s H C cl fp => (b s H C cl fp).2.1) (fun s H C cl fp => PI.ko (b s H C cl fp).2.2.1.pi) (fun s H C cl fp => PG.imp_ko (b s H C cl fp).2.2.2.1 fun v σ H Q ko z => z ko) (fun s H C cl fp => (b s H C cl fp).2.2.2.2.1) (fun s H C cl fp => PE.ko (b s H C cl fp).2.2.2.2.2) (noSet l.ns) (fun env => noSet l.ns1))) fun σ H Q hw => ?_
  obtain ⟨U, ρ, ρ', d, S, hf, q⟩ := hw
  obtain ⟨⟨ρ1, ds⟩, e1, e2⟩ := bind_of hf
  obtain ⟨⟨ρ2, r⟩, e3, e4⟩ := bind_of e2
  obtain ⟨hs, e4⟩ := ite_of e4
  cases e4
  exact lc2_sim l.fz l.v1 S e1 e3 (small_line hs) fun a H' ko S' st ha c => q a H' S' st ha c
theorem setLc2_any {i : Nat} {y : Str} (hy : X.N[i]? = some y) (hk : X.env.scope.kind = .function) (hyl : X.env.scope.names.lookup y = some .local) (hl : (py.line == pos.line) = true) (ha : (scope.names.any fun (n, k) => n == y && (k == .local || k == .cell)) = false) (l : LEx2 X T M own vs1 scope tg iter tg1 iter1 elt ifs ifs1 gi G h gi1 G1 h1 fe) :
    PS X (.Assign [.Name y py] (.ListComp elt [⟨tg, iter, ifs, 0⟩, ⟨tg1, iter1, ifs1, 0⟩] scope pos) spos) (fun Dn σ H => ∃ U ρ ρ' d, Sim X.K X.w T M U σ H ρ ∧ eLc2 gi G h gi1 (gTurn G1 h1 fe) (own.map (·.2)) vs1 ρ = some (ρ', d) ∧ ∀ a H', Sim X.K X.w T M (plus U a) σ H' ρ' → Stp M σ ρ H σ ρ' H' → (Mine M σ ρ a ∨ H a = none) → Cell X.K X.w (Ow M (plus U a) σ ρ') H' a d → Dn.nx (σ.set i (some (.ref a))) H') := by
  have b := fun s H C cl fp => l.body (X.blk s H scope (compEnvC scope cl C X.env) fp) ⟨s, H, C, cl, fp, rfl⟩
  refine PS.imp (PS.ko (ps_setLc2 (vs1 := vs1) (g := tGk X.K X.w T M (own.map (·.2)) G) (tt := tT X.K X.w T M h) (g1 := tGk X.K X.w T M vs1 G1) (tt1 := tT X.K X.w T M h1) (wi1 := koTI X.K (wI X.K X.w T M gi1)) (te := fun σ H Q => tE X.K X.w T M fe σ H fun v H' => KO X.K H' → Q v H') l.calm l.nd hy hyl (sw_true hk hyl hl ha) (PI.ko l.it.pi) l.ok l.v1
    (fun s H C cl fp => PG.imp_ko (b s H C cl fp).1 fun v σ H Q ko z => z ko) (fun s H C cl fp => (b s H C cl fp).2.1) (fun s H C cl fp => PI.ko (b s H C cl fp).2.2.1.pi) (fun s H C cl fp => PG.imp_ko (b s H C cl fp).2.2.2.1 fun v σ H Q ko z => z ko) (fun s H C cl fp => (b s H C cl fp).2.2.2.2.1) (fun s H C cl fp => PE.ko (b s H C cl fp).2.2.2.2.2) (noSet l.ns) (fun env => noSet l.ns1))) fun Dn σ H hw => ?_
  obtain ⟨U, ρ, ρ', d, S, hf, q⟩ := hw
  obtain ⟨⟨ρ1, ds⟩, e1, e2⟩ := bind_of hf
  obtain ⟨⟨ρ2, r⟩, e3, e4⟩ := bind_of e2
  obtain ⟨hs, e4⟩ := ite_of e4
  cases e4
  exact lc2_sim (Q := fun v H' => Dn.nx (σ.set i (some v)) H') l.fz l.v1 S e1 e3 (small_line hs) fun a H' ko S' st ha c => q a H' S' st ha c
theorem setAny_ow {st : Stmt} {i : Nat} {f : Ev} (hM : M i = .ow) (hp : PS X st (fun Dn σ H => ∃ U ρ ρ' d, Sim X.K X.w T M U σ H ρ ∧ f ρ = some (ρ', d) ∧ ∀ a H', Sim X.K X.w T M (plus U a) σ H' ρ' → Stp M σ ρ H σ ρ' H' → (Mine M σ ρ a ∨ H a = none) → Cell X.K X.w (Ow M (plus U a) σ ρ') H' a d → Dn.nx (σ.set i (some (.ref a))) H')) : SS X T M fr st (aSet i f) := by
  refine PS.imp hp fun Dn σ H hw => ?_
  obtain ⟨U, ρ, o, S, hf, q⟩ := hw
  obtain ⟨⟨ρ', d⟩, e0, e1⟩ := Option.map_eq_some_iff.mp hf
  cases e1
  refine ⟨U, ρ, ρ', d, S, e0, fun a H' S' st ha c => ?_⟩
  refine q _ H' (S'.putO hM c fun z => ?_) (st.putO S'.len hM ha)
  rcases ha with ha | ha
  · exact (S.mineT ha).2 z
  · exact S.un a z ha
theorem setAny_fz {st : Stmt} {i : Nat} {f : Ev} (hM : M i = .fz) (hp : PS X st (fun Dn σ H => ∃ U ρ ρ' d, Sim X.K X.w T M U σ H ρ ∧ f ρ = some (ρ', d) ∧ ∀ a H', Sim X.K X.w T M (plus U a) σ H' ρ' → Stp M σ ρ H σ ρ' H' → (Mine M σ ρ a ∨ H a = none) → Cell X.K X.w (Ow M (plus U a) σ ρ') H' a d → Dn.nx (σ.set i (some (.ref a))) H')) : SS X T M fr st (aSet i f) := by
  refine PS.imp hp fun Dn σ H hw => ?_
  obtain ⟨U, ρ, o, S, hf, q⟩ := hw
  obtain ⟨⟨ρ', d⟩, e0, e1⟩ := Option.map_eq_some_iff.mp hf
  cases e1
  refine ⟨U, ρ, ρ', d, S, e0, fun a H' S' st ha c => ?_⟩
  have nU : ¬ U a := fun z => by
    rcases ha with ha | ha
    · exact (S.mineT ha).2 z
    · exact S.un a z ha
  have rp : Rp X.K X.w (Ow M U σ ρ') H' (.ref a) d := (c.weak fun b z => z.imp_left .inl).rp fun z => z.elim nU S'.own_ne
  obtain ⟨S2, st2⟩ := (S'.less fun b z => .inl z).putF hM rp
  exact q _ H' S2 (st.trans st2)
end
end Sx
/-! S10: own lists changed. -/
namespace Sx
open PySem PySem.Spec PyProof.Rows L2
section
variable {K : PySem.W.Frag} {w : World} {T : Tabs} {M : Kds} {U : Addr → Prop} {σ : Sg} {ρ : Env} {H : Hp} {i : Nat} {a : Addr}
theorem Sim.own_lst (S : Sim K w T M U σ H ρ) (hM : (M i).own = true) {ds : List D} (e : ρ[i]? = some (some (.list ds))) : ∃ a xs, σ[i]? = some (some (.ref a)) ∧ ¬ U a ∧ H a = some (.lst xs) ∧ RpA K w (Ow M U σ ρ) H xs ds := by
  obtain ⟨a, q, n, c⟩ := S.ow i _ hM e
  obtain ⟨xs, c1, c2⟩ := c.lst_of
  exact ⟨a, xs, q, n, c1, c2⟩
/-- an own list written -/
theorem Sim.updO (S : Sim K w T M U σ H ρ) (hM : (M i).own = true) {d0 : D} {xs ys : List V} {ds : List D} (e : ρ[i]? = some (some d0)) (ea : σ[i]? = some (some (.ref a))) (hx : H a = some (.lst xs)) (r : RpA K w (Ow M U σ ρ) H ys ds) (ko : KO K (upd H a (.lst ys))) :
    Sim K w T M U σ (upd H a (.lst ys)) (ρ.set i (some (.list ds))) ∧ Stp M σ ρ H σ (ρ.set i (some (.list ds))) (upd H a (.lst ys)) := by
  have mi : Mine M σ ρ a := ⟨i, d0, hM, e, ea⟩
  have nU : ¬ U a := (S.mineT mi).2
  have hi : i < ρ.length := (List.getElem?_eq_some_iff.mp e).1
  have mine : ∀ b, Mine M σ (ρ.set i (some (.list ds))) b → Mine M σ ρ b := fun b ⟨j, x, h1, h2, h3⟩ => by
    rcases get_set h2 with ⟨rfl, _, _⟩ | ⟨_, h2⟩
    · exact ⟨j, d0, h1, e, h3⟩
    · exact ⟨j, x, h1, h2, h3⟩
  have key : ∀ b, Ow M U σ (ρ.set i (some (.list ds))) b → Ow M U σ ρ b := fun b z => z.imp_right (mine b)
  have nO : ∀ b o, H b = some o → ¬ Ow M U σ ρ b → (∀ ps, o ≠ .tbl ps) → upd H a (.lst ys) b = some o := fun b o eb n _ => by
    rw [upd_ne (show b ≠ a from fun z => n (by rw [z]; exact .inr mi))]; exact eb
  refine ⟨⟨by simpa using S.len, fun j x h1 h2 => ?_, fun j x h1 h2 => ?_, fun j k x y b h1 h2 h3 h4 h5 h6 => ?_, fun b z => ?_, TabOk.updL hx S.tb, ko⟩, ⟨fun b o eb n t => ?_, fun b z => .inl (mine b z), fun b z => ?_, fun j x h1 h2 => ⟨rfl, ?_⟩⟩⟩
  · rcases get_set h2 with ⟨rfl, _, _⟩ | ⟨_, h2⟩
    · rw [hM] at h1; cases h1
    · obtain ⟨v, q1, q2⟩ := S.fz j x h1 h2
      exact ⟨v, q1, (Rp.stay nO (fun b z => .inl z) x v q2).weak key⟩
  · rcases get_set h2 with ⟨rfl, e2, _⟩ | ⟨hj, h2⟩
    · cases e2
      exact ⟨a, ea, nU, .inl ⟨ys, ds, rfl, upd_same, (RpA.stay nO (fun b z => .inl z) ds ys r).weak key⟩⟩
    · obtain ⟨b, q1, q2, c⟩ := S.ow j x h1 h2
      have hb : b ≠ a := fun z => hj (S.ap j i x d0 a h1 hM h2 e (by rw [← z]; exact q1) ea)
      refine ⟨b, q1, q2, ?_⟩
      rcases c with ⟨xs', ds', c1, c2, c3⟩ | ⟨es, ds', c1, c2, c3⟩
      · exact .inl ⟨xs', ds', c1, by rw [upd_ne hb]; exact c2, (RpA.stay nO (fun b z => .inl z) _ _ c3).weak key⟩
      · exact .inr ⟨es, ds', c1, by rw [upd_ne hb]; exact c2, RpP.stay nO (fun b z => .inl (key b z)) _ _ c3⟩
  · have q3 : ∃ x', ρ[j]? = some (some x') := by
      rcases get_set h3 with ⟨rfl, _, _⟩ | ⟨_, h3⟩
      · exact ⟨d0, e⟩
      · exact ⟨x, h3⟩
    have q4 : ∃ x', ρ[k]? = some (some x') := by
      rcases get_set h4 with ⟨rfl, _, _⟩ | ⟨_, h4⟩
      · exact ⟨d0, e⟩
      · exact ⟨y, h4⟩
    obtain ⟨x', q3⟩ := q3
    obtain ⟨y', q4⟩ := q4
    exact S.ap j k x' y' b h1 h2 q3 q4 h5 h6
  · by_cases hb : b = a
    · rw [hb]; exact upd_some
    · rw [upd_ne hb]; exact S.un b z
  · rw [upd_ne (show b ≠ a from fun z => n (by rw [z]; exact mi))]; exact eb
  · by_cases hb : b = a
    · rw [hb]; exact upd_some
    · rw [upd_ne hb]; exact z
  · by_cases hj : i = j
    · subst hj; exact ⟨_, List.getElem?_set_self hi⟩
    · exact ⟨x, by rw [List.getElem?_set_ne hj]; exact h2⟩
end
theorem ty_list {K : PySem.W.Frag} {H : Hp} {a : Addr} {xs : List V} (h : H a = some (.lst xs)) : tyV K "list" (.ref a) H := .inl ⟨rfl, xs, .of h⟩
section
variable {X : Cx} {T : Tabs} {M : Kds} {fr : Bool} {e b : Expr} {f fi : Ev} {pos npos apos cpos spos : Pos} {i : Nat} {x : Str}
theorem few_one (hp : plainArg e = true) : ((backTo cpos (starEach [e] X.env)).all (fun x => !x.1) && (backToKw cpos (keywordEach [] X.env)).all (fun x => x.1.isSome)
      && decide (([e] : List Expr).length + ([] : List Keyword).length + (if ([] : List Keyword).isEmpty then 0 else 1) < 30)) = true := by
  rw [star_cons hp]; rfl
/-- x.append(e) -/
def isLst (i : Nat) (ρ : Env) : Bool := match ρ[i]? with
  | some (some (.list _)) => true
  | _ => false
theorem isLst_of {i : Nat} {ρ : Env} (h : isLst i ρ = true) : ∃ ds, ρ[i]? = some (some (.list ds)) := by
  unfold isLst at h
  split at h
  · rename_i ds e; exact ⟨ds, e⟩
  · cases h
def lstAt (i : Nat) (ρ : Env) : Option (List D) := match ρ[i]? with
  | some (some (.list ds)) => some ds
  | _ => none
theorem lstAt_of {i : Nat} {ρ : Env} {ds : List D} (h : lstAt i ρ = some ds) : ρ[i]? = some (some (.list ds)) := by
  unfold lstAt at h
  split at h
  · rename_i ds e; cases h; exact e
  · cases h
def aApp (i : Nat) (f : Ev) : Sv := fun ρ => if isLst i ρ = true then (f ρ).bind fun p => (lstAt i p.1).bind fun ds => if ds.length < 16777216 then some (.nx (p.1.set i (some (.list (ds ++ [p.2]))))) else none else none
theorem ss_app (hM : (M i).own = true) (hv : PE X (.Name x npos) (tVar i)) (he : SE X T M e f) (hp : plainArg e = true) (hl : (apos.endLine == cpos.line) = true) : SS X T M fr (.Expr (.Call (.Attribute (.Name x npos) "append" apos) [e] [] cpos) pos) (aApp i f) := by
  have hm : MtR X "list.append" rAppend := mt_append
  refine PS.imp (ps_expr (PE.ko (pe_bm PySem.F.plainAttrs_list PySem.F.slot_list_append PySem.F.type_list_append hm hv (pa_cons he pa_nil (star_cons hp)) rfl (few_one hp) hl (star_cons hp) rfl)) (sw_false rfl)) fun Dn σ H hw => ?_
  obtain ⟨U, ρ, o, S, hf, q⟩ := hw
  unfold aApp at hf
  split at hf
  · rename_i hi0
    obtain ⟨ds0, h0⟩ := isLst_of hi0
    obtain ⟨⟨ρ1, d⟩, e1, e2⟩ := bind_of hf
    obtain ⟨ds, hds, e2⟩ := bind_of e2
    have hds := lstAt_of hds
    dsimp only at e2 hds
    split at e2
    · rename_i hlen
      cases e2
      obtain ⟨a, xs0, ea, nU, hx0, _⟩ := S.own_lst hM h0
      refine ⟨.ref a, ea, ty_list hx0, U, ρ, ρ1, d, S, e1, fun v H1 S1 st1 r => ?_⟩
      obtain ⟨a', xs, ea', nU', hx, rx⟩ := S1.own_lst hM hds
      rw [ea] at ea'; cases ea'
      refine ⟨a, xs, v, rfl, rfl, hx, by rw [rx.length, sizeLine_eq]; exact hlen, fun ko => ?_⟩
      obtain ⟨S2, st2⟩ := S1.updO hM hds ea hx (rx.append (.cons r .nil)) ko
      exact q σ _ S2 (st1.trans st2)
    · cases e2
  · cases hf
def intOf : D → Option Int
  | .int k => some k
  | _ => none
theorem intOf_of {d : D} {k : Int} (h : intOf d = some k) : d = .int k := by
  cases d <;> first | (cases h; rfl) | cases h
theorem sw_sub {e o b : Expr} {p : Pos} {l : Nat} {env : PySem.Env} : swapsWith e (some (.Subscript o b p)) l env = pure false := by
  cases e <;> rfl
/-- x[b] = e -/
def aPut (i : Nat) (f fi : Ev) : Sv := fun ρ => (f ρ).bind fun p => if isLst i p.1 = true then (fi p.1).bind fun u => (lstAt i u.1).bind fun ds => (intOf u.2).bind fun k => (ixN ds.length k).map fun j => .nx (u.1.set i (some (.list (ds.set j p.2)))) else none
theorem ss_put (hM : (M i).own = true) (hv : PE X (.Name x npos) (tVar i)) (hb : SE X T M b fi) (he : SE X T M e f)
    (ha : ∀ v, assign (.Subscript (.Name x npos) b spos) X.env v = (do
      let ov ← holding [v] (eval (.Name x npos) X.env)
      let iv ← holding [v, ov] (eval b X.env)
      standAt spos
      holding [v, ov, iv] (setItem ov iv v)
      release [v, ov, iv] []) := by intro _; rfl) : SS X T M fr (.Assign [.Subscript (.Name x npos) b spos] e pos) (aPut i f fi) := by
  refine PS.imp (PS.ko (ps_asg he (pg_sub hv hb set_list ha) (sw_sub (o := .Name x npos) (b := b) (p := spos) (l := pos.line) (env := X.env)) (sws_none (by cases e <;> rfl)) (assign_cons rfl))) fun Dn σ H hw => ?_
  obtain ⟨U, ρ, o, S, hf, q⟩ := hw
  obtain ⟨⟨ρ1, d⟩, e1, e2⟩ := bind_of hf
  dsimp only at e2
  split at e2
  · rename_i hi0
    obtain ⟨ds0, h0⟩ := isLst_of hi0
    obtain ⟨⟨ρ2, di⟩, e3, e4⟩ := bind_of e2
    obtain ⟨ds, hds, e4⟩ := bind_of e4
    have hd2 := lstAt_of hds
    dsimp only at e4 hd2
    obtain ⟨k, hk, e4⟩ := bind_of e4
    have hk := intOf_of hk
    subst hk
    obtain ⟨j, hj, e5⟩ := Option.map_eq_some_iff.mp e4
    cases e5
    refine ⟨U, ρ, ρ1, d, S, e1, fun v H1 S1 st1 r => ?_⟩
    obtain ⟨a, xs0, ea, nU, hx0, _⟩ := S1.own_lst hM h0
    refine ⟨.ref a, ea, U, ρ1, ρ2, .int k, S1, e3, fun vi H2 S2 st2 ri => ?_⟩
    cases ri
    obtain ⟨a', xs, ea', nU', hx, rx⟩ := S2.own_lst hM hd2
    rw [ea] at ea'; cases ea'
    refine ⟨a, xs, k, j, rfl, rfl, hx, by rw [rx.length]; exact hj, fun ko => ?_⟩
    obtain ⟨S3, st3⟩ := S2.updO hM hd2 ea hx (rx.set (st2.rp S2 r) j) ko
    exact q σ _ S3 (st1.trans (st2.trans st3))
  · cases e2
/-- x.extend(e), e a new list -/
def aExt (i : Nat) (f : Ev) : Sv := fun ρ => if isLst i ρ = true then (f ρ).bind fun p => (lstAt i p.1).bind fun ds => (lsOf p.2).bind fun es => if ds.length + es.length ≤ 16777216 then some (.nx (p.1.set i (some (.list (ds ++ es))))) else none else none
where lsOf : D → Option (List D)
  | .list es => some es
  | _ => none
theorem lsOf_of {d : D} {es : List D} (h : aExt.lsOf d = some es) : d = .list es := by
  cases d <;> first | (cases h; rfl) | cases h
theorem ss_ext (hM : (M i).own = true) (hv : PE X (.Name x npos) (tVar i)) (he : SF X T M e f) (hp : plainArg e = true) (hl : (apos.endLine == cpos.line) = true) : SS X T M fr (.Expr (.Call (.Attribute (.Name x npos) "extend" apos) [e] [] cpos) pos) (aExt i f) := by
  have hm : MtR X "list.extend" rExtend := mt_extend
  refine PS.imp (ps_expr (PE.ko (pe_bm PySem.F.plainAttrs_list PySem.F.slot_list_extend PySem.F.type_list_extend hm hv (pa_cons he pa_nil (star_cons hp)) rfl (few_one hp) hl (star_cons hp) rfl)) (sw_false rfl)) fun Dn σ H hw => ?_
  obtain ⟨U, ρ, o, S, hf, q⟩ := hw
  unfold aExt at hf
  split at hf
  · rename_i hi0
    obtain ⟨ds0, h0⟩ := isLst_of hi0
    obtain ⟨⟨ρ1, d⟩, e1, e2⟩ := bind_of hf
    obtain ⟨ds, hds, e3⟩ := bind_of e2
    obtain ⟨es, hes, e4⟩ := bind_of e3
    have hes2 := lsOf_of hes
    have hd2 := lstAt_of hds
    dsimp only at e4 hd2 hes2
    subst hes2
    split at e4
    · rename_i hlen
      cases e4
      obtain ⟨a, xs0, ea, nU, hx0, _⟩ := S.own_lst hM h0
      refine ⟨.ref a, ea, ty_list hx0, U, ρ, ρ1, .list es, S, e1, fun b H1 S1 st1 hb c => ?_⟩
      obtain ⟨a', xs, ea', nU', hx, rx⟩ := S1.own_lst hM hd2
      rw [ea] at ea'; cases ea'
      obtain ⟨zs, hz, rz⟩ := c.lst_of
      have S1' := S1.less (U := U) fun b z => .inl z
      refine ⟨a, b, xs, zs, rfl, rfl, hx, hz, by rw [rx.length, rz.length, sizeLine_eq]; exact hlen, fun ko => ?_⟩
      obtain ⟨S2, st2⟩ := S1'.updO hM hd2 ea hx ((rx.append rz).weak fun b z => z.imp_left .inl) ko
      exact q σ _ S2 (st1.trans st2)
    · cases e4
  · cases hf
/-- x op= e of ints -/
def aAug (i : Nat) (g : Int → Int → Int) (C : Int → Int → Bool) (f : Ev) : Sv := fun ρ => (eV i ρ).bind fun u => (intOf u.2).bind fun k => (f ρ).bind fun p => (intOf p.2).bind fun l => if C k l = true then some (.nx (p.1.set i (some (.int (g k l))))) else none
theorem ss_aug {op : Operator} {g : Int → Int → Int} {C : Int → Int → Bool} {Cp : Int → Int → Prop} (hM : M i = .fz) (hN : X.N.Nodup) (hi : X.N[i]? = some x) (hx : Loc X.env.scope x) (ho : OpR X (inplaceOp op) (rI Cp fun i j => .int (g i j))) (hC : ∀ i j, C i j = true → Cp i j) (he : SE X T M e f) (hf : X.fn x = true ∨ X.env.scope.names.lookup x = some .local) :
    SS X T M fr (.AugAssign (.Name x npos) op e pos) (aAug i g C f) := by
  have hip : PIp X op (rI Cp fun i j => .int (g i j)) := fun pins s σ H x y v u Q I r1 r2 h => ho pins s σ H x y v u Q I r1 r2 h
  refine PS.imp (ps_aug hN hi hx he hip hf) fun Dn σ H hw => ?_
  obtain ⟨U, ρ, o, S, hf, q⟩ := hw
  obtain ⟨⟨ρ0, d0⟩, e0, e1⟩ := bind_of hf
  obtain ⟨k, hk, e3⟩ := bind_of e1
  obtain ⟨⟨ρ1, d⟩, e2, e4⟩ := bind_of e3
  obtain ⟨l, hl, e5⟩ := bind_of e4
  obtain ⟨rfl, h0⟩ := eV_of e0
  have hk2 := intOf_of hk
  have hl2 := intOf_of hl
  dsimp only at hk2 hl2 e5
  subst hk2 hl2
  split at e5
  · rename_i hc
    cases e5
    obtain ⟨v0, ev, r0⟩ := S.fz i _ (by rw [hM]; rfl) h0
    cases r0
    refine ⟨.int k, ev, U, _, ρ1, .int l, S, e2, fun v H1 S1 st1 r => ?_⟩
    cases r
    refine ⟨k, l, rfl, rfl, hC _ _ hc, ?_⟩
    obtain ⟨S2, st2⟩ := S1.putF (v := .int (g k l)) (d := .int (g k l)) hM (.int _)
    exact q _ H1 S2 (st1.trans st2)
  · cases e5
end
end Sx
/-! S11: built-ins. -/
namespace Sx
open PySem PySem.Spec PyProof.Rows L2

def lenI : List D → Option D
  | [.list ds] => some (.int ds.length)
  | [.tuple ds] => some (.int ds.length)
  | [.str x] => if x.length ≤ 16777216 then some (.int x.length) else none
  | _ => none
def intI : List D → Option D
  | [.int i] => some (.int i)
  | [.bool b] => some (.int (if b = true then 1 else 0))
  | _ => none
def max2I : List D → Option D
  | [.int i, .int j] => some (.int (if j > i then j else i))
  | _ => none
def min2I : List D → Option D
  | [.int i, .int j] => some (.int (if j < i then j else i))
  | _ => none
/-- tuple(x), list(x) -/
def tupI : List D → Option D
  | [.list ds] => some (.tuple ds)
  | [.tuple ds] => some (.tuple ds)
  | _ => none
def lstI : List D → Option D
  | [.list ds] => some (.list ds)
  | [.tuple ds] => some (.list ds)
  | _ => none
section
variable {T : Tabs} {M : Kds} {K : PySem.W.Frag} {w : World} {U : Addr → Prop} {σ : Sg} {ρ : Env} {H : Hp} {v : V} {d : D}
theorem ru_len : RuE K w T M (fun xs H Q => ∃ x n, xs = [x] ∧ LenV K x H n ∧ Q (.int n) H) lenI := by
  intro σ U H ρ vs ds d Q S pk e q
  unfold lenI at e
  split at e
  · cases e
    obtain ⟨v, rfl, k1⟩ := pks1 pk
    obtain ⟨a, xs, rfl, h2, h3⟩ := k1.lst
    exact ⟨_, xs.length, rfl, .inl ⟨xs, h2, rfl⟩, fun ko => by rw [h3.length]; exact q _ H S .refl (.int _)⟩
  · cases e
    obtain ⟨v, rfl, k1⟩ := pks1 pk
    obtain ⟨a, xs, rfl, h2, h3, _⟩ := k1.tup
    exact ⟨_, xs.length, rfl, .inr ⟨xs, h2, rfl⟩, fun ko => by rw [h3.length]; exact q _ H S .refl (.int _)⟩
  · split at e
    · rename_i x hl
      cases e
      obtain ⟨v, rfl, k1⟩ := pks1 pk
      rw [k1.str]
      exact ⟨_, x.length, rfl, ⟨by rw [sizeLine_eq]; exact hl, rfl⟩, fun ko => q _ H S .refl (.int _)⟩
    · cases e
  · cases e
theorem ru_int : RuE K w T M (fun xs H Q => (∃ i, xs = [.int i] ∧ Q (.int i) H) ∨ ∃ k, xs = [.bl k] ∧ Q (.int (if k then 1 else 0)) H) intI := by
  intro σ U H ρ vs ds d Q S pk e q
  unfold intI at e
  split at e
  · cases e
    obtain ⟨v, rfl, k1⟩ := pks1 pk
    exact .inl ⟨_, by rw [k1.int], fun ko => q _ H S .refl (.int _)⟩
  · cases e
    obtain ⟨v, rfl, k1⟩ := pks1 pk
    exact .inr ⟨_, by rw [k1.bl], fun ko => q _ H S .refl (.int _)⟩
  · cases e
theorem ru_max2 : RuE K w T M (fun xs H Q => ∃ i j, xs = [.int i, .int j] ∧ Q (.int (if j > i then j else i)) H) max2I := by
  intro σ U H ρ vs ds d Q S pk e q
  unfold max2I at e
  split at e
  · cases e
    obtain ⟨v, u, rfl, k1, k2⟩ := pks2 pk
    exact ⟨_, _, by rw [k1.int, k2.int], fun ko => q _ H S .refl (.int _)⟩
  · cases e
theorem ru_min2 : RuE K w T M (fun xs H Q => ∃ i j, xs = [.int i, .int j] ∧ Q (.int (if j < i then j else i)) H) min2I := by
  intro σ U H ρ vs ds d Q S pk e q
  unfold min2I at e
  split at e
  · cases e
    obtain ⟨v, u, rfl, k1, k2⟩ := pks2 pk
    exact ⟨_, _, by rw [k1.int, k2.int], fun ko => q _ H S .refl (.int _)⟩
  · cases e
theorem ru_tup : RuE K w T M (fun xs H Q => ∃ p ys, xs = [.ref p] ∧ ((SqL K H p ys ∧ ∀ l, H l = none → Q (.ref l) (upd H l (.tup ys))) ∨ (SqT K H p ys ∧ Q (.ref p) H))) tupI := by
  intro σ U H ρ vs ds d Q S pk e q
  unfold tupI at e
  split at e
  · cases e
    obtain ⟨v, rfl, k1⟩ := pks1 pk
    obtain ⟨a, xs, rfl, h2, h3⟩ := k1.lst
    refine ⟨a, xs, rfl, .inl ⟨h2, fun l hl ko => ?_⟩⟩
    obtain ⟨S2, r2⟩ := newTup S hl h3 ko
    exact q _ _ S2 (Stp.new hl) r2
  · cases e
    obtain ⟨v, rfl, k1⟩ := pks1 pk
    obtain ⟨a, xs, rfl, h2, h3, r⟩ := k1.tup
    exact ⟨a, xs, rfl, .inr ⟨h2, fun ko => q _ H S .refl r⟩⟩
  · cases e
theorem ru_lst : RuF K w T M (fun xs H Q => ∃ p ys, xs = [.ref p] ∧ (SqL K H p ys ∨ SqT K H p ys) ∧ ∀ l, H l = none → Q (.ref l) (upd H l (.lst ys))) lstI := by
  intro σ U H ρ vs ds d Q S pk e q
  unfold lstI at e
  split at e
  · cases e
    obtain ⟨v, rfl, k1⟩ := pks1 pk
    obtain ⟨a, xs, rfl, h2, h3⟩ := k1.lst
    refine ⟨a, xs, rfl, .inl h2, fun l hl ko => ?_⟩
    obtain ⟨S2, c⟩ := newLst S hl h3 ko
    exact q l _ S2 (Stp.new hl) hl c
  · cases e
    obtain ⟨v, rfl, k1⟩ := pks1 pk
    obtain ⟨a, xs, rfl, h2, h3, _⟩ := k1.tup
    refine ⟨a, xs, rfl, .inr h2, fun l hl ko => ?_⟩
    obtain ⟨S2, c⟩ := newLst S hl h3 ko
    exact q l _ S2 (Stp.new hl) hl c
  · cases e

/-! ### isinstance -/
def tyD : D → Option String
  | .none => some "NoneType"
  | .bool _ => some "bool"
  | .int _ => some "int"
  | .str _ => some "str"
  | .list _ => some "list"
  | .tuple _ => some "tuple"
  | .dict _ => none
theorem Pk.ty {t : String} (h : Pk K w M U σ ρ H v d) (e : tyD d = some t) : TyX K H v (.type t) := by
  rcases h with h | ⟨a, _, rfl, c⟩
  · cases h with
    | non => cases e; exact .base .non
    | bl b => cases e; exact .base (.bl b)
    | int i => cases e; exact .base (.int i)
    | str x => cases e; exact .base (.str x)
    | lst h1 h2 h3 =>
      cases e
      rcases h2 with (h | ⟨o, h⟩) | ⟨o, its, n, k1, k2, _⟩
      · exact .base (.lst h)
      · exact .base (.frz h)
      · exact .kList k1 k2
    | tup h1 h2 h3 =>
      cases e
      rcases h2 with (h | ⟨o, h⟩) | ⟨o, its, n, k1, k2, _⟩
      · exact .base (.tup h)
      · exact .fTuple h
      · exact .kTuple k1 k2
    | dic _ _ _ => cases e
  · rcases c with ⟨xs, ds, rfl, c2, _⟩ | ⟨es, ds, rfl, _, _⟩
    · cases e; exact .base (.lst c2)
    · cases e
end
/-- isinstance(x, T): the table of answers for T -/
def isiI (f : D → Bool) : List D → Option D
  | [d] => match tyD d with
    | some _ => some (.bool (f d))
    | none => none
  | _ => none
def isT : D → Bool
  | .tuple _ => true
  | _ => false
def isL : D → Bool
  | .list _ => true
  | _ => false
def isB : D → Bool
  | .bool _ => true
  | _ => false
def isNu : D → Bool
  | .int _ => true
  | .bool _ => true
  | _ => false
def isS : D → Bool
  | .str _ => true
  | _ => false
structure IsiOk (n : String) (f : D → Bool) : Prop where
  ok : ∀ d t, tyD d = some t → kitB t n = some (f d)
theorem isi_T : IsiOk "tuple" isT := ⟨fun d t e => by cases d <;> cases e <;> dsimp only [isT] <;> decide +kernel⟩
theorem isi_L : IsiOk "list" isL := ⟨fun d t e => by cases d <;> cases e <;> dsimp only [isL] <;> decide +kernel⟩
theorem isi_B : IsiOk "bool" isB := ⟨fun d t e => by cases d <;> cases e <;> dsimp only [isB] <;> decide +kernel⟩
theorem isi_I : IsiOk "int" isNu := ⟨fun d t e => by cases d <;> cases e <;> dsimp only [isNu] <;> decide +kernel⟩
theorem isi_S : IsiOk "str" isS := ⟨fun d t e => by cases d <;> cases e <;> dsimp only [isS] <;> decide +kernel⟩
section
variable {X : Cx} {T : Tabs} {M : Kds} {e c : Expr} {G : Evs → Evs} {p pos : Pos}
theorem s_isi {n : String} {f : D → Bool} (hn : IsiOk n f) (hg : Gl X "isinstance") (hm : X.mg "isinstance" = none) (he : SO X T M e G) (hc : PE X c (tC (.ty n))) (hp : plainArg e = true) (hpc : plainArg c = true) : SE X T M (.Call (.Name "isinstance" p) [e, c] [] pos) (fOp (isiI f) (G gN)) := by
  obtain ⟨te, pe, oe⟩ := he.pe
  refine PE.imp (pe_callB call_isi hg hm boot_isinstance (pa_cons pe (pa_cons hc pa_nil (star_cons hpc)) (star_cons hp)) (by decide) (by decide) (star_cons hp) (star_none (es := [c]) (by simp [hpc]))) fun σ H Q hw => ?_
  obtain ⟨U, ρ, ρ', d, S, hf, q⟩ := hw
  obtain ⟨⟨ρ1, ds⟩, e1, e2⟩ := bind_of hf
  unfold isiI at e2
  split at e2
  · rename_i d0 hd
    dsimp only at hd
    subst hd
    split at e2
    · rename_i t ht
      cases e2
      refine oe tNil gN ops_nil σ H U ρ ρ1 [d0] (fun vs H1 => match vs with
        | [x] => rIsi X.K [x, .ty n] H1 Q
        | _ => False) S e1 fun vs H1 S1 st1 pk => ?_
      obtain ⟨v, rfl, k1⟩ := pks1 pk
      exact ⟨v, .ty n, .type t, .type n, f d0, rfl, .ty n, k1.ty ht, kit_ty (hn.ok _ _ ht), q _ H1 S1 st1 (.bl _)⟩
    · cases e2
  · cases e2
end
end Sx
/-! S12: zip, enumerate. -/
namespace Sx
open PySem PySem.Spec PyProof.Rows L2
def pairsD : List D → List D → List D
  | d :: ds, e :: es => .tuple [d, e] :: pairsD ds es
  | _, _ => []
theorem pairs_len : ∀ (ds es : List D), (pairsD ds es).length = min ds.length es.length
  | [], _ => by simp [pairsD]
  | _ :: _, [] => by simp [pairsD]
  | d :: ds, e :: es => by simp only [pairsD, List.length_cons, pairs_len ds es]; omega
theorem pairs_get : ∀ {ds es : List D} {i : Nat} {d e : D}, ds[i]? = some d → es[i]? = some e → (pairsD ds es)[i]? = some (.tuple [d, e])
  | [], _, _, _, _, h, _ => by simp at h
  | _ :: _, [], _, _, _, _, h => by simp at h
  | d :: ds, e :: es, 0, _, _, h1, h2 => by simp at h1 h2; subst h1 h2; rfl
  | d :: ds, e :: es, i + 1, _, _, h1, h2 => by
    simp at h1 h2
    simp only [pairsD, List.getElem?_cons_succ]
    exact pairs_get h1 h2
section
variable {K : PySem.W.Frag} {w : World} {O : Addr → Prop} {H : Hp} {a b : Addr} {xs ys : List V} {ds es : List D}
theorem itzT_ok (hO : ¬ O a) (hO2 : ¬ O b) (h : SqT K H a xs) (h2 : SqT K H b ys) (r : RpA K w O H xs ds) (r2 : RpA K w O H ys es) : ItOk K w O (RZ.ItzT K a b) (pairsD ds es) H := by
  have l1 := r.length
  have l2 := r2.length
  refine ⟨fun i H2 hi st => ?_, fun i H2 x H3 O' hU hD hi st y ko => ?_, fun H2 st => ⟨xs, ys, sqtStay st hO h, sqtStay st hO2 h2, ?_⟩⟩
  · rw [pairs_len] at hi
    exact ⟨xs, ys, xs[i]'(by omega), ys[i]'(by omega), sqtStay st hO h, sqtStay st hO2 h2, by simp, by simp⟩
  · obtain ⟨T, x1, y1, rfl, hT, rfl, hx, hy⟩ := y
    obtain ⟨d, e1, e2⟩ := (RpA.stay st hU ds xs r).getV (hx xs (sqtStay st hO h))
    obtain ⟨e, e3, e4⟩ := (RpA.stay st hU es ys r2).getV (hy ys (sqtStay st hO2 h2))
    exact ⟨upd_keep hT, .tuple [d, e], pairs_get e1 e3, .tup (fun z => hD T z hT) (.of upd_same) (.cons (e2.grow (upd_keep hT)) (.cons (e4.grow (upd_keep hT)) .nil))⟩
  · rw [pairs_len]
    omega
theorem itz_ok (hO : ¬ O a) (hO2 : ¬ O b) (h : SqL K H a xs) (h2 : SqL K H b ys) (r : RpA K w O H xs ds) (r2 : RpA K w O H ys es) : ItOk K w O (Itz K a b) (pairsD ds es) H := by
  have l1 := r.length
  have l2 := r2.length
  refine ⟨fun i H2 hi st => ?_, fun i H2 x H3 O' hU hD hi st y ko => ?_, fun H2 st => ⟨xs, ys, sqlStay st hO h, sqlStay st hO2 h2, ?_⟩⟩
  · rw [pairs_len] at hi
    exact ⟨xs, ys, xs[i]'(by omega), ys[i]'(by omega), sqlStay st hO h, sqlStay st hO2 h2, by simp, by simp⟩
  · obtain ⟨T, x1, y1, rfl, hT, rfl, hx, hy⟩ := y
    obtain ⟨d, e1, e2⟩ := (RpA.stay st hU ds xs r).getV (hx xs (sqlStay st hO h))
    obtain ⟨e, e3, e4⟩ := (RpA.stay st hU es ys r2).getV (hy ys (sqlStay st hO2 h2))
    exact ⟨upd_keep hT, .tuple [d, e], pairs_get e1 e3, .tup (fun z => hD T z hT) (.of upd_same) (.cons (e2.grow (upd_keep hT)) (.cons (e4.grow (upd_keep hT)) .nil))⟩
  · rw [pairs_len]
    omega
end
/-- zip(a, b): both lists or both tuples -/
def iZip (g : Evs) : Iv := fun ρ => (g ρ).bind fun p => match p.2 with
  | [.list a, .list b] => some (p.1, pairsD a b)
  | [.tuple a, .tuple b] => some (p.1, pairsD a b)
  | _ => none
section
variable {X : Cx} {T : Tabs} {M : Kds} {e e2 : Expr} {g : Evs} {p pos tpos : Pos} {elts : List Expr} {kk : Nat}
theorem si_zip (hg : Gl X "zip") (hm : X.mg "zip" = none) (ha : SA X T M [e, e2] g) (hp : plainArg e = true) (hp2 : plainArg e2 = true) : SI X T M (.Tuple elts kk tpos) (.Call (.Name "zip" p) [e, e2] [] pos) (iZip g) := by
  refine ⟨_, RZ.pi_zipA hg hm ha (star_cons hp) (star_none (es := [e2]) (by simp [hp2])), fun σ H U ρ ρ' ds R S hf q => ?_⟩
  obtain ⟨⟨ρ1, vs⟩, e1, e2⟩ := bind_of hf
  refine ⟨U, ρ, ρ1, vs, S, e1, fun us H1 S1 st1 r => ?_⟩
  dsimp only at e2
  split at e2
  · cases e2
    cases r with
    | cons r1 r =>
      cases r with
      | cons r2 r =>
        cases r
        cases r1 with
        | lst h1 h2 h3 =>
          cases r2 with
          | lst k1 k2 k3 => exact ⟨_, _, _, _, rfl, .inl ⟨h2, k2, q _ H1 S1 st1 (itz_ok h1 k1 h2 k2 h3 k3)⟩⟩
  · cases e2
    cases r with
    | cons r1 r =>
      cases r with
      | cons r2 r =>
        cases r
        cases r1 with
        | tup h1 h2 h3 =>
          cases r2 with
          | tup k1 k2 k3 => exact ⟨_, _, _, _, rfl, .inr ⟨h2, k2, q _ H1 S1 st1 (itzT_ok h1 k1 h2 k2 h3 k3)⟩⟩
  · cases e2
end
end Sx
/-! S13: sorted of a list of data, max and min of sequences, sum. -/
namespace Sx
open PySem PySem.Spec PyProof.Rows L2

/-- the order of data that are alike -/
def dle (a b : D) : Bool := PySem.W.dataLe false id a b
def tupFull : D → Bool
  | .tuple (_ :: _) => true
  | _ => false
def notTup : D → Bool
  | .tuple _ => false
  | .none => false
  | _ => true
def alikeL (ds : List D) : Bool := ds.all fun d => ds.all fun e => PySem.W.alike d e
def sortOk (ds : List D) : Bool := small ds && PyData.plainAll ds && decide (PyData.depthAll ds ≤ 60) && alikeL ds && (ds.all tupFull || ds.all notTup)
theorem depth_mem : ∀ {ds : List D} {d : D}, d ∈ ds → d.depth ≤ PyData.depthAll ds
  | x :: ds, d, h => by
    rw [PyData.depthAll]
    rcases List.mem_cons.mp h with rfl | h
    · omega
    · have := depth_mem h
      omega
section
variable {K : PySem.W.Frag} {w : World} {O : Addr → Prop} {H : Hp} {X : Cx}
theorem each_of : ∀ {xs : List V} {ds : List D} {us : List Value}, RpA K w O H xs ds → Vals xs us → PySem.W.EachIs (fun v d => ∃ x, RelV x v ∧ Rp K w O H x d) us ds
  | _, _, _, .nil, h => by cases h; exact .nil
  | _, _, _, .cons r t, h => by cases h with | cons h1 h2 => exact .cons ⟨_, h1, r⟩ (each_of t h2)
theorem of_each : ∀ {us : List Value} {ds : List D}, PySem.W.EachIs (fun v d => ∃ x, RelV x v ∧ Rp K w O H x d) us ds → ∃ xs, Vals xs us ∧ RpA K w O H xs ds
  | _, _, .nil => ⟨[], .nil, .nil⟩
  | _, _, .cons ⟨x, h1, h2⟩ t => by
    obtain ⟨xs, q1, q2⟩ := of_each t
    exact ⟨x :: xs, .cons h1 q1, .cons h2 q2⟩
theorem reads_each {pins : List (Addr × Obj)} {σ : Sg} {s : Shared} (I : Inv X pins σ H s) : ∀ {xs : List V} {ds : List D} {us : List Value}, PyData.plainAll ds = true → RpA X.K w O H xs ds → Vals xs us → PySem.W.EachIs (fun v d => ∃ as, Reads s.heap v d as) us ds
  | _, _, _, _, .nil, h => by cases h; exact .nil
  | _, _, _, p, .cons r t, h => by
    rw [PyData.plainAll, Bool.and_eq_true] at p
    cases h with
    | cons h1 h2 => exact .cons (Dp.reads I _ _ _ (Rp.dp _ _ p.1 r) h1) (reads_each I p.2 t h2)
end
def rSortD (K : PySem.W.Frag) (w : World) : RV := fun vs H Q => ∃ O a xs ds, vs = [V.ref a] ∧ SqL K H a xs ∧ RpA K w O H xs ds ∧ sortOk ds = true ∧ ∀ p ys, RpA K w O H ys (ds.mergeSort dle) → H p = none → Q (.ref p) (upd H p (.lst ys))
theorem sortOk_of {ds : List D} (h : sortOk ds = true) : small ds = true ∧ PyData.plainAll ds = true ∧ PyData.depthAll ds ≤ 60 ∧ alikeL ds = true ∧ (ds.all tupFull = true ∨ ds.all notTup = true) := by
  unfold sortOk at h
  simp only [Bool.and_eq_true, Bool.or_eq_true] at h
  obtain ⟨⟨⟨⟨h1, h2⟩, h3⟩, h4⟩, h5⟩ := h
  exact ⟨h1, h2, of_decide_eq_true h3, h4, h5⟩
theorem alikeL_of {ds : List D} (h : alikeL ds = true) : PySem.W.AllAlike ds := fun d hd d' hd' => List.all_eq_true.mp (List.all_eq_true.mp h d hd) d' hd'
theorem sortable_of {ds : List D} (h : ds.all tupFull = true ∨ ds.all notTup = true) : PySem.W.Sortable ds := by
  rcases h with h | h
  · refine .inl fun d hd => ?_
    have := List.all_eq_true.mp h d hd
    match d, this with
    | .tuple (x :: r), _ => exact ⟨x, r, rfl⟩
  · refine .inr fun d hd => ?_
    have := List.all_eq_true.mp h d hd
    constructor
    · rintro rfl; cases this
    · rintro xs rfl; cases this
section
variable {X : Cx} {T : Tabs} {M : Kds} {K : PySem.W.Frag} {w : World} {es : List Expr} {e : Expr} {g : Evs} {p pos : Pos}
theorem cr_sortD (hu : X.A.units + 64 < cLine) : CallR X (.builtin "sorted") (rSortD X.K X.w) := by
  intro pins s σ H vs us Q I r h
  obtain ⟨O, a, xs, ds, rfl, hs, ra, hok, q⟩ := h
  obtain ⟨h1, h2, h3, h4, h5⟩ := sortOk_of hok
  obtain ⟨its, rv, hl, hz⟩ := I.list hs
  rw [Vals.ref1 r]
  have em : ds.map id = ds := List.map_id _
  refine PySem.W.sorted_data (enc := id) hl.isList (each_of ra rv) (reads_each I h2 ra rv) (by rw [em]; exact alikeL_of h4) (by rw [em]; exact sortable_of h5) (small_line h1) (fun b hb => ?_) fun out ho eo => ?_
  · have := depth_mem hb
    show X.A.units + 2 + b.depth < cLine
    omega
  · obtain ⟨ys, q1, q2⟩ := of_each eo
    obtain ⟨ep, he'⟩ := PyProof.Rows.sortedAll_at s.heap its out.toArray
    have hlen : ys.length ≤ sizeLine := by
      rw [q2.length, List.length_mergeSort]
      exact small_line h1
    exact ⟨.ref _, upd H (s.heap.objs.size + 1) (.lst ys), I.laid (t' := s.toks) (fun _ _ => PyProof.Rows.sortedAll_old) (Nat.le_succ _) ⟨hlen, out, ep, q1, he'⟩, rfl, q _ ys q2 (I.hok.fresh (Nat.le_succ _))⟩
def sortI : List D → Option D
  | [.list ds] => if sortOk ds = true then some (.list (ds.mergeSort dle)) else none
  | _ => none
theorem ru_sort : RuF K w T M (rSortD K w) sortI := by
  intro σ U H ρ vs ds d Q S pk e q
  unfold sortI at e
  split at e
  · obtain ⟨hk, e⟩ := ite_of e
    cases e
    obtain ⟨v, rfl, k1⟩ := pks1 pk
    obtain ⟨a, xs, rfl, h2, h3⟩ := k1.lst
    refine ⟨Ow M U σ ρ, a, xs, _, rfl, h2, h3, hk, fun p ys r hp ko => ?_⟩
    obtain ⟨S2, c⟩ := newLst S hp r ko
    exact q p _ S2 (Stp.new hp) hp c
  · cases e
/-- sorted(xs) -/
theorem s_sorted (hu : X.A.units + 64 < cLine) (hg : Gl X "sorted") (hm : X.mg "sorted" = none) (ha : SOs X T M [e] g) (hp : plainArg e = true) : SF X T M (.Call (.Name "sorted" p) [e] [] pos) (fOp sortI g) :=
  s_callBF (cr_sortD hu) hg hm rfl ha (by decide) rfl (by simp [hp]) ru_sort
end
end Sx
/-! S14: max, min of one list or tuple of data. -/
namespace Sx
open PySem PySem.Spec PyProof.Rows L2

def noNone : D → Bool
  | .none => false
  | _ => true
def extOk (ds : List D) : Bool := PyData.plainAll ds && decide (PyData.depthAll ds ≤ 60) && alikeL ds && ds.all noNone
theorem extOk_of {ds : List D} (h : extOk ds = true) : PyData.plainAll ds = true ∧ PyData.depthAll ds ≤ 60 ∧ PySem.W.AlikeAll ds := by
  unfold extOk at h
  simp only [Bool.and_eq_true] at h
  obtain ⟨⟨⟨h2, h3⟩, h4⟩, h5⟩ := h
  refine ⟨h2, of_decide_eq_true h3, fun x hx y hy => alikeL_of h4 x hx y hy, ?_⟩
  rintro x hx rfl
  exact absurd (List.all_eq_true.mp h5 _ hx) (by simp [noNone])
/-- which of the two is sought -/
def extD (mx : Bool) (x : D) (xs : List D) : D := if mx = true then PySem.W.maxD x xs else PySem.W.minD x xs
def rExt (K : PySem.W.Frag) (w : World) (mx : Bool) : RV := fun vs H Q => ∃ O a xs d ds, vs = [V.ref a] ∧ (SqL K H a xs ∨ SqT K H a xs) ∧ RpA K w O H xs (d :: ds) ∧ extOk (d :: ds) = true ∧ ∀ v, Rp K w O H v (extD mx d ds) → Q v H
theorem each_get {α β : Type} {R : α → β → Prop} : ∀ {as : List α} {bs : List β} {i : Nat} {b : β}, Paired R as bs → bs[i]? = some b → ∃ a, as[i]? = some a ∧ R a b
  | _, _, _, _, .nil, h => by simp at h
  | _, _, 0, _, .cons r _, h => by simp at h; subst h; exact ⟨_, rfl, r⟩
  | _, _, i + 1, _, .cons _ t, h => by
    obtain ⟨x, q1, q2⟩ := each_get (i := i) t (by simpa using h)
    exact ⟨x, by simpa using q1, q2⟩
section
variable {X : Cx} {T : Tabs} {M : Kds} {K : PySem.W.Frag} {w : World} {es : List Expr} {e : Expr} {g : Evs} {p pos : Pos}
theorem plain_mem : ∀ {ds : List D} {d : D}, PyData.plainAll ds = true → d ∈ ds → d.plain = true
  | x :: ds, d, p, h => by
    rw [PyData.plainAll, Bool.and_eq_true] at p
    rcases List.mem_cons.mp h with rfl | h
    · exact p.1
    · exact plain_mem p.2 h
theorem ext_of {pins : List (Addr × Obj)} {σ : Sg} {H : Hp} {s : Shared} {O : Addr → Prop} {xs : List V} {ds : List D} {its : List Value} {i : Nat} {v : Value} {h' : Heap} {z : D} {bs : List Addr} (I : Inv X pins σ H s) (ra : RpA X.K X.w O H xs ds) (rv : Vals xs its) (hp : PyData.plainAll ds = true) (hv : its[i]? = some v)
    (hr : Reads h' v z bs) (hk : ∀ b o, s.heap.get? b = some o → h'.get? b = some o) : ∃ x, RelV x v ∧ Rp X.K X.w O H x z := by
  obtain ⟨x, e1, r1⟩ := each_get rv hv
  obtain ⟨d, e2, r2⟩ := ra.getV e1
  obtain ⟨as, r3⟩ := Dp.reads I _ _ _ (Rp.dp d x (plain_mem hp (List.mem_of_getElem? e2)) r2) r1
  have := Reads.unique (PyProof.Rows.Reads.keeps hk r3) _ _ hr
  rw [← this.1]
  exact ⟨x, r1, r2⟩
theorem cr_ext (mx : Bool) (hc : X.calm = true) (hu : X.A.units + 64 < cLine) : CallR X (.builtin (if mx = true then "max" else "min")) (rExt X.K X.w mx) := by
  intro pins s σ H vs us Q I r h
  obtain ⟨O, a, xs, d, ds, rfl, hs, ra, hok, q⟩ := h
  obtain ⟨h2, h3, h4⟩ := extOk_of hok
  rw [Vals.ref1 r]
  have hh : X.A.handled = none := I.ok.hd hc
  have hu' : X.A.units + 1 + PyData.depthAll (d :: ds) < cLine := by omega
  rcases hs with hs | hs
  · obtain ⟨its, rv, hl, hz⟩ := I.list hs
    have hdp : DpAll X.K H xs (d :: ds) := RpA.dp _ _ h2 ra
    obtain ⟨as, hr⟩ := Dp.readsAll I _ _ its hdp rv
    cases mx with
    | true =>
      refine PySem.W.max_list_data hh hl.isList hr h4 hu' fun i v h' tk bs hv hr' hk => ?_
      obtain ⟨x, q1, q2⟩ := ext_of I ra rv h2 (by simpa using hv) hr' hk
      exact ⟨x, H, I.kept hk, q1, q x q2⟩
    | false =>
      refine PySem.W.min_list_data hh hl.isList hr h4 hu' fun i v h' tk bs hv hr' hk => ?_
      obtain ⟨x, q1, q2⟩ := ext_of I ra rv h2 (by simpa using hv) hr' hk
      exact ⟨x, H, I.kept hk, q1, q x q2⟩
  · obtain ⟨its, rv, hl, hz⟩ := I.tuple hs
    have hdp : DpAll X.K H xs (d :: ds) := RpA.dp _ _ h2 ra
    obtain ⟨as, hr⟩ := Dp.readsAll I _ _ its hdp rv
    cases mx with
    | true =>
      refine PySem.W.max_tuple_data hh hl hr h4 hu' fun i v h' tk bs hv hr' hk => ?_
      obtain ⟨x, q1, q2⟩ := ext_of I ra rv h2 (by simpa using hv) hr' hk
      exact ⟨x, H, I.kept hk, q1, q x q2⟩
    | false =>
      refine PySem.W.min_tuple_data hh hl hr h4 hu' fun i v h' tk bs hv hr' hk => ?_
      obtain ⟨x, q1, q2⟩ := ext_of I ra rv h2 (by simpa using hv) hr' hk
      exact ⟨x, H, I.kept hk, q1, q x q2⟩
def extI (mx : Bool) : List D → Option D
  | [.list (d :: ds)] => if extOk (d :: ds) = true then some (extD mx d ds) else none
  | [.tuple (d :: ds)] => if extOk (d :: ds) = true then some (extD mx d ds) else none
  | _ => none
theorem ru_ext {mx : Bool} : RuE K w T M (rExt K w mx) (extI mx) := by
  intro σ U H ρ vs ds d Q S pk e q
  unfold extI at e
  split at e
  · obtain ⟨hk, e⟩ := ite_of e
    cases e
    obtain ⟨v, rfl, k1⟩ := pks1 pk
    obtain ⟨a, xs, rfl, h2, h3⟩ := k1.lst
    exact ⟨Ow M U σ ρ, a, xs, _, _, rfl, .inl h2, h3, hk, fun v r ko => q v H S .refl r⟩
  · obtain ⟨hk, e⟩ := ite_of e
    cases e
    obtain ⟨v, rfl, k1⟩ := pks1 pk
    obtain ⟨a, xs, rfl, h2, h3, _⟩ := k1.tup
    exact ⟨Ow M U σ ρ, a, xs, _, _, rfl, .inr h2, h3, hk, fun v r ko => q v H S .refl r⟩
  · cases e
/-- max(xs), min(xs) -/
theorem s_max1 (hc : X.calm = true) (hu : X.A.units + 64 < cLine) (hg : Gl X "max") (hm : X.mg "max" = none) (ha : SOs X T M [e] g) (hp : plainArg e = true) : SE X T M (.Call (.Name "max" p) [e] [] pos) (fOp (extI true) g) :=
  s_callB (cr_ext true hc hu) hg hm rfl ha (by decide) rfl (by simp [hp]) ru_ext
theorem s_min1 (hc : X.calm = true) (hu : X.A.units + 64 < cLine) (hg : Gl X "min") (hm : X.mg "min" = none) (ha : SOs X T M [e] g) (hp : plainArg e = true) : SE X T M (.Call (.Name "min" p) [e] [] pos) (fOp (extI false) g) :=
  s_callB (cr_ext false hc hu) hg hm rfl ha (by decide) rfl (by simp [hp]) ru_ext
end
end Sx
/-! S15: dicts are read: d[k], k in d, len(d). -/
namespace Sx
open PySem PySem.Spec PyProof.Rows L2

/-- keys: ints and texts; tuples -/
def sk : D → Option L2.Key
  | .int i => some (.inl i)
  | .str x => some (.inr x)
  | _ => none
def tk8 (d : D) : Option NestedKey := match nk d with
  | some (.tup ks) => if (NestedKey.tup ks).depth ≤ 8 then some (.tup ks) else none
  | _ => none
def keyed {κ : Type} (f : D → Option κ) : List (D × D) → Option (List (κ × D))
  | [] => some []
  | (k, d) :: r => match f k, keyed f r with
    | some q, some t => some ((q, d) :: t)
    | _, _ => none
def look {κ : Type} [DecidableEq κ] (l : List (κ × D)) (q : κ) : Option D := (l.find? fun p => decide (p.1 = q)).map (·.2)
/-- what the dict holds at the key: none where it is not covered -/
def dkGet (ps : List (D × D)) (k : D) : Option (Option D) := match sk k with
  | some q => (keyed sk ps).bind fun l => if (l.map (·.1)).Nodup then some (look l q) else none
  | none => (tk8 k).bind fun q => (keyed tk8 ps).bind fun l => if (l.map (·.1)).Nodup then some (look l q) else none

theorem nk_num {d : D} {i : Int} (h : sk d = some (.inl i)) : d = .int i := by cases d <;> cases h <;> rfl
theorem nk_txt {d : D} {x : Str} (h : sk d = some (.inr x)) : d = .str x := by cases d <;> cases h <;> rfl
theorem tk8_of {d : D} {q : NestedKey} (h : tk8 d = some q) : nk d = some q ∧ q.depth ≤ 8 ∧ ∃ ds, d = .tuple ds := by
  unfold tk8 at h
  cases e : nk d with
  | none => rw [e] at h; cases h
  | some z =>
    rw [e] at h
    cases z with
    | tup ks =>
      dsimp only at h
      split at h
      · rename_i hd
        cases h
        refine ⟨rfl, hd, ?_⟩
        cases d <;> try cases e
        exact ⟨_, rfl⟩
      · cases h
    | none => cases h
    | num _ => cases h
    | text _ => cases h
section
variable {K : PySem.W.Frag} {w : World} {O : Addr → Prop} {H : Hp} {X : Cx} {pins : List (Addr × Obj)} {σ : Sg} {s : Shared}
theorem keyed_cons {κ : Type} {f : D → Option κ} {k d : D} {r : List (D × D)} {l : List (κ × D)} (h : keyed f ((k, d) :: r) = some l) : ∃ q t, f k = some q ∧ keyed f r = some t ∧ l = (q, d) :: t := by
  unfold keyed at h
  split at h
  · cases h; exact ⟨_, _, by assumption, by assumption, rfl⟩
  · cases h
mutual
theorem Rp.nested (I : Inv X pins σ H s) : ∀ (d : D) (v : V) (u : Value) (q : NestedKey), Rp X.K w O H v d → RelV v u → nk d = some q → NestedIs s.heap q u
  | .none, _, _, _, h, r, e => by cases h; cases e; rw [show _ = Value.none from r]; exact .none
  | .bool b, _, _, _, h, r, e => by cases h; cases e; rw [show _ = Value.bool b from r]; exact .bool rfl
  | .int i, _, _, _, h, r, e => by cases h; cases e; obtain ⟨t, rfl⟩ := r; exact .int i t
  | .str x, _, _, _, h, r, e => by cases h; cases e; obtain ⟨t, rfl⟩ := r; exact .text x t
  | .list ds, _, _, _, _, _, e => by cases e
  | .dict ds, _, _, _, _, _, e => by cases e
  | .tuple ds, _, _, q, h, r, e => by
    cases h with
    | tup hO hs ra =>
      cases r
      obtain ⟨its, rv, ⟨o, ho, hc, n, hd⟩, _⟩ := I.tuple hs
      obtain ⟨ks, e1, e2⟩ := Option.map_eq_some_iff.mp (show (nks ds).map NestedKey.tup = some q from e)
      subst e2
      exact .tup ho hc hd (Rp.nestedAll I ds _ _ ks ra rv e1)
theorem Rp.nestedAll (I : Inv X pins σ H s) : ∀ (ds : List D) (vs : List V) (us : List Value) (qs : List NestedKey), RpA X.K w O H vs ds → Vals vs us → nks ds = some qs → NestedAll s.heap qs us
  | [], _, _, _, h, r, e => by cases h; cases r; cases e; exact .nil
  | d :: ds, _, _, qs, h, r, e => by
    cases h with
    | cons h1 h2 =>
      cases r with
      | cons r1 r2 =>
        unfold nks at e
        split at e
        · rename_i k ks e1 e2
          cases e
          exact .cons (Rp.nested I d _ _ k h1 r1 e1) (Rp.nestedAll I ds _ _ ks h2 r2 e2)
        · cases e
end
theorem raw_of (I : Inv X pins σ H s) {a : Addr} {es : List (Int × V × V)} (h : H a = some (DRaw a es)) : ∃ (o : Obj) (en : Array DictEntry) (ep : Nat), s.heap.get? a = some o ∧ o.ExactDict ∧ o.data = .dict en ep ∧ (a == sysModules) = false ∧
    Paired (fun (p : Int × V × V) (q : DictEntry) => q.hash = p.1 ∧ RelV p.2.1 q.key ∧ RelV p.2.2 q.val) es en.toList := (I.hok a _ h).1
/-- entry by entry, simple keys -/
theorem raw_s : ∀ {ds : List (D × D)} {es : List (Int × V × V)} {en : List DictEntry} {l : List (L2.Key × D)}, RpP K w O H es ds → Paired (fun (p : Int × V × V) (q : DictEntry) => q.hash = p.1 ∧ RelV p.2.1 q.key ∧ RelV p.2.2 q.val) es en → keyed sk ds = some l →
    ∃ vs : List (L2.Key × Value), Pairs (mixKind X.prog w) en vs ∧ (∀ e ∈ en, ∃ k, (mixKind X.prog w).is k e.key = true ∧ e.hash = (mixKind X.prog w).hash k) ∧ vs.map (·.1) = l.map (·.1) ∧ Paired (fun (p : L2.Key × D) (q : L2.Key × Value) => p.1 = q.1 ∧ ∃ x, RelV x q.2 ∧ Rp K w O H x p.2) l vs
  | [], _, _, _, h, r, e => by
    cases h; cases r; cases e
    exact ⟨[], .nil, fun _ h => by simp at h, rfl, .nil⟩
  | (k, d) :: ds, _, _, _, h, r, e => by
    obtain ⟨q, t, e1, e2, rfl⟩ := keyed_cons e
    cases h with
    | @cons hh kv vv es' _ _ _ h0 h1 h2 h3 =>
      cases r with
      | @cons _ en1 _ ens r1 r2 =>
        obtain ⟨vs, p1, p2, p3, p4⟩ := raw_s h3 r2 e2
        obtain ⟨a1, a2, a3⟩ := r1
        have key : (mixKind X.prog w).is q en1.key = true ∧ en1.hash = (mixKind X.prog w).hash q := by
          obtain ⟨z, z1, z2⟩ := h0
          cases q with
          | inl i =>
            have := nk_num e1
            subst this
            cases h1
            cases z1
            exact ⟨kV_is (k := .inl i) a2, by rw [a1]; exact z2⟩
          | inr x =>
            have := nk_txt e1
            subst this
            cases h1
            cases z1
            exact ⟨kV_is (k := .inr x) a2, by rw [a1]; exact z2⟩
        refine ⟨(q, en1.val) :: vs, .cons key.1 rfl p1, fun e he => ?_, by rw [List.map_cons, List.map_cons, p3], .cons ⟨rfl, vv, a3, h2⟩ p4⟩
        rcases List.mem_cons.mp he with rfl | he
        · exact ⟨q, key.1, key.2⟩
        · exact p2 e he
theorem draw_s (I : Inv X pins σ H s) {a : Addr} {es : List (Int × V × V)} {ds : List (D × D)} {l : List (L2.Key × D)} (h : H a = some (DRaw a es)) (r : RpP X.K X.w O H es ds) (hk : keyed sk ds = some l) (nd : (l.map (·.1)).Nodup) :
    ∃ vs, s.heap.DictOf (mixKind X.prog X.w) a vs ∧ (a == sysModules) = false ∧ Paired (fun (p : L2.Key × D) (q : L2.Key × Value) => p.1 = q.1 ∧ ∃ x, RelV x q.2 ∧ Rp X.K X.w O H x p.2) l vs := by
  obtain ⟨o, en, ep, h1, h2, h3, h4, h5⟩ := raw_of I h
  obtain ⟨vs, p1, p2, p3, p4⟩ := raw_s (X := X) r h5 hk
  exact ⟨vs, ⟨o, en, ep, h1, h2, h3, fun e he => p2 e (by simpa using he), p1, by rw [p3]; exact nd⟩, h4, p4⟩
/-- entry by entry, tuples -/
theorem raw_t (I : Inv X pins σ H s) : ∀ {ds : List (D × D)} {es : List (Int × V × V)} {en : List DictEntry} {l : List (NestedKey × D)}, RpP X.K X.w O H es ds → Paired (fun (p : Int × V × V) (q : DictEntry) => q.hash = p.1 ∧ RelV p.2.1 q.key ∧ RelV p.2.2 q.val) es en → keyed tk8 ds = some l →
    ∃ xs : List (NestedKey × Addr × Value), en = xs.map (entryOfKey (nestedKind X.prog X.w)) ∧ (∀ x ∈ xs, (nestedKind X.prog X.w).is s.heap x.1 x.2.1) ∧ xs.map (·.1) = l.map (·.1) ∧ Paired (fun (p : NestedKey × D) (q : NestedKey × Addr × Value) => p.1 = q.1 ∧ ∃ x, RelV x q.2.2 ∧ Rp X.K X.w O H x p.2) l xs
  | [], _, _, _, h, r, e => by
    cases h; cases r; cases e
    exact ⟨[], rfl, fun _ h => by simp at h, rfl, .nil⟩
  | (k, d) :: ds, _, _, _, h, r, e => by
    obtain ⟨q, t, e1, e2, rfl⟩ := keyed_cons e
    obtain ⟨q1, q2, ts, rfl⟩ := tk8_of e1
    cases h with
    | @cons hh kv vv es' _ _ _ h0 h1 h2 h3 =>
      cases r with
      | @cons _ en1 _ ens r1 r2 =>
        obtain ⟨vs, p1, p2, p3, p4⟩ := raw_t I h3 r2 e2
        obtain ⟨a1, a2, a3⟩ := r1
        have nt := Rp.nested I _ _ _ q h1 a2 q1
        obtain ⟨z, z1, z2⟩ := h0
        rw [q1] at z1
        cases z1
        obtain ⟨b, hb⟩ : ∃ b, en1.key = .ref b := by
          cases h1 with
          | tup _ _ _ => exact ⟨_, a2⟩
        rw [hb] at nt
        refine ⟨(q, b, en1.val) :: vs, ?_, fun e he => ?_, by rw [List.map_cons, List.map_cons, p3], .cons ⟨rfl, vv, a3, h2⟩ p4⟩
        · rw [List.map_cons, ← p1]
          congr 1
          obtain ⟨x1, x2, x3⟩ := en1
          cases hb
          cases a1
          rw [z2]
          rfl
        · rcases List.mem_cons.mp he with rfl | he
          · exact ⟨nt, q2⟩
          · exact p2 e he
theorem draw_t (I : Inv X pins σ H s) {a : Addr} {es : List (Int × V × V)} {ds : List (D × D)} {l : List (NestedKey × D)} (h : H a = some (DRaw a es)) (r : RpP X.K X.w O H es ds) (hk : keyed tk8 ds = some l) (nd : (l.map (·.1)).Nodup) :
    ∃ xs, s.heap.DictOfH (nestedKind X.prog X.w) a xs ∧ (a == sysModules) = false ∧ Paired (fun (p : NestedKey × D) (q : NestedKey × Addr × Value) => p.1 = q.1 ∧ ∃ x, RelV x q.2.2 ∧ Rp X.K X.w O H x p.2) l xs := by
  obtain ⟨o, en, ep, h1, h2, h3, h4, h5⟩ := raw_of I h
  obtain ⟨xs, p1, p2, p3, p4⟩ := raw_t I r h5 hk
  exact ⟨xs, ⟨o, en, ep, h1, h2, h3, p1, p2, by rw [p3]; exact nd⟩, h4, p4⟩
theorem look_s {l : List (L2.Key × D)} {vs : List (L2.Key × Value)} {q : L2.Key} (p : Paired (fun (p : L2.Key × D) (q : L2.Key × Value) => p.1 = q.1 ∧ ∃ x, RelV x q.2 ∧ Rp K w O H x p.2) l vs) :
    match look l q with
    | some d => ∃ u x, valueAt vs q = some u ∧ RelV x u ∧ Rp K w O H x d
    | none => valueAt vs q = none := by
  induction p with
  | nil => rfl
  | @cons a b l vs h t ih =>
    obtain ⟨e, x, h1, h2⟩ := h
    unfold look valueAt at ih ⊢
    by_cases hq : a.1 = q
    · have hb : b.1 = q := by rw [← e]; exact hq
      simp only [List.find?_cons, hq, hb, decide_true, Option.map_some]
      exact ⟨b.2, x, rfl, h1, h2⟩
    · have hb : ¬ b.1 = q := by rw [← e]; exact hq
      simp only [List.find?_cons, hq, hb, decide_false]
      exact ih
theorem look_t {l : List (NestedKey × D)} {vs : List (NestedKey × Addr × Value)} {q : NestedKey} (p : Paired (fun (p : NestedKey × D) (q : NestedKey × Addr × Value) => p.1 = q.1 ∧ ∃ x, RelV x q.2.2 ∧ Rp K w O H x p.2) l vs) :
    match look l q with
    | some d => ∃ u x, atKey vs q = some u ∧ RelV x u.2 ∧ Rp K w O H x d
    | none => atKey vs q = none := by
  induction p with
  | nil => rfl
  | @cons a b l vs h t ih =>
    obtain ⟨e, x, h1, h2⟩ := h
    unfold look atKey at ih ⊢
    by_cases hq : a.1 = q
    · have hb : b.1 = q := by rw [← e]; exact hq
      simp only [List.find?_cons, hq, hb, decide_true, Option.map_some]
      exact ⟨b.2, x, rfl, h1, h2⟩
    · have hb : ¬ b.1 = q := by rw [← e]; exact hq
      simp only [List.find?_cons, hq, hb, decide_false]
      exact ih
end
section
variable {X : Cx} {T : Tabs} {M : Kds} {K : PySem.W.Frag} {w : World}
def rDAt (K : PySem.W.Frag) (w : World) (P : (Addr → Prop) → Option D → Hp → Prop) : V → V → Hp → Prop := fun x y H => ∃ O a es ds k r, x = .ref a ∧ H a = some (DRaw a es) ∧ RpP K w O H es ds ∧ Rp K w O H y k ∧ dkGet ds k = some r ∧ P O r H
def rDIx (K : PySem.W.Frag) (w : World) : R2 := fun x y H Q => rDAt K w (fun O r H => ∃ d, r = some d ∧ ∀ v, Rp K w O H v d → Q v H) x y H
def rDIn (K : PySem.W.Frag) (w : World) : R2 := fun y x H Q => rDAt K w (fun _ r H => Q (.bl r.isSome) H) x y H
def rDNi (K : PySem.W.Frag) (w : World) : R2 := fun y x H Q => rDAt K w (fun _ r H => Q (.bl (!r.isSome)) H) x y H
/-- both kinds of keys -/
theorem dkGet_of {ps : List (D × D)} {k : D} {r : Option D} (h : dkGet ps k = some r) : (∃ q l, sk k = some q ∧ keyed sk ps = some l ∧ (l.map (·.1)).Nodup ∧ r = look l q) ∨ ∃ q l, tk8 k = some q ∧ keyed tk8 ps = some l ∧ (l.map (·.1)).Nodup ∧ r = look l q := by
  unfold dkGet at h
  split at h
  · rename_i q e
    obtain ⟨l, e1, e2⟩ := bind_of h
    split at e2
    · rename_i nd
      cases e2
      exact .inl ⟨q, l, e, e1, nd, rfl⟩
    · cases e2
  · obtain ⟨q, e, h⟩ := bind_of h
    obtain ⟨l, e1, e2⟩ := bind_of h
    split at e2
    · rename_i nd
      cases e2
      exact .inr ⟨q, l, e, e1, nd, rfl⟩
    · cases e2
theorem key_s {O : Addr → Prop} {H : Hp} {y : V} {u : Value} {k : D} {q : L2.Key} {P : Program} (h : Rp K w O H y k) (r : RelV y u) (e : sk k = some q) : (mixKind P w).is q u = true := by
  cases q with
  | inl i => have := nk_num e; subst this; cases h; exact kV_is (k := .inl i) r
  | inr x => have := nk_txt e; subst this; cases h; exact kV_is (k := .inr x) r
theorem key_t {pins : List (Addr × Obj)} {σ : Sg} {s : Shared} {O : Addr → Prop} {H : Hp} {y : V} {u : Value} {k : D} {q : NestedKey} (I : Inv X pins σ H s) (h : Rp X.K X.w O H y k) (r : RelV y u) (e : tk8 k = some q) : ∃ b, u = .ref b ∧ (nestedKind X.prog X.w).is s.heap q b := by
  obtain ⟨q1, q2, ts, rfl⟩ := tk8_of e
  have nt := Rp.nested I _ _ _ q h r q1
  cases h with
  | tup _ _ _ => cases r; exact ⟨_, rfl, nt, q2⟩
theorem room8 (hu : X.A.units + 64 < cLine) : (nestedKind X.prog X.w).room X.A.in1 := by
  show X.A.units + 1 + 8 < cLine
  omega
theorem ix_dictD (hu : X.A.units + 64 < cLine) : IxR X (rDIx X.K X.w) := by
  intro value slice pins s σ H x y v u Q I rx ry h hs
  obtain ⟨O, a, es, ds, k, r, rfl, ha, rp, rk, hd, d, rfl, q⟩ := h
  obtain rfl : v = Value.ref a := rx
  rcases dkGet_of hd with ⟨qk, l, e1, e2, nd, e3⟩ | ⟨qk, l, e1, e2, nd, e3⟩
  · obtain ⟨vs, dd, _, pr⟩ := draw_s I ha rp e2 nd
    have z := look_s (q := qk) pr
    rw [← e3] at z
    obtain ⟨u', x', z1, z2, z3⟩ := z
    exact tail_any dd.typeIs slot_dict_getitem.lookup (wpAny_getItem_of (key_s rk ry e1) dd.mapOf z1 ⟨x', H, I.tok _, z2, q x' z3⟩) hs
  · obtain ⟨vs, dd, _, pr⟩ := draw_t I ha rp e2 nd
    have z := look_t (q := qk) pr
    rw [← e3] at z
    obtain ⟨u', x', z1, z2, z3⟩ := z
    obtain ⟨b, rfl, kb⟩ := key_t I rk ry e1
    exact tail_any dd.typeIs slot_dict_getitem.lookup (wpAny_getItem_heap (room8 hu) kb dd z1 ⟨x', H, I.tok _, z2, q x' z3⟩) hs
theorem op_dictIn (hu : X.A.units + 64 < cLine) : OpR X (compareOp .In) (rDIn X.K X.w) := by
  intro pins s σ H y x u v Q I ry rx h
  obtain ⟨O, a, es, ds, k, r, rfl, ha, rp, rk, hd, q⟩ := h
  obtain rfl : v = Value.ref a := rx
  rcases dkGet_of hd with ⟨qk, l, e1, e2, nd, e3⟩ | ⟨qk, l, e1, e2, nd, e3⟩
  · obtain ⟨vs, dd, hsm, pr⟩ := draw_s I ha rp e2 nd
    have z := look_s (q := qk) pr
    rw [← e3] at z
    refine wpAny_in_of (key_s rk ry e1) hsm dd.mapOf ⟨.bl r.isSome, H, I.tok _, ?_, q⟩
    cases r with
    | none => rw [z]; rfl
    | some d => obtain ⟨u', x', z1, _⟩ := z; rw [z1]; rfl
  · obtain ⟨vs, dd, hsm, pr⟩ := draw_t I ha rp e2 nd
    have z := look_t (q := qk) pr
    rw [← e3] at z
    obtain ⟨b, rfl, kb⟩ := key_t I rk ry e1
    refine wpAny_in_heap (room8 hu) kb hsm dd ⟨.bl r.isSome, H, I.tok _, ?_, q⟩
    cases r with
    | none => rw [z]; rfl
    | some d => obtain ⟨u', x', z1, _⟩ := z; rw [z1]; rfl
theorem op_dictNi (hu : X.A.units + 64 < cLine) : OpR X (compareOp .NotIn) (rDNi X.K X.w) := by
  intro pins s σ H y x u v Q I ry rx h
  obtain ⟨O, a, es, ds, k, r, rfl, ha, rp, rk, hd, q⟩ := h
  obtain rfl : v = Value.ref a := rx
  rcases dkGet_of hd with ⟨qk, l, e1, e2, nd, e3⟩ | ⟨qk, l, e1, e2, nd, e3⟩
  · obtain ⟨vs, dd, hsm, pr⟩ := draw_s I ha rp e2 nd
    have z := look_s (q := qk) pr
    rw [← e3] at z
    refine wpAny_notIn_of (key_s rk ry e1) hsm dd.mapOf ⟨.bl (!r.isSome), H, I.tok _, ?_, q⟩
    cases r with
    | none => rw [z]; rfl
    | some d => obtain ⟨u', x', z1, _⟩ := z; rw [z1]; rfl
  · obtain ⟨vs, dd, hsm, pr⟩ := draw_t I ha rp e2 nd
    have z := look_t (q := qk) pr
    rw [← e3] at z
    obtain ⟨b, rfl, kb⟩ := key_t I rk ry e1
    refine wpAny_notIn_heap (room8 hu) kb hsm dd ⟨.bl (!r.isSome), H, I.tok _, ?_, q⟩
    cases r with
    | none => rw [z]; rfl
    | some d => obtain ⟨u', x', z1, _⟩ := z; rw [z1]; rfl
/-! ### with the readings of S4 -/
theorem RuE.or2 {r r' : R2} {sem sem' : List D → Option D} (h : RuE K w T M (r2L r) sem) (h' : RuE K w T M (r2L r') sem') : RuE K w T M (r2L fun x y H Q => r x y H Q ∨ r' x y H Q) (fun ds => (sem ds).or (sem' ds)) := by
  intro σ U H ρ vs ds d Q S pk e q
  cases e1 : sem ds with
  | some d1 =>
    dsimp only at e
    rw [e1] at e
    cases e
    have z := h σ U H ρ vs ds d Q S pk e1 q
    match vs, z with
    | [x, y], z => exact .inl z
  | none =>
    dsimp only at e
    rw [e1] at e
    have z := h' σ U H ρ vs ds d Q S pk e q
    match vs, z with
    | [x, y], z => exact .inr z
theorem Pk.dicR {U : Addr → Prop} {σ : Sg} {ρ : Env} {H : Hp} {v : V} {ds : List (D × D)} (h : Pk K w M U σ ρ H v (.dict ds)) : ∃ a es, v = .ref a ∧ H a = some (DRaw a es) ∧ RpP K w (Ow M U σ ρ) H es ds := by
  rcases h with h | ⟨a, _, rfl, c⟩
  · cases h with
    | dic h1 h2 h3 => exact ⟨_, _, rfl, h2, h3⟩
  · rcases c with ⟨xs, _, e, _, _⟩ | ⟨es, _, e, h2, h3⟩
    · cases e
    · cases e; exact ⟨a, es, rfl, h2, h3⟩
theorem dkGet_key {ps : List (D × D)} {k : D} {r : Option D} (h : dkGet ps k = some r) : (∀ x, k ≠ .list x) ∧ ∀ x, k ≠ .dict x := by
  rcases dkGet_of h with ⟨q, l, e, _⟩ | ⟨q, l, e, _⟩
  · constructor <;> rintro x rfl <;> cases e
  · obtain ⟨_, _, ts, rfl⟩ := tk8_of e
    constructor <;> rintro x z <;> cases z
theorem Pk.frz {U : Addr → Prop} {σ : Sg} {ρ : Env} {H : Hp} {v : V} {k : D} (h : Pk K w M U σ ρ H v k) (n : (∀ x, k ≠ .list x) ∧ ∀ x, k ≠ .dict x) : Rp K w (Ow M U σ ρ) H v k := by
  rcases h with h | ⟨a, _, rfl, ⟨_, _, e, _, _⟩ | ⟨_, _, e, _, _⟩⟩
  · exact h
  · exact absurd e (n.1 _)
  · exact absurd e (n.2 _)
def dixI : List D → Option D
  | [.dict ps, k] => (dkGet ps k).join
  | _ => none
def dinI : List D → Option D
  | [k, .dict ps] => (dkGet ps k).map fun r => .bool r.isSome
  | _ => none
def dniI : List D → Option D
  | [k, .dict ps] => (dkGet ps k).map fun r => .bool (!r.isSome)
  | _ => none
theorem ru_dix : RuE K w T M (r2L (rDIx K w)) dixI := by
  intro σ U H ρ vs ds d Q S pk e q
  unfold dixI at e
  split at e
  · rename_i ps k
    obtain ⟨v, u, rfl, k1, k2⟩ := pks2 pk
    obtain ⟨a, es, rfl, h2, h3⟩ := k1.dicR
    cases e2 : dkGet ps k with
    | none => rw [e2] at e; cases e
    | some r =>
      rw [e2] at e
      exact ⟨Ow M U σ ρ, a, es, ps, k, r, rfl, h2, h3, k2.frz (dkGet_key e2), e2, d, e, fun v r ko => q v H S .refl r⟩
  · cases e
theorem ru_din : RuE K w T M (r2L (rDIn K w)) dinI := by
  intro σ U H ρ vs ds d Q S pk e q
  unfold dinI at e
  split at e
  · rename_i k ps
    obtain ⟨v, u, rfl, k1, k2⟩ := pks2 pk
    obtain ⟨a, es, rfl, h2, h3⟩ := k2.dicR
    obtain ⟨r, e2, e3⟩ := Option.map_eq_some_iff.mp e
    subst e3
    exact ⟨Ow M U σ ρ, a, es, ps, k, r, rfl, h2, h3, k1.frz (dkGet_key e2), e2, fun ko => q _ H S .refl (.bl _)⟩
  · cases e
theorem ru_dni : RuE K w T M (r2L (rDNi K w)) dniI := by
  intro σ U H ρ vs ds d Q S pk e q
  unfold dniI at e
  split at e
  · rename_i k ps
    obtain ⟨v, u, rfl, k1, k2⟩ := pks2 pk
    obtain ⟨a, es, rfl, h2, h3⟩ := k2.dicR
    obtain ⟨r, e2, e3⟩ := Option.map_eq_some_iff.mp e
    subst e3
    exact ⟨Ow M U σ ρ, a, es, ps, k, r, rfl, h2, h3, k1.frz (dkGet_key e2), e2, fun ko => q _ H S .refl (.bl _)⟩
  · cases e
/-- a[b], a in b, a not in b -/
def ixA (ds : List D) : Option D := (ixI ds).or (dixI ds)
def inA (ds : List D) : Option D := (inI ds).or (dinI ds)
def niA (ds : List D) : Option D := (niI ds).or (dniI ds)
theorem ix_A (hu : X.A.units + 64 < cLine) : IxR X (fun x y H Q => rIx X.K x y H Q ∨ rDIx X.K X.w x y H Q) := ix_seq.or (ix_dictD hu)
theorem op_inA (hu : X.A.units + 64 < cLine) : OpR X (compareOp .In) (fun x y H Q => rIn2 X.K x y H Q ∨ rDIn X.K X.w x y H Q) := (op_in2 hu).or (op_dictIn hu)
theorem op_niA (hu : X.A.units + 64 < cLine) : OpR X (compareOp .NotIn) (fun x y H Q => rNi2 X.K x y H Q ∨ rDNi X.K X.w x y H Q) := (op_ni2 hu).or (op_dictNi hu)
theorem ru_ixA : RuE K w T M (r2L fun x y H Q => rIx K x y H Q ∨ rDIx K w x y H Q) ixA := RuE.or2 ru_ix ru_dix
theorem ru_inA : RuE K w T M (r2L fun x y H Q => rIn2 K x y H Q ∨ rDIn K w x y H Q) inA := RuE.or2 ru_in ru_din
theorem ru_niA : RuE K w T M (r2L fun x y H Q => rNi2 K x y H Q ∨ rDNi K w x y H Q) niA := RuE.or2 ru_ni ru_dni
end
end Sx
/-! S16: dict comprehensions of one clause, keys ints and texts. -/
namespace Sx
open PySem PySem.Spec PyProof.Rows L2

def kD : L2.Key → D
  | .inl i => .int i
  | .inr x => .str x
def putL {κ : Type} [DecidableEq κ] (l : List (κ × D)) (k : κ) (d : D) : List (κ × D) :=
  if (l.any fun kv => decide (kv.1 = k)) = true then l.map (fun kv => if kv.1 = k then (kv.1, d) else kv) else l ++ [(k, d)]
def toPs (l : List (L2.Key × D)) : List (D × D) := l.map fun p => (kD p.1, p.2)
abbrev Gt2 := D → Env → Option (Env × Option (L2.Key × D))
def gTurn2 (G : Gv) (h : Tv) (fk fv : Ev) : Gt2 := fun d ρ => (G d ρ).bind fun ρ1 => (h ρ1).bind fun p => if p.2 = true then (fk p.1).bind fun q => (sk q.2).bind fun k => (fv q.1).map fun r => (r.1, some (k, r.2)) else some (p.1, none)
def dcL (vs : List Nat) (t : Gt2) : List D → Env → List (L2.Key × D) → Option (Env × List (L2.Key × D))
  | [], ρ, acc => some (ρ, acc)
  | d :: ds, ρ, acc => (t d ρ).bind fun p => match p.2 with
    | none => dcL vs t ds (wipeD p.1 vs) acc
    | some z => if acc.length < 16777216 then dcL vs t ds (wipeD p.1 vs) (putL acc z.1 z.2) else none
def eDc (gi : Iv) (t : Gt2) (vs : List Nat) : Ev := fun ρ => (gi ρ).bind fun p => (dcL vs t p.2 (wipeD p.1 vs) []).map fun q => (backD p.1 vs q.1, .dict (toPs q.2))
/-- the raw entries of a dict with simple keys -/
def rawOf (w : World) (kvs : List (L2.Key × V)) : List (Int × V × V) := kvs.map fun p => (keyH w p.1, kV p.1, p.2)
section
variable {X : Cx} {pins : List (Addr × Obj)} {σ : Sg} {H : Hp} {s : Shared} {D : Addr} {kvs : List (L2.Key × V)} {e : Expr} {t : TE}
theorem entries_of {P : Program} {w : World} : ∀ {en : List DictEntry} {vs : List (L2.Key × Value)} {kvs : List (L2.Key × V)}, Pairs (mixKind P w) en vs → (∀ e ∈ en, ∃ k, (mixKind P w).is k e.key = true ∧ e.hash = (mixKind P w).hash k) → KV kvs vs →
    Paired (fun (p : Int × V × V) (q : DictEntry) => q.hash = p.1 ∧ RelV p.2.1 q.key ∧ RelV p.2.2 q.val) (rawOf w kvs) en
  | _, _, _, .nil, _, h => by cases h; exact .nil
  | _, _, _, .cons h1 h2 h3, hk, h => by
    cases h with
    | @cons a b as bs h t =>
      obtain ⟨e1, r⟩ := h
      refine .cons ⟨?_, ?_, ?_⟩ (entries_of h3 (fun e he => hk e (List.mem_cons_of_mem _ he)) t)
      · obtain ⟨k, k1, k2⟩ := hk _ List.mem_cons_self
        show _ = keyH w a.1
        rw [k2, e1, (mixKind P w).inj _ _ _ k1 h1]
        rfl
      · show RelV (kV a.1) _
        rw [e1]
        rcases keyIs_shape h1 with ⟨i, t, e2, e3⟩ | ⟨x, t, e2, e3⟩
        · rw [e2, e3]; exact ⟨t, rfl⟩
        · rw [e2, e3]; exact ⟨t, rfl⟩
      · rw [h2]; exact r
theorem inv_draw (I : Inv X pins σ H s) (h : H D = some (.dK kvs)) : Inv X pins σ (upd H D (DRaw D (rawOf X.w kvs))) s := by
  obtain ⟨z, hd, vs, rel, o, es, ep, h1, h2, h3, h4, h5, h6⟩ := dk_of I.hok h
  have q := d_write (h' := s.heap) (t' := s.toks) (ob := DRaw D (rawOf X.w kvs)) I (by rw [h]; exact True.intro) ⟨rfl, fun _ _ => rfl⟩ ⟨o, h1⟩ ⟨⟨o, es, ep, h1, h2, h3, hd, ?_⟩, ⟨o, h1⟩, ?_⟩
  · exact q
  · exact entries_of h5 (fun e he => h4 e (by simpa using he)) rel
  · rintro g1 g2 ⟨o', en', ep', a1, a2⟩ k
    exact ⟨o', en', ep', k _ a1, a2⟩
theorem PE.draw (he : PE X e t) : PE X e (fun σ H Q => t σ H fun v H' => ∃ D kvs, v = .ref D ∧ H' D = some (.dK kvs) ∧ (KO X.K (upd H' D (DRaw D (rawOf X.w kvs))) → Q v (upd H' D (DRaw D (rawOf X.w kvs))))) := ⟨fun pins s σ H Q I hw =>
  thn (he.run pins s σ H _ I hw) fun v s' ⟨x, H', I', r, D, kvs, e1, e2, q⟩ => ⟨x, _, inv_draw I' e2, r, q (Inv.ko (inv_draw I' e2))⟩⟩
end
section
variable {K : PySem.W.Frag} {w : World} {T : Tabs} {M : Kds} {U : Addr → Prop} {σ σ' : Sg} {ρ ρ1 ρ2 ρi : Env} {H H1 H2 : Hp} {vs : List Nat} {wi : TI} {gi : Iv} {G : Gv} {h : Tv} {fk fv : Ev} {ds : List D} {D : Addr} {o : HO}
theorem TabT.updK {xs ys : List (L2.Key × V)} (e : H D = some (.dK xs)) : ∀ {n : Nat} {P : Addr}, TabT n H P → TabT n (upd H D o) P
  | 0, P, ⟨ps, q, t⟩ => ⟨ps, by rw [upd_ne (fun z => by rw [z, e] at q; cases q)]; exact q, t⟩
  | n + 1, P, ⟨ps, q, t, r⟩ => ⟨ps, by rw [upd_ne (fun z => by rw [z, e] at q; cases q)]; exact q, t, fun pos cv hc => by
    obtain ⟨c', P', e1, e2, e3⟩ := r pos cv hc
    exact ⟨c', P', e1, by rw [upd_ne (fun z => by rw [z, e] at e2; cases e2)]; exact e2, TabT.updK (ys := ys) e e3⟩⟩
theorem TabOk.updK {xs : List (L2.Key × V)} (e : H D = some (.dK xs)) (t : TabOk T H) : TabOk T (upd H D o) := fun q hq => ⟨fun n => TabT.updK (ys := xs) e ((t q hq).1 n), fun z => by
  have := (t q hq).2 z
  rw [upd_ne (fun y => by rw [y, e] at this; cases this)]; exact this⟩
theorem nO_upd : ∀ b o', H b = some o' → ¬ Ow M (plus U D) σ ρ b → (∀ ps, o' ≠ .tbl ps) → upd H D o b = some o' := fun b o' eb n _ => by
  rw [upd_ne (fun z => n (.inl (.inr z)))]; exact eb
/-- the untouchable object changes -/
theorem Sim.updU (S : Sim K w T M (plus U D) σ H ρ) (ht : TabOk T (upd H D o)) (ko : KO K (upd H D o)) : Sim K w T M (plus U D) σ (upd H D o) ρ := by
  refine ⟨S.len, fun i x h1 h2 => ?_, fun i x h1 h2 => ?_, S.ap, fun b z => ?_, ht, ko⟩
  · obtain ⟨v, q1, q2⟩ := S.fz i x h1 h2
    exact ⟨v, q1, Rp.stay nO_upd (fun b z => .inl z) _ _ q2⟩
  · obtain ⟨a, q1, q2, c⟩ := S.ow i x h1 h2
    refine ⟨a, q1, q2, ?_⟩
    have ha : a ≠ D := fun z => by subst z; exact S.own_ne ⟨_, _, h1, h2, q1⟩
    rcases c with ⟨xs, ds, c1, c2, c3⟩ | ⟨es, ds, c1, c2, c3⟩
    · exact .inl ⟨xs, ds, c1, by rw [upd_ne ha]; exact c2, RpA.stay nO_upd (fun b z => .inl z) _ _ c3⟩
    · exact .inr ⟨es, ds, c1, by rw [upd_ne ha]; exact c2, RpP.stay nO_upd (fun b z => .inl z) _ _ c3⟩
  · by_cases hb : b = D
    · rw [hb]; exact upd_some
    · rw [upd_ne hb]; exact S.un b z
theorem Stp.updU (st : Stp M σ ρ1 H1 σ' ρi H) (nD : H1 D = none) : Stp M σ ρ1 H1 σ' ρi (upd H D o) := ⟨fun b o' eb n t => by
    rw [upd_ne (ne_of_none eb nD)]
    exact st.same b o' eb n t, st.mine, fun b z => by
    rw [upd_ne (show b ≠ D from fun y => z (by rw [y]; exact nD))]
    exact st.dom b z, st.lent⟩
/-- the dict that is made, and what it stands for -/
abbrev KVR (K : PySem.W.Frag) (w : World) (O : Addr → Prop) (H : Hp) : List (L2.Key × V) → List (L2.Key × PyData) → Prop := Paired fun p q => p.1 = q.1 ∧ Rp K w O H p.2 q.2
theorem KVR.any {O : Addr → Prop} {a : List (L2.Key × V)} {b : List (L2.Key × PyData)} (r : KVR K w O H a b) (k : L2.Key) : (a.any fun kv => decide (kv.1 = k)) = b.any fun kv => decide (kv.1 = k) := by
  induction r with
  | nil => rfl
  | cons h t ih => rw [List.any_cons, List.any_cons, ih, h.1]
theorem KVR.put1 {O : Addr → Prop} (k : L2.Key) {y : V} {d : PyData} (ry : Rp K w O H y d) : ∀ {a : List (L2.Key × V)} {b : List (L2.Key × PyData)}, KVR K w O H a b → KVR K w O H (a.map fun kv => if kv.1 = k then (kv.1, y) else kv) (b.map fun kv => if kv.1 = k then (kv.1, d) else kv)
  | _, _, .nil => .nil
  | p :: l, q :: m, .cons h t => by
    refine .cons ?_ (KVR.put1 k ry t)
    dsimp only
    by_cases hk : p.1 = k
    · rw [if_pos hk, if_pos (by rw [← h.1]; exact hk)]; exact ⟨h.1, ry⟩
    · rw [if_neg hk, if_neg (by rw [← h.1]; exact hk)]; exact h
theorem KVR.put2 {O : Addr → Prop} (k : L2.Key) {y : V} {d : PyData} (ry : Rp K w O H y d) : ∀ {a : List (L2.Key × V)} {b : List (L2.Key × PyData)}, KVR K w O H a b → KVR K w O H (a ++ [(k, y)]) (b ++ [(k, d)])
  | _, _, .nil => .cons ⟨rfl, ry⟩ .nil
  | _, _, .cons h t => .cons h (KVR.put2 k ry t)
theorem KVR.put {O : Addr → Prop} {a : List (L2.Key × V)} {b : List (L2.Key × PyData)} (r : KVR K w O H a b) (k : L2.Key) {y : V} {d : PyData} (ry : Rp K w O H y d) : KVR K w O H (putK a k y) (putL b k d) := by
  unfold putK putL
  rw [KVR.any r k]
  split
  · exact KVR.put1 k ry r
  · exact KVR.put2 k ry r
theorem KVR.mono {O O' : Addr → Prop} {H' : Hp} (f : ∀ v d, Rp K w O H v d → Rp K w O' H' v d) {a : List (L2.Key × V)} {b : List (L2.Key × PyData)} (r : KVR K w O H a b) : KVR K w O' H' a b := Paired.mapP r fun p q z => ⟨z.1, f _ _ z.2⟩
theorem KVR.raw {O : Addr → Prop} {a : List (L2.Key × V)} {b : List (L2.Key × PyData)} (r : KVR K w O H a b) : RpP K w O H (rawOf w a) (toPs b) := by
  induction r with
  | nil => exact .nil
  | @cons p q l m h t ih =>
    obtain ⟨k, v⟩ := p
    obtain ⟨k', d⟩ := q
    obtain ⟨e, r⟩ := h
    cases e
    cases k with
    | inl i => exact .cons ⟨_, rfl, rfl⟩ (.int i) r ih
    | inr x => exact .cons ⟨_, rfl, rfl⟩ (.str x) r ih
structure DAt (K : PySem.W.Frag) (w : World) (T : Tabs) (M : Kds) (U : Addr → Prop) (σ : Sg) (ρ1 : Env) (H1 : Hp) (vs : List Nat) (D : Addr) (ρi : Env) (dacc : List (L2.Key × PyData)) (H : Hp) : Prop where
  sim : Sim K w T M (plus U D) (wipe σ vs) H ρi
  stp : Stp M σ ρ1 H1 (wipe σ vs) ρi H
  acc : ∃ acc, H D = some (.dK acc) ∧ KVR K w (Ow M (plus U D) (wipe σ vs) ρi) H acc dacc
theorem KVR.length {O : Addr → Prop} {a : List (L2.Key × V)} {b : List (L2.Key × PyData)} (r : KVR K w O H a b) : a.length = b.length := Paired.length r
theorem dc_sim (hv : ∀ i ∈ vs, M i = .fz) (hit : IterT K w T M wi gi) (S : Sim K w T M U σ H ρ) (hf : gi ρ = some (ρ1, ds)) {r : List (L2.Key × PyData)} (hl : dcL vs (gTurn2 G h fk fv) ds (wipeD ρ1 vs) [] = some (ρ2, r)) {Q : VK}
    (q : ∀ a H', Sim K w T M (plus U a) σ H' (backD ρ1 vs ρ2) → Stp M σ ρ H σ (backD ρ1 vs ρ2) H' → (Mine M σ ρ a ∨ H a = none) → Cell K w (Ow M (plus U a) σ (backD ρ1 vs ρ2)) H' a (.dict (toPs r)) → Q (.ref a) H') :
    tDc (koTI K wi) (tGk K w T M vs G) (tT K w T M h) (fun σ H Q => tE K w T M fk σ H fun v H' => KO K H' → Q v H') (fun σ H Q => tE K w T M fv σ H fun v H' => KO K H' → Q v H') vs σ H (fun v H' => KO K H' → ∃ D kvs, v = .ref D ∧ H' D = some (.dK kvs) ∧ (KO K (upd H' D (DRaw D (rawOf w kvs))) → Q v (upd H' D (DRaw D (rawOf w kvs))))) := by
  refine hit σ H U ρ ρ1 ds _ S hf fun J H1 S1 st1 J1 => ?_
  intro D nD
  refine ⟨fun i m H' => m = ds.length - i ∧ i ≤ ds.length ∧ (KO K H' → ∃ ρi dacc, DAt K w T M U σ ρ1 H1 vs D ρi dacc H' ∧ dcL vs (gTurn2 G h fk fv) (ds.drop i) ρi dacc = some (ρ2, r)), ⟨_, rfl, Nat.zero_le _, fun ko => ⟨wipeD ρ1 vs, [], ⟨?_, ?_, [], upd_same, .nil⟩, hl⟩⟩, ?_⟩
  · exact ((S1.wipe hv).more nD upd_some (upd_keep nD) ko)
  · exact (Stp.wipe hv).trans (Stp.new nD)
  rintro i m H' ⟨rfl, hi, hw⟩
  by_cases hlt : i < ds.length
  · refine .inr ⟨fun ko => ?_, fun H2 => (KO K H2 → ∃ ρi dacc, DAt K w T M U σ ρ1 H1 vs D ρi dacc H2 ∧ dcL vs (gTurn2 G h fk fv) (ds.drop (i + 1)) ρi dacc = some (ρ2, r)), fun H2 h2 => ⟨_, by omega, rfl, hlt, h2⟩, fun x H2 ⟨y, ko⟩ ko2 => ?_⟩
    · obtain ⟨ρi, dacc, l, _⟩ := hw ko
      exact J1.go i H' hlt l.stp.ostay
    obtain ⟨ρi, dacc, l, e1⟩ := hw ko
    have hUD : ∀ b, plus U D b → U b ∨ (H1 b = none ∧ K.lookup b = none) := fun b z => z.imp_right fun e => by
      rw [e]; exact ⟨nD, l.sim.kk D (l.sim.un D (.inr rfl))⟩
    obtain ⟨gr, d, e3, rx⟩ := J1.yld i H' x H2 (Ow M (plus U D) (wipe σ vs) ρi) (l.stp.osub l.sim hUD) (fun b => l.sim.owT) hlt l.stp.ostay y ko2
    rw [List.getElem?_eq_getElem hlt] at e3
    cases e3
    rw [List.drop_eq_getElem_cons hlt] at e1
    obtain ⟨⟨ρt, oy⟩, e4, e6⟩ := bind_of e1
    obtain ⟨ρa, eG, e4⟩ := bind_of e4
    obtain ⟨⟨ρb, b⟩, eh, e4⟩ := bind_of e4
    have S2 : Sim K w T M (plus U D) (wipe σ vs) H2 ρi := l.sim.grow gr ko2
    obtain ⟨acc, hD, racc⟩ := l.acc
    have nM : ¬ Mine M (wipe σ vs) ρi D := l.sim.own_ne
    have ww : wipe (wipe σ vs) vs = wipe σ vs := wipe_ext ⟨wipe_length σ vs, fun i h => wipe_out h⟩
    refine ⟨plus U D, ρi, ds[i], ρa, S2, rx, eG, fun σ3 H3 S3 st3 k3 => ?_⟩
    have w3 : wipe σ3 vs = wipe σ vs := (wipe_ext k3).trans ww
    refine ⟨w3, plus U D, ρa, ρb, b, S3, eh, fun H4 S4 st4 => ?_⟩
    -- behind a turn
    have again : ∀ {H5 : Hp} {ρ5 : Env}, Sim K w T M (plus U D) σ3 H5 ρ5 → Stp M (wipe σ vs) ρi H' σ3 ρ5 H5 → DAt K w T M U σ ρ1 H1 vs D (wipeD ρ5 vs) dacc H5 ∧ H5 D = some (.dK acc) ∧ KVR K w (Ow M (plus U D) (wipe σ vs) (wipeD ρ5 vs)) H5 acc dacc := fun {H5 ρ5} S5 st5 => by
      have h5 : H5 D = some (.dK acc) := st5.same D _ hD nM (by intro ps z; cases z)
      have Sw := S5.wipe hv
      have tw := st5.trans (Stp.wipe hv)
      rw [w3] at Sw tw
      have ra : KVR K w (Ow M (plus U D) (wipe σ vs) (wipeD ρ5 vs)) H5 acc dacc := racc.mono fun v d z => tw.rp Sw z
      exact ⟨⟨Sw, l.stp.trans tw, acc, h5, ra⟩, h5, ra⟩
    have st04 : Stp M (wipe σ vs) ρi H' σ3 ρb H4 := (Stp.grow gr).trans (st3.trans st4)
    cases b with
    | false =>
      rw [if_neg (by simp)] at e4
      cases e4
      intro ko4
      obtain ⟨l4, _, _⟩ := again S4 st04
      exact ⟨_, dacc, l4, e6⟩
    | true =>
      rw [if_pos rfl] at e4
      obtain ⟨⟨ρc, y1⟩, ef, e4⟩ := bind_of e4
      obtain ⟨k, ek, e4⟩ := bind_of e4
      obtain ⟨⟨ρd, y2⟩, ev, e4⟩ := Option.map_eq_some_iff.mp e4
      cases e4
      refine ⟨plus U D, ρb, ρc, y1, S4, ef, fun v5 H5 S5 st5 r5 ko5 => ?_⟩
      refine ⟨plus U D, ρc, ρd, y2, S5, ev, fun v6 H6 S6 st6 r6 ko6 => ?_⟩
      obtain ⟨l6, h6, ra6⟩ := again S6 (st04.trans (st5.trans st6))
      dsimp only at e6
      split at e6
      · rename_i hlen
        have ev5 : v5 = kV k := by
          cases k with
          | inl i => have := nk_num ek; subst this; cases r5; rfl
          | inr x => have := nk_txt ek; subst this; cases r5; rfl
        have q1 := ra6.length
        refine ⟨acc, k, ev5, h6, ?_, fun ko7 => ?_⟩
        · rw [sizeLine_eq]; omega
        · have r6' : Rp K w (Ow M (plus U D) (wipe σ vs) (wipeD ρd vs)) H6 v6 y2 := r6.weak fun b z => by
            rcases z with z | z
            · exact .inl z
            · have z' : Mine M (wipe σ3 vs) (wipeD ρd vs) b := by rw [w3]; exact z
              exact .inr ((mine_wipe hv).mp z')
          have rp := ra6.put k r6'
          exact ⟨wipeD ρd vs, putL dacc k y2, ⟨l6.sim.updU (l6.sim.tb.updK h6) ko7, l6.stp.updU nD, _, upd_same, rp.mono fun v d z => Rp.stay nO_upd (fun b z => .inl z) _ _ z⟩, e6⟩
      · cases e6
  · have e : i = ds.length := by omega
    subst e
    refine .inl ⟨fun ko => ?_, fun ko => ?_⟩
    · obtain ⟨ρi, dacc, l, _⟩ := hw ko
      exact J1.stop H' l.stp.ostay
    · obtain ⟨ρi, dacc, l, e1⟩ := hw ko
      rw [List.drop_length] at e1
      cases e1
      obtain ⟨acc, hD, racc⟩ := l.acc
      refine ⟨D, acc, rfl, hD, fun ko2 => ?_⟩
      have S5 := l.sim.updU (o := DRaw D (rawOf w acc)) (l.sim.tb.updK hD) ko2
      have st5 := l.stp.updU (o := DRaw D (rawOf w acc)) nD
      obtain ⟨Sb, sb, kb⟩ := Sim.back hv S1 S5 st5 (fun b z => z.imp_right fun e => by
        rw [e]; exact ⟨nD, l.sim.kk D (l.sim.un D (.inr rfl))⟩) (fun b z => .inl z)
      have rr : RpP K w (Ow M (plus U D) (wipe σ vs) ρ2) (upd H' D (DRaw D (rawOf w acc))) (rawOf w acc) (toPs r) := RpP.stay nO_upd (fun b z => .inl z) _ _ racc.raw
      refine q D _ Sb (st1.trans sb) ?_ (.inr ⟨_, _, rfl, upd_same, RpP.stay (fun _ _ e _ _ => e) (fun b z => .inl (kb b z)) _ _ rr⟩)
      exact .inr (Classical.byContradiction fun n => st1.dom D n nD)
end
/-! ### the expression -/
section
variable {X : Cx} {T : Tabs} {M : Kds} {fr : Bool} {tg iter kx vx : Expr} {ifs : List Expr} {scope : Scope} {own : List (Str × Nat)} {pos spos py : Pos} {gi : Iv} {G : Gv} {h : Tv} {fk fv : Ev}
structure DEx (X : Cx) (T : Tabs) (M : Kds) (own : List (Str × Nat)) (scope : Scope) (tg iter kx vx : Expr) (ifs : List Expr) (gi : Iv) (G : Gv) (h : Tv) (fk fv : Ev) : Prop where
  calm : X.calm = true
  nd : X.N.Nodup
  ok : BlkOk X.N X.env.scope scope own
  fz : ∀ i ∈ own.map (·.2), M i = .fz
  it : SI X T M tg iter gi
  body : ∀ Xb : Cx, (∃ s H C cl fp, Xb = X.blk s H scope (compEnvC scope cl C X.env) fp) → SG Xb T M (own.map (·.2)) tg G ∧ PTs Xb ifs (tT Xb.K Xb.w T M h) ∧ SE Xb T M kx fk ∧ SE Xb T M vx fv
  ns : noSetE iter = true
theorem s_dc (l : DEx X T M own scope tg iter kx vx ifs gi G h fk fv) : SF X T M (.DictComp kx vx [⟨tg, iter, ifs, 0⟩] scope pos) (eDc gi (gTurn2 G h fk fv) (own.map (·.2))) := by
  obtain ⟨wi, hw, hit⟩ := l.it
  have b := fun s H C cl fp => l.body (X.blk s H scope (compEnvC scope cl C X.env) fp) ⟨s, H, C, cl, fp, rfl⟩
  refine PE.imp (PE.draw (PE.ko (pe_dc (g := tGk X.K X.w T M (own.map (·.2)) G) (tt := tT X.K X.w T M h) (tk := fun σ H Q => tE X.K X.w T M fk σ H fun v H' => KO X.K H' → Q v H') (tv := fun σ H Q => tE X.K X.w T M fv σ H fun v H' => KO X.K H' → Q v H') l.calm l.nd (PI.ko hw) l.ok (fun s H C cl fp => PG.imp_ko (b s H C cl fp).1 fun v σ H Q ko z => z ko) (fun s H C cl fp => (b s H C cl fp).2.1) (fun s H C cl fp => PE.ko (b s H C cl fp).2.2.1) (fun s H C cl fp => PE.ko (b s H C cl fp).2.2.2) (noSet l.ns)))) fun σ H Q hw => ?_
  obtain ⟨U, ρ, ρ', d, S, hf, q⟩ := hw
  obtain ⟨⟨ρ1, ds⟩, e1, e2⟩ := bind_of hf
  obtain ⟨⟨ρ2, r⟩, e3, e4⟩ := Option.map_eq_some_iff.mp e2
  cases e4
  exact dc_sim l.fz hit S e1 e3 fun a H' S' st ha c => q a H' S' st ha c
end
end Sx
/-! G1: the frame of a generator expression. -/
namespace Sx
open PySem PySem.Spec PyProof.Rows L2 GenW

/-- the scope of a generator expression: Ng its names, cap: where the captured ones stand in the def -/
structure GScp (N : List Str) (sc scope : Scope) (Ng : List Str) (cap : List (Option Nat)) : Prop where
  kind : scope.kind = .function
  co : scope.isCoroutine = false
  cell : ∀ y ∈ scope.names, y.2 ≠ .cell
  dot : scope.names.lookup (".0" : Str) = some NameKind.local
  free : ∀ y ∈ scope.names, y.2 = .free → sc.names.lookup y.1 = some .cell ∨ sc.names.lookup y.1 = some .free
  uniq : ∀ y ∈ scope.names, scope.names.lookup y.1 = some y.2
  len : cap.length = Ng.length
  at_ : ∀ (i j : Nat) (x : Str), cap[i]? = some (some j) → Ng[i]? = some x → N[j]? = some x ∧ (x, NameKind.free) ∈ scope.names
abbrev caps {α : Type} (cap : List (Option Nat)) (σ : List (Option α)) : List (Option α) := cap.map fun o => o.bind fun j => (σ[j]?).join
abbrev gCx (X : Cx) (s : Shared) (H : Hp) (A : Around) (Ng : List Str) (cenv : PySem.Env) (fp : List Addr) (pn : List (Addr × Obj)) : Cx :=
  { X with A := A, N := Ng, s_0 := s, H_0 := H, env := cenv, outer := X.stack, stack := cenv :: X.stack, ex := fp, fn := fun _ => false, calm := true, pn := pn, xe := fun _ _ => False }
abbrev gEnv (X : Cx) (scope : Scope) (s : Shared) (code : Value) : PySem.Env := genEnv scope (cloFrom X.env.cells scope.names []) s.heap.objs.size code builtinsNs X.env
theorem join_some {α : Type} {o : Option (Option α)} {v : α} (h : o.join = some v) : o = some (some v) := by
  cases o with
  | none => cases h
  | some x => cases x with
    | none => cases h
    | some y => cases h; rfl
theorem caps_at {α : Type} {cap : List (Option Nat)} {σ : List (Option α)} {i : Nat} {v : α} (h : (caps cap σ)[i]? = some (some v)) : ∃ j, cap[i]? = some (some j) ∧ σ[j]? = some (some v) := by
  unfold caps at h
  rw [List.getElem?_map] at h
  obtain ⟨o, e1, e2⟩ := Option.map_eq_some_iff.mp h
  cases o with
  | none => cases e2
  | some j => exact ⟨j, e1, join_some e2⟩
section
variable {X : Cx} {pins : List (Addr × Obj)} {σ : Sg} {H : Hp} {s : Shared}
theorem gen_start {scope : Scope} {Ng : List Str} {cap : List (Option Nat)} {fp : List Addr} {A : Around} {code it : Value} {h' : Heap} {go : Obj} {gs : Array GenState} {tk : Nat} (I : Inv X pins σ H s) (ok : GScp X.N X.env.scope scope Ng cap) (hfp : ∀ b ∈ fp, FpOk X pins H b ∧ b < s.heap.objs.size)
    (hA : A.frames = some (gEnv X scope s code :: X.stack)) (hh : A.handled = none) (hn : h'.Ns s.heap.objs.size (fun y => if y = ".0" then some it else none)) (hs : Heap.SameBut s.heap.objs.size (s.heap.push { cls := .type "frame", data := .dict #[] }) h') (hgo : ∀ v, go.data ≠ .cell v) (hpush : ∀ h : Heap, (h.push go).get? h.objs.size = some go) (hg : AllBare gs) :
    Inv (gCx X s H A Ng (gEnv X scope s code) fp [(h'.objs.size, go)]) [] (caps cap σ) H { s with gens := gs, toks := tk, heap := h'.push go } := by
  have hfree : ∀ y ∈ scope.names, y.2 = .free → ∃ c, X.env.cells.lookup y.1 = some c := fun y hy e => by
    rcases ok.free y hy e with k | k
    · exact I.ok.has _ (.inl k)
    · exact I.ok.has _ (.inr k)
  generalize hcenv : gEnv X scope s code = cenv at hA ⊢
  have hsz : h'.objs.size = s.heap.objs.size + 1 := by rw [hs.1, Heap.size_push]
  have kp1 : ∀ b o, s.heap.get? b = some o → h'.get? b = some o := fun b o e => hs.extBut b o (Nat.ne_of_lt (Heap.lt_size e)) (Heap.get?_push_of_some _ e)
  have kp : ∀ b o, s.heap.get? b = some o → (h'.push go).get? b = some o := fun b o e => Heap.get?_push_of_some _ (kp1 b o e)
  have hL : cenv.locals = s.heap.objs.size := by rw [← hcenv]; rfl
  have hcl : cenv.cells = cloFrom X.env.cells scope.names [] := by rw [← hcenv]; rfl
  have hsc : cenv.scope = scope := by rw [← hcenv]; rfl
  have cm : ∀ {y c}, cenv.cells.lookup y = some c → X.env.cells.lookup y = some c ∧ c < s.heap.objs.size := fun {y c} hm => by
    rw [hcl] at hm
    rcases cloFrom_mem (PySem.mem_of_lookup hm) with hm | ⟨h1, rfl⟩
    · cases hm
    · obtain ⟨c, hc⟩ := hfree _ h1 rfl
      rw [hc]
      obtain ⟨w, z⟩ := I.cell _ _ hc
      exact ⟨rfl, z.lt⟩
  have look : ∀ {y}, (y, NameKind.free) ∈ scope.names → ∃ c, cenv.cells.lookup y = some c ∧ X.env.cells.lookup y = some c := fun {y} hy => by
    obtain ⟨c', e'⟩ := mem_lookup (cloFrom_has (cells := X.env.cells) (acc := []) hy)
    have e2 : cenv.cells.lookup y = some c' := by rw [hcl]; exact e'
    exact ⟨c', e2, (cm e2).1⟩
  have okG : (gCx X s H A Ng cenv fp [(h'.objs.size, go)]).Ok := by
    refine ⟨I.ok.mod, by show cenv.scope.kind = _; rw [hsc]; exact ok.kind, by show cenv.globals = _; rw [← hcenv]; exact I.ok.glob, by show cenv.builtins = _; rw [← hcenv]; rfl, by show s.heap.objs.size ≤ cenv.locals; rw [hL]; exact Nat.le_refl _,
      fun y z c e1 e2 => I.ok.inj y z c (cm e1).1 (cm e2).1, fun y hy => ?_, fun y c z e => absurd z (by simp), fun _ => hh, hA, .inr ⟨rfl, by show cenv.frame = some cenv.locals; rw [hL, ← hcenv]; rfl⟩, fun b hb => ⟨?_, fun y c e z => ?_⟩, I.bs, Nat.le_trans I.ok.bsz I.sz, fun b o e hb => ?_, fun b hb z => ?_, I.stack, I.stkFree⟩
    · show ∃ c, cenv.cells.lookup y = some c
      have key : ∀ k, scope.names.lookup y = some k → (k = .cell ∨ k = .free) → ∃ c, cenv.cells.lookup y = some c := fun k hk hk' => by
        rcases hk' with rfl | rfl
        · exact absurd rfl (ok.cell _ (PySem.mem_of_lookup hk))
        · obtain ⟨c, h1, _⟩ := look (PySem.mem_of_lookup hk)
          exact ⟨c, h1⟩
      have hy' : cenv.scope.names.lookup y = some .cell ∨ cenv.scope.names.lookup y = some .free := hy
      rw [hsc] at hy'
      rcases hy' with hy | hy
      · exact key _ hy (.inl rfl)
      · exact key _ hy (.inr rfl)
    · show b ≠ cenv.locals
      rw [hL]; exact Nat.ne_of_lt (hfp b hb).2
    · exact (hfp b hb).1.2.2.2.2.1 y c (cm e).1 z
    · rcases (hfp b hb).1.2.2.2.1 with z | z
      · exact I.ok.noex b o e z
      · exact absurd (Nat.lt_of_lt_of_le (Heap.lt_size e) (Nat.le_trans I.ok.bsz z)) (Nat.lt_irrefl _)
    · rcases List.mem_cons.mp (I.stkSub b z) with z | z
      · exact (hfp b hb).1.2.1 z
      · exact (hfp b hb).1.2.2.1 z
  refine ⟨okG, rfl, hg, Un.kept kp, ⟨fun y => if y = ".0" then some it else none, ?_, fun i y av e1 e2 e3 => ?_⟩, fun y c e => ?_, ?_, fun y c e => ?_, fun p hp => ?_, I.hok.kept kp, by simp [caps, ok.len]⟩
  · show Heap.Ns _ cenv.locals _
    rw [hL]
    exact hn.push _
  · obtain ⟨j, c1, c2⟩ := caps_at e2
    obtain ⟨n1, n2⟩ := ok.at_ i j y c1 e1
    obtain ⟨m, hn, hl⟩ := I.loc
    have hvis : Vis X.env.scope y := (ok.free _ n2 rfl).elim (fun k => .inr (.inl k)) (fun k => .inr (.inr k))
    obtain ⟨w, r, q⟩ := hl j y av n1 c2 hvis
    refine ⟨w, r, .inr ⟨?_, ?_⟩⟩
    · have e3' : Vis scope y := by rw [← hsc]; exact e3
      show cenv.scope.names.lookup y = _ ∨ cenv.scope.names.lookup y = _
      rw [hsc]
      rcases e3' with k | k | k
      · have q2 := ok.uniq _ n2
        rw [k] at q2; cases q2
      · exact .inl k
      · exact .inr k
    · obtain ⟨c, h1, h2⟩ := look n2
      rcases q with ⟨k, _⟩ | ⟨_, c', e', z⟩
      · have k : X.env.scope.names.lookup y = some .local := k
        rcases ok.free _ n2 rfl with k' | k' <;> rw [show X.env.scope.names.lookup y = _ from k'] at k <;> cases k
      · rw [h2] at e'; cases e'
        exact ⟨c, h1, z.keeps kp⟩
  · obtain ⟨w, z⟩ := I.cell y c (cm e).1
    exact ⟨w, z.keeps kp⟩
  · show H cenv.locals = none
    rw [hL]; exact I.hok.fresh (Nat.le_refl _)
  · exact I.freeC y c (cm e).1
  · have e : p = (h'.objs.size, go) := by
      have : p ∈ [(h'.objs.size, go)] := by simpa using hp
      simpa using this
    subst e
    have yb : s.heap.objs.size ≤ h'.objs.size := by rw [hsz]; exact Nat.le_succ _
    refine ⟨hpush _, I.hok.fresh yb, ?_, fun z => ?_, hgo⟩
    · show h'.objs.size ≠ cenv.locals
      rw [hL, hsz]; exact Nat.succ_ne_self _
    · have z' : h'.objs.size ∈ frs X.stack := z
      rcases List.mem_cons.mp (I.stkSub _ z') with q | q
      · exact absurd (Nat.lt_of_lt_of_le I.lt yb) (by rw [← q]; exact Nat.lt_irrefl _)
      · exact I.nofs yb q
end
end Sx
/-! G2: the code object of a generator expression. -/
namespace Sx
open PySem PySem.Spec PyProof.Rows L2 GenW
section
variable {X : Cx} {pins : List (Addr × Obj)} {σ : Sg} {H : Hp} {s : Shared}
def tabH (H : Hp) (P : Addr) (qs : Array Value) (c P' : Addr) : Hp := upd (upd (upd H P (.tbl qs)) c (CodeQ c P')) P' (.tbl #[])
theorem inv_tab2 {P c P' : Addr} {ps more : Array Value} {h' : Heap} {t' : Nat} (I : Inv X pins σ H s) (hP : H P = some (.tbl ps)) (k : ∀ b o, b ≠ P → s.heap.get? b = some o → h'.get? b = some o)
    (hm : h'.get? P = some { cls := .none, data := .fields (ps ++ more) }) (hc : s.heap.objs.size ≤ c) (ho : PySem.W.CodeHd h' c P') (hP' : s.heap.objs.size ≤ P') (ho' : h'.get? P' = some { cls := .none, data := .fields #[] }) :
    Inv X pins σ (tabH H P (ps ++ more) c P') { s with heap := h', toks := t' } ∧ (∀ b u, b ≠ P → H b = some u → tabH H P (ps ++ more) c P' b = some u) ∧ tabH H P (ps ++ more) c P' P = some (.tbl (ps ++ more)) ∧ tabH H P (ps ++ more) c P' c = some (CodeQ c P') ∧ tabH H P (ps ++ more) c P' P' = some (.tbl #[]) ∧ ∀ b u, s.heap.get? b = some u → H b = none → tabH H P (ps ++ more) c P' b = none := by
  have nC : H c = none := I.hok.fresh hc
  have nP2 : H P' = none := I.hok.fresh hP'
  have nPc : P ≠ c := ne_of_none hP nC
  have nPP : P ≠ P' := ne_of_none hP nP2
  have ncP : c ≠ P' := by
    obtain ⟨_, _, _, _, _, _, _, _, _, _, _, _, _, _, _, _, _, _, h⟩ := ho
    exact h
  have at_ : ∀ b, b ≠ P → b ≠ c → b ≠ P' → tabH H P (ps ++ more) c P' b = H b := fun b h1 h2 h3 => by unfold tabH; rw [upd_ne h3, upd_ne h2, upd_ne h1]
  have atP : tabH H P (ps ++ more) c P' P = some (.tbl (ps ++ more)) := by unfold tabH; rw [upd_ne nPP, upd_ne nPc, upd_same]
  have atC : tabH H P (ps ++ more) c P' c = some (CodeQ c P') := by unfold tabH; rw [upd_ne ncP, upd_same]
  have nP : ∀ b u, H b = some u → (∀ q, u ≠ .tbl q) → b ≠ P := fun b u e q z => by
    rw [z, hP] at e
    exact q ps (Option.some.inj e).symm
  have nN : ∀ b, H b = none → b ≠ P := fun b e z => by
    rw [z, hP] at e
    cases e
  have lt' : ∀ b o, s.heap.get? b = some o → b ≠ c := fun b o e z => by
    rw [z] at e
    exact Nat.lt_irrefl _ (Nat.lt_of_lt_of_le (Heap.lt_size e) hc)
  have lt2 : ∀ b o, s.heap.get? b = some o → b ≠ P' := fun b o e z => by
    rw [z] at e
    exact Nat.lt_irrefl _ (Nat.lt_of_lt_of_le (Heap.lt_size e) hP')
  have sm : ∀ b u, H b = some u → b ≠ c := fun b u e => ne_of_none e nC
  have sm2 : ∀ b u, H b = some u → b ≠ P' := fun b u e => ne_of_none e nP2
  have atP' : tabH H P (ps ++ more) c P' P' = some (.tbl #[]) := by unfold tabH; rw [upd_same]
  refine ⟨?_, fun b u hb e => by rw [at_ b hb (sm b u e) (sm2 b u e)]; exact e, atP, atC, atP', fun b u e n => by rw [at_ b (nN b n) (lt' b u e) (lt2 b u e)]; exact n⟩
  refine I.step (g' := s.gens) (d' := s.drawn) (ch := []) (fun b hb => absurd hb (by simp)) (fun b o _ _ _ e n => k b o (nN b n) e) (fun b o _ _ _ e n => ⟨o.slots, k b o (nN b n) e⟩)
    (fun b o _ e n => by rw [at_ b (nN b n) (lt' b o e) (lt2 b o e)]; exact n) (fun b o _ e => ?_) (fun b xs e => by rw [at_ b (nP b _ e (fun q z => by cases z)) (sm b _ e) (sm2 b _ e)]; exact e) (fun b o u e => by rw [at_ b (nP b _ e (fun q z => by cases z)) (sm b _ e) (sm2 b _ e)]; exact e) (fun b qs e => ?_) (fun m hn => ?_) (fun b u e => ?_) I.bare
  · by_cases hb : b = P
    · rw [hb]
      exact ⟨_, hm⟩
    · exact ⟨o, k b o hb e⟩
  · by_cases hb : b = P
    · rw [hb, hP] at e
      cases e
      rw [hb, atP]
      exact ⟨more, rfl⟩
    · rw [at_ b hb (sm b _ e) (sm2 b _ e), e]
      exact ⟨#[], by simp⟩
  · obtain ⟨ob, es, ep, ho, r⟩ := hn
    exact ⟨ob, es, ep, k _ ob (nN _ I.free) ho, r⟩
  · by_cases hb3 : b = P'
    · rw [hb3, atP'] at e
      cases e
      rw [hb3]
      exact ho'
    by_cases hb : b = c
    · rw [hb, atC] at e
      cases e
      rw [hb]
      refine ⟨ho, ?_, fun h1 h2 z st => ?_⟩
      · obtain ⟨o, _, _, _, _, _, _, _, _, e1, _⟩ := ho
        exact ⟨o, e1⟩
      · obtain ⟨o, a1, a2, a3, a4, a5, a6, a7, a8, e1, r⟩ := z
        exact ⟨o, a1, a2, a3, a4, a5, a6, a7, a8, st _ e1, r⟩
    · by_cases hb2 : b = P
      · rw [hb2, atP] at e
        cases e
        rw [hb2]
        exact hm
      · rw [at_ b hb2 hb hb3] at e
        refine (I.hok b u e).stay (fun d v hd q => k d v ?_ q) (fun d q => by rw [at_ d (nP d _ q (fun q z => by cases z)) (sm d _ q) (sm2 d _ q)]; exact q) fun d xs q => by rw [at_ d (nP d _ q (fun q z => by cases z)) (sm d _ q) (sm2 d _ q)]; exact q
        rcases hd with z | z
        · rw [z]
          exact hb2
        · exact nP d _ z (fun q z => by cases z)
theorem codeQ_ne {c P : Addr} (ps : Array Value) : CodeQ c P ≠ .tbl ps := fun z => by
  unfold CodeQ at z
  cases z
/-- a table has grown by a code object with an empty table -/
theorem TabT.add {H H' : Hp} {P c P' : Addr} {ps : Array Value} {pos : Pos} (hP : H P = some (.tbl ps)) (ht : TriplesOk ps.toList) (k : ∀ b u, b ≠ P → H b = some u → H' b = some u) (hP2 : H' P = some (.tbl (ps ++ #[rawInt pos.line, rawInt pos.col, .ref c]))) (hc : H' c = some (CodeQ c P')) (hP' : H' P' = some (.tbl #[])) :
    ∀ {n : Nat} {R : Addr}, TabT n H R → TabT n H' R := by
  have eL : (ps ++ #[rawInt pos.line, rawInt pos.col, Value.ref c]).toList = ps.toList ++ [rawInt pos.line, rawInt pos.col, .ref c] := by simp
  intro n
  induction n with
  | zero =>
    intro R ⟨qs, e, q⟩
    by_cases hR : R = P
    · rw [hR]; exact ⟨_, hP2, by rw [eL]; exact PySem.TriplesOk_snoc _ _ _ _ ht⟩
    · exact ⟨qs, k _ _ hR e, q⟩
  | succ n ih =>
    intro R ⟨qs, e, q, r⟩
    have old : ∀ {c0 P0}, H c0 = some (CodeQ c0 P0) → H' c0 = some (CodeQ c0 P0) := fun {c0 P0} h => k _ _ (fun z => by
      rw [z, hP] at h
      exact codeQ_ne ps (Option.some.inj h).symm) h
    by_cases hR : R = P
    · subst hR
      rw [hP] at e; cases e
      refine ⟨_, hP2, by rw [eL]; exact PySem.TriplesOk_snoc _ _ _ _ ht, fun p' cv hcv => ?_⟩
      rw [eL] at hcv
      rcases NdefX.among_app2 _ ht hcv with z | ⟨z, _, _⟩
      · obtain ⟨c', P'', e1, e2, e3⟩ := r p' cv z
        exact ⟨c', P'', e1, old e2, ih e3⟩
      · exact ⟨c, P', z, hc, TabT.nil hP' n⟩
    · refine ⟨qs, k _ _ hR e, q, fun p' cv hcv => ?_⟩
      obtain ⟨c', P'', e1, e2, e3⟩ := r p' cv hcv
      exact ⟨c', P'', e1, old e2, ih e3⟩
/-- the def's (or generator's) code object and table -/
structure Cd (X : Cx) (T : Tabs) (c P : Addr) (fl : Bool) : Prop where
  code : X.env.code = .ref c
  mem : (c, P, fl) ∈ T
  hd : fl = true ∨ PySem.W.CodeHd X.base c P
theorem gen_code {T : Tabs} {c P : Addr} {fl : Bool} {pos : Pos} {q : Str} {scope : Scope} {E : Value → Shared → Prop} {Q : Value → Shared → Prop} (I : Inv X pins σ H s) (hc : Cd X T c P fl) (tb : TabOk T H)
    (h : ∀ c' P' H' s', Inv X pins σ H' s' → (∀ b u, H b = some u → (∀ ps, u ≠ .tbl ps) → H' b = some u) → (∀ b, H b ≠ none → H' b ≠ none) → TabOk ((c', P', true) :: T) H' → (∀ b u, s.heap.get? b = some u → H b = none → s'.heap.get? b = some u ∧ H' b = none) → Q (.ref c') s') :
    wpAny (model X.prog X.w) X.A (genexprCode X.env pos q scope) Q E s := by
  obtain ⟨t1, t2⟩ := tb _ hc.mem
  obtain ⟨ps, hP, ht, hr⟩ := t1 1
  have hP2 : s.heap.get? P = some { cls := .none, data := .fields ps } := I.hok P _ hP
  have cd : PySem.W.CodeHd s.heap c P := by
    rcases hc.hd with z | z
    · exact (I.hok c _ (t2 z)).1
    · exact z.keeps I.bk
  cases hf : codeAmong pos ps.toList with
  | none =>
    refine wpAny_genexprCodeX hc.code (cd.code hP2 ht) (cd.tab hP2) hf fun c' h' tk hx hge hlt hco' _ htab' hnew => ?_
    obtain ⟨P', hP', hc2, ht2⟩ := hnew
    have hcq : PySem.W.CodeHd h' c' P' := .of hc2 ht2
    obtain ⟨I', k, a1, a2, a3, a4⟩ := inv_tab2 (t' := tk) (more := #[rawInt pos.line, rawInt pos.col, .ref c']) I hP (fun b o hb e => hx b o hb e) htab'.2 hge hcq hP' ht2.2
    refine h c' P' _ _ I' (fun b u e n => k b u (fun z => by rw [z, hP] at e; exact n ps (Option.some.inj e).symm) e) (fun b e => ?_) (fun q hq => ?_) fun b u e n => ⟨hx b u (fun z => by rw [z, hP] at n; cases n) e, a4 b u e n⟩
    · by_cases hb : b = P
      · rw [hb, a1]; simp
      · cases e2 : H b with
        | none => exact absurd e2 e
        | some u => rw [k b u hb e2]; simp
    · rcases List.mem_cons.mp hq with rfl | hq
      · exact ⟨TabT.nil a3, fun _ => a2⟩
      · obtain ⟨q1, q2⟩ := tb q hq
        refine ⟨fun n => TabT.add hP ht k a1 a2 a3 (q1 n), fun z => k _ _ (fun y => ?_) (q2 z)⟩
        have := q2 z
        rw [y, hP] at this
        exact codeQ_ne ps (Option.some.inj this).symm
  | some cv =>
    obtain ⟨c', P', rfl, e2, _⟩ := hr pos cv hf
    refine wpAny_genexprCode_hit hc.code (cd.code hP2 ht) hf (h c' P' H s I (fun _ _ e _ => e) (fun _ e => e) (fun q hq => ?_) fun b u e n => ⟨e, n⟩)
    rcases List.mem_cons.mp hq with rfl | hq
    · refine ⟨fun n => ?_, fun _ => e2⟩
      obtain ⟨ps', hp', _, hr'⟩ := t1 (n + 1)
      rw [hP] at hp'; cases hp'
      obtain ⟨c'', P'', e1, e3, e4⟩ := hr' pos _ hf
      cases e1
      have a1 : PySem.W.CodeHd s.heap c' P' := (I.hok c' _ e2).1
      have a2 : PySem.W.CodeHd s.heap c' P'' := (I.hok c' _ e3).1
      have : P' = P'' := by
        obtain ⟨o, us, _, _, _, _, _, _, _, b1, _, b2, b3, _⟩ := a1
        obtain ⟨o', us', _, _, _, _, _, _, _, c1, _, c2, c3, _⟩ := a2
        rw [b1] at c1; cases c1
        rw [b2] at c2; cases c2
        rw [b3] at c3; cases c3
        rfl
      rw [this]; exact e4
    · exact tb q hq
end
end Sx
/-! G3: the run of a generator expression. -/
namespace Sx
open PySem PySem.Spec PyProof.Rows L2 GenW

/-! ### what stood stays, but for tables -/
structure Calm (H H' : Hp) : Prop where
  same : ∀ b o, H b = some o → (∀ ps, o ≠ .tbl ps) → H' b = some o
  dom : ∀ b, H b ≠ none → H' b ≠ none
theorem Calm.refl {H : Hp} : Calm H H := ⟨fun _ _ e _ => e, fun _ e => e⟩
theorem Calm.grow {H H' : Hp} (k : ∀ b u, H b = some u → H' b = some u) : Calm H H' := ⟨fun b o e _ => k b o e, fun b e => by
  cases q : H b with
  | none => exact absurd q e
  | some u => rw [k b u q]; simp⟩
theorem Calm.trans {H H' H'' : Hp} (a : Calm H H') (b : Calm H' H'') : Calm H H'' := ⟨fun c o e n => b.same c o (a.same c o e n) n, fun c e => b.dom c (a.dom c e)⟩
section
variable {K : PySem.W.Frag} {w : World} {T : Tabs} {M : Kds} {U : Addr → Prop} {σ : Sg} {H H' : Hp} {ρ : Env} {O : Addr → Prop} {v : V} {d : D} {vs : List V} {ds : List D}
theorem Rp.calm (c : Calm H H') (h : Rp K w O H v d) : Rp K w O H' v d := Rp.stay (fun b o e _ t => c.same b o e t) (fun b z => .inl z) d v h
theorem RpA.calm (c : Calm H H') (h : RpA K w O H vs ds) : RpA K w O H' vs ds := RpA.stay (fun b o e _ t => c.same b o e t) (fun b z => .inl z) ds vs h
theorem Sim.calm (S : Sim K w T M U σ H ρ) (c : Calm H H') (tb : TabOk T H') (ko : KO K H') : Sim K w T M U σ H' ρ where
  len := S.len
  fz := fun i d h1 h2 => let ⟨v, e, r⟩ := S.fz i d h1 h2; ⟨v, e, r.calm c⟩
  ow := fun i d h1 h2 => by
    obtain ⟨a, e, n, q⟩ := S.ow i d h1 h2
    refine ⟨a, e, n, ?_⟩
    rcases q with ⟨xs, ds, c1, c2, c3⟩ | ⟨es, ds, c1, c2, c3⟩
    · exact .inl ⟨xs, ds, c1, c.same _ _ c2 (by intro ps z; cases z), c3.calm c⟩
    · exact .inr ⟨es, ds, c1, c.same _ _ c2 (by intro ps z; cases z), RpP.stay (fun b o e _ t => c.same b o e t) (fun b z => .inl z) ds es c3⟩
  ap := S.ap
  un := fun b h => c.dom b (S.un b h)
  tb := tb
  kk := ko
theorem Calm.stp (c : Calm H H') : Stp M σ ρ H σ ρ H' := ⟨fun b o e _ t => c.same b o e t, fun _ z => .inl z, c.dom, fun i d _ e => ⟨rfl, d, e⟩⟩
theorem Stp.calm {σ' : Sg} {ρ' : Env} (hM : ∀ i, (M i).own = false) (st : Stp M σ ρ H σ' ρ' H') : Calm H H' := ⟨fun b o e t => st.same b o e (fun ⟨i, _, h, _⟩ => by rw [hM i] at h; cases h) t, st.dom⟩
theorem Calm.ostay (c : Calm H H') : OStay O H H' := fun b o e _ t => c.same b o e t
theorem TabOk.sub {T T' : Tabs} (h : ∀ q ∈ T, q ∈ T') (t : TabOk T' H) : TabOk T H := fun q hq => t q (h q hq)
end

/-! ### the script of a run -/
def nextOf (t : Gt) : List D → Env → Option (Option (D × List D × Env))
  | [], _ => some none
  | d :: ds, ρ => (t d ρ).bind fun p => match p.2 with
    | none => nextOf t ds p.1
    | some y => some (some (y, ds, p.1))
/-- what is out, what is left, the frame, when j items are out -/
def posn (t : Gt) (ds : List D) (ρ : Env) : Nat → Option (List D × List D × Env)
  | 0 => some ([], ds, ρ)
  | j + 1 => (posn t ds ρ j).bind fun p => match nextOf t p.2.1 p.2.2 with
    | some (some (y, l, ρ')) => some (p.1 ++ [y], l, ρ')
    | _ => none

/-! ### the run -/
structure Gn (Xg : Cx) (A : Around) (tg iter elt : Expr) (ifs : List Expr) (scope : Scope) (pos : Pos) (it : Addr) (J : It) (fp : List Addr) (tn : Nat → Heap → Prop) (Ss : List Addr) (T' : Tabs) (Mg : Kds) (G : Gv) (h : Tv) (fe : Ev) : Prop where
  over : A.over (.compLoop (.GeneratorExp elt [⟨tg, iter, ifs, 0⟩] scope pos) 0 (.ref it) .none Xg.env) [] = Xg.A
  over0 : A.over (.compStart (.GeneratorExp elt [⟨tg, iter, ifs, 0⟩] scope pos) 0 (.ref it) .none Xg.env) [] = Xg.A
  calm : Xg.calm = true
  co : Xg.env.scope.isCoroutine = false
  nox : Xg.xe = fun _ _ => False
  turn : Turn Xg.prog Xg.w Xg.K tg J fp it tn
  fpk : ∀ b ∈ fp, b ≠ Xg.env.locals ∧ b ∉ Xg.fs ∧ (b ∈ Xg.ex ∨ Xg.s_0.heap.objs.size ≤ b) ∧ (∀ x c, Xg.env.cells.lookup x = some c → c ≠ b) ∧ ∀ p ∈ Xg.pn, p.1 ≠ b
  sap : ∀ S ∈ Ss, Xg.s_0.heap.objs.size ≤ S ∧ S ≠ Xg.env.locals ∧ (∀ x c, Xg.env.cells.lookup x = some c → c ≠ S) ∧ S ∉ fp ∧ S ∉ Xg.fs ∧ ∀ p ∈ Xg.pn, p.1 ≠ S
  hM : ∀ i, (Mg i).own = false
  hg : ∃ ns, SG Xg T' Mg ns tg G
  ht : PTs Xg ifs (tT Xg.K Xg.w T' Mg h)
  he : SE Xg T' Mg elt fe
abbrev SMem := List V → List (Addr × Obj) → Prop
/-- asleep, or at a turn's head -/
structure GAt (Xg : Cx) (fp : List Addr) (Ss : List Addr) (Sm : SMem) (T T' : Tabs) (M Mg : Kds) (U : Addr → Prop) (σ : Sg) (ρ : Env) (H1 : Hp) (ρg : Env) (ys : List V) (dys : List D) (sp : List (Addr × Obj)) (σg : Sg) (H' : Hp) (s' : Shared) : Prop where
  inv : Inv Xg sp σg H' s'
  fpn : ∀ b ∈ fp, H' b = none
  sg : Sim Xg.K Xg.w T' Mg (Ow M U σ ρ) σg H' ρg
  sc : Sim Xg.K Xg.w T M U σ H' ρ
  cm : Calm H1 H'
  rp : RpA Xg.K Xg.w (Ow M U σ ρ) H' ys dys
  sm : Sm ys sp
  ss : sp.map (·.1) = Ss
structure Slp (Ss : List Addr) (Sm : SMem) (ys : List V) (s1 s2 : Shared) : Prop where
  os : s2.os = s1.os
  bare : AllBare s2.gens
  keep : ∀ b o, b ∉ Ss → s1.heap.get? b = some o → s2.heap.get? b = some o
  sp : ∃ sp, (∀ p ∈ sp, s2.heap.get? p.1 = some p.2 ∧ ∀ v, p.2.data ≠ .cell v) ∧ Sm ys sp ∧ sp.map (·.1) = Ss
def gR (Xg : Cx) (fp : List Addr) (Ss : List Addr) (Sm : SMem) (T T' : Tabs) (M Mg : Kds) (U : Addr → Prop) (σ : Sg) (ρ : Env) (H1 : Hp) (t : Gt) (ds : List D) (ρ0 : Env) (N : Nat) : GenEnd := fun n s₀ r s1 => r = .ok .next ∧
  ∃ dys l ρj, posn t ds ρ0 (N - n) = some (dys, l, ρj) ∧ nextOf t l ρj = some none ∧ ∃ ys sp σg H' ρg, GAt Xg fp Ss Sm T T' M Mg U σ ρ H1 ρg ys dys sp σg H' s1 ∧ ∀ b ∈ Ss, s₀.heap.get? b = s1.heap.get? b
def gY (Xg : Cx) (fp : List Addr) (Ss : List Addr) (Sm : SMem) (T T' : Tabs) (M Mg : Kds) (U : Addr → Prop) (σ : Sg) (ρ : Env) (H1 : Hp) (t : Gt) (ds : List D) (ρ0 : Env) (N : Nat) : Protocol := fun m s₀ v s1 kap =>
  ∃ dys l ρj y l' ρ', posn t ds ρ0 (N - (m + 1)) = some (dys, l, ρj) ∧ nextOf t l ρj = some (some (y, l', ρ')) ∧ (m + 1 ≤ N) ∧ ∃ ys sp σg H' x, GAt Xg fp Ss Sm T T' M Mg U σ ρ H1 ρ' ys dys sp σg H' s1 ∧ (∀ b ∈ Ss, s₀.heap.get? b = s1.heap.get? b) ∧
    RelV x v ∧ Rp Xg.K Xg.w (Ow M U σ ρ) H' x y ∧ ∀ s2, Slp Ss Sm (ys ++ [x]) s1 s2 → nextOf t l' ρ' ≠ none → kap (.send .none) s2

section
variable {Xg : Cx} {A : Around} {tg iter elt : Expr} {ifs : List Expr} {scope : Scope} {pos : Pos} {it : Addr} {J : It} {fp : List Addr} {tn : Nat → Heap → Prop} {Ss : List Addr} {Sm : SMem} {T T' : Tabs} {M Mg : Kds} {G : Gv} {h : Tv} {fe : Ev}
  {U : Addr → Prop} {σ σg : Sg} {ρ ρg : Env} {H1 H' : Hp} {ys : List V} {dys ds : List D} {sp : List (Addr × Obj)} {s' s2 : Shared} {N : Nat} {ρ0 : Env}
/-- woken -/
theorem GAt.woken (g : Gn Xg A tg iter elt ifs scope pos it J fp tn Ss T' Mg G h fe) (z : GAt Xg fp Ss Sm T T' M Mg U σ ρ H1 ρg ys dys sp σg H' s') {x : V} {y : D} (rx : Rp Xg.K Xg.w (Ow M U σ ρ) H' x y) {i : Nat} (ht : tn i s'.heap) (q : Slp Ss Sm (ys ++ [x]) s' s2) :
    tn i s2.heap ∧ ∃ sp', GAt Xg fp Ss Sm T T' M Mg U σ ρ H1 ρg (ys ++ [x]) (dys ++ [y]) sp' σg H' s2 := by
  obtain ⟨q1, q2, q3, sp', q4, q5, q6⟩ := q
  refine ⟨g.turn.keep _ _ _ ht fun b hb o e => q3 b o (fun hs => (g.sap b hs).2.2.2.1 hb) e, sp', ?_⟩
  have pin : ∀ S ∈ Ss, H' S = none := fun S hS => by
    rw [← z.ss] at hS
    obtain ⟨p, hp, e⟩ := List.mem_map.mp hS
    rw [← e]
    exact (z.inv.pin p (List.mem_append_right _ hp)).2.1
  have I0 : Inv Xg [] σg H' s' := z.inv.pins_of fun p hp => absurd hp (by simp)
  have nt : ∀ b u, H' b = some u → b ∉ Ss := fun b u e hb => by rw [pin b hb] at e; cases e
  obtain ⟨hh, gg, dd, tt, oo⟩ := s2
  have ho : oo = s'.os := q1
  subst ho
  have J0 : Inv Xg [] σg H' { s' with heap := hh, gens := gg, drawn := dd, toks := tt } := by
    refine I0.step (g' := gg) (t' := tt) (d' := dd) (ch := Ss) (fun b hb => ?_)
      (fun b ob _ _ hc q _ => q3 b ob hc q) (fun b ob _ _ hc q _ => ⟨ob.slots, q3 b ob hc q⟩) (fun _ _ _ _ n => n) (fun b ob hc q => ⟨ob, q3 b ob hc q⟩)
      (fun _ _ q => q) (fun _ _ _ q => q) (fun b ps q => ⟨#[], by rw [q]; simp⟩) (fun m hm => ?_) (fun b u q => ?_) q2
    · obtain ⟨s1, s2', s3, s4, s5, s6⟩ := g.sap b hb
      exact ⟨.inr s1, s2', s3, fun p hp => s6 p (by simpa using hp)⟩
    · obtain ⟨ob, es, ep, ho, r⟩ := hm
      exact ⟨ob, es, ep, q3 _ ob (fun hs => (g.sap _ hs).2.1 rfl) ho, r⟩
    · refine (I0.hok b u q).stay (fun c v hc y => q3 c v ?_ y) (fun _ y => y) fun _ _ y => y
      rcases hc with y | y
      · rw [y]; exact nt b u q
      · exact nt c _ y
  refine ⟨J0.pins_of fun p hp => ?_, z.fpn, z.sg, z.sc, z.cm, z.rp.append (.cons rx .nil), q5, q6⟩
  have hS : p.1 ∈ Ss := by rw [← q6]; exact List.mem_map.mpr ⟨p, hp, rfl⟩
  obtain ⟨s1, s2', s3, s4, s5, s6⟩ := g.sap _ hS
  exact ⟨(q4 p hp).1, pin _ hS, s2', s5, (q4 p hp).2⟩
theorem GAt.fpOk (g : Gn Xg A tg iter elt ifs scope pos it J fp tn Ss T' Mg G h fe) (hs : sp.map (·.1) = Ss) {H' : Hp} (hf : ∀ b ∈ fp, H' b = none) : ∀ b ∈ fp, FpOk Xg sp H' b := fun b hb => by
  obtain ⟨f1, f2, f3, f4, f5⟩ := g.fpk b hb
  refine ⟨hf b hb, f1, f2, f3, f4, fun p hp => ?_⟩
  rcases List.mem_append.mp hp with hp | hp
  · exact f5 p hp
  · have hS : p.1 ∈ Ss := by rw [← hs]; exact List.mem_map.mpr ⟨p, hp, rfl⟩
    exact fun e => (g.sap _ hS).2.2.2.1 (by rw [e]; exact hb)
theorem ow_fz (hM : ∀ i, (Mg i).own = false) {Ug : Addr → Prop} {σg : Sg} {ρg : Env} {b : Addr} (z : Ow Mg Ug σg ρg b) : Ug b := by
  rcases z with z | ⟨i, _, z, _⟩
  · exact z
  · rw [hM i] at z
    cases z
theorem seg_false {m : Model} {R : GenEnd} {Y : Protocol} {n : Nat} {s₀ : Shared} {c : Code} {fs : List Frame} {α : Type} {t : Sem α} {f : Value → Sem PySem.Fin} {Q : α → Shared → Prop} {s : Shared} (h : wpAny m A t Q (fun _ _ => False) s) : wpAny m A t Q (fun x s' => Seg m A R Y n s₀ c (f x) fs s') s := wpAny_mono h (fun _ _ q => q) fun _ _ q => q.elim
theorem seg_gen (g : Gn Xg A tg iter elt ifs scope pos it J fp tn Ss T' Mg G h fe) (sub : ∀ q ∈ T, q ∈ T') (J1 : ItOk Xg.K Xg.w (Ow M U σ ρ) J ds H1) : ∀ (k i n : Nat) (s₀ s' : Shared) (ρg ρj : Env) (l dj : List D) (ys : List V) (sp : List (Addr × Obj)) (σg : Sg) (H' : Hp), ds.length - i = k → i ≤ ds.length → n ≤ N → ds.length - i ≤ n →
    posn (gTurn G h fe) ds ρ0 (N - n) = some (dj, l, ρj) → nextOf (gTurn G h fe) l ρj = nextOf (gTurn G h fe) (ds.drop i) ρg → nextOf (gTurn G h fe) (ds.drop i) ρg ≠ none → tn i s'.heap → GAt Xg fp Ss Sm T T' M Mg U σ ρ H1 ρg ys dj sp σg H' s' → (∀ b ∈ Ss, s₀.heap.get? b = s'.heap.get? b) →
    Seg (model Xg.prog Xg.w) A (gR Xg fp Ss Sm T T' M Mg U σ ρ H1 (gTurn G h fe) ds ρ0 N) (gY Xg fp Ss Sm T T' M Mg U σ ρ H1 (gTurn G h fe) ds ρ0 N) n s₀ (.compLoop (.GeneratorExp elt [⟨tg, iter, ifs, 0⟩] scope pos) 0 (.ref it) .none Xg.env)
      ((model Xg.prog Xg.w).den (.compLoop (.GeneratorExp elt [⟨tg, iter, ifs, 0⟩] scope pos) 0 (.ref it) .none Xg.env)) [] s' := by
  intro k
  induction k with
  | zero =>
    intro i n s₀ s' ρg ρj l dj ys sp σg H' hk hi hn hle hp hx hdef htn z hS
    have hin : i = ds.length := by omega
    subst hin
    show Seg _ A _ _ _ s₀ _ ((compTurn (.GeneratorExp elt [⟨tg, iter, ifs, 0⟩] scope pos) 0 (.ref it) .none Xg.env).onRaise (leaving Xg.env)) [] s'
    rw [compTurn_gen, Sem.onRaise_eq_wrap]
    refine seg_bind_wrap (wpAny_standAt ?_)
    refine seg_bind_wrap ?_
    rw [g.over]
    refine wpAny_mono (g.turn.done Xg rfl rfl rfl g.calm ds.length sp s' σg H' (fun _ _ => False) z.inv (GAt.fpOk g z.ss z.fpn) htn (J1.stop H' z.cm.ostay)) (fun r s1 hr => ?_) fun _ _ q => q.elim
    obtain ⟨rfl, I1⟩ := hr
    refine seg_end (.ok .next) ⟨rfl, dj, l, ρj, hp, ?_, ys, sp, σg, H', ρg, ⟨I1, z.fpn, z.sg, z.sc, z.cm, z.rp, z.sm, z.ss⟩, fun b hb => ?_⟩
    · rw [hx, List.drop_length]; rfl
    · rw [hS b hb]
      rw [← z.ss] at hb
      obtain ⟨p, hp, e⟩ := List.mem_map.mp hb
      rw [← e, (z.inv.pin p (List.mem_append_right _ hp)).1, (I1.pin p (List.mem_append_right _ hp)).1]
  | succ k ih =>
    intro i n s₀ s' ρg ρj l dj ys sp σg H' hk hi hn hle hp hx hdef htn z hS
    have hlt : i < ds.length := by omega
    have nx : ∀ e s1, Xg.xe e s1 → False := fun e s1 q => by rw [g.nox] at q; exact q
    have kept : ∀ {sp2 : List (Addr × Obj)} {σ2 : Sg} {H2 : Hp} {s2 : Shared}, (∀ p ∈ sp, p ∈ sp2) → Inv Xg sp2 σ2 H2 s2 → ∀ b ∈ Ss, s₀.heap.get? b = s2.heap.get? b := fun {sp2 σ2 H2 s2} hsub I2 b hb => by
      rw [hS b hb]
      rw [← z.ss] at hb
      obtain ⟨p, hp, e⟩ := List.mem_map.mp hb
      rw [← e, (z.inv.pin p (List.mem_append_right _ hp)).1, (I2.pin p (List.mem_append_right _ (hsub p hp))).1]
    rw [List.drop_eq_getElem_cons hlt] at hx hdef
    unfold nextOf at hdef
    rw [show nextOf (gTurn G h fe) (ds[i] :: ds.drop (i + 1)) ρg = ((gTurn G h fe ds[i] ρg).bind fun p => match p.2 with
      | none => nextOf (gTurn G h fe) (ds.drop (i + 1)) p.1
      | some y => some (some (y, ds.drop (i + 1), p.1))) from rfl] at hx
    obtain ⟨⟨ρt, oy⟩, et⟩ : ∃ p, gTurn G h fe ds[i] ρg = some p := by
      cases e : gTurn G h fe ds[i] ρg with
      | none => rw [e] at hdef; exact absurd rfl hdef
      | some p => exact ⟨p, rfl⟩
    rw [et] at hx hdef
    have et0 := et
    obtain ⟨ρ1, eG, et⟩ := bind_of et
    obtain ⟨⟨ρ2, b⟩, eh, et⟩ := bind_of et
    show Seg _ A _ _ _ s₀ _ ((compTurn (.GeneratorExp elt [⟨tg, iter, ifs, 0⟩] scope pos) 0 (.ref it) .none Xg.env).onRaise (leaving Xg.env)) [] s'
    rw [compTurn_gen, Sem.onRaise_eq_wrap]
    refine seg_bind_wrap (wpAny_standAt ?_)
    refine seg_bind_wrap ?_
    rw [g.over]
    refine wpAny_mono (g.turn.item Xg rfl rfl rfl g.calm i sp s' σg H' (fun _ _ => False) z.inv (GAt.fpOk g z.ss z.fpn) htn (J1.go i H' hlt z.cm.ostay)) (fun r s1 hr => ?_) fun _ _ q => q.elim
    obtain ⟨u, rfl, h4⟩ := hr
    refine seg_bind_wrap ?_
    rw [g.over]
    refine wpAny_mono h4 (fun _ s5 h5 => ?_) fun _ _ q => q.elim
    obtain ⟨x, H5, I5, r5, y5, st5, fr5⟩ := h5
    obtain ⟨gr5, d5, e5, rp5⟩ := J1.yld i H' x H5 (Ow M U σ ρ) .refl (fun b => z.sc.owT) hlt z.cm.ostay y5 (Inv.ko I5)
    rw [List.getElem?_eq_getElem hlt] at e5
    cases e5
    have cm5 : Calm H' H5 := Calm.grow gr5
    have I5' := I5.pinned (GAt.fpOk g z.ss fr5) (g.turn.obj _ _ st5)
    have sg5 : Sim Xg.K Xg.w T' Mg (Ow M U σ ρ) σg H5 ρg := z.sg.grow gr5 (Inv.ko I5)
    refine seg_bind_wrap ?_
    rw [g.over]
    obtain ⟨ns, hgs⟩ := g.hg
    refine wpAny_mono (hgs.run _ s5 σg H5 x u (fun σ6 H6 => Sim Xg.K Xg.w T' Mg (Ow M U σ ρ) σ6 H6 ρ1 ∧ Stp Mg σg ρg H5 σ6 ρ1 H6) I5' r5 ⟨Ow M U σ ρ, ρg, ds[i], ρ1, sg5, rp5.weak fun b q => ow_fz g.hM q, eG, fun σ6 H6 S6 st6 _ => ⟨S6, st6⟩⟩) (fun _ s6 h6 => ?_) fun _ _ q => (nx _ _ q).elim
    obtain ⟨σ6, H6, I6, S6, st6⟩ := h6
    refine seg_bind_wrap ?_
    rw [g.over]
    refine wpAny_mono (g.ht.run _ s6 σ6 H6 (fun b' H7 => b' = b ∧ Sim Xg.K Xg.w T' Mg (Ow M U σ ρ) σ6 H7 ρ2 ∧ Stp Mg σ6 ρ1 H6 σ6 ρ2 H7) I6 ⟨Ow M U σ ρ, ρ1, ρ2, b, S6, eh, fun H7 S7 st7 => ⟨rfl, S7, st7⟩⟩) (fun ok s7 h7 => ?_) fun _ _ q => (nx _ _ q).elim
    obtain ⟨H7, I7, rfl, S7, st7⟩ := h7
    have cm7 : Calm H' H7 := cm5.trans ((Stp.calm g.hM st6).trans (Stp.calm g.hM st7))
    have mk : ∀ {H8 : Hp} {s8 : Shared} {ρ8 : Env} {ys8 dy8}, Inv Xg (sp ++ pinsAt fp s5.heap) σ6 H8 s8 → Calm H' H8 → Sim Xg.K Xg.w T' Mg (Ow M U σ ρ) σ6 H8 ρ8 → RpA Xg.K Xg.w (Ow M U σ ρ) H8 ys8 dy8 → Sm ys8 sp → tn (i + 1) s8.heap ∧ GAt Xg fp Ss Sm T T' M Mg U σ ρ H1 ρ8 ys8 dy8 sp σ6 H8 s8 := fun {H8 s8 ρ8 ys8 dy8} I8 c8 S8 r8 m8 =>
      ⟨g.turn.keep _ _ _ st5 fun b hb o e => (I8.pin (b, o) (List.mem_append_right _ (List.mem_append_right _ (mem_pinsAt hb e)))).1, I8.unpinned, fun b hb => by
        obtain ⟨o, e, d⟩ := g.turn.obj _ _ st5 b hb
        exact (I8.pin (b, o) (List.mem_append_right _ (List.mem_append_right _ (mem_pinsAt hb e)))).2.1, S8, z.sc.calm c8 (S8.tb.sub sub) (Inv.ko I8), z.cm.trans c8, r8, m8, z.ss⟩
    cases ok with
    | false =>
      rw [if_neg (by simp)] at et
      cases et
      simp only [Bool.false_eq_true, if_false]
      obtain ⟨t8, z8⟩ := mk I7 cm7 S7 (z.rp.calm cm7) z.sm
      exact seg_again rfl (ih (i + 1) n s₀ s7 _ ρj l dj ys sp σ6 H7 (by omega) hlt hn (by omega) hp hx hdef t8 z8 (kept (fun p hp => List.mem_append_left _ hp) I7))
    | true =>
      rw [if_pos rfl] at et
      obtain ⟨⟨ρ3, y⟩, ef, et⟩ := Option.map_eq_some_iff.mp et
      cases et
      simp only [if_true]
      have hy : ∀ v, yieldOut Xg.env v = yieldValue v := fun v => by simp only [yieldOut, g.co, Bool.false_eq_true, if_false]
      simp only [hy]
      rw [Sem.bind_eq_wrap', Sem.bind_eq_wrap', Sem.wrap_wrap, Sem.wrap_wrap]
      refine seg_wrap ?_
      rw [g.over]
      refine wpAny_mono (g.he.run _ s7 σ6 H7 (fun v8 H8 => Sim Xg.K Xg.w T' Mg (Ow M U σ ρ) σ6 H8 ρ3 ∧ Stp Mg σ6 ρ2 H7 σ6 ρ3 H8 ∧ Rp Xg.K Xg.w (Ow Mg (Ow M U σ ρ) σ6 ρ3) H8 v8 y) I7 ⟨Ow M U σ ρ, ρ2, ρ3, y, S7, ef, fun v8 H8 S8 st8 r8 => ⟨S8, st8, r8⟩⟩) (fun u8 s8 h8 => ?_) fun _ _ q => (nx _ _ q).elim
      obtain ⟨v8, H8, I8, rv8, S8, st8, r8⟩ := h8
      have cm8 : Calm H' H8 := cm7.trans (Stp.calm g.hM st8)
      obtain ⟨t8, z8⟩ := mk I8 cm8 S8 (z.rp.calm cm8) z.sm
      obtain ⟨m, rfl⟩ : ∃ m, n = m + 1 := ⟨n - 1, by omega⟩
      refine seg_at (seg_yield rfl rfl rfl ⟨dj, l, ρj, y, ds.drop (i + 1), ρ3, hp, hx, hn, ys, sp, σ6, H8, v8, z8, kept (fun p hp => List.mem_append_left _ hp) I8, rv8, r8.weak fun b q => .inl q, fun s2 q2 hd2 => ?_⟩)
      obtain ⟨t9, sp9, z9⟩ := z8.woken g (r8.weak fun b q => .inl q) t8 q2
      have ep : posn (gTurn G h fe) ds ρ0 (N - m) = some (dj ++ [y], ds.drop (i + 1), ρ3) := by
        have : N - m = N - (m + 1) + 1 := by omega
        rw [this]
        show (posn (gTurn G h fe) ds ρ0 (N - (m + 1))).bind _ = _
        rw [hp]
        show (match nextOf (gTurn G h fe) l ρj with
          | some (some (y, l, ρ')) => some (dj ++ [y], l, ρ')
          | _ => none) = _
        rw [hx]
        rfl
      refine seg_again rfl (ih (i + 1) m s2 s2 ρ3 ρ3 (ds.drop (i + 1)) _ _ sp9 σ6 H8 (by omega) hlt (by omega) (by omega) ep rfl hd2 t9 z9 fun b hb => rfl)
end
end Sx
/-! G4: a generator expression is made, woken. -/
namespace Sx
open PySem PySem.Spec PyProof.Rows L2 GenW

theorem over_loopG {A : Around} {elt : Expr} {gens : List Comprehension} {scope : Scope} {pos : Pos} {it acc : Value} {env : PySem.Env} : A.over (.compLoop (.GeneratorExp elt gens scope pos) 0 it acc env) [] = A.deeper env := by
  first
    | rfl
    | (obtain ⟨hd, d, fr, gs, u⟩ := A; simp [Around.over, Around.deeper, marksOver, frameCount, unitsOf, envsOf, guardsOf, pushEnvs, pushGuards, Code.envs, Code.env?, Code.isFrame, Code.guards, Code.isGuard, Code.weight, Code.frames, Code.isCreation, Code.isCaller, Code.cUnits])
theorem over_startG {A : Around} {elt : Expr} {gens : List Comprehension} {scope : Scope} {pos : Pos} {it acc : Value} {env : PySem.Env} : A.over (.compStart (.GeneratorExp elt gens scope pos) 0 it acc env) [] = A.deeper env := by
  first
    | rfl
    | (obtain ⟨hd, d, fr, gs, u⟩ := A; simp [Around.over, Around.deeper, marksOver, frameCount, unitsOf, envsOf, guardsOf, pushEnvs, pushGuards, Code.envs, Code.env?, Code.isFrame, Code.guards, Code.isGuard, Code.weight, Code.frames, Code.isCreation, Code.isCaller, Code.cUnits])
section
variable {Xg : Cx} {A : Around} {tg iter elt : Expr} {ifs : List Expr} {scope : Scope} {pos : Pos} {it : Addr} {J : It} {fp : List Addr} {tn : Nat → Heap → Prop} {Ss : List Addr} {Sm : SMem} {T T' : Tabs} {M Mg : Kds} {G : Gv} {h : Tv} {fe : Ev}
  {U : Addr → Prop} {σ σg : Sg} {ρ ρg : Env} {H1 H' : Hp} {ys : List V} {dys ds : List D} {sp : List (Addr × Obj)} {s' s2 : Shared} {N : Nat} {ρ0 : Env}
theorem seg_gen0 (g : Gn Xg A tg iter elt ifs scope pos it J fp tn Ss T' Mg G h fe) (sub : ∀ q ∈ T, q ∈ T') (J1 : ItOk Xg.K Xg.w (Ow M U σ ρ) J ds H1) (hN : ds.length ≤ N) (hdef : nextOf (gTurn G h fe) ds ρ0 ≠ none) (htn : tn 0 s'.heap) (z : GAt Xg fp Ss Sm T T' M Mg U σ ρ H1 ρ0 [] [] sp σg H' s') :
    Seg (model Xg.prog Xg.w) A (gR Xg fp Ss Sm T T' M Mg U σ ρ H1 (gTurn G h fe) ds ρ0 N) (gY Xg fp Ss Sm T T' M Mg U σ ρ H1 (gTurn G h fe) ds ρ0 N) N s' (.compStart (.GeneratorExp elt [⟨tg, iter, ifs, 0⟩] scope pos) 0 (.ref it) .none Xg.env)
      ((model Xg.prog Xg.w).den (.compStart (.GeneratorExp elt [⟨tg, iter, ifs, 0⟩] scope pos) 0 (.ref it) .none Xg.env)) [] s' := by
  have loop := seg_gen (N := N) (ρ0 := ρ0) g sub J1 ds.length 0 N s' s' ρ0 ρ0 ds [] [] sp σg H' (Nat.sub_zero _) (Nat.zero_le _) (Nat.le_refl _) (by omega) (by rw [Nat.sub_self]; rfl) (by rw [List.drop_zero]) (by rw [List.drop_zero]; exact hdef) htn z fun b hb => rfl
  show Seg _ A _ _ _ s' _ ((compStart (.GeneratorExp elt [⟨tg, iter, ifs, 0⟩] scope pos) 0 (.ref it) .none Xg.env).onRaise (leaving Xg.env)) [] s'
  unfold compStart
  rw [Sem.onRaise_eq_wrap]
  show Seg _ A _ _ _ s' _ ((ask >>= _).wrap _ _ _ _) [] s'
  refine seg_bind_wrap (wpAny_askSetting ?_)
  split
  · exact seg_again rfl loop
  · first
      | exact seg_bind_wrap (wpAny_rule (seg_bind_wrap (wpAny_standAt (seg_bind_wrap (g.turn.self _ 0 s' _ _ htn (seg_again rfl loop))))))
      | (refine seg_bind_wrap (wpAny_rule ?_); show Seg _ A _ _ _ s' _ ((standAt iter.pos >>= _).wrap _ _ _ _) [] s'; exact seg_bind_wrap (wpAny_standAt (seg_bind_wrap (g.turn.self _ 0 s' _ _ htn (seg_again rfl loop)))))

/-- the state may have grown -/
theorem GAt.more (z : GAt Xg fp Ss Sm T T' M Mg U σ ρ H1 ρg ys dys sp σg H' s') (hb : AllBare s2.gens) (ho : s2.os = s'.os) (k : ∀ b o, s'.heap.get? b = some o → s2.heap.get? b = some o) : GAt Xg fp Ss Sm T T' M Mg U σ ρ H1 ρg ys dys sp σg H' s2 :=
  ⟨z.inv.call' (ch := []) ho (Un.kept k) (z.inv.hok.kept k) hb fun b hb => absurd hb (by simp), z.fpn, z.sg, z.sc, z.cm, z.rp, z.sm, z.ss⟩

/-- ready to be woken for the item j -/
structure GZ (Xg : Cx) (A : Around) (fp : List Addr) (Ss : List Addr) (Sm : SMem) (T T' : Tabs) (M Mg : Kds) (U : Addr → Prop) (σ : Sg) (ρ : Env) (H1 : Hp) (t : Gt) (ds : List D) (ρ0 : Env) (N : Nat) (a : Addr) (gn : Nat) (j : Nat) (s : Shared) : Prop where
  gen : s.heap.IsGen a gn
  lim : s.heap.NoLimit
  lt : j ≤ N
  go : ∃ gs, s.gens[gn]? = some gs ∧ gs.Goes (model Xg.prog Xg.w) A (gR Xg fp Ss Sm T T' M Mg U σ ρ H1 t ds ρ0 N) (gY Xg fp Ss Sm T T' M Mg U σ ρ H1 t ds ρ0 N) (N - j) (.send .none) (s.setGen gn .running)
theorem nextOf_len {t : Gt} : ∀ {l : List D} {ρ : Env} {y : D} {l' : List D} {ρ' : Env}, nextOf t l ρ = some (some (y, l', ρ')) → l'.length < l.length
  | [], _, _, _, _, h => by cases h
  | d :: l, ρ, y, l', ρ', h => by
    obtain ⟨⟨ρ1, o⟩, e1, e2⟩ := bind_of h
    cases o with
    | none => exact Nat.lt_succ_of_lt (nextOf_len e2)
    | some x => cases e2; exact Nat.lt_succ_self _
theorem posn_len {t : Gt} {ds : List D} {ρ : Env} : ∀ {j : Nat} {dj l : List D} {ρj : Env}, posn t ds ρ j = some (dj, l, ρj) → j + l.length ≤ ds.length
  | 0, _, _, _, h => by cases h; simp
  | j + 1, dj, l, ρj, h => by
    obtain ⟨⟨d1, l1, ρ1⟩, e1, e2⟩ := bind_of h
    have ih := posn_len e1
    dsimp only at e2
    split at e2
    · rename_i y l2 ρ2 e3
      cases e2
      have := nextOf_len e3
      omega
    · cases e2
theorem gnext {t : Gt} {a : Addr} {gn j : Nat} {s : Shared} {dj l : List D} {ρj : Env} {go : Obj} {Q : Option Value → Shared → Prop} {E : Value → Shared → Prop} (hh : A.handled = none) (hroom : A.depth < recursionLimit) (hdN : ds.length < N) (hSa : a ∉ Ss) (hSc : cStatics ∉ Ss) (hpn : (a, go) ∈ Xg.pn) (hgo : ∃ nm qn, go.cls = .type "generator" ∧ go.data = .fields #[.int gn 0, nm, qn] ∧ go.slots = #[])
    (z : GZ Xg A.in1 fp Ss Sm T T' M Mg U σ ρ H1 t ds ρ0 N a gn j s) (hp : posn t ds ρ0 j = some (dj, l, ρj))
    (hY : ∀ y l' ρ', nextOf t l ρj = some (some (y, l', ρ')) → ∀ v s1 ys sp σg H' x, GAt Xg fp Ss Sm T T' M Mg U σ ρ H1 ρ' ys dj sp σg H' s1 → RelV x v → Rp Xg.K Xg.w (Ow M U σ ρ) H' x y → (∀ b ∈ Ss, s.heap.get? b = s1.heap.get? b) →
      (∀ s2, Slp Ss Sm (ys ++ [x]) s1 s2 → s2.gens = s1.gens → nextOf t l' ρ' ≠ none → GZ Xg A.in1 fp Ss Sm T T' M Mg U σ ρ H1 t ds ρ0 N a gn (j + 1) s2) → Q (some v) s1)
    (hN : nextOf t l ρj = some none → ∀ s1 ys sp σg H' ρg, GAt Xg fp Ss Sm T T' M Mg U σ ρ H1 ρg ys dj sp σg H' s1 → (∀ b ∈ Ss, s.heap.get? b = s1.heap.get? b) → Q none s1) :
    wpAny (model Xg.prog Xg.w) A (pyNext (.ref a)) Q E s := by
  obtain ⟨hg, hl, hj, gs, hgs, hgo2⟩ := z
  have hgl : gn < s.gens.size := (Array.getElem?_eq_some_iff.mp hgs).1
  have isgen : ∀ {ρg ys dys sp σg H' s1}, GAt Xg fp Ss Sm T T' M Mg U σ ρ H1 ρg ys dys sp σg H' s1 → s1.heap.IsGen a gn := fun {ρg ys dys sp σg H' s1} q => by
    obtain ⟨nm, qn, c1, c2, c3⟩ := hgo
    exact ⟨go, nm, qn, (q.inv.pin (a, go) (List.mem_append_left _ hpn)).1, c1, c2, c3⟩
  refine wpAny_gsz (n := gn + 1) hgl ?_
  refine wpAny_pyNext_genexpQ (n := N - j) (Y := gY Xg fp Ss Sm T T' M Mg U σ ρ H1 t ds ρ0 N) (P := fun n s₀ s1 => ∃ dys l ρj, posn t ds ρ0 (N - n) = some (dys, l, ρj) ∧ nextOf t l ρj = some none ∧ ∃ ys sp σg H' ρg, GAt Xg fp Ss Sm T T' M Mg U σ ρ H1 ρg ys dys sp σg H' s1 ∧ ∀ b ∈ Ss, s₀.heap.get? b = s1.heap.get? b)
    hh hl hroom hg hgs hgo2 (fun v s1 gs' hb hv hsz => ?_) (fun s1 hq h' hk hsz => ?_)
  · obtain ⟨dys, l2, ρj2, y, l', ρ', e1, e2, e3, ys, sp, σg, H', x, z1, hS, rx, rp, hkap⟩ := hv
    have hlen := posn_len hp
    have hjN : j < N := by omega
    obtain ⟨m, hm⟩ : ∃ m, N - j = m + 1 := ⟨N - j - 1, by omega⟩
    have ej : N - (N - j - 1 + 1) = j := by omega
    rw [ej, hp] at e1
    cases e1
    have hsz1 : gn < s1.gens.size := by
      have q : (s1.setGen gn gs').gens.size = s1.gens.size := setGen_size _ _ _
      have hsz' : gn + 1 ≤ (s1.setGen gn gs').gens.size := hsz
      omega
    have hbare : AllBare (s1.setGen gn gs').gens := allBare_setGen z1.inv.bare hb
    refine hY y l' ρ' e2 v (s1.setGen gn gs') ys sp σg H' x (z1.more hbare rfl fun _ _ e => e) rx rp (fun b hb => hS b hb) fun s2 q2 hg2 hd2 => ?_
    refine ⟨?_, ?_, by omega, gs', by rw [hg2]; exact setGen_at hsz1, ?_⟩
    · obtain ⟨o, nm, qn, c0, c1⟩ := isgen z1
      exact ⟨o, nm, qn, q2.keep a o hSa c0, c1⟩
    · obtain ⟨mc, hns, hnn⟩ := z1.inv.nolimit
      exact ⟨mc, hns.at' fun o e => q2.keep _ o hSc e, hnn⟩
    · have hkap' := hkap (s2.setGen gn .running) ⟨q2.os, allBare_setGen q2.bare rfl, q2.keep, q2.sp⟩ hd2
      have : N - (j + 1) = m := by omega
      rw [this]
      rw [hm] at hkap'
      exact hkap'
  · obtain ⟨dys, l2, ρj2, e1, e2, ys, sp, σg, H', ρg, z1, hS⟩ := hq
    have ej : N - (N - j) = j := by omega
    rw [ej, hp] at e1
    cases e1
    exact hN e2 _ ys sp σg H' ρg (z1.more (allBare_setGen z1.inv.bare rfl) rfl fun b o e => hk b o e) fun b hb => by
      have q0 : s.heap.get? b = s1.heap.get? b := hS b hb
      rw [q0]
      have hb' := hb
      rw [← z1.ss] at hb'
      obtain ⟨p, hp, e⟩ := List.mem_map.mp hb'
      have q := (z1.inv.pin p (List.mem_append_right _ hp)).1
      rw [e] at q
      rw [q]
      exact (hk b _ q).symm
end
end Sx
/-! G5: a generator expression is made. -/
namespace Sx
open PySem PySem.Spec PyProof.Rows L2 GenW

theorem ItOk.calm {K : PySem.W.Frag} {w : World} {O : Addr → Prop} {J : It} {ds : List D} {H H' : Hp} (j : ItOk K w O J ds H) (c : Calm H H') : ItOk K w O J ds H' :=
  ⟨fun i H2 hi st => j.go i H2 hi fun b o e n t => st b o (c.same b o e t) n t, fun i H2 x H3 O' hU hD hi st y ko => j.yld i H2 x H3 O' (fun b z => (hU b z).imp_right fun q => ⟨Classical.byContradiction fun n => c.dom b n q.1, q.2⟩) hD hi (fun b o e n t => st b o (c.same b o e t) n t) y ko, fun H2 st => j.stop H2 fun b o e n t => st b o (c.same b o e t) n t⟩
/-- the context of its run, when it is woken in A -/
abbrev gXg (X : Cx) (sc : Shared) (H1 : Hp) (A : Around) (Ng : List Str) (scope : Scope) (code : Value) (fp : List Addr) (a : Addr) (go : Obj) : Cx := gCx X sc H1 (A.deeper (gEnv X scope sc code)) Ng (gEnv X scope sc code) fp [(a, go)]
/-- what the parts of a generator expression do, in every such context -/
def GBody (X : Cx) (T : Tabs) (k : Nat) (Ng : List Str) (scope : Scope) (Mg : Kds) (tg elt : Expr) (ifs : List Expr) (G : Gv) (h : Tv) (fe : Ev) : Prop :=
  ∀ (T' : Tabs) (Xg : Cx) (c P : Addr), (∀ q ∈ T, q ∈ T') → (∃ sc H1 A fp a go, Xg = gXg X sc H1 A Ng scope (.ref c) fp a go) → Cd Xg T' c P true → Room k Xg.A → (∃ ns, SG Xg T' Mg ns tg G) ∧ PTs Xg ifs (tT Xg.K Xg.w T' Mg h) ∧ SE Xg T' Mg elt fe
/-- it is made -/
structure GMk (X : Cx) (pins : List (Addr × Obj)) (σ : Sg) (T : Tabs) (M : Kds) (U : Addr → Prop) (ρ : Env) (k : Nat) (Ng : List Str) (scope : Scope) (Mg : Kds) (t : Gt) (ds : List D) (ρ0 : Env) (a gn : Nat) (sc : Shared) (H1 : Hp) (code : Value) (fp : List Addr) (go : Obj) (T' : Tabs) (s' : Shared) : Prop where
  inv : Inv X pins σ H1 sc
  ex : ExOk X pins fp
  sim : Sim X.K X.w T M U σ H1 ρ
  sub : ∀ q ∈ T, q ∈ T'
  lt : a < s'.heap.objs.size
  os : s'.os = sc.os
  bare : AllBare s'.gens
  gen : s'.heap.IsGen a gn
  keep : ∀ b o, sc.heap.get? b = some o → s'.heap.get? b = some o
  gob : ∃ nm qn, go.cls = .type "generator" ∧ go.data = .fields #[.int gn 0, nm, qn] ∧ go.slots = #[]
  wake : ∀ (A : Around) (Ss : List Addr) (Sm : SMem) (s2 : Shared), Room (k + 1) A → A.frames = some X.stack → (∀ S ∈ Ss, s'.heap.objs.size ≤ S) → s2.os = s'.os → AllBare s2.gens → (∀ b o, s'.heap.get? b = some o → s2.heap.get? b = some o) → s2.gens = s'.gens →
    (∃ sp, (∀ p ∈ sp, s2.heap.get? p.1 = some p.2 ∧ ∀ v, p.2.data ≠ .cell v) ∧ Sm [] sp ∧ sp.map (·.1) = Ss) → nextOf t ds ρ0 ≠ none → GZ (gXg X sc H1 A Ng scope code fp a go) A fp Ss Sm T T' M Mg U σ ρ H1 t ds ρ0 (ds.length + 1) a gn 0 s2
section
variable {X : Cx} {pins : List (Addr × Obj)} {σ : Sg} {T T' : Tabs} {M Mg : Kds} {U : Addr → Prop} {ρ : Env} {k a gn : Nat} {Ng : List Str} {scope : Scope} {t : Gt} {ds : List D} {ρ0 : Env} {sc s' : Shared} {H1 H' : Hp} {code : Value} {fp Ss : List Addr} {go : Obj} {Sm : SMem} {A : Around} {ρg : Env} {ys : List V} {dys : List D} {sp : List (Addr × Obj)} {σg : Sg} {s1 : Shared}
/-- back in the def -/
theorem GMk.back (m : GMk X pins σ T M U ρ k Ng scope Mg t ds ρ0 a gn sc H1 code fp go T' s') (z : GAt (gXg X sc H1 A Ng scope code fp a go) fp Ss Sm T T' M Mg U σ ρ H1 ρg ys dys sp σg H' s1) : Inv X pins σ H' s1 :=
  m.inv.call' (ch := fp) z.inv.os z.inv.base z.inv.hok z.inv.bare m.ex
end
/-- the built-ins' module is known -/
def Bm (X : Cx) : Prop := ∃ (bm : Addr) (ob : Obj), X.mg "__builtins__" = some (.ref bm) ∧ bm ≠ builtinsNs ∧ X.base.get? bm = some ob ∧ ob.cls = .type "module" ∧ ob.dict = some builtinsNs ∧ ob.data = .plain
section
variable {X : Cx} {pins : List (Addr × Obj)} {σ : Sg} {H : Hp} {s : Shared} {T : Tabs} {M Mg : Kds} {U : Addr → Prop} {ρ ρ' : Env} {k : Nat} {Ng : List Str} {cap : List (Option Nat)} {scope : Scope} {tg iter elt : Expr} {ifs : List Expr} {pos : Pos} {G : Gv} {h : Tv} {fe : Ev} {gi : Iv} {ds : List D} {c P : Addr} {fl : Bool} {Q : Value → Shared → Prop}
def notDisp : Expr → Bool
  | .List .. | .Set .. => false
  | _ => true
theorem genFold_of {iter : Expr} {env : PySem.Env} (hn : notDisp iter = true) : ∀ x, genFold iter env x = pure x := by
  intro x
  cases iter <;> first | rfl | exact absurd hn (by simp [notDisp])
theorem ge_make (hr : X.A.depth < recursionLimit) (hcd : Cd X T c P fl) (hbm : Bm X) (ok : GScp X.N X.env.scope scope Ng cap) (hcap : ∀ (i j : Nat), cap[i]? = some (some j) → (M j).own = false) (hMg : ∀ i, (Mg i).own = false) (hi : SI X T M tg iter gi) (hb : GBody X T k Ng scope Mg tg elt ifs G h fe) (hs : ∀ x, genFold iter X.env x = pure x)
    (I : Inv X pins σ H s) (S : Sim X.K X.w T M U σ H ρ) (hf : gi ρ = some (ρ', ds))
    (hQ : ∀ a gn sc H1 code fp go T' s', GMk X pins σ T M U ρ' k Ng scope Mg (gTurn G h fe) ds (caps cap ρ') a gn sc H1 code fp go T' s' → Stp M σ ρ H σ ρ' H1 → Q (.ref a) s') :
    wpAny (model X.prog X.w) X.A (eval (.GeneratorExp elt [⟨tg, iter, ifs, 0⟩] scope pos) X.env) Q X.xe s := by
  obtain ⟨wi, hw, hit⟩ := hi
  have hfree : ∀ y ∈ scope.names, y.2 = .free → ∃ c, X.env.cells.lookup y.1 = some c := fun y hy e => by
    rcases ok.free y hy e with k | k
    · exact I.ok.has _ (.inl k)
    · exact I.ok.has _ (.inr k)
  refine wpAny_GeneratorExp_make ok.co (closure_ok hfree) ok.cell ok.dot ok.kind hr ?_ hs
  refine thn (hw.run pins s σ H (fun J H1 => Sim X.K X.w T M U σ H1 ρ' ∧ Stp M σ ρ H σ ρ' H1 ∧ ItOk X.K X.w (Ow M U σ ρ') J ds H1) I (hit σ H U ρ ρ' ds _ S hf fun J H1 S1 st1 J1 => ⟨S1, st1, J1⟩)) fun xv s1 hx => thn hx fun itv s2 h2 => ?_
  obtain ⟨it, fp, tn, J, H2, e, I2, Tn, st2, f2, S2, stp2, J2⟩ := h2
  subst e
  refine ⟨I2.nolimit, ?_⟩
  refine gen_code I2 hcd S2.tb fun c' P' H3 s3 I3 same3 dom3 tb3 keep3 => ?_
  obtain ⟨bm, ob, e1, e2, e3, e4, e5, e6⟩ := hbm
  refine wpAny_builtinsFor (m := X.mg) (by rw [I3.ok.glob]; exact I3.mod.glob.keeps I3.bk) e1 e2 (I3.bk _ _ e3) e4 e5 e6 ?_
  intro h' hn' hs'
  have cm3 : Calm H2 H3 := ⟨same3, dom3⟩
  have S3 : Sim X.K X.w T M U σ H3 ρ' := S2.calm cm3 (tb3.sub fun q hq => List.mem_cons_of_mem _ hq) (Inv.ko I3)
  have J3 : ItOk X.K X.w (Ow M U σ ρ') J ds H3 := J2.calm cm3
  have fp3 : ∀ b ∈ fp, FpOk X pins H3 b ∧ b < s3.heap.objs.size := fun b hb => by
    obtain ⟨o, eo, _⟩ := Tn.obj _ _ st2 b hb
    obtain ⟨k1, k2⟩ := keep3 b o eo (f2 b hb).1
    exact ⟨⟨k2, (f2 b hb).2⟩, Heap.lt_size k1⟩
  have st3 : tn 0 s3.heap := Tn.keep _ _ _ st2 fun b hb o eo => (keep3 b o eo (f2 b hb).1).1
  have hsz : h'.objs.size = s3.heap.objs.size + 1 := by rw [hs'.1, Heap.size_push]
  have kp1 : ∀ b o, s3.heap.get? b = some o → h'.get? b = some o := fun b o e => hs'.extBut b o (Nat.ne_of_lt (Heap.lt_size e)) (Heap.get?_push_of_some _ e)
  generalize hgo : ({ cls := .type "generator", data := .fields #[.int s3.gens.size 0, .str "<genexpr>" (s3.toks + 1), .str (X.env.qual ++ "<genexpr>") (s3.toks + 1 + 1)] } : Obj) = go
  have goc : go.cls = .type "generator" ∧ go.data = .fields #[.int s3.gens.size 0, .str "<genexpr>" (s3.toks + 1), .str (X.env.qual ++ "<genexpr>") (s3.toks + 1 + 1)] ∧ go.slots = #[] := by rw [← hgo]; exact ⟨rfl, rfl, rfl⟩
  have hpush : ∀ h : Heap, (h.push go).get? h.objs.size = some go := fun h => by rw [← hgo]; exact Heap.get?_push_size _ rfl
  generalize hs4 : ({ s3 with
            gens := s3.gens.push (.fresh (.compStart (.GeneratorExp elt [⟨tg, iter, ifs, 0⟩] scope pos) 0 (.ref it) .none (genEnv scope (cloFrom X.env.cells scope.names []) s3.heap.objs.size (.ref c') builtinsNs X.env))),
            toks := s3.toks + 1 + 1 + 1,
            heap := h'.push go } : Shared) = s4
  have h4 : s4.heap = h'.push go := by rw [← hs4]
  have g4 : s4.gens = s3.gens.push (.fresh (.compStart (.GeneratorExp elt [⟨tg, iter, ifs, 0⟩] scope pos) 0 (.ref it) .none (gEnv X scope s3 (.ref c')))) := by rw [← hs4]
  have o4 : s4.os = s3.os := by rw [← hs4]
  have b4 : AllBare s4.gens := by rw [g4]; exact AllBare.push I3.bare rfl
  have kp4 : ∀ b o, s3.heap.get? b = some o → s4.heap.get? b = some o := fun b o e => by rw [h4]; exact Heap.get?_push_of_some _ (kp1 b o e)
  have e4a : s4.heap.get? h'.objs.size = some go := by rw [h4]; exact hpush _
  have sz4 : s4.heap.objs.size = h'.objs.size + 1 := by rw [h4, Heap.size_push]
  refine hQ h'.objs.size s3.gens.size s3 H3 (.ref c') fp go ((c', P', true) :: T) s4 ⟨I3, fun b hb => ?_, S3, fun q hq => List.mem_cons_of_mem _ hq, by rw [sz4]; exact Nat.lt_succ_self _, o4, b4, ⟨go, _, _, e4a, goc.1, goc.2.1, goc.2.2⟩, kp4, ⟨_, _, goc.1, goc.2.1, goc.2.2⟩, ?_⟩ (stp2.trans cm3.stp)
  · obtain ⟨⟨_, q1, q2, q3, q4, q5⟩, _⟩ := fp3 b hb
    exact ⟨q3, q1, q4, q5⟩
  intro A Ss Sm s5 hrm hfr hSs ho5 hb5 kp5 hg5 hsp hdef
  have hA : (A.deeper (gEnv X scope s3 (.ref c'))).frames = some (gEnv X scope s3 (.ref c') :: X.stack) := Around.frames_deeper hfr
  have I4 : Inv (gXg X s3 H3 A Ng scope (.ref c') fp h'.objs.size go) [] (caps cap σ) H3 s4 := by
    have := gen_start (A := A.deeper (gEnv X scope s3 (.ref c'))) (gs := s4.gens) (tk := s4.toks) (go := go) I3 ok fp3 hA hrm.hd hn' hs' (fun v z => by rw [goc.2.1] at z; cases z) hpush b4
    rw [← hs4] at this ⊢
    exact this
  have I5 : Inv (gXg X s3 H3 A Ng scope (.ref c') fp h'.objs.size go) [] (caps cap σ) H3 s5 := I4.call' (ch := []) ho5 (Un.kept kp5) (I4.hok.kept kp5) hb5 fun b hb => absurd hb (by simp)
  have young : ∀ S ∈ Ss, s4.heap.objs.size ≤ S := hSs
  have gn : Gn (gXg X s3 H3 A Ng scope (.ref c') fp h'.objs.size go) A tg iter elt ifs scope pos it J fp tn Ss ((c', P', true) :: T) Mg G h fe := by
    obtain ⟨b1, b2, b3⟩ := hb ((c', P', true) :: T) (gXg X s3 H3 A Ng scope (.ref c') fp h'.objs.size go) c' P' (fun q hq => List.mem_cons_of_mem _ hq) ⟨s3, H3, A, fp, _, go, rfl⟩ ⟨rfl, List.mem_cons_self, .inl rfl⟩ (hrm.deeper _)
    refine ⟨over_loopG, over_startG, rfl, ok.co, rfl, Tn, fun b hb => ⟨(I4.ok.exf b hb).1, I4.ok.exfs b hb, .inl hb, (I4.ok.exf b hb).2, fun p hp => ?_⟩, fun S hS => ?_, hMg, b1, b2, b3⟩
    · have ep : p = (h'.objs.size, go) := by simpa using hp
      rw [ep]
      exact Nat.ne_of_gt (Nat.lt_of_lt_of_le (fp3 b hb).2 (by rw [hsz]; exact Nat.le_succ _))
    · have hy := young S hS
      have haS : h'.objs.size < S := Nat.lt_of_lt_of_le (by rw [sz4]; exact Nat.lt_succ_self _) hy
      have h3S : s3.heap.objs.size < S := Nat.lt_of_le_of_lt (by rw [hsz]; exact Nat.le_succ _) haS
      refine ⟨Nat.le_of_lt h3S, Nat.ne_of_gt h3S, fun x c e z => ?_, fun z => ?_, fun z => ?_, fun p hp => ?_⟩
      · obtain ⟨v, q⟩ := I4.cell x c e
        exact absurd (Nat.lt_of_lt_of_le q.lt hy) (by rw [z]; exact Nat.lt_irrefl _)
      · exact absurd (Nat.lt_trans (fp3 S z).2 h3S) (Nat.lt_irrefl _)
      · have z' : S ∈ frs X.stack := z
        rcases List.mem_cons.mp (I3.stkSub _ z') with q | q
        · exact absurd (Nat.lt_trans I3.lt h3S) (by rw [← q]; exact Nat.lt_irrefl _)
        · exact I3.nofs (Nat.le_of_lt h3S) q
      · have ep : p = (h'.objs.size, go) := by simpa using hp
        rw [ep]
        exact Nat.ne_of_lt haS
  obtain ⟨sp, sp1, sp2, sp3⟩ := hsp
  have lenC : ∀ {α : Type} (l : List (Option α)), (caps cap l).length = cap.length := fun l => by simp [caps]
  have SG3 : Sim X.K X.w ((c', P', true) :: T) Mg (Ow M U σ ρ') (caps cap σ) H3 (caps cap ρ') := by
    refine ⟨by rw [lenC, lenC]; exact Nat.le_refl _, fun i d h1 h2 => ?_, fun i d h1 h2 => absurd h1 (by rw [hMg i]; simp), fun i j d d' a h1 => absurd h1 (by rw [hMg i]; simp), fun b hb => S3.owT hb, tb3, Inv.ko I3⟩
    obtain ⟨j, c1, c2⟩ := caps_at h2
    obtain ⟨v, q1, q2⟩ := S3.fz j d (hcap i j c1) c2
    refine ⟨v, ?_, q2.weak fun b z => ow_fz hMg z⟩
    unfold caps
    rw [List.getElem?_map, c1]
    show some ((σ[j]?).join) = _
    rw [q1]
    rfl
  have z5 : GAt (gXg X s3 H3 A Ng scope (.ref c') fp h'.objs.size go) fp Ss Sm T ((c', P', true) :: T) M Mg U σ ρ' H3 (caps cap ρ') [] [] sp (caps cap σ) H3 (s5.setGen s3.gens.size .running) := by
    have I6 : Inv (gXg X s3 H3 A Ng scope (.ref c') fp h'.objs.size go) [] (caps cap σ) H3 (s5.setGen s3.gens.size .running) := I5.call' (ch := []) rfl (Un.kept fun _ _ e => e) I5.hok (allBare_setGen hb5 rfl) fun b hb => absurd hb (by simp)
    refine ⟨I6.pins_of fun p hp => ?_, fun b hb => (fp3 b hb).1.1, SG3, S3, .refl, .nil, sp2, sp3⟩
    have hS : p.1 ∈ Ss := by rw [← sp3]; exact List.mem_map.mpr ⟨p, hp, rfl⟩
    obtain ⟨_, s2', _, _, s5', _⟩ := gn.sap _ hS
    exact ⟨(sp1 p hp).1, I4.hok.fresh (young _ hS), s2', s5', (sp1 p hp).2⟩
  refine ⟨⟨go, _, _, kp5 _ _ e4a, goc.1, goc.2.1, goc.2.2⟩, I5.nolimit, Nat.zero_le _, .fresh (.compStart (.GeneratorExp elt [⟨tg, iter, ifs, 0⟩] scope pos) 0 (.ref it) .none (gEnv X scope s3 (.ref c'))), by rw [hg5, g4]; exact Array.getElem?_push_size .., rfl, ?_⟩
  exact seg_gen0 (N := ds.length + 1) gn (fun q hq => List.mem_cons_of_mem _ hq) J3 (Nat.le_succ _) hdef (Tn.keep _ _ _ st3 fun b hb o eo => kp5 b o (kp4 b o eo)) z5
end
end Sx
/-! G6: all, any of a generator expression. -/
namespace Sx
open PySem PySem.Spec PyProof.Rows L2 GenW

def allL (t : Gt) : List D → Env → Option Bool
  | [], _ => some true
  | d :: ds, ρ => (t d ρ).bind fun p => match p.2 with
    | none => allL t ds p.1
    | some (.bool true) => allL t ds p.1
    | some (.bool false) => some false
    | some _ => none
def anyL (t : Gt) : List D → Env → Option Bool
  | [], _ => some false
  | d :: ds, ρ => (t d ρ).bind fun p => match p.2 with
    | none => anyL t ds p.1
    | some (.bool true) => some true
    | some (.bool false) => anyL t ds p.1
    | some _ => none
theorem nextOf_none {t : Gt} {d : D} {l : List D} {ρ ρ1 : Env} (e : t d ρ = some (ρ1, none)) : nextOf t (d :: l) ρ = nextOf t l ρ1 := by
  show ((t d ρ).bind _) = _
  rw [e]
  rfl
theorem nextOf_some {t : Gt} {d y : D} {l : List D} {ρ ρ1 : Env} (e : t d ρ = some (ρ1, some y)) : nextOf t (d :: l) ρ = some (some (y, l, ρ1)) := by
  show ((t d ρ).bind _) = _
  rw [e]
  rfl
theorem allL_of {t : Gt} : ∀ {l : List D} {ρ : Env} {b : Bool}, allL t l ρ = some b → (nextOf t l ρ = some none ∧ b = true) ∨ ∃ b0 l' ρ', nextOf t l ρ = some (some (.bool b0, l', ρ')) ∧ (if b0 = true then allL t l' ρ' = some b else b = false)
  | [], _, _, h => by cases h; exact .inl ⟨rfl, rfl⟩
  | d :: l, ρ, b, h => by
    obtain ⟨⟨ρ1, o⟩, e1, e2⟩ := bind_of h
    cases o with
    | none => rw [nextOf_none e1]; exact allL_of e2
    | some y =>
      have en := nextOf_some (l := l) e1
      cases y with
      | bool b0 =>
        cases b0 with
        | true => exact .inr ⟨true, l, ρ1, en, by simpa using e2⟩
        | false => cases e2; exact .inr ⟨false, l, ρ1, en, by simp⟩
      | none => cases e2
      | int _ => cases e2
      | str _ => cases e2
      | list _ => cases e2
      | tuple _ => cases e2
      | dict _ => cases e2
theorem anyL_of {t : Gt} : ∀ {l : List D} {ρ : Env} {b : Bool}, anyL t l ρ = some b → (nextOf t l ρ = some none ∧ b = false) ∨ ∃ b0 l' ρ', nextOf t l ρ = some (some (.bool b0, l', ρ')) ∧ (if b0 = true then b = true else anyL t l' ρ' = some b)
  | [], _, _, h => by cases h; exact .inl ⟨rfl, rfl⟩
  | d :: l, ρ, b, h => by
    obtain ⟨⟨ρ1, o⟩, e1, e2⟩ := bind_of h
    cases o with
    | none => rw [nextOf_none e1]; exact anyL_of e2
    | some y =>
      have en := nextOf_some (l := l) e1
      cases y with
      | bool b0 =>
        cases b0 with
        | true => cases e2; exact .inr ⟨true, l, ρ1, en, by simp⟩
        | false => exact .inr ⟨false, l, ρ1, en, by simpa using e2⟩
      | none => cases e2
      | int _ => cases e2
      | str _ => cases e2
      | list _ => cases e2
      | tuple _ => cases e2
      | dict _ => cases e2
theorem posn_next {t : Gt} {ds : List D} {ρ : Env} {j : Nat} {dj l l' : List D} {ρj ρ' : Env} {y : D} (hp : posn t ds ρ j = some (dj, l, ρj)) (hx : nextOf t l ρj = some (some (y, l', ρ'))) : posn t ds ρ (j + 1) = some (dj ++ [y], l', ρ') := by
  show (posn t ds ρ j).bind _ = _
  rw [hp]
  show (match nextOf t l ρj with
    | some (some (y, l, ρ')) => some (dj ++ [y], l, ρ')
    | _ => none) = _
  rw [hx]
/-- no memory of the consumer's -/
def sNone : SMem := fun _ sp => sp = []
section
variable {X : Cx} {pins : List (Addr × Obj)} {σ : Sg} {T T' : Tabs} {M Mg : Kds} {U : Addr → Prop} {ρ : Env} {k a gn : Nat} {Ng : List Str} {scope : Scope} {t : Gt} {ds : List D} {ρ0 : Env} {sc s' : Shared} {H1 : Hp} {code : Value} {fp : List Addr} {go : Obj} {A B : Around}
/-- the end of a run -/
def GEnd (X : Cx) (pins : List (Addr × Obj)) (σ : Sg) (T : Tabs) (M : Kds) (U : Addr → Prop) (ρ : Env) (H1 : Hp) (s1 : Shared) : Prop := ∃ H', Inv X pins σ H' s1 ∧ Sim X.K X.w T M U σ H' ρ ∧ Calm H1 H'
theorem GMk.fin {Ss : List Addr} {Sm : SMem} {ρg : Env} {ys : List V} {dys : List D} {sp : List (Addr × Obj)} {σg : Sg} {H' : Hp} {s1 : Shared} (m : GMk X pins σ T M U ρ k Ng scope Mg t ds ρ0 a gn sc H1 code fp go T' s') (z : GAt (gXg X sc H1 A Ng scope code fp a go) fp Ss Sm T T' M Mg U σ ρ H1 ρg ys dys sp σg H' s1) : GEnd X pins σ T M U ρ H1 s1 := ⟨H', m.back z, z.sc, z.cm⟩
theorem rel_bool {X : Cx} {O : Addr → Prop} {H' : Hp} {x : V} {v : Value} {b : Bool} (rx : RelV x v) (rp : Rp X.K X.w O H' x (.bool b)) : v = .bool b := by
  cases rp
  exact rx
theorem slpN {ys : List V} {s1 : Shared} (hb : AllBare s1.gens) : Slp [] sNone ys s1 s1 := ⟨rfl, hb, fun _ _ _ e => e, [], fun p hp => absurd hp (by simp), rfl, rfl⟩
theorem all_loopG {R : Result → Shared → Prop} (m : GMk X pins σ T M U ρ k Ng scope Mg t ds ρ0 a gn sc H1 code fp go T' s') (hh : A.handled = none) (hroom : A.depth < recursionLimit) (hca : cStatics ∉ ([] : List Addr)) : ∀ (n j : Nat) (s : Shared) (l dj : List D) (ρj : Env) (b : Bool), l.length = n → posn t ds ρ0 j = some (dj, l, ρj) → allL t l ρj = some b →
    GZ (gXg X sc H1 B Ng scope code fp a go) A.in1.in1 fp [] sNone T T' M Mg U σ ρ H1 t ds ρ0 (ds.length + 1) a gn j s → (∀ s1, GEnd X pins σ T M U ρ H1 s1 → R (.ok (.ret (.bool b))) s1) → codeAny (model X.prog X.w) A (.builtin "all.loop" ⟨[.ref a], []⟩) R s := by
  intro n
  induction n using Nat.strongRecOn with
  | _ n ih =>
    intro j s l dj ρj b hn hp hb z hR
    refine codeAny_builtin F.entry_all_loop ?_
    rw [Around.under_plainId F.plain_all_loop _]
    show wpAny _ A.in1 (pyNext (.ref a) >>= _) _ _ s
    refine wpAny_bind (gnext (Xg := gXg X sc H1 B Ng scope code fp a go) (A := A.in1) (go := go) hh hroom (Nat.lt_succ_self _) (by simp) hca List.mem_cons_self m.gob z hp (fun y l' ρ' hx v s1 ys sp σg H' x z1 rx rp hS hz => ?_) fun hx s1 ys sp σg H' ρg z1 hS => ?_)
    · rcases allL_of hb with ⟨h1, _⟩ | ⟨b0, l2, ρ2, h1, h2⟩
      · rw [hx] at h1; cases h1
      · rw [hx] at h1; cases h1
        have ev := rel_bool (X := X) rx rp
        subst ev
        refine wpAny_bind (wpAny_holding (wpAny_truthy_bool ?_))
        refine wpAny_bind (wpAny_letGo ?_)
        cases b0 with
        | true =>
          simp only [if_true] at h2 ⊢
          refine wpAny_pure ⟨plainId_quiet F.plain_all_loop _, ih l'.length (by rw [← hn]; exact nextOf_len hx) (j + 1) s1 l' _ ρ' b rfl (posn_next hp hx) h2 (hz s1 (slpN z1.inv.bare) rfl ?_) hR⟩
          rcases allL_of h2 with ⟨q, _⟩ | ⟨_, _, _, q, _⟩ <;> rw [q] <;> simp
        | false =>
          simp only [Bool.false_eq_true, if_false] at h2 ⊢
          subst h2
          exact wpAny_bind (wpAny_rule (wpAny_pure (hR s1 (m.fin z1))))
    · rcases allL_of hb with ⟨_, rfl⟩ | ⟨b0, l2, ρ2, h1, h2⟩
      · exact wpAny_bind (wpAny_rule (wpAny_pure (hR s1 (m.fin z1))))
      · rw [hx] at h1; cases h1
theorem any_loopG {R : Result → Shared → Prop} (m : GMk X pins σ T M U ρ k Ng scope Mg t ds ρ0 a gn sc H1 code fp go T' s') (hh : A.handled = none) (hroom : A.depth < recursionLimit) (hca : cStatics ∉ ([] : List Addr)) : ∀ (n j : Nat) (s : Shared) (l dj : List D) (ρj : Env) (b : Bool), l.length = n → posn t ds ρ0 j = some (dj, l, ρj) → anyL t l ρj = some b →
    GZ (gXg X sc H1 B Ng scope code fp a go) A.in1.in1 fp [] sNone T T' M Mg U σ ρ H1 t ds ρ0 (ds.length + 1) a gn j s → (∀ s1, GEnd X pins σ T M U ρ H1 s1 → R (.ok (.ret (.bool b))) s1) → codeAny (model X.prog X.w) A (.builtin "any.loop" ⟨[.ref a], []⟩) R s := by
  intro n
  induction n using Nat.strongRecOn with
  | _ n ih =>
    intro j s l dj ρj b hn hp hb z hR
    refine codeAny_builtin F.entry_any_loop ?_
    rw [Around.under_plainId F.plain_any_loop _]
    show wpAny _ A.in1 (pyNext (.ref a) >>= _) _ _ s
    refine wpAny_bind (gnext (Xg := gXg X sc H1 B Ng scope code fp a go) (A := A.in1) (go := go) hh hroom (Nat.lt_succ_self _) (by simp) hca List.mem_cons_self m.gob z hp (fun y l' ρ' hx v s1 ys sp σg H' x z1 rx rp hS hz => ?_) fun hx s1 ys sp σg H' ρg z1 hS => ?_)
    · rcases anyL_of hb with ⟨h1, _⟩ | ⟨b0, l2, ρ2, h1, h2⟩
      · rw [hx] at h1; cases h1
      · rw [hx] at h1; cases h1
        have ev := rel_bool (X := X) rx rp
        subst ev
        refine wpAny_bind (wpAny_holding (wpAny_truthy_bool ?_))
        refine wpAny_bind (wpAny_letGo ?_)
        cases b0 with
        | false =>
          simp only [Bool.false_eq_true, if_false] at h2 ⊢
          refine wpAny_pure ⟨plainId_quiet F.plain_any_loop _, ih l'.length (by rw [← hn]; exact nextOf_len hx) (j + 1) s1 l' _ ρ' b rfl (posn_next hp hx) h2 (hz s1 (slpN z1.inv.bare) rfl ?_) hR⟩
          rcases anyL_of h2 with ⟨q, _⟩ | ⟨_, _, _, q, _⟩ <;> rw [q] <;> simp
        | true =>
          simp only [if_true] at h2 ⊢
          subst h2
          exact wpAny_bind (wpAny_rule (wpAny_pure (hR s1 (m.fin z1))))
    · rcases anyL_of hb with ⟨_, rfl⟩ | ⟨b0, l2, ρ2, h1, h2⟩
      · exact wpAny_bind (wpAny_rule (wpAny_pure (hR s1 (m.fin z1))))
      · rw [hx] at h1; cases h1
end
/-! ### the expressions -/
def eAll (gi : Iv) (t : Gt) (cap : List (Option Nat)) : Ev := fun ρ => (gi ρ).bind fun p => (allL t p.2 (caps cap p.1)).map fun b => (p.1, .bool b)
def eAny (gi : Iv) (t : Gt) (cap : List (Option Nat)) : Ev := fun ρ => (gi ρ).bind fun p => (anyL t p.2 (caps cap p.1)).map fun b => (p.1, .bool b)
/-- all that a generator expression asks of its def -/
structure GEx (X : Cx) (T : Tabs) (M Mg : Kds) (k : Nat) (Ng : List Str) (cap : List (Option Nat)) (scope : Scope) (tg iter elt : Expr) (ifs : List Expr) (gi : Iv) (G : Gv) (h : Tv) (fe : Ev) : Prop where
  room : Room (k + 6) X.A
  cd : ∃ c P fl, Cd X T c P fl
  bm : Bm X
  ok : GScp X.N X.env.scope scope Ng cap
  cap : ∀ (i j : Nat), cap[i]? = some (some j) → (M j).own = false
  hM : ∀ i, (Mg i).own = false
  it : SI X T M tg iter gi
  body : GBody X T k Ng scope Mg tg elt ifs G h fe
  nd : notDisp iter = true
section
variable {X : Cx} {T : Tabs} {M Mg : Kds} {k : Nat} {Ng : List Str} {cap : List (Option Nat)} {scope : Scope} {tg iter elt : Expr} {ifs : List Expr} {pos p gpos : Pos} {G : Gv} {h : Tv} {fe : Ev} {gi : Iv}
theorem GEx.make {pins : List (Addr × Obj)} {σ : Sg} {H : Hp} {s : Shared} {U : Addr → Prop} {ρ ρ' : Env} {ds : List D} {Q : Value → Shared → Prop} (g : GEx X T M Mg k Ng cap scope tg iter elt ifs gi G h fe) (I : Inv X pins σ H s) (S : Sim X.K X.w T M U σ H ρ) (hf : gi ρ = some (ρ', ds))
    (hQ : ∀ a gn sc H1 code fp go T' s', GMk X pins σ T M U ρ' k Ng scope Mg (gTurn G h fe) ds (caps cap ρ') a gn sc H1 code fp go T' s' → Stp M σ ρ H σ ρ' H1 → Q (.ref a) s') :
    wpAny (model X.prog X.w) X.A (eval (.GeneratorExp elt [⟨tg, iter, ifs, 0⟩] scope gpos) X.env) Q X.xe s := by
  obtain ⟨c, P, fl, hc⟩ := g.cd
  exact ge_make g.room.depth hc g.bm g.ok g.cap g.hM g.it g.body (genFold_of g.nd) I S hf hQ
theorem Room.in2 {k : Nat} {A : Around} (r : Room (k + 3) A) : Room (k + 1) A.in1.in1 := (r.in1).in1
theorem s_all (hg : Gl X "all") (hm : X.mg "all" = none) (g : GEx X T M Mg k Ng cap scope tg iter elt ifs gi G h fe) : SE X T M (.Call (.Name "all" p) [.GeneratorExp elt [⟨tg, iter, ifs, 0⟩] scope gpos] [] pos) (eAll gi (gTurn G h fe) cap) := by
  refine ⟨fun pins s σ H Q I hw => ?_⟩
  obtain ⟨U, ρ, ρ', d, S, hf, q⟩ := hw
  obtain ⟨⟨ρ1, ds⟩, e1, e2⟩ := bind_of hf
  obtain ⟨b, e3, e4⟩ := Option.map_eq_some_iff.mp e2
  cases e4
  refine wpAny_Call_Name_kw (ld_blt I hg hm boot_all ?_)
  refine PyProof.Rows.callWith_builtin1 ?_ rfl (by rfl)
  show wpAny _ _ (spliced ((false, eval (.GeneratorExp elt [⟨tg, iter, ifs, 0⟩] scope gpos) X.env) :: backTo pos (starEach [] X.env))) _ _ s
  refine Calls.spliced_cons (g.make I S e1 fun a gn sc H1 code fp go T' s' m stp => ?_)
  refine Calls.spliced_nil ?_
  refine call_function_tree F.kind_all F.plain_all F.entry_all (F.args_all1 _) ?_
  unfold Builtin.«all»
  refine wpAny_bind (m := oneArg "all" _) (wpAny_pure ?_)
  refine wpAny_bind (wpAny_pyIter_gen m.gen ?_)
  refine wpAny_pure ⟨plainId_quiet F.plain_all_loop _, ?_⟩
  have hr : Room (k + 1) X.A.in1.in1 := (g.room.mono (by omega : k + 3 ≤ k + 6)).in1.in1
  refine all_loopG (A := X.A) (B := X.A.in1.in1) m g.room.hd g.room.depth (by simp) ds.length 0 s' ds [] (caps cap ρ1) b rfl rfl e3 (m.wake X.A.in1.in1 [] sNone s' hr m.inv.ok.frames (fun S hS => absurd hS (by simp)) rfl m.bare (fun _ _ e => e) rfl ⟨[], fun p hp => absurd hp (by simp), rfl, rfl⟩ ?_) fun s1 ⟨H', I', S', c'⟩ => ?_
  · rcases allL_of e3 with ⟨q, _⟩ | ⟨_, _, _, q, _⟩ <;> rw [q] <;> simp
  · exact ⟨.bl b, H', I', rfl, q (.bl b) H' S' (stp.trans c'.stp) (.bl b)⟩
theorem s_any (hg : Gl X "any") (hm : X.mg "any" = none) (g : GEx X T M Mg k Ng cap scope tg iter elt ifs gi G h fe) : SE X T M (.Call (.Name "any" p) [.GeneratorExp elt [⟨tg, iter, ifs, 0⟩] scope gpos] [] pos) (eAny gi (gTurn G h fe) cap) := by
  refine ⟨fun pins s σ H Q I hw => ?_⟩
  obtain ⟨U, ρ, ρ', d, S, hf, q⟩ := hw
  obtain ⟨⟨ρ1, ds⟩, e1, e2⟩ := bind_of hf
  obtain ⟨b, e3, e4⟩ := Option.map_eq_some_iff.mp e2
  cases e4
  refine wpAny_Call_Name_kw (ld_blt I hg hm boot_any ?_)
  refine PyProof.Rows.callWith_builtin1 ?_ rfl (by rfl)
  show wpAny _ _ (spliced ((false, eval (.GeneratorExp elt [⟨tg, iter, ifs, 0⟩] scope gpos) X.env) :: backTo pos (starEach [] X.env))) _ _ s
  refine Calls.spliced_cons (g.make I S e1 fun a gn sc H1 code fp go T' s' m stp => ?_)
  refine Calls.spliced_nil ?_
  refine call_function_tree F.kind_any F.plain_any F.entry_any (F.args_any1 _) ?_
  unfold Builtin.«any»
  refine wpAny_bind (m := oneArg "any" _) (wpAny_pure ?_)
  refine wpAny_bind (wpAny_pyIter_gen m.gen ?_)
  refine wpAny_pure ⟨plainId_quiet F.plain_any_loop _, ?_⟩
  have hr : Room (k + 1) X.A.in1.in1 := (g.room.mono (by omega : k + 3 ≤ k + 6)).in1.in1
  refine any_loopG (A := X.A) (B := X.A.in1.in1) m g.room.hd g.room.depth (by simp) ds.length 0 s' ds [] (caps cap ρ1) b rfl rfl e3 (m.wake X.A.in1.in1 [] sNone s' hr m.inv.ok.frames (fun S hS => absurd hS (by simp)) rfl m.bare (fun _ _ e => e) rfl ⟨[], fun p hp => absurd hp (by simp), rfl, rfl⟩ ?_) fun s1 ⟨H', I', S', c'⟩ => ?_
  · rcases anyL_of e3 with ⟨q, _⟩ | ⟨_, _, _, q, _⟩ <;> rw [q] <;> simp
  · exact ⟨.bl b, H', I', rfl, q (.bl b) H' S' (stp.trans c'.stp) (.bl b)⟩
end
end Sx
/-! G7: tuple of a generator expression. -/
namespace Sx
open PySem PySem.Spec PyProof.Rows L2 GenW

def drainL (t : Gt) : List D → Env → Option (List D)
  | [], _ => some []
  | d :: ds, ρ => (t d ρ).bind fun p => (drainL t ds p.1).map fun r => p.2.toList ++ r
theorem drainL_of {t : Gt} : ∀ {l : List D} {ρ : Env} {r : List D}, drainL t l ρ = some r → (nextOf t l ρ = some none ∧ r = []) ∨ ∃ y l' ρ' r', nextOf t l ρ = some (some (y, l', ρ')) ∧ drainL t l' ρ' = some r' ∧ r = y :: r'
  | [], _, _, h => by cases h; exact .inl ⟨rfl, rfl⟩
  | d :: l, ρ, r, h => by
    obtain ⟨⟨ρ1, o⟩, e1, e2⟩ := bind_of h
    obtain ⟨r1, e3, e4⟩ := Option.map_eq_some_iff.mp e2
    cases o with
    | none =>
      rw [nextOf_none e1]
      have e4 : r1 = r := e4
      subst e4
      exact drainL_of e3
    | some y =>
      have e4 : y :: r1 = r := e4
      exact .inr ⟨y, l, ρ1, r1, nextOf_some e1, e3, e4.symm⟩
theorem drainL_def {t : Gt} {l : List D} {ρ : Env} {r : List D} (h : drainL t l ρ = some r) : nextOf t l ρ ≠ none := by
  rcases drainL_of h with ⟨q, _⟩ | ⟨_, _, _, _, q, _⟩ <;> rw [q] <;> simp
/-- the consumer's list -/
def sList (S : Addr) : SMem := fun ys sp => ∃ acc c, sp = [(S, lstObj acc c)] ∧ Vals ys acc.toList
section
variable {X : Cx} {pins : List (Addr × Obj)} {σ : Sg} {T T' : Tabs} {M Mg : Kds} {U : Addr → Prop} {ρ : Env} {k a gn : Nat} {Ng : List Str} {scope : Scope} {t : Gt} {ds : List D} {ρ0 : Env} {sc s' : Shared} {H1 : Hp} {code : Value} {fp : List Addr} {go : Obj} {A B : Around}
/-- all that came, in the list at S -/
def LEnd (X : Cx) (pins : List (Addr × Obj)) (σ : Sg) (T : Tabs) (M : Kds) (U : Addr → Prop) (ρ : Env) (H1 : Hp) (S : Addr) (r : List D) (s1 : Shared) : Prop := ∃ H' acc c ys, Inv X pins σ H' s1 ∧ Sim X.K X.w T M U σ H' ρ ∧ Calm H1 H' ∧ s1.heap.get? S = some (lstObj acc c) ∧ Vals ys acc.toList ∧ RpA X.K X.w (Ow M U σ ρ) H' ys r ∧ H' S = none
theorem extend_loopG {R : Result → Shared → Prop} {S : Addr} {res : Value} (m : GMk X pins σ T M U ρ k Ng scope Mg t ds ρ0 a gn sc H1 code fp go T' s') (hh : A.handled = none) (hroom : A.depth < recursionLimit) (hSa : S ≠ a) (hSc : S ≠ cStatics) : ∀ (n j : Nat) (s : Shared) (l dj r : List D) (ρj : Env), l.length = n → posn t ds ρ0 j = some (dj, l, ρj) → drainL t l ρj = some r → dj.length + r.length ≤ sizeLine →
    GZ (gXg X sc H1 B Ng scope code fp a go) A.in1.in1 fp [S] (sList S) T T' M Mg U σ ρ H1 t ds ρ0 (ds.length + 1) a gn j s → (∀ s1, LEnd X pins σ T M U ρ H1 S (dj ++ r) s1 → R (.ok (.ret res)) s1) → codeAny (model X.prog X.w) A (.builtin "list.extend.loop" ⟨[.ref S, .ref a, res], []⟩) R s := by
  intro n
  induction n using Nat.strongRecOn with
  | _ n ih =>
    intro j s l dj r ρj hn hp hb hlen z hR
    have nS : a ∉ [S] := fun h => hSa (List.mem_singleton.mp h).symm
    have nC : cStatics ∉ [S] := fun h => hSc (List.mem_singleton.mp h).symm
    refine codeAny_builtin F.entry_extend_loop ?_
    rw [Around.under_plainId F.plain_extend_loop _]
    show wpAny _ A.in1 (pyNext (.ref a) >>= _) _ _ s
    refine wpAny_bind (gnext (Xg := gXg X sc H1 B Ng scope code fp a go) (A := A.in1) (go := go) hh hroom (Nat.lt_succ_self _) nS nC List.mem_cons_self m.gob z hp (fun y l' ρ' hx v s1 ys sp σg H' x z1 rx rp hS hz => ?_) fun hx s1 ys sp σg H' ρg z1 hS => ?_)
    · rcases drainL_of hb with ⟨h1, _⟩ | ⟨y2, l2, ρ2, r2, h1, h2, rfl⟩
      · rw [hx] at h1; cases h1
      · rw [hx] at h1; cases h1
        obtain ⟨acc, c, rfl, va⟩ := z1.sm
        have eS : s1.heap.get? S = some (lstObj acc c) := (z1.inv.pin (S, lstObj acc c) (List.mem_append_right _ List.mem_cons_self)).1
        have la : acc.size = dj.length := by
          have q1 := va.length
          have q2 := z1.rp.length
          have q3 : acc.toList.length = acc.size := by simp
          omega
        have hlt : acc.size < sizeLine := by
          rw [List.length_cons] at hlen
          omega
        show wpAny _ A.in1 (updateSeq S (·.push v) >>= _) _ _ _
        refine wpAny_bind ?_
        refine wpAny_updateSeq eS rfl (wpAny_pure ⟨plainId_quiet F.plain_extend_loop _, ?_⟩) (Nat.le_of_lt hlt) (by show (acc.push v).size ≤ sizeLine + 1; rw [Array.size_push]; omega)
        obtain ⟨c2, eS2⟩ : ∃ c2, (s1.heap.update S (Obj.mapSeq (·.push v))).get? S = some (lstObj (acc.push v) c2) := ⟨_, Heap.get?_update_self (Obj.mapSeq (·.push v)) eS rfl⟩
        refine ih l'.length (by rw [← hn]; exact nextOf_len hx) (j + 1) _ l' (dj ++ [y]) r2 ρ' rfl (posn_next hp hx) h2 (by rw [List.length_append]; simp at hlen ⊢; omega) (hz _ ⟨rfl, z1.inv.bare, fun b o hb e => ?_, ?_⟩ rfl (drainL_def h2)) fun s3 q3 => hR s3 (by rw [List.append_assoc] at q3; exact q3)
        · exact (Heap.get?_update_other _ _ (fun h : S = b => hb (by rw [h]; exact List.mem_singleton.mpr rfl))).trans e
        · refine ⟨[(S, lstObj (acc.push v) c2)], fun p hp => ?_, ⟨acc.push v, c2, rfl, by rw [Array.toList_push]; exact va.append (.cons rx .nil)⟩, rfl⟩
          rw [List.mem_singleton.mp hp]
          exact ⟨eS2, fun v z => by cases z⟩
    · rcases drainL_of hb with ⟨_, rfl⟩ | ⟨y2, l2, ρ2, r2, h1, _⟩
      · obtain ⟨acc, c, rfl, va⟩ := z1.sm
        have pS := z1.inv.pin (S, lstObj acc c) (List.mem_append_right _ List.mem_cons_self)
        exact wpAny_pure (hR s1 ⟨H', acc, c, ys, m.back z1, z1.sc, z1.cm, pS.1, va, by rw [List.append_nil]; exact z1.rp, pS.2.1⟩)
      · rw [hx] at h1; cases h1
theorem collectG {Q : List Value → Shared → Prop} {E : Value → Shared → Prop} {r : List D} (m : GMk X pins σ T M U ρ k Ng scope Mg t ds ρ0 a gn sc H1 code fp go T' s') (hr : Room (k + 3) A) (hf : A.frames = some X.stack) (hd : drainL t ds ρ0 = some r) (hlen : r.length ≤ sizeLine)
    (hQ : ∀ s1 acc H' ys, Inv X pins σ H' s1 → Sim X.K X.w T M U σ H' ρ → Calm H1 H' → Vals ys acc → RpA X.K X.w (Ow M U σ ρ) H' ys r → Q acc s1) : wpAny (model X.prog X.w) A (collect (.ref a)) Q E s' := by
  have hSa : s'.heap.objs.size ≠ a := Nat.ne_of_gt m.lt
  have lim : s'.heap.NoLimit := m.inv.nolimit.keeps m.keep
  have hSc : s'.heap.objs.size ≠ cStatics := Nat.ne_of_gt (let ⟨_, hn, _⟩ := lim; hn.lt)
  have gty : ∀ {h : Heap}, (∀ b o, s'.heap.get? b = some o → h.get? b = some o) → h.IsGen a gn := fun {h} q => m.gen.keeps q
  unfold collect
  refine wpAny_bind (wpAny_runValue (codeAny_builtin F.entry_proto_collect ?_))
  rw [Around.under_plainId F.plain_proto_collect _]
  show wpAny _ A.in1 (newList [] >>= fun l => again (.builtin "list.__iadd__" ⟨[l, .ref a], []⟩)) _ _ s'
  refine wpAny_bind (wpAny_newObj_type ?_)
  refine wpAny_pure ⟨plainId_quiet F.plain_list_iadd _, codeAny_builtin F.entry_list_iadd ?_⟩
  rw [Around.under_plainId F.plain_list_iadd _]
  have k1 : ∀ b o, s'.heap.get? b = some o → (s'.heap.push { cls := .type "list", data := .seq ([] : List Value).toArray }).get? b = some o := fun b o e => Heap.get?_push_of_some _ e
  have ty1 : ∀ s2 : Shared, s2.heap = s'.heap.push { cls := .type "list", data := .seq ([] : List Value).toArray } → s2.TypeIs (.ref a) "generator" := fun s2 e => by
    have := gty k1
    rw [← e] at this
    exact this.typeIs
  show wpAny _ A.in1 (Builtin.List.listExtendWith (.ref s'.heap.objs.size) (.ref a) (.ref s'.heap.objs.size)) _ _ _
  unfold Builtin.List.listExtendWith
  refine wpAny_bind (wpAny_typeOf (ty1 _ rfl) ?_)
  have h1 : Builtin.List.listSameRef (.ref s'.heap.objs.size) (.ref a) = false := by simp [Builtin.List.listSameRef, hSa]
  have h2 : (Value.type "generator" == Value.type "list") = false := by decide
  have h3 : (Value.type "generator" == Value.type "tuple") = false := by decide
  simp only [h1, h2, h3, Bool.or_false, Bool.false_eq_true, if_false]
  refine wpAny_bind (wpAny_pyIter_gen (s := { s' with heap := _ }) (gty k1) ?_)
  refine wpAny_bind (wpAny_holding ?_)
  unfold Builtin.List.listLengthHint
  refine wpAny_bind (wpAny_specialOf (ty1 _ rfl) F.gen_no_len ?_)
  show wpAny _ A.in1 (specialOf (Value.ref a) (Str.ofString "__length_hint__") >>= _) _ _ _
  refine wpAny_bind (wpAny_specialOf (ty1 _ rfl) F.gen_no_hint ?_)
  refine wpAny_pure ?_
  show wpAny _ A.in1 (rule "list.extend.makes-room" >>= fun _ => Builtin.List.listTouch (.ref s'.heap.objs.size) >>= fun _ =>
    again (.builtin "list.extend.loop" ⟨[.ref s'.heap.objs.size, .ref a, .ref s'.heap.objs.size], []⟩)) _ _ _
  refine wpAny_bind (wpAny_rule ?_)
  have hS₁ : (s'.heap.push { cls := .type "list", data := .seq ([] : List Value).toArray }).get? s'.heap.objs.size = some { cls := .type "list", data := .seq ([] : List Value).toArray } := Heap.get?_push_size _ rfl
  refine wpAny_bind ?_
  show wpAny _ A.in1 (updateSeq s'.heap.objs.size (·.push .none) >>= fun _ => updateSeq s'.heap.objs.size (·.pop)) _ _ _
  refine wpAny_bind (wpAny_updateSeq hS₁ rfl ?_)
  have hS₂ := Heap.get?_update_self (Obj.mapSeq (·.push Value.none)) hS₁ rfl
  refine wpAny_updateSeq hS₂ rfl ?_
  have hS₃ := Heap.get?_update_self (Obj.mapSeq (·.pop)) hS₂ rfl
  obtain ⟨c0, hS₄⟩ : ∃ c0, (((s'.heap.push { cls := .type "list", data := .seq ([] : List Value).toArray }).update s'.heap.objs.size (Obj.mapSeq (·.push Value.none))).update s'.heap.objs.size (Obj.mapSeq (·.pop))).get? s'.heap.objs.size = some (lstObj #[] c0) := ⟨_, hS₃⟩
  have oth : ∀ b o, s'.heap.get? b = some o →
      (((s'.heap.push { cls := .type "list", data := .seq ([] : List Value).toArray }).update s'.heap.objs.size (Obj.mapSeq (·.push Value.none))).update s'.heap.objs.size (Obj.mapSeq (·.pop))).get? b = some o :=
    fun b o e => (Heap.get?_update_other _ _ (Nat.ne_of_gt (Heap.lt_size e))).trans ((Heap.get?_update_other _ _ (Nat.ne_of_gt (Heap.lt_size e))).trans (k1 b o e))
  refine wpAny_pure ⟨plainId_quiet F.plain_extend_loop _, ?_⟩
  refine extend_loopG (A := A) (B := A.in1.in1) m hr.hd (by have := hr.depth; exact this) hSa hSc ds.length 0 _ ds [] r ρ0 rfl rfl hd (by simpa using hlen)
    (m.wake A.in1.in1 [s'.heap.objs.size] (sList s'.heap.objs.size) _ hr.in1.in1 hf (fun S hS => by rw [List.mem_singleton.mp hS]; exact Nat.le_refl _) rfl m.bare oth rfl ⟨[(s'.heap.objs.size, lstObj #[] c0)], fun p hp => ?_, ⟨#[], c0, rfl, .nil⟩, rfl⟩ (drainL_def hd)) fun s1 ⟨H', acc, c, ys, I', S', c', eS, va, rp, nS⟩ => ?_
  · rw [List.mem_singleton.mp hp]
    exact ⟨hS₄, fun v z => by cases z⟩
  · show wpAny _ A (load s'.heap.objs.size >>= _) _ _ s1
    refine wpAny_bind (wpAny_load eS ?_)
    exact wpAny_pure (hQ s1 acc.toList H' ys I' S' c' va (by simpa using rp))
end
end Sx
/-! G8: tuple of a generator expression. -/
namespace Sx
open PySem PySem.Spec PyProof.Rows L2 GenW
open AutoSeq1 (wpAny_loadPart')
section
variable {X : Cx} {pins : List (Addr × Obj)} {σ : Sg} {T T' : Tabs} {M Mg : Kds} {U : Addr → Prop} {ρ : Env} {k a gn : Nat} {Ng : List Str} {scope : Scope} {t : Gt} {ds : List D} {ρ0 : Env} {sc s' : Shared} {H1 : Hp} {code : Value} {fp : List Addr} {go : Obj} {A B : Around}
theorem code_tupleG {Q₁ : Value → Shared → Prop} {E : Value → Shared → Prop} {r : List D} (m : GMk X pins σ T M U ρ k Ng scope Mg t ds ρ0 a gn sc H1 code fp go T' s') (hr : Room (k + 4) A) (hf : A.frames = some X.stack) (hd : drainL t ds ρ0 = some r) (hlen : r.length ≤ sizeLine)
    (h : ∀ s1 acc H' ys, Inv X pins σ H' s1 → Sim X.K X.w T M U σ H' ρ → Calm H1 H' → Vals ys acc → RpA X.K X.w (Ow M U σ ρ) H' ys r → Q₁ (.ref s1.heap.objs.size) { s1 with heap := s1.heap.push { cls := .type "tuple", data := .seq acc.toArray } }) :
    codeAny (model X.prog X.w) A (.call (.builtin "tuple.__new__") ⟨[.type "tuple", .ref a], []⟩) (wants Q₁ E) s' := by
  refine codeAny_of_tree ?_
  show wpAny _ A.in1 (do checkBuiltinCall "tuple.__new__" ⟨[.type "tuple", .ref a], []⟩; again (.builtin "tuple.__new__" ⟨[.type "tuple", .ref a], []⟩)) _ _ s'
  refine wpAny_bind (wpAny_of_eq (F.newCall_tuple_1 _) (wpAny_pure ⟨plainId_quiet F.plain_tuple_new _, codeAny_builtin F.entry_tuple_new ?_⟩))
  rw [Around.under_plainId F.plain_tuple_new _]
  have hsub := sub_tuple_self
  have hinit := init_tuple_lookup
  have hmh := madeHere_tuple
  have hTI : s'.TypeIs (.ref a) "generator" := m.gen.typeIs
  have hcol := fun Q E hQ => collectG (Q := Q) (E := E) (A := A.in1) m hr.in1 hf hd hlen hQ
  wp_walk using wpAny_typeOf hTI, hcol
  intro s1 acc H' ys I' S' c' va rp
  show wpAny _ _ (Builtin.Tuple.tupleExact acc.toArray >>= fun v => ret v) _ _ _
  unfold Builtin.Tuple.tupleExact
  have hl : acc.length ≤ sizeLine := by
    have q1 := va.length
    have q2 := rp.length
    omega
  refine wpAny_bind (wpAny_newObj_type ?_ (by show acc.toArray.size ≤ sizeLine; simpa using hl))
  exact wpAny_pure (h s1 acc H' ys I' S' c' va rp)
theorem call_tupleG {Q : Value → Shared → Prop} {E : Value → Shared → Prop} {r : List D} (m : GMk X pins σ T M U ρ k Ng scope Mg t ds ρ0 a gn sc H1 code fp go T' s') (hr : Room (k + 5) A) (hf : A.frames = some X.stack) (hd : drainL t ds ρ0 = some r) (hlen : r.length ≤ sizeLine)
    (h : ∀ s1 acc H' ys, Inv X pins σ H' s1 → Sim X.K X.w T M U σ H' ρ → Calm H1 H' → Vals ys acc → RpA X.K X.w (Ow M U σ ρ) H' ys r → Q (.ref s1.heap.objs.size) { s1 with heap := s1.heap.push { cls := .type "tuple", data := .seq acc.toArray } }) :
    wpAny (model X.prog X.w) A (call (.type "tuple") [.ref a]) Q E s' := by
  refine callType_codes (Q₁ := fun obj s₁ => s₁.TypeIs obj "tuple" ∧ Q obj s₁) F.called_tuple (F.typeCall_tuple_1 _) F.entry_object_init
    (code_tupleG (A := A.in1) m hr.in1 hf hd hlen fun s1 acc H' ys I' S' c' va rp => ⟨⟨_, Heap.get?_push_size _ rfl, rfl⟩, h s1 acc H' ys I' S' c' va rp⟩) fun obj s₁ h₁ => ?_
  exact ⟨h₁.1, F.args_object_init_2 obj _, object_init_meets F.called_tuple.init.lookup F.called_tuple.made (by decide) X.prog X.w A.in1 _ s₁ ⟨h₁.1, rfl, h₁.2⟩⟩
end
theorem bt_tuple : bootBuiltins "tuple" = some (.type "tuple") := by decide +kernel
def eTupG (gi : Iv) (t : Gt) (cap : List (Option Nat)) : Ev := fun ρ => (gi ρ).bind fun p => (drainL t p.2 (caps cap p.1)).bind fun r => if small r then some (p.1, .tuple r) else none
section
variable {X : Cx} {T : Tabs} {M Mg : Kds} {k : Nat} {Ng : List Str} {cap : List (Option Nat)} {scope : Scope} {tg iter elt : Expr} {ifs : List Expr} {pos p gpos : Pos} {G : Gv} {h : Tv} {fe : Ev} {gi : Iv}
theorem s_tupG (hg : Gl X "tuple") (hm : X.mg "tuple" = none) (g : GEx X T M Mg k Ng cap scope tg iter elt ifs gi G h fe) : SE X T M (.Call (.Name "tuple" p) [.GeneratorExp elt [⟨tg, iter, ifs, 0⟩] scope gpos] [] pos) (eTupG gi (gTurn G h fe) cap) := by
  refine ⟨fun pins s σ H Q I hw => ?_⟩
  obtain ⟨U, ρ, ρ', d, S, hf, q⟩ := hw
  obtain ⟨⟨ρ1, ds⟩, e1, e2⟩ := bind_of hf
  obtain ⟨r, e3, e4⟩ := bind_of e2
  obtain ⟨hs, e4⟩ := ite_of e4
  cases e4
  refine wpAny_Call_Name_kw (ld_blt I hg hm bt_tuple ?_)
  refine PyProof.Rows.callWith_type1 ?_ rfl (by rfl)
  show wpAny _ _ (spliced ((false, eval (.GeneratorExp elt [⟨tg, iter, ifs, 0⟩] scope gpos) X.env) :: backTo pos (starEach [] X.env))) _ _ s
  refine Calls.spliced_cons (g.make I S e1 fun a gn sc H1 code fp go T' s' m stp => ?_)
  refine Calls.spliced_nil ?_
  refine call_tupleG m (g.room.mono (by omega)) m.inv.ok.frames e3 (small_line hs) fun s1 acc H' ys I' S' c' va rp => ?_
  have hp : H' s1.heap.objs.size = none := I'.hok.fresh (Nat.le_refl _)
  have hly : ys.length ≤ sizeLine := by rw [rp.length]; exact small_line hs
  have I2 : Inv X pins σ (upd H' s1.heap.objs.size (.tup ys)) { s1 with heap := s1.heap.push { cls := .type "tuple", data := .seq acc.toArray } } :=
    I'.laid (t' := s1.toks) (fun b u e => Heap.get?_push_of_some _ e) (Nat.le_refl _) ⟨hly, acc, va, ⟨_, Heap.get?_push_size _ rfl, rfl, _, rfl⟩⟩
  obtain ⟨S2, r2⟩ := newTup S' hp rp (Inv.ko I2)
  exact ⟨.ref s1.heap.objs.size, _, I2, rfl, q _ _ S2 (stp.trans (c'.stp.trans (Stp.new hp))) r2⟩
end
end Sx
/-! G9: sum of a generator expression (ints). -/
namespace Sx
open PySem PySem.Spec PyProof.Rows L2 GenW

def sumL (t : Gt) : List D → Env → Option Int
  | [], _ => some 0
  | d :: ds, ρ => (t d ρ).bind fun p => match p.2 with
    | none => sumL t ds p.1
    | some (.int i) => (sumL t ds p.1).map (i + ·)
    | some _ => none
theorem sumL_of {t : Gt} : ∀ {l : List D} {ρ : Env} {b : Int}, sumL t l ρ = some b → (nextOf t l ρ = some none ∧ b = 0) ∨ ∃ i l' ρ' b', nextOf t l ρ = some (some (.int i, l', ρ')) ∧ sumL t l' ρ' = some b' ∧ b = i + b'
  | [], _, _, h => by cases h; exact .inl ⟨rfl, rfl⟩
  | d :: l, ρ, b, h => by
    obtain ⟨⟨ρ1, o⟩, e1, e2⟩ := bind_of h
    cases o with
    | none => rw [nextOf_none e1]; exact sumL_of e2
    | some y =>
      have en := nextOf_some (l := l) e1
      cases y with
      | int i =>
        obtain ⟨b', e3, e4⟩ := Option.map_eq_some_iff.mp e2
        exact .inr ⟨i, l, ρ1, b', en, e3, e4.symm⟩
      | none => cases e2
      | bool _ => cases e2
      | str _ => cases e2
      | list _ => cases e2
      | tuple _ => cases e2
      | dict _ => cases e2
theorem sumL_def {t : Gt} {l : List D} {ρ : Env} {b : Int} (h : sumL t l ρ = some b) : nextOf t l ρ ≠ none := by
  rcases sumL_of h with ⟨q, _⟩ | ⟨_, _, _, _, q, _⟩ <;> rw [q] <;> simp
abbrev sumObj (acc : Int) (t : Tok) (c : Nat) : Obj := { cls := .type "list", dict := none, data := .seq #[.int acc t] c, slots := #[] }
def sSum (S : Addr) : SMem := fun ys sp => ∃ ns : List Int, ys = ns.map V.int ∧ ∃ t c, sp = [(S, sumObj ns.sum t c)]
section
variable {X : Cx} {pins : List (Addr × Obj)} {σ : Sg} {T T' : Tabs} {M Mg : Kds} {U : Addr → Prop} {ρ : Env} {k a gn : Nat} {Ng : List Str} {scope : Scope} {t : Gt} {ds : List D} {ρ0 : Env} {sc s' : Shared} {H1 : Hp} {code : Value} {fp : List Addr} {go : Obj} {A B : Around}
theorem rel_int {X : Cx} {O : Addr → Prop} {H' : Hp} {x : V} {v : Value} {i : Int} (rx : RelV x v) (rp : Rp X.K X.w O H' x (.int i)) : x = .int i ∧ ∃ t, v = .int i t := by
  cases rp
  exact ⟨rfl, rx⟩
theorem sum_app (ns : List Int) (i : Int) : (ns ++ [i]).sum = ns.sum + i := by simp
theorem sum_loopG {R : Result → Shared → Prop} {S : Addr} (m : GMk X pins σ T M U ρ k Ng scope Mg t ds ρ0 a gn sc H1 code fp go T' s') (hh : A.handled = none) (hroom : A.depth < recursionLimit) (hSa : S ≠ a) (hSc : S ≠ cStatics) : ∀ (n j : Nat) (s : Shared) (l dj : List D) (ρj : Env) (b acc : Int) (tA : Tok) (c : Nat) (stage : Int), (stage = 0 ∨ stage = 2) → l.length = n → posn t ds ρ0 j = some (dj, l, ρj) → sumL t l ρj = some b → s.heap.get? S = some (sumObj acc tA c) →
    GZ (gXg X sc H1 B Ng scope code fp a go) A.in1.in1 fp [S] (sSum S) T T' M Mg U σ ρ H1 t ds ρ0 (ds.length + 1) a gn j s → (∀ s1 t', GEnd X pins σ T M U ρ H1 s1 → R (.ok (.ret (.int (acc + b) t'))) s1) → codeAny (model X.prog X.w) A (.builtin "sum.loop" ⟨[.ref a, .ref S, rawInt stage, rawInt 0], []⟩) R s := by
  intro n
  induction n using Nat.strongRecOn with
  | _ n ih =>
    intro j s l dj ρj b acc tA c stage hstage hn hp hb hS0 z hR
    have nS : a ∉ [S] := fun h => hSa (List.mem_singleton.mp h).symm
    have nC : cStatics ∉ [S] := fun h => hSc (List.mem_singleton.mp h).symm
    refine codeAny_builtin F.entry_sum_loop ?_
    rw [Around.under_plainId F.plain_sum_loop _]
    show wpAny _ A.in1 (seqItems? (.ref S) >>= _) _ _ s
    refine wpAny_bind (wpAny_seqItems hS0 rfl ?_)
    show wpAny _ A.in1 (tryCatch (pyNext (.ref a)) _ >>= _) _ _ s
    refine wpAny_bind (wpAny_tryCatch (gnext (Xg := gXg X sc H1 B Ng scope code fp a go) (A := A.in1) (go := go) hh hroom (Nat.lt_succ_self _) nS nC List.mem_cons_self m.gob z hp (fun y l' ρ' hx v s1 ys sp σg H' x z1 rx rp hS hz => ?_) fun hx s1 ys sp σg H' ρg z1 hS => ?_))
    · rcases sumL_of hb with ⟨h1, _⟩ | ⟨i, l2, ρ2, b2, h1, h2, rfl⟩
      · rw [hx] at h1; cases h1
      · rw [hx] at h1; cases h1
        obtain ⟨rfl, t1, rfl⟩ := rel_int (X := X) rx rp
        have eS : s1.heap.get? S = some (sumObj acc tA c) := by rw [← hS S (List.mem_singleton.mpr rfl)]; exact hS0
        obtain ⟨ns, rfl, t2, c2, rfl⟩ := z1.sm
        have eS2 : s1.heap.get? S = some (sumObj ns.sum t2 c2) := (z1.inv.pin (S, sumObj ns.sum t2 c2) (List.mem_append_right _ List.mem_cons_self)).1
        rw [eS] at eS2
        have ea : acc = ns.sum := by
          have q := Option.some.inj eS2
          simp only [sumObj, Obj.mk.injEq, Data.seq.injEq, true_and] at q
          have q1 := congrArg Array.toList q.1.1
          simp at q1
          exact q1.1
        have nb := sumL_def h2
        have la := nextOf_len hx
        have pn := posn_next hp hx
        -- the next turn, at whatever stage
        have go : ∀ (stage' : Int) (s2 : Shared) (t3 : Tok) (c3 : Nat), (stage' = 0 ∨ stage' = 2) → s2.os = s1.os → AllBare s2.gens → s2.gens = s1.gens → (∀ b o, b ∉ [S] → s1.heap.get? b = some o → s2.heap.get? b = some o) → s2.heap.get? S = some (sumObj (acc + i) t3 c3) →
            codeAny (model X.prog X.w) A (.builtin "sum.loop" ⟨[.ref a, .ref S, rawInt stage', rawInt 0], []⟩) R s2 := fun stage' s2 t3 c3 hst ho hb2 hg hk hs => by
          refine ih l'.length (by rw [← hn]; exact la) (j + 1) s2 l' _ ρ' b2 (acc + i) t3 c3 stage' hst rfl pn h2 hs (hz s2 ⟨ho, hb2, hk, [(S, sumObj (acc + i) t3 c3)], fun p hp => ?_, ⟨ns ++ [i], by simp, t3, c3, by rw [sum_app, ← ea]⟩, rfl⟩ hg nb) fun s3 t4 q3 => hR s3 t4 q3 |> fun h => by rw [Int.add_assoc]; exact h
          rw [List.mem_singleton.mp hp]
          exact ⟨hs, fun v z => by cases z⟩
        rcases hstage with rfl | rfl
        · show wpAny _ A.in1 (if (_ : Bool) = true then (mkInt (acc + i) >>= _) else _) _ _ _
          split
          · refine wpAny_bind (wpAny_mkInt ?_)
            show wpAny _ A.in1 (updateSeq S (fun _ => #[.int (acc + i) s1.toks]) >>= _) _ _ _
            refine wpAny_bind ?_
            refine wpAny_updateSeq eS rfl (wpAny_pure ⟨plainId_quiet F.plain_sum_loop _, go 0 _ s1.toks _ (.inl rfl) rfl z1.inv.bare rfl (fun b o hb e => ?_) (Heap.get?_update_self _ eS rfl)⟩)
            exact (Heap.get?_update_other _ _ (fun h : S = b => hb (by rw [h]; exact List.mem_singleton.mpr rfl))).trans e
          · refine wpAny_bind (wpAny_rule ?_)
            refine wpAny_bind (wpAny_attempt (wpAny_holding (PySem.P.add_int ?_)))
            show wpAny _ A.in1 (updateSeq S (fun _ => #[.int (acc + i) s1.toks]) >>= _) _ _ _
            refine wpAny_bind ?_
            refine wpAny_updateSeq eS rfl ?_
            have hS2 := Heap.get?_update_self (Obj.mapSeq fun _ => #[Value.int (acc + i) s1.toks]) eS rfl
            refine wpAny_bind (wpAny_letGo ?_)
            refine wpAny_bind ?_
            refine wpAny_updateSeq hS2 rfl (wpAny_pure ⟨plainId_quiet F.plain_sum_loop _, go 2 _ s1.toks _ (.inr rfl) rfl z1.inv.bare rfl (fun b o hb e => ?_) (Heap.get?_update_self _ hS2 rfl)⟩)
            exact (Heap.get?_update_other _ _ (fun h : S = b => hb (by rw [h]; exact List.mem_singleton.mpr rfl))).trans ((Heap.get?_update_other _ _ (fun h : S = b => hb (by rw [h]; exact List.mem_singleton.mpr rfl))).trans e)
        · show wpAny _ A.in1 ((holding [Value.int i t1] (binaryOp .Add (.int acc tA) (.int i t1))).attempt >>= _) _ _ _
          refine wpAny_bind (wpAny_attempt (wpAny_holding (PySem.P.add_int ?_)))
          show wpAny _ A.in1 (updateSeq S (fun _ => #[.int (acc + i) s1.toks]) >>= _) _ _ _
          refine wpAny_bind ?_
          refine wpAny_updateSeq eS rfl ?_
          have hS2 := Heap.get?_update_self (Obj.mapSeq fun _ => #[Value.int (acc + i) s1.toks]) eS rfl
          refine wpAny_bind (wpAny_letGo ?_)
          refine wpAny_bind ?_
          refine wpAny_updateSeq hS2 rfl (wpAny_pure ⟨plainId_quiet F.plain_sum_loop _, go 2 _ s1.toks _ (.inr rfl) rfl z1.inv.bare rfl (fun b o hb e => ?_) (Heap.get?_update_self _ hS2 rfl)⟩)
          exact (Heap.get?_update_other _ _ (fun h : S = b => hb (by rw [h]; exact List.mem_singleton.mpr rfl))).trans ((Heap.get?_update_other _ _ (fun h : S = b => hb (by rw [h]; exact List.mem_singleton.mpr rfl))).trans e)
    · rcases sumL_of hb with ⟨_, rfl⟩ | ⟨i, l2, ρ2, b2, h1, _⟩
      · exact wpAny_pure (by have := hR s1 tA (m.fin z1); rw [Int.add_zero] at this; exact this)
      · rw [hx] at h1; cases h1
end
def eSum (gi : Iv) (t : Gt) (cap : List (Option Nat)) : Ev := fun ρ => (gi ρ).bind fun p => (sumL t p.2 (caps cap p.1)).map fun b => (p.1, .int b)
section
variable {X : Cx} {T : Tabs} {M Mg : Kds} {k : Nat} {Ng : List Str} {cap : List (Option Nat)} {scope : Scope} {tg iter elt : Expr} {ifs : List Expr} {pos p gpos : Pos} {G : Gv} {h : Tv} {fe : Ev} {gi : Iv}
theorem s_sum (hg : Gl X "sum") (hm : X.mg "sum" = none) (g : GEx X T M Mg k Ng cap scope tg iter elt ifs gi G h fe) : SE X T M (.Call (.Name "sum" p) [.GeneratorExp elt [⟨tg, iter, ifs, 0⟩] scope gpos] [] pos) (eSum gi (gTurn G h fe) cap) := by
  refine ⟨fun pins s σ H Q I hw => ?_⟩
  obtain ⟨U, ρ, ρ', d, S, hf, q⟩ := hw
  obtain ⟨⟨ρ1, ds⟩, e1, e2⟩ := bind_of hf
  obtain ⟨b, e3, e4⟩ := Option.map_eq_some_iff.mp e2
  cases e4
  refine wpAny_Call_Name_kw (ld_blt I hg hm boot_sum ?_)
  refine PyProof.Rows.callWith_builtin1 ?_ rfl (by rfl)
  show wpAny _ _ (spliced ((false, eval (.GeneratorExp elt [⟨tg, iter, ifs, 0⟩] scope gpos) X.env) :: backTo pos (starEach [] X.env))) _ _ s
  refine Calls.spliced_cons (g.make I S e1 fun a gn sc H1 code fp go T' s' m stp => ?_)
  refine Calls.spliced_nil ?_
  have hSa : s'.heap.objs.size ≠ a := Nat.ne_of_gt m.lt
  have lim : s'.heap.NoLimit := m.inv.nolimit.keeps m.keep
  have hSc : s'.heap.objs.size ≠ cStatics := Nat.ne_of_gt (let ⟨_, hn, _⟩ := lim; hn.lt)
  refine call_function_tree F.kind_sum F.plain_sum F.entry_sum (F.args_sum1 _) ?_
  unfold Builtin.«sum»
  simp only [List.length_cons, List.length_nil]
  rw [if_neg (by decide)]
  refine wpAny_bind (wpAny_of_eq (show Builtin.Builtins.bindParams "sum" ["start"] 0 { } = pure [none] from rfl) ?_)
  refine wpAny_bind (wpAny_pyIter_gen m.gen ?_)
  refine wpAny_bind (wpAny_mkInt ?_)
  refine wpAny_bind (wpAny_pure ?_)
  simp only [List.forIn_cons, List.forIn_nil]
  refine wpAny_bind (wpAny_bind (wpAny_bind (wpAny_isInstance (T := "int") (b := false) (typeIs_int _ _ _) PySem.sub_int_str ?_)))
  simp only [Bool.false_eq_true, if_false]
  refine wpAny_pure (wpAny_bind (wpAny_bind (wpAny_isInstance (T := "int") (b := false) (typeIs_int _ _ _) PySem.sub_int_bytes ?_)))
  simp only [Bool.false_eq_true, if_false]
  refine wpAny_pure (wpAny_bind (wpAny_bind (wpAny_isInstance (T := "int") (b := false) (typeIs_int _ _ _) PySem.sub_int_bytearray ?_)))
  simp only [Bool.false_eq_true, if_false]
  refine wpAny_pure (wpAny_pure ?_)
  refine wpAny_bind (wpAny_newObj_type ?_)
  refine wpAny_pure ⟨plainId_quiet F.plain_sum_loop _, ?_⟩
  have hr : Room (k + 1) X.A.in1.in1 := (g.room.mono (by omega : k + 3 ≤ k + 6)).in1.in1
  refine sum_loopG (A := X.A) (B := X.A.in1.in1) m g.room.hd g.room.depth hSa hSc ds.length 0 _ ds [] (caps cap ρ1) b 0 s'.toks 0 0 (.inl rfl) rfl rfl e3 (Heap.get?_push_size _ rfl)
    (m.wake X.A.in1.in1 [s'.heap.objs.size] (sSum s'.heap.objs.size) _ hr m.inv.ok.frames (fun S hS => by rw [List.mem_singleton.mp hS]; exact Nat.le_refl _) rfl m.bare (fun b o e => Heap.get?_push_of_some _ e) rfl ⟨[(s'.heap.objs.size, sumObj 0 s'.toks 0)], fun p hp => ?_, ⟨[], rfl, s'.toks, 0, rfl⟩, rfl⟩ (sumL_def e3)) fun s1 t' ⟨H', I', S', c'⟩ => ?_
  · rw [List.mem_singleton.mp hp]
    exact ⟨Heap.get?_push_size _ rfl, fun v z => by cases z⟩
  · rw [Int.zero_add]
    exact ⟨.int b, H', I', ⟨_, rfl⟩, q (.int b) H' S' (stp.trans c'.stp) (.int b)⟩
end
end Sx
/-! C1: the rules by a context's plain facts. -/
namespace Sx
open PySem PySem.Spec PyProof.Rows L2

structure Gb where
  P : Program
  w : World
  K : PySem.W.Frag
  mg : Str → Option Value
  base : Heap
def gbOf (X : Cx) : Gb := ⟨X.prog, X.w, X.K, X.mg, X.base⟩
/-- what is plain about a context -/
structure Kx (X : Cx) (g : Gb) (N : List Str) (sc : Scope) (F : Str → Bool) (k : Nat) : Prop where
  hg : gbOf X = g
  n : X.N = N
  hsc : X.env.scope = sc
  fn : X.fn = F
  calm : X.calm = true
  room : Room k X.A
  nd : N.Nodup
  own : PassesOwn (model X.prog X.w) X.A X.env X.xe
  kind : sc.kind = .function
/-- its code object -/
def CdX (X : Cx) (T : Tabs) : Prop := ∃ c P fl, Cd X T c P fl
def BmG (g : Gb) : Prop := ∃ (bm : Addr) (ob : Obj), g.mg "__builtins__" = some (.ref bm) ∧ bm ≠ builtinsNs ∧ g.base.get? bm = some ob ∧ ob.cls = .type "module" ∧ ob.dict = some builtinsNs ∧ ob.data = .plain
abbrev isGl (sc : Scope) (x : Str) : Prop := sc.names.lookup x = some .globalImplicit
section
variable {X : Cx} {g : Gb} {N : List Str} {sc : Scope} {F : Str → Bool} {k : Nat} {T : Tabs} {M : Kds} {x : Str} {pos p p' cpos apos spos : Pos} {e a b c : Expr} {es : List Expr} {f : Ev} {gg : Evs} {Ga Gb' : Evs → Evs} {fr : Bool}
theorem Kx.gl (h : Kx X g N sc F k) (q : isGl sc x) : Gl X x := by
  show X.env.scope.names.lookup x = _
  rw [h.hsc]; exact q
theorem Kx.mg (h : Kx X g N sc F k) {v : Option Value} (q : g.mg x = v) : X.mg x = v := by
  have := h.hg
  subst this
  exact q
theorem Kx.hu (h : Kx X g N sc F k) : X.A.units + 64 < cLine := h.room.units
theorem Kx.xnd (h : Kx X g N sc F k) : X.N.Nodup := by rw [h.n]; exact h.nd
theorem Kx.hn {i : Nat} (h : Kx X g N sc F k) (q : N[i]? = some x) : X.N[i]? = some x := by rw [h.n]; exact q
theorem Kx.cz (h : Kx X g N sc F k) : Cz X := ⟨h.own, h.calm⟩
theorem Kx.bm (h : Kx X g N sc F k) (b : BmG g) : Bm X := by
  have := h.hg
  subst this
  exact b
/-- a name -/
def visB (sc : Scope) (x : Str) : Bool := match sc.names.lookup x with
  | some .local => true
  | some .cell => true
  | some .free => true
  | _ => false
theorem vis_of (h : visB sc x = true) : Vis sc x := by
  unfold visB at h
  split at h
  · exact .inl (by assumption)
  · exact .inr (.inl (by assumption))
  · exact .inr (.inr (by assumption))
  · cases h
theorem Kx.pv (h : Kx X g N sc F k) (i : Nat) (hN : N[i]? = some x) (hv : visB sc x = true) (hd : (x == ("__debug__" : Str)) = false) (hcd : (x == ("__classdict__" : Str)) = false) : PE X (.Name x pos) (tVar i) :=
  pe_var (h.hn hN) (by rw [h.hsc]; exact vis_of hv) hd hcd
/-- the look at a name: its place, that it is seen -/
structure Nm (N : List Str) (sc : Scope) (i : Nat) (x : Str) : Prop where
  hN : N[i]? = some x
  hv : visB sc x = true
  hd : (x == ("__debug__" : Str)) = false
  hc : (x == ("__classdict__" : Str)) = false
def nmB (N : List Str) (sc : Scope) (i : Nat) (x : Str) : Bool := (N[i]? == some x) && visB sc x && !(x == ("__debug__" : Str)) && !(x == ("__classdict__" : Str))
theorem nm_of {i : Nat} (h : nmB N sc i x = true) : Nm N sc i x := by
  unfold nmB at h
  simp only [Bool.and_eq_true, Bool.not_eq_true', beq_iff_eq] at h
  exact ⟨h.1.1.1, h.1.1.2, h.1.2, h.2⟩
theorem c_v (h : Kx X g N sc F k) (i : Nat) (n : nmB N sc i x = true := by rfl) (hM : (M i).own = false := by rfl) : SE X T M (.Name x pos) (eV i) := s_var (h.pv i (nm_of n).hN (nm_of n).hv (nm_of n).hd (nm_of n).hc) hM
theorem c_t (h : Kx X g N sc F k) (i : Nat) (n : nmB N sc i x = true := by rfl) (hM : M i = .ow := by rfl) : SF X T M (.Name x pos) (eT i) := s_take (h.pv i (nm_of n).hN (nm_of n).hv (nm_of n).hd (nm_of n).hc) hM
theorem c_o (h : Kx X g N sc F k) (i : Nat) (n : nmB N sc i x = true := by rfl) : SO X T M (.Name x pos) (gV i) := so_v (h.pv i (nm_of n).hN (nm_of n).hv (nm_of n).hd (nm_of n).hc)
theorem c_l {ls : Ls} (h : Kx X g N sc F k) (i : Nat) (hr : CAs X T M ls es gg) (n : nmB N sc i x = true := by rfl) (hM : (M i).own = true := by rfl) : CAs X T M (some i :: ls) (.Name x pos :: es) (gV i gg) := ca_l (h.pv i (nm_of n).hN (nm_of n).hv (nm_of n).hd (nm_of n).hc) hM hr
/-! constants -/
theorem c_int {i : Int} {j : Nat} : SE X T M (.Constant (.int i) j pos) (eC (.int i)) := s_const pe_int fun _ _ => .int _
theorem c_bl {i : Bool} {j : Nat} : SE X T M (.Constant (.bool i) j pos) (eC (.bool i)) := s_const pe_bl fun _ _ => .bl _
theorem c_str {i : Str} {j : Nat} : SE X T M (.Constant (.str i) j pos) (eC (.str i)) := s_const pe_str fun _ _ => .str _
theorem c_non {j : Nat} : SE X T M (.Constant .none j pos) (eC .none) := s_const pe_non fun _ _ => .non
/-! operators -/
theorem c_add (ha : SO X T M a Ga) (hb : SO X T M b Gb') : SE X T M (.BinOp a .Add b pos) (fOp addI (Ga (Gb' gN))) := s_bin op_addA ha hb ru_add
theorem c_addF (ha : SO X T M a Ga) (hb : SO X T M b Gb') : SF X T M (.BinOp a .Add b pos) (fOp addL (Ga (Gb' gN))) := s_binF op_catL ha hb ru_addL
theorem c_sub (ha : SO X T M a Ga) (hb : SO X T M b Gb') : SE X T M (.BinOp a .Sub b pos) (fOp subI (Ga (Gb' gN))) := s_bin op_sub ha hb ru_sub
theorem c_mul (ha : SO X T M a Ga) (hb : SO X T M b Gb') : SE X T M (.BinOp a .Mult b pos) (fOp mulI (Ga (Gb' gN))) := s_bin op_mul ha hb ru_mul
theorem c_fdiv (ha : SO X T M a Ga) (hb : SO X T M b Gb') : SE X T M (.BinOp a .FloorDiv b pos) (fOp fdivI (Ga (Gb' gN))) := s_bin op_fdiv ha hb ru_fdiv
theorem c_mod (ha : SO X T M a Ga) (hb : SO X T M b Gb') : SE X T M (.BinOp a .Mod b pos) (fOp modI (Ga (Gb' gN))) := s_bin op_mod ha hb ru_mod
theorem c_pow (ha : SO X T M a Ga) (hb : SO X T M b Gb') : SE X T M (.BinOp a .Pow b pos) (fOp powI (Ga (Gb' gN))) := s_bin op_pow ha hb ru_pow
theorem c_neg (ha : SO X T M a Ga) : SE X T M (.UnaryOp .USub a pos) (fOp negI (Ga gN)) := s_un un_neg ha ru_neg
theorem c_eq (h : Kx X g N sc F k) (ha : SO X T M a Ga) (hb : SO X T M b Gb') (hm : behindInMarks .Eq b = false := by rfl) : SE X T M (.Compare a [.Eq] [b] pos) (fOp eqI (Ga (Gb' gN))) := s_cmp (op_eqP h.hu) ha hb hm ru_eq
theorem c_ne (h : Kx X g N sc F k) (ha : SO X T M a Ga) (hb : SO X T M b Gb') (hm : behindInMarks .NotEq b = false := by rfl) : SE X T M (.Compare a [.NotEq] [b] pos) (fOp neI (Ga (Gb' gN))) := s_cmp (op_neP h.hu) ha hb hm ru_ne
theorem c_in (h : Kx X g N sc F k) (ha : SO X T M a Ga) (hb : SO X T M b Gb') (hm : behindInMarks .In b = false := by rfl) : SE X T M (.Compare a [.In] [b] pos) (fOp inA (Ga (Gb' gN))) := s_cmp (op_inA h.hu) ha hb hm ru_inA
theorem c_ni (h : Kx X g N sc F k) (ha : SO X T M a Ga) (hb : SO X T M b Gb') (hm : behindInMarks .NotIn b = false := by rfl) : SE X T M (.Compare a [.NotIn] [b] pos) (fOp niA (Ga (Gb' gN))) := s_cmp (op_niA h.hu) ha hb hm ru_niA
theorem c_lt (h : Kx X g N sc F k) (ha : SO X T M a Ga) (hb : SO X T M b Gb') (hm : behindInMarks .Lt b = false := by rfl) : SE X T M (.Compare a [.Lt] [b] pos) (fOp ltI (Ga (Gb' gN))) := s_cmp op_lt ha hb hm ru_lt
theorem c_le (h : Kx X g N sc F k) (ha : SO X T M a Ga) (hb : SO X T M b Gb') (hm : behindInMarks .LtE b = false := by rfl) : SE X T M (.Compare a [.LtE] [b] pos) (fOp leI (Ga (Gb' gN))) := s_cmp op_le ha hb hm ru_le
theorem c_gt (h : Kx X g N sc F k) (ha : SO X T M a Ga) (hb : SO X T M b Gb') (hm : behindInMarks .Gt b = false := by rfl) : SE X T M (.Compare a [.Gt] [b] pos) (fOp gtI (Ga (Gb' gN))) := s_cmp op_gt ha hb hm ru_gt
theorem c_ge (h : Kx X g N sc F k) (ha : SO X T M a Ga) (hb : SO X T M b Gb') (hm : behindInMarks .GtE b = false := by rfl) : SE X T M (.Compare a [.GtE] [b] pos) (fOp geI (Ga (Gb' gN))) := s_cmp op_ge ha hb hm ru_ge
theorem c_is (h : Kx X g N sc F k) (ha : SO X T M a Ga) (hb : SO X T M b Gb') (hm : behindInMarks .Is b = false := by rfl) : SE X T M (.Compare a [.Is] [b] pos) (fOp isI (Ga (Gb' gN))) := s_cmp op_isN ha hb hm ru_is
theorem c_isn (h : Kx X g N sc F k) (ha : SO X T M a Ga) (hb : SO X T M b Gb') (hm : behindInMarks .IsNot b = false := by rfl) : SE X T M (.Compare a [.IsNot] [b] pos) (fOp isnI (Ga (Gb' gN))) := s_cmp op_notN ha hb hm ru_isn
/-! the same as tests -/
theorem d_eq (h : Kx X g N sc F k) (ha : SO X T M a Ga) (hb : SO X T M b Gb') (hm : behindInMarks .Eq b = false := by rfl) : ST X T M (.Compare a [.Eq] [b] pos) (hOp eqI (Ga (Gb' gN))) := st_cmp (op_eqP h.hu) ha hb hm ru_eq
theorem d_ne (h : Kx X g N sc F k) (ha : SO X T M a Ga) (hb : SO X T M b Gb') (hm : behindInMarks .NotEq b = false := by rfl) : ST X T M (.Compare a [.NotEq] [b] pos) (hOp neI (Ga (Gb' gN))) := st_cmp (op_neP h.hu) ha hb hm ru_ne
theorem d_in (h : Kx X g N sc F k) (ha : SO X T M a Ga) (hb : SO X T M b Gb') (hm : behindInMarks .In b = false := by rfl) : ST X T M (.Compare a [.In] [b] pos) (hOp inA (Ga (Gb' gN))) := st_cmp (op_inA h.hu) ha hb hm ru_inA
theorem d_ni (h : Kx X g N sc F k) (ha : SO X T M a Ga) (hb : SO X T M b Gb') (hm : behindInMarks .NotIn b = false := by rfl) : ST X T M (.Compare a [.NotIn] [b] pos) (hOp niA (Ga (Gb' gN))) := st_cmp (op_niA h.hu) ha hb hm ru_niA
theorem d_lt (h : Kx X g N sc F k) (ha : SO X T M a Ga) (hb : SO X T M b Gb') (hm : behindInMarks .Lt b = false := by rfl) : ST X T M (.Compare a [.Lt] [b] pos) (hOp ltI (Ga (Gb' gN))) := st_cmp op_lt ha hb hm ru_lt
theorem d_le (h : Kx X g N sc F k) (ha : SO X T M a Ga) (hb : SO X T M b Gb') (hm : behindInMarks .LtE b = false := by rfl) : ST X T M (.Compare a [.LtE] [b] pos) (hOp leI (Ga (Gb' gN))) := st_cmp op_le ha hb hm ru_le
theorem d_gt (h : Kx X g N sc F k) (ha : SO X T M a Ga) (hb : SO X T M b Gb') (hm : behindInMarks .Gt b = false := by rfl) : ST X T M (.Compare a [.Gt] [b] pos) (hOp gtI (Ga (Gb' gN))) := st_cmp op_gt ha hb hm ru_gt
theorem d_ge (h : Kx X g N sc F k) (ha : SO X T M a Ga) (hb : SO X T M b Gb') (hm : behindInMarks .GtE b = false := by rfl) : ST X T M (.Compare a [.GtE] [b] pos) (hOp geI (Ga (Gb' gN))) := st_cmp op_ge ha hb hm ru_ge
theorem d_is (h : Kx X g N sc F k) (ha : SO X T M a Ga) (hb : SO X T M b Gb') (hm : behindInMarks .Is b = false := by rfl) : ST X T M (.Compare a [.Is] [b] pos) (hOp isI (Ga (Gb' gN))) := st_cmp op_isN ha hb hm ru_is
theorem d_isn (h : Kx X g N sc F k) (ha : SO X T M a Ga) (hb : SO X T M b Gb') (hm : behindInMarks .IsNot b = false := by rfl) : ST X T M (.Compare a [.IsNot] [b] pos) (hOp isnI (Ga (Gb' gN))) := st_cmp op_notN ha hb hm ru_isn
theorem d_tru (ha : SO X T M a Ga) (hp : plainTest a = true := by rfl) : ST X T M a (hTru (Ga gN)) := st_tru hp ha
/-- a[b] -/
theorem c_ix (h : Kx X g N sc F k) (ha : SO X T M a Ga) (hb : SO X T M b Gb') (hs : notSlice b = true := by rfl) : SE X T M (.Subscript a b pos) (fOp ixA (Ga (Gb' gN))) := s_ix (ix_A h.hu) ha hb (plainIx_of hs) ru_ixA
/-! lists of expressions -/
theorem a_c (he : SE X T M e f) (hr : SA X T M es gg) (hp : plainArg e = true := by rfl) : SA X T M (e :: es) (gE f gg) := sa_cons hp he hr
theorem o_c (he : SO X T M e Ga) (hr : SOs X T M es gg) (hp : plainArg e = true := by rfl) : SOs X T M (e :: es) (Ga gg) := sos_cons hp he hr
theorem l_c {ls : Ls} (he : SE X T M e f) (hr : CAs X T M ls es gg) (hp : plainArg e = true := by rfl) : CAs X T M (none :: ls) (e :: es) (gE f gg) := ca_e hp he hr
/-! built-ins -/
theorem c_len (h : Kx X g N sc F k) (hm : g.mg "len" = none) (ha : SOs X T M [e] gg) (hg : isGl sc "len" := by rfl) (hp : [e].all plainArg = true := by rfl) : SE X T M (.Call (.Name "len" p) [e] [] pos) (fOp lenI gg) := s_callB call_len (h.gl hg) (h.mg hm) rfl ha (by decide) rfl hp ru_len
theorem c_intc (h : Kx X g N sc F k) (hm : g.mg "int" = none) (ha : SOs X T M [e] gg) (hg : isGl sc "int" := by rfl) (hp : [e].all plainArg = true := by rfl) : SE X T M (.Call (.Name "int" p) [e] [] pos) (fOp intI gg) := s_callT call_int1 (h.gl hg) (h.mg hm) rfl ha (by decide) rfl hp ru_int
theorem c_tupc (h : Kx X g N sc F k) (hm : g.mg "tuple" = none) (ha : SOs X T M [e] gg) (hg : isGl sc "tuple" := by rfl) (hp : [e].all plainArg = true := by rfl) : SE X T M (.Call (.Name "tuple" p) [e] [] pos) (fOp tupI gg) := s_callT call_tuple_of (h.gl hg) (h.mg hm) rfl ha (by decide) rfl hp ru_tup
theorem c_lstc (h : Kx X g N sc F k) (hm : g.mg "list" = none) (ha : SOs X T M [e] gg) (hg : isGl sc "list" := by rfl) (hp : [e].all plainArg = true := by rfl) : SF X T M (.Call (.Name "list" p) [e] [] pos) (fOp lstI gg) := s_callTF call_list_of (h.gl hg) (h.mg hm) rfl ha (by decide) rfl hp ru_lst
theorem c_sorted (h : Kx X g N sc F k) (hm : g.mg "sorted" = none) (ha : SOs X T M [e] gg) (hg : isGl sc "sorted" := by rfl) (hp : plainArg e = true := by rfl) : SF X T M (.Call (.Name "sorted" p) [e] [] pos) (fOp sortI gg) := s_sorted h.hu (h.gl hg) (h.mg hm) ha hp
theorem c_max1 (h : Kx X g N sc F k) (hm : g.mg "max" = none) (ha : SOs X T M [e] gg) (hg : isGl sc "max" := by rfl) (hp : plainArg e = true := by rfl) : SE X T M (.Call (.Name "max" p) [e] [] pos) (fOp (extI true) gg) := s_max1 h.calm h.hu (h.gl hg) (h.mg hm) ha hp
theorem c_min1 (h : Kx X g N sc F k) (hm : g.mg "min" = none) (ha : SOs X T M [e] gg) (hg : isGl sc "min" := by rfl) (hp : plainArg e = true := by rfl) : SE X T M (.Call (.Name "min" p) [e] [] pos) (fOp (extI false) gg) := s_min1 h.calm h.hu (h.gl hg) (h.mg hm) ha hp
theorem c_max2 (h : Kx X g N sc F k) (hm : g.mg "max" = none) (ha : SOs X T M [a, b] gg) (hg : isGl sc "max" := by rfl) (hp : [a, b].all plainArg = true := by rfl) : SE X T M (.Call (.Name "max" p) [a, b] [] pos) (fOp max2I gg) := s_callB (call_max2 h.calm) (h.gl hg) (h.mg hm) rfl ha (by decide) rfl hp ru_max2
theorem c_min2 (h : Kx X g N sc F k) (hm : g.mg "min" = none) (ha : SOs X T M [a, b] gg) (hg : isGl sc "min" := by rfl) (hp : [a, b].all plainArg = true := by rfl) : SE X T M (.Call (.Name "min" p) [a, b] [] pos) (fOp min2I gg) := s_callB (call_min2 h.calm) (h.gl hg) (h.mg hm) rfl ha (by decide) rfl hp ru_min2
theorem c_isi {n : String} {fi : D → Bool} (hn : IsiOk n fi) (h : Kx X g N sc F k) (hm : g.mg "isinstance" = none) (hm2 : g.mg (Str.ofString n) = none) (he : SO X T M a Ga) (hb : bootBuiltins (Str.ofString n) = some (.type n) := by rfl) (hg : isGl sc "isinstance" := by rfl) (hg2 : isGl sc (Str.ofString n) := by rfl) (hnn : Str.ofString n ≠ "__name__" := by decide) (hdb : (Str.ofString n == ("__debug__" : Str)) = false := by rfl) (hp : plainArg a = true := by rfl) :
    SE X T M (.Call (.Name "isinstance" p) [a, .Name (Str.ofString n) p'] [] pos) (fOp (isiI fi) (Ga gN)) := s_isi hn (h.gl hg) (h.mg hm) he (pe_bltn (h.gl hg2) (h.mg hm2) hb rfl hnn hdb) hp rfl
/-! iterators -/
theorem i_rg1 {tg : Expr} (h : Kx X g N sc F k) (hm : g.mg "range" = none) (ha : SOs X T M [a] gg) (hg : isGl sc "range" := by rfl) (hp : plainArg a = true := by rfl) : SI X T M tg (.Call (.Name "range" p) [a] [] pos) (iRg1 gg) := si_range1 (h.gl hg) (h.mg hm) ha hp
theorem i_rg2 {tg : Expr} (h : Kx X g N sc F k) (hm : g.mg "range" = none) (ha : SOs X T M [a, b] gg) (hg : isGl sc "range" := by rfl) (hp : plainArg a = true := by rfl) (hp2 : plainArg b = true := by rfl) : SI X T M tg (.Call (.Name "range" p) [a, b] [] pos) (iRg2 gg) := si_range2 (h.gl hg) (h.mg hm) ha hp hp2
theorem i_zip {elts : List Expr} {kk : Nat} {tpos : Pos} (h : Kx X g N sc F k) (hm : g.mg "zip" = none) (ha : SA X T M [a, b] gg) (hg : isGl sc "zip" := by rfl) (hp : plainArg a = true := by rfl) (hp2 : plainArg b = true := by rfl) : SI X T M (.Tuple elts kk tpos) (.Call (.Name "zip" p) [a, b] [] pos) (iZip gg) := si_zip (h.gl hg) (h.mg hm) ha hp hp2
/-! targets, statements -/
def locB (sc : Scope) (F : Str → Bool) (x : Str) : Bool := match sc.names.lookup x with
  | some .local => true
  | some .cell => F x
  | _ => false
theorem loc_of (h : locB sc F x = true) : Loc sc x ∧ (F x = true ∨ sc.names.lookup x = some .local) := by
  unfold locB at h
  split at h
  · exact ⟨.inl (by assumption), .inr (by assumption)⟩
  · exact ⟨.inr (by assumption), .inl h⟩
  · cases h
theorem Kx.loc (h : Kx X g N sc F k) (q : locB sc F x = true) : Loc X.env.scope x ∧ (X.fn x = true ∨ X.env.scope.names.lookup x = some .local) := by
  rw [h.hsc, h.fn]; exact loc_of q
theorem g_n (h : Kx X g N sc F k) (i : Nat) (hi : N[i]? = some x := by rfl) (hM : M i = .fz := by rfl) (hl : locB sc F x = true := by rfl) : SG X T M [i] (.Name x pos) (gSet i) := sg_name hM h.xnd (h.hn hi) (h.loc hl).1 (h.loc hl).2
theorem g_c {t : Expr} {ts : List Expr} {n1 n2 : List Nat} {G : Gv} {R : Gvs} (ha : SG X T M n1 t G) (hr : SGs X T M n2 ts R) (hp : plainArg t = true := by rfl) : SGs X T M (n1 ++ n2) (t :: ts) (gsCons G R) := sgs_cons hp ha hr
theorem g_t {ts : List Expr} {kk : Nat} {ns : List Nat} {R : Gvs} (h : Kx X g N sc F k) (hs : SGs X T M ns ts R) (hp : ts.all plainArg = true := by rfl) : SG X T M ns (.Tuple ts kk pos) (gTupT ts.length R) := sg_tup h.calm hp hs
theorem t_set (h : Kx X g N sc F k) (i : Nat) (he : SE X T M e f) (hi : N[i]? = some x := by rfl) (hM : M i = .fz := by rfl) (hl : locB sc F x = true := by rfl) (hn : notComp e = true := by rfl) : SS X T M fr (.Assign [.Name x p'] e pos) (aSet i f) := ss_set hM h.xnd (h.hn hi) (h.loc hl).1 hn he (h.loc hl).2
theorem t_setO (h : Kx X g N sc F k) (i : Nat) (he : SF X T M e f) (hi : N[i]? = some x := by rfl) (hM : M i = .ow := by rfl) (hl : locB sc F x = true := by rfl) (hn : notComp e = true := by rfl) : SS X T M fr (.Assign [.Name x p'] e pos) (aSet i f) := ss_setO hM h.xnd (h.hn hi) (h.loc hl).1 hn he (h.loc hl).2
theorem t_asg {tg : Expr} {ns : List Nat} {G : Gv} (he : SE X T M e f) (hg : SG X T M ns tg G) (hp : plainArg tg = true := by rfl) (hv : plainVal tg e = true := by rfl) (hn : notComp e = true := by rfl) : SS X T M fr (.Assign [tg] e pos) (aAsg f G) := ss_asg hp hv hn he hg
theorem t_drop (he : SE X T M e f) (hn : notComp e = true := by rfl) : SS X T M fr (.Expr e pos) (aDrop f) := ss_drop hn he
theorem t_for {tg iter : Expr} {ns : List Nat} {gi : Iv} {G : Gv} {body : List Stmt} {fb : Sv} (h : Kx X g N sc F k) (hi : SI X T M tg iter gi) (hg : SG X T M ns tg G) (hb : SSs X T M fr body fb) (hs : noSetE iter = true := by rfl) : SS X T M fr (.For tg iter body [] pos) (aFor gi G fb) := ss_for h.cz hi hg hb hs
theorem t_while {c : Expr} {hc : Tv} {body : List Stmt} {fb : Sv} (h : Kx X g N sc F k) (ht : ST X T M c hc) (hb : SSs X T M fr body fb) : SS X T M fr (.While c body [] pos) (aWhile hc fb) := ss_while h.cz ht hb
theorem t_app {npos : Pos} (h : Kx X g N sc F k) (i : Nat) (he : SE X T M e f) (n : nmB N sc i x = true := by rfl) (hM : (M i).own = true := by rfl) (hp : plainArg e = true := by rfl) (hl : (apos.endLine == cpos.line) = true := by rfl) : SS X T M fr (.Expr (.Call (.Attribute (.Name x npos) "append" apos) [e] [] cpos) pos) (aApp i f) := ss_app hM (h.pv i (nm_of n).hN (nm_of n).hv (nm_of n).hd (nm_of n).hc) he hp hl
theorem t_ext {npos : Pos} (h : Kx X g N sc F k) (i : Nat) (he : SF X T M e f) (n : nmB N sc i x = true := by rfl) (hM : (M i).own = true := by rfl) (hp : plainArg e = true := by rfl) (hl : (apos.endLine == cpos.line) = true := by rfl) : SS X T M fr (.Expr (.Call (.Attribute (.Name x npos) "extend" apos) [e] [] cpos) pos) (aExt i f) := ss_ext hM (h.pv i (nm_of n).hN (nm_of n).hv (nm_of n).hd (nm_of n).hc) he hp hl
end
/-! ### the text's defs -/
structure DOk (g : Gb) (T0 : Tabs) (x : Str) (k : Nat) (Mc : Kds) (p : Nat) (fr : Bool) (Φ : Fn) : Prop where
  ex : ∃ (fa : Addr) (fd : FuncData) (ps : List Str), FnOk g.P g.w g.K g.mg g.base CX0 k fa fd ps (spF g.K g.w T0 Mc p fr Φ) ∧ g.mg x = some (.ref fa) ∧ PySem.W.keepIn g.K (.ref fa) = true ∧ Binds g.K fd ps []
section
variable {X : Cx} {g : Gb} {N : List Str} {sc : Scope} {F : Str → Bool} {k j n : Nat} {T T0 : Tabs} {M Mc : Kds} {x : Str} {pos p : Pos} {e : Expr} {es : List Expr} {gg : Evs} {ls : Ls} {Φ : Fn}
theorem c_call (h : Kx X g N sc F k) (d : DOk g T0 x j Mc n false Φ) (hj : j ≤ k) (sub : ∀ q ∈ T0, q ∈ T) (ha : CAs X T M ls (e :: es) gg) (hl : ls.length = n := by rfl) (hg : isGl sc x := by rfl) (hf : fits Mc ls = true := by rfl) (nd : (ls.filterMap id).Nodup := by decide) (hdb : (x == ("__debug__" : Str)) = false := by rfl) (hp : (e :: es).all plainArg = true := by rfl) :
    SE X T M (.Call (.Name x p) (e :: es) [] pos) (eCall ls Φ gg) := by
  obtain ⟨fa, fd, ps, h1, h2, h3, h4⟩ := d.ex
  have e1 := h.hg
  subst e1
  subst hl
  exact s_call h1 sub (h.room.mono hj) (h.gl hg) h2 h3 h4 ha hf nd hdb hp
theorem c_callF (h : Kx X g N sc F k) (d : DOk g T0 x j Mc n true Φ) (hj : j ≤ k) (sub : ∀ q ∈ T0, q ∈ T) (ha : CAs X T M ls (e :: es) gg) (hl : ls.length = n := by rfl) (hg : isGl sc x := by rfl) (hf : fits Mc ls = true := by rfl) (nd : (ls.filterMap id).Nodup := by decide) (hdb : (x == ("__debug__" : Str)) = false := by rfl) (hp : (e :: es).all plainArg = true := by rfl) :
    SF X T M (.Call (.Name x p) (e :: es) [] pos) (eCall ls Φ gg) := by
  obtain ⟨fa, fd, ps, h1, h2, h3, h4⟩ := d.ex
  have e1 := h.hg
  subst e1
  subst hl
  exact s_callF h1 sub (h.room.mono hj) (h.gl hg) h2 h3 h4 ha hf nd hdb hp
end
end Sx
/-! C2: blocks, generator expressions, defs by plain facts. -/
namespace Sx
open PySem PySem.Spec PyProof.Rows L2 GenW

abbrev fzM : Kds := fun _ => .fz
abbrev blkF (scope : Scope) : Str → Bool := fun x => scope.names.lookup x == some .cell
def isFn (scope : Scope) : Bool := match scope.kind with
  | .function => true
  | _ => false
theorem isFn_of {scope : Scope} (h : isFn scope = true) : scope.kind = .function := by
  unfold isFn at h
  split at h
  · assumption
  · cases h
/-- the checks of a block's scope -/
def freeB (sc : Scope) (x : Str) : Bool := match sc.names.lookup x with
  | some .cell => true
  | some .free => true
  | _ => false
theorem freeB_of {sc : Scope} {x : Str} (h : freeB sc x = true) : sc.names.lookup x = some .cell ∨ sc.names.lookup x = some .free := by
  unfold freeB at h
  split at h
  · exact .inl (by assumption)
  · exact .inr (by assumption)
  · cases h
def blkB (N : List Str) (sc scope : Scope) (own : List (Str × Nat)) : Bool :=
  isFn scope && (scope.names.all fun y => decide (scope.names.lookup y.1 = some y.2) && (match y.2 with
    | .free => freeB sc y.1
    | .local => (own.any fun p => p.1 == y.1) || !N.contains y.1
    | .cell => (own.any fun p => p.1 == y.1) || !N.contains y.1
    | _ => true)) && own.all fun p => N[p.2]? == some p.1
theorem blk_of {N : List Str} {sc scope : Scope} {own : List (Str × Nat)} (h : blkB N sc scope own = true) : BlkOk N sc scope own := by
  unfold blkB at h
  simp only [Bool.and_eq_true] at h
  obtain ⟨⟨h1, h2⟩, h3⟩ := h
  have key := fun y hy => Bool.and_eq_true _ _ ▸ (List.all_eq_true.mp h2 y hy)
  have oo : ∀ x : Str, ((own.any fun p => p.1 == x) || !N.contains x) = true → x ∈ own.map (·.1) ∨ x ∉ N := fun x hx => by
    rcases Bool.or_eq_true _ _ ▸ hx with q | q
    · obtain ⟨p, hp, e⟩ := List.any_eq_true.mp q
      exact .inl (List.mem_map.mpr ⟨p, hp, by simpa using e⟩)
    · right
      intro z
      simp [z] at q
  refine ⟨isFn_of h1, fun y hy => of_decide_eq_true (key y hy).1, fun p hp => by simpa using List.all_eq_true.mp h3 p hp, fun y hy e => ?_, fun y hy e => ?_⟩
  · have q := (key y hy).2
    rw [e] at q
    exact freeB_of q
  · have q := (key y hy).2
    rcases e with e | e <;> rw [e] at q <;> exact oo _ q
/-- the checks of a generator expression's scope -/
def capB (N : List Str) (scope : Scope) : List (Option Nat) → List Str → Bool
  | [], [] => true
  | none :: c, _ :: n => capB N scope c n
  | some j :: c, x :: n => (N[j]? == some x) && (scope.names.any fun y => y.1 == x && (match y.2 with | .free => true | _ => false)) && capB N scope c n
  | _, _ => false
theorem cap_of {N : List Str} {scope : Scope} : ∀ {cap : List (Option Nat)} {Ng : List Str}, capB N scope cap Ng = true → cap.length = Ng.length ∧ ∀ (i j : Nat) (x : Str), cap[i]? = some (some j) → Ng[i]? = some x → N[j]? = some x ∧ (x, NameKind.free) ∈ scope.names
  | [], [], _ => ⟨rfl, fun i j x h => by simp at h⟩
  | [], _ :: _, h => by cases h
  | none :: _, [], h => by cases h
  | some _ :: _, [], h => by cases h
  | none :: c, _ :: n, h => by
    obtain ⟨h1, h2⟩ := cap_of (cap := c) (Ng := n) h
    refine ⟨by simp [h1], fun i j x e1 e2 => ?_⟩
    cases i with
    | zero => simp at e1
    | succ i => exact h2 i j x (by simpa using e1) (by simpa using e2)
  | some k :: c, y :: n, h => by
    unfold capB at h
    simp only [Bool.and_eq_true] at h
    obtain ⟨⟨a1, a2⟩, a3⟩ := h
    obtain ⟨h1, h2⟩ := cap_of (cap := c) (Ng := n) a3
    refine ⟨by simp [h1], fun i j x e1 e2 => ?_⟩
    cases i with
    | zero =>
      simp at e1 e2
      subst e1 e2
      refine ⟨by simpa using a1, ?_⟩
      obtain ⟨z, hz, e⟩ := List.any_eq_true.mp a2
      rw [Bool.and_eq_true] at e
      obtain ⟨e3, e4⟩ := e
      obtain ⟨z1, z2⟩ := z
      have : z1 = y := by simpa using e3
      subst this
      cases z2 <;> first | exact hz | cases e4
    | succ i => exact h2 i j x (by simpa using e1) (by simpa using e2)
def dotB (scope : Scope) : Bool := match scope.names.lookup (".0" : Str) with
  | some .local => true
  | _ => false
theorem dotB_of {scope : Scope} (h : dotB scope = true) : scope.names.lookup (".0" : Str) = some NameKind.local := by
  unfold dotB at h
  split at h
  · assumption
  · cases h
def gscB (N : List Str) (sc scope : Scope) (Ng : List Str) (cap : List (Option Nat)) : Bool :=
  isFn scope && !scope.isCoroutine && (scope.names.all fun y => decide (scope.names.lookup y.1 = some y.2) && (match y.2 with
    | .free => freeB sc y.1
    | .cell => false
    | _ => true)) && dotB scope && capB N scope cap Ng
theorem gsc_of {N : List Str} {sc scope : Scope} {Ng : List Str} {cap : List (Option Nat)} (h : gscB N sc scope Ng cap = true) : GScp N sc scope Ng cap := by
  unfold gscB at h
  simp only [Bool.and_eq_true, Bool.not_eq_true'] at h
  obtain ⟨⟨⟨⟨h1, h2⟩, h3⟩, h4⟩, h5⟩ := h
  have key := fun y hy => Bool.and_eq_true _ _ ▸ (List.all_eq_true.mp h3 y hy)
  obtain ⟨c1, c2⟩ := cap_of h5
  refine ⟨isFn_of h1, h2, fun y hy e => ?_, dotB_of h4, fun y hy e => ?_, fun y hy => of_decide_eq_true (key y hy).1, c1, c2⟩
  · have q := (key y hy).2
    rw [e] at q
    cases q
  · have q := (key y hy).2
    rw [e] at q
    exact freeB_of q
section
variable {X : Cx} {g : Gb} {N Ng : List Str} {sc scope : Scope} {F : Str → Bool} {k j : Nat} {T T0 : Tabs} {M Mc : Kds} {x : Str} {pos p p' cpos apos spos gpos : Pos} {e a b c : Expr} {es : List Expr} {f : Ev} {fr : Bool} {own : List (Str × Nat)} {tg iter elt kx vx : Expr} {ifs : List Expr} {gi : Iv} {G : Gv} {hh : Tv} {fe fk fv : Ev} {cap : List (Option Nat)}
theorem Kx.blk (h : Kx X g N sc F k) (hs : isFn scope = true) {s : Shared} {H : Hp} {C : Addr} {cl : List (Str × Addr)} {fp : List Addr} : Kx (X.blk s H scope (compEnvC scope cl C X.env) fp) g N (relS scope sc) (blkF scope) k := by
  refine ⟨h.hg, h.n, ?_, rfl, h.calm, h.room, h.nd, PassesOwn.never, isFn_of hs⟩
  show relS scope X.env.scope = _
  rw [h.hsc]
theorem CdX.blk (h : CdX X T) {s : Shared} {H : Hp} {C : Addr} {cl : List (Str × Addr)} {fp : List Addr} : CdX (X.blk s H scope (compEnvC scope cl C X.env) fp) T := by
  obtain ⟨c, P, fl, h1, h2, h3⟩ := h
  exact ⟨c, P, fl, h1, h2, h3⟩
abbrev hYes : Tv := fun ρ => some (ρ, true)
theorem p_n : PTs X [] (tT X.K X.w T M hYes) := ⟨fun pins s σ H Q I hw => by
  obtain ⟨U, ρ, ρ', b, S, hf, q⟩ := hw
  cases hf
  exact pts_nil.run pins s σ H Q I (q H S .refl)⟩
theorem p_1 {c : Expr} {hc : Tv} (h : ST X T M c hc) : PTs X [c] (tT X.K X.w T M hc) := pts_one h
/-- the names of a block are frozen -/
def fzB (M : Kds) (own : List (Str × Nat)) : Bool := own.all fun p => decide (M p.2 = .fz)
theorem fzB_of (h : fzB M own = true) : ∀ i ∈ own.map (·.2), M i = .fz := fun i hi => by
  obtain ⟨p, hp, rfl⟩ := List.mem_map.mp hi
  exact of_decide_eq_true (List.all_eq_true.mp h p hp)
theorem c_lex (h : Kx X g N sc F k) (hc : CdX X T) (own : List (Str × Nat)) (hi : SI X T M tg iter gi)
    (hb : ∀ Xb, Kx Xb g N (relS scope sc) (blkF scope) k → CdX Xb T → SG Xb T M (own.map (·.2)) tg G ∧ PTs Xb ifs (tT Xb.K Xb.w T M hh) ∧ SE Xb T M elt fe) (ok : blkB N sc scope own = true := by decide +kernel) (fz : fzB M own = true := by rfl) (ns : noSetE iter = true := by rfl) : LEx X T M own scope tg iter elt ifs gi G hh fe := by
  have ok2 := blk_of ok
  have hk : isFn scope = true := by unfold isFn; rw [ok2.kind]
  refine ⟨h.calm, h.xnd, by rw [h.n, h.hsc]; exact ok2, fzB_of fz, hi, fun Xb hX => ?_, ns⟩
  obtain ⟨s, H, C, cl, fp, rfl⟩ := hX
  exact hb _ (h.blk hk) hc.blk
theorem c_lc (l : LEx X T M own scope tg iter elt ifs gi G hh fe) : SF X T M (.ListComp elt [⟨tg, iter, ifs, 0⟩] scope pos) (eLc gi (gTurn G hh fe) (own.map (·.2))) := s_lc l
/-- x = [..] -/
def clashB (scope : Scope) (y : Str) : Bool := scope.names.any fun (n, k) => n == y && (k == .local || k == .cell)
theorem t_lcO {y : Str} (h : Kx X g N sc F k) (i : Nat) (l : LEx X T M own scope tg iter elt ifs gi G hh fe) (hM : M i = .ow := by rfl) (hy : N[i]? = some y := by rfl) (hyl : sc.names.lookup y = some .local := by rfl) (hl : (p.line == pos.line) = true := by rfl) (ha : clashB scope y = false := by rfl) :
    SS X T M fr (.Assign [.Name y p] (.ListComp elt [⟨tg, iter, ifs, 0⟩] scope pos) spos) (aSet i (eLc gi (gTurn G hh fe) (own.map (·.2)))) := ss_setLc hM (h.hn hy) (by rw [h.hsc]; exact h.kind) (by rw [h.hsc]; exact hyl) hl ha l
theorem t_lcF {y : Str} (h : Kx X g N sc F k) (i : Nat) (l : LEx X T M own scope tg iter elt ifs gi G hh fe) (hM : M i = .fz := by rfl) (hy : N[i]? = some y := by rfl) (hyl : sc.names.lookup y = some .local := by rfl) (hl : (p.line == pos.line) = true := by rfl) (ha : clashB scope y = false := by rfl) :
    SS X T M fr (.Assign [.Name y p] (.ListComp elt [⟨tg, iter, ifs, 0⟩] scope pos) spos) (aSet i (eLc gi (gTurn G hh fe) (own.map (·.2)))) := ss_setLcF hM (h.hn hy) (by rw [h.hsc]; exact h.kind) (by rw [h.hsc]; exact hyl) hl ha l
theorem c_dc (h : Kx X g N sc F k) (hc : CdX X T) (own : List (Str × Nat)) (hi : SI X T M tg iter gi)
    (hb : ∀ Xb, Kx Xb g N (relS scope sc) (blkF scope) k → CdX Xb T → SG Xb T M (own.map (·.2)) tg G ∧ PTs Xb ifs (tT Xb.K Xb.w T M hh) ∧ SE Xb T M kx fk ∧ SE Xb T M vx fv) (ok : blkB N sc scope own = true := by decide +kernel) (fz : fzB M own = true := by rfl) (ns : noSetE iter = true := by rfl) :
    SF X T M (.DictComp kx vx [⟨tg, iter, ifs, 0⟩] scope pos) (eDc gi (gTurn2 G hh fk fv) (own.map (·.2))) := by
  have ok2 := blk_of ok
  have hk : isFn scope = true := by unfold isFn; rw [ok2.kind]
  refine s_dc ⟨h.calm, h.xnd, by rw [h.n, h.hsc]; exact ok2, fzB_of fz, hi, fun Xb hX => ?_, ns⟩
  obtain ⟨s, H, C, cl, fp, rfl⟩ := hX
  exact hb _ (h.blk hk) hc.blk
def subB (vs1 : List Nat) (own : List (Str × Nat)) : Bool := vs1.all fun i => own.any fun p => p.2 == i
/-- generator expressions -/
def capM (M : Kds) (cap : List (Option Nat)) : Bool := cap.all fun o => match o with
  | some j => !(M j).own
  | none => true
theorem g_ex (h : Kx X g N sc F k) (hc : CdX X T) (bm : BmG g) (j : Nat) (Ng : List Str) (cap : List (Option Nat)) (hj : j + 6 ≤ k) (hi : SI X T M tg iter gi)
    (body : ∀ T' Xg, (∀ q ∈ T, q ∈ T') → Kx Xg g Ng scope (fun _ => false) j → CdX Xg T' → (∃ ns, SG Xg T' fzM ns tg G) ∧ PTs Xg ifs (tT Xg.K Xg.w T' fzM hh) ∧ SE Xg T' fzM elt fe) (ok : gscB N sc scope Ng cap = true := by decide +kernel) (hcm : capM M cap = true := by rfl) (nd : notDisp iter = true := by rfl) (ndg : Ng.Nodup := by decide +kernel) : GEx X T M fzM j Ng cap scope tg iter elt ifs gi G hh fe := by
  have ok2 := gsc_of ok
  refine ⟨h.room.mono hj, hc, h.bm bm, by rw [h.n, h.hsc]; exact ok2, fun i j' e => ?_, fun i => rfl, hi, fun T' Xg c P hT hX hcd hr => ?_, nd⟩
  · have := List.all_eq_true.mp hcm _ (List.mem_of_getElem? e)
    simpa using this
  · obtain ⟨s1, H1, A, fp, a, go, rfl⟩ := hX
    exact body T' _ hT ⟨h.hg, rfl, rfl, rfl, rfl, hr, ndg, PassesOwn.never, ok2.kind⟩ ⟨c, P, true, hcd⟩
theorem c_all (h : Kx X g N sc F k) (hm : g.mg "all" = none) (l : GEx X T M fzM j Ng cap scope tg iter elt ifs gi G hh fe) (hg : isGl sc "all" := by rfl) : SE X T M (.Call (.Name "all" p) [.GeneratorExp elt [⟨tg, iter, ifs, 0⟩] scope gpos] [] pos) (eAll gi (gTurn G hh fe) cap) := s_all (h.gl hg) (h.mg hm) l
theorem c_any (h : Kx X g N sc F k) (hm : g.mg "any" = none) (l : GEx X T M fzM j Ng cap scope tg iter elt ifs gi G hh fe) (hg : isGl sc "any" := by rfl) : SE X T M (.Call (.Name "any" p) [.GeneratorExp elt [⟨tg, iter, ifs, 0⟩] scope gpos] [] pos) (eAny gi (gTurn G hh fe) cap) := s_any (h.gl hg) (h.mg hm) l
theorem c_tupG (h : Kx X g N sc F k) (hm : g.mg "tuple" = none) (l : GEx X T M fzM j Ng cap scope tg iter elt ifs gi G hh fe) (hg : isGl sc "tuple" := by rfl) : SE X T M (.Call (.Name "tuple" p) [.GeneratorExp elt [⟨tg, iter, ifs, 0⟩] scope gpos] [] pos) (eTupG gi (gTurn G hh fe) cap) := s_tupG (h.gl hg) (h.mg hm) l
theorem c_sum (h : Kx X g N sc F k) (hm : g.mg "sum" = none) (l : GEx X T M fzM j Ng cap scope tg iter elt ifs gi G hh fe) (hg : isGl sc "sum" := by rfl) : SE X T M (.Call (.Name "sum" p) [.GeneratorExp elt [⟨tg, iter, ifs, 0⟩] scope gpos] [] pos) (eSum gi (gTurn G hh fe) cap) := s_sum (h.gl hg) (h.mg hm) l
theorem g_up {ns ns' : List Nat} {tg : Expr} (hs : SG X T M ns tg G) (h : (ns.all fun i => ns'.contains i) = true := by rfl) : SG X T M ns' tg G := by
  refine PG.imp hs fun v σ H Q hw => ?_
  obtain ⟨U, ρ, d, ρ', S, r, e, q⟩ := hw
  refine ⟨U, ρ, d, ρ', S, r, e, fun σ' H' S' st kp => q σ' H' S' st ⟨kp.1, fun i hi => kp.2 i fun z => hi ?_⟩⟩
  have := List.all_eq_true.mp h i z
  simpa using this
theorem t_put {b : Expr} {fi : Ev} {npos : Pos} (h : Kx X g N sc F k) (i : Nat) (hb : SE X T M b fi) (he : SE X T M e f) (n : nmB N sc i x = true := by rfl) (hM : (M i).own = true := by rfl)
    (ha : ∀ v, assign (.Subscript (.Name x npos) b spos) X.env v = (do
      let ov ← holding [v] (eval (.Name x npos) X.env)
      let iv ← holding [v, ov] (eval b X.env)
      standAt spos
      holding [v, ov, iv] (setItem ov iv v)
      release [v, ov, iv] []) := by intro _; rfl) : SS X T M fr (.Assign [.Subscript (.Name x npos) b spos] e pos) (aPut i f fi) := ss_put hM (h.pv i (nm_of n).hN (nm_of n).hv (nm_of n).hd (nm_of n).hc) hb he ha
def mulB (i j : Int) : Bool := decide (-(2 ^ 64) < i ∧ i < 2 ^ 64) || decide (-(2 ^ 64) < j ∧ j < 2 ^ 64)
theorem t_augAdd {npos : Pos} (h : Kx X g N sc F k) (i : Nat) (he : SE X T M e f) (hi : N[i]? = some x := by rfl) (hM : M i = .fz := by rfl) (hl : locB sc F x = true := by rfl) : SS X T M fr (.AugAssign (.Name x npos) .Add e pos) (aAug i (· + ·) (fun _ _ => true) f) :=
  ss_aug (Cp := fun _ _ => True) hM h.xnd (h.hn hi) (h.loc hl).1 (by
    intro pins s σ H x y v u Q I r1 r2 hw
    obtain ⟨i, j, e1, e2, _, q⟩ := hw
    exact iop_add pins s σ H x y v u Q I r1 r2 ⟨i, j, e1, e2, q⟩) (fun _ _ _ => True.intro) he (h.loc hl).2
theorem t_augSub {npos : Pos} (h : Kx X g N sc F k) (i : Nat) (he : SE X T M e f) (hi : N[i]? = some x := by rfl) (hM : M i = .fz := by rfl) (hl : locB sc F x = true := by rfl) : SS X T M fr (.AugAssign (.Name x npos) .Sub e pos) (aAug i (· - ·) (fun _ _ => true) f) :=
  ss_aug (Cp := fun _ _ => True) hM h.xnd (h.hn hi) (h.loc hl).1 (by
    intro pins s σ H x y v u Q I r1 r2 hw
    obtain ⟨i, j, e1, e2, _, q⟩ := hw
    exact iop_sub pins s σ H x y v u Q I r1 r2 ⟨i, j, e1, e2, q⟩) (fun _ _ _ => True.intro) he (h.loc hl).2
theorem t_augMul {npos : Pos} (h : Kx X g N sc F k) (i : Nat) (he : SE X T M e f) (hi : N[i]? = some x := by rfl) (hM : M i = .fz := by rfl) (hl : locB sc F x = true := by rfl) : SS X T M fr (.AugAssign (.Name x npos) .Mult e pos) (aAug i (· * ·) mulB f) :=
  ss_aug hM h.xnd (h.hn hi) (h.loc hl).1 iop_mul (fun i j hb => by
    unfold mulB at hb
    rw [Bool.or_eq_true] at hb
    rcases hb with z | z
    · exact .inl (of_decide_eq_true z)
    · exact .inr (of_decide_eq_true z)) he (h.loc hl).2
theorem c_lex2 {tg1 iter1 : Expr} {ifs1 : List Expr} {gi1 : Iv} {G1 : Gv} {h1 : Tv} (h : Kx X g N sc F k) (hc : CdX X T) (own : List (Str × Nat)) (vs1 : List Nat) (hi : SI X T M tg iter gi)
    (hb : ∀ Xb, Kx Xb g N (relS scope sc) (blkF scope) k → CdX Xb T → SG Xb T M (own.map (·.2)) tg G ∧ PTs Xb ifs (tT Xb.K Xb.w T M hh) ∧ SI Xb T M tg1 iter1 gi1 ∧ SG Xb T M vs1 tg1 G1 ∧ PTs Xb ifs1 (tT Xb.K Xb.w T M h1) ∧ SE Xb T M elt fe) (ok : blkB N sc scope own = true := by decide +kernel) (fz : fzB M own = true := by rfl) (v1 : subB vs1 own = true := by rfl) (ns : noSetE iter = true := by rfl) (ns1 : noSetE iter1 = true := by rfl) : LEx2 X T M own vs1 scope tg iter tg1 iter1 elt ifs ifs1 gi G hh gi1 G1 h1 fe := by
  have ok2 := blk_of ok
  have hk : isFn scope = true := by unfold isFn; rw [ok2.kind]
  refine ⟨h.calm, h.xnd, by rw [h.n, h.hsc]; exact ok2, fzB_of fz, fun i hi' => ?_, hi, fun Xb hX => ?_, ns, ns1⟩
  · obtain ⟨p, hp, e⟩ := List.any_eq_true.mp (List.all_eq_true.mp v1 i hi')
    exact List.mem_map.mpr ⟨p, hp, by simpa using e⟩
  · obtain ⟨s, H, C, cl, fp, rfl⟩ := hX
    exact hb _ (h.blk hk) hc.blk
section
variable {tg1 iter1 : Expr} {ifs1 : List Expr} {gi1 : Iv} {G1 : Gv} {h1 : Tv} {vs1 : List Nat}
theorem c_lc2 (l : LEx2 X T M own vs1 scope tg iter tg1 iter1 elt ifs ifs1 gi G hh gi1 G1 h1 fe) : SF X T M (.ListComp elt [⟨tg, iter, ifs, 0⟩, ⟨tg1, iter1, ifs1, 0⟩] scope pos) (eLc2 gi G hh gi1 (gTurn G1 h1 fe) (own.map (·.2)) vs1) := s_lc2 l
theorem t_lc2O {y : Str} (h : Kx X g N sc F k) (i : Nat) (l : LEx2 X T M own vs1 scope tg iter tg1 iter1 elt ifs ifs1 gi G hh gi1 G1 h1 fe) (hM : M i = .ow := by rfl) (hy : N[i]? = some y := by rfl) (hyl : sc.names.lookup y = some .local := by rfl) (hl : (p.line == pos.line) = true := by rfl) (ha : clashB scope y = false := by rfl) :
    SS X T M fr (.Assign [.Name y p] (.ListComp elt [⟨tg, iter, ifs, 0⟩, ⟨tg1, iter1, ifs1, 0⟩] scope pos) spos) (aSet i (eLc2 gi G hh gi1 (gTurn G1 h1 fe) (own.map (·.2)) vs1)) := setAny_ow hM (setLc2_any (h.hn hy) (by rw [h.hsc]; exact h.kind) (by rw [h.hsc]; exact hyl) hl ha l)
theorem t_lc2F {y : Str} (h : Kx X g N sc F k) (i : Nat) (l : LEx2 X T M own vs1 scope tg iter tg1 iter1 elt ifs ifs1 gi G hh gi1 G1 h1 fe) (hM : M i = .fz := by rfl) (hy : N[i]? = some y := by rfl) (hyl : sc.names.lookup y = some .local := by rfl) (hl : (p.line == pos.line) = true := by rfl) (ha : clashB scope y = false := by rfl) :
    SS X T M fr (.Assign [.Name y p] (.ListComp elt [⟨tg, iter, ifs, 0⟩, ⟨tg1, iter1, ifs1, 0⟩] scope pos) spos) (aSet i (eLc2 gi G hh gi1 (gTurn G1 h1 fe) (own.map (·.2)) vs1)) := setAny_fz hM (setLc2_any (h.hn hy) (by rw [h.hsc]; exact h.kind) (by rw [h.hsc]; exact hyl) hl ha l)
end
end
/-! ### a def -/
structure FunT (g : Gb) (T0 : Tabs) (x : Str) (st : Stmt) : Prop where
  ex : ∃ (fa c P : Addr) (oc : Value) (od : Option Addr) (kV doc pm : Value) (an : Option Addr) (ct : Value) (osl : Array (Option Value)),
    g.K.lookup fa = some ⟨oc, od, .func (PySem.W.fnOf x x (defArgs st) (defBody st) (defScope st) .none kV doc pm an (.ref c) ct), osl⟩ ∧ PySem.W.codeIn g.K (.ref c) x = true ∧ PySem.W.keepIn g.K (.ref fa) = true ∧ g.mg x = some (.ref fa) ∧ (c, P, false) ∈ T0 ∧ PySem.W.CodeHd g.base c P
section
variable {g : Gb} {N ps : List Str} {k : Nat} {T0 : Tabs} {Mc : Kds} {fr : Bool} {f : Sv} {x : Str} {st : Stmt}
theorem DOk.of (F : FunT g T0 x st) (S : FnScope N ps (defScope st)) (hn : noOw Mc ps.length = true)
    (hb : ∀ (kV doc pm : Value) (an : Option Addr) (cdv ct : Value) (us : List Value), us.length = ps.length → bindArgs (PySem.W.fnOf x x (defArgs st) (defBody st) (defScope st) .none kV doc pm an cdv ct) ⟨us, []⟩ = pure (ps.zip us))
    (body : ∀ (T : Tabs) (X : Cx), (∀ q ∈ T0, q ∈ T) → Kx X g N (defScope st) (fun _ => true) k → CdX X T → SSs X T Mc fr (defBody st) f) : DOk g T0 x (k + 1) Mc ps.length fr (fBody Mc (N.length - ps.length) fr f) := by
  obtain ⟨fa, c, P, oc, od, kV, doc, pm, an, ct, osl, l, hcd, kp, hm, hmem, hhd⟩ := F.ex
  refine ⟨fa, _, ps, fn_of l hcd S (fun vs H Q E h => ?_) fun A outer s H vs Q E hr h => ?_, hm, kp, .all (hb kV doc pm an (.ref c) ct)⟩
  · obtain ⟨T, sub0, U, ds, d, ds', h1, _⟩ := h
    exact h1
  · obtain ⟨t, h1, q⟩ := body_core (X := (cxOf CX0 g.P g.w g.K g.mg g.base N x (defScope st) fa (.ref c) A outer s H E).nox) hn h fun T sub0 => body T _ sub0 ⟨rfl, rfl, rfl, rfl, rfl, hr, S.nd, PassesOwn.never, S.kind⟩ ⟨c, P, false, rfl, sub0 _ hmem, .inr hhd⟩
    exact ⟨t, h1.nox, q⟩
/-- no call is allowed -/
theorem DOk.zero (F : FunT g T0 x st) (hb : ∀ (kV doc pm : Value) (an : Option Addr) (cdv ct : Value) (us : List Value), us.length = ps.length → bindArgs (PySem.W.fnOf x x (defArgs st) (defBody st) (defScope st) .none kV doc pm an cdv ct) ⟨us, []⟩ = pure (ps.zip us)) : DOk g T0 x k Mc ps.length fr (fun _ => none) := by
  obtain ⟨fa, c, P, oc, od, kV, doc, pm, an, ct, osl, l, hcd, kp, hm, hmem, hhd⟩ := F.ex
  have no : ∀ vs H Q E, ¬ spF g.K g.w T0 Mc ps.length fr (fun _ => none) vs H Q E := fun vs H Q E h => by
    obtain ⟨T, sub0, U, ds, d, ds', h1, h2, S0, h3, _⟩ := h
    cases h3
  exact ⟨fa, _, ps, ⟨fun vs H Q E h => absurd h (no vs H Q E), fun A outer s H args us vs Q E _ _ _ _ h => absurd h (no vs H Q E)⟩, hm, kp, .all (hb kV doc pm an (.ref c) ct)⟩
end
end Sx
/-! C3: the end of a law's row. -/
namespace Sx
open PySem PySem.Spec PyProof.Rows L2 GenW

theorem FnOk.ko {P : Program} {w : World} {K : PySem.W.Frag} {mg : Str → Option Value} {base : Heap} {CX : CXT} {k : Nat} {f : Addr} {fd : FuncData} {ps : List Str} {sp : Sp} (F : FnOk P w K mg base CX k f fd ps sp) :
    FnOk P w K mg base CX k f fd ps (fun vs H Q E => vs.length = ps.length ∧ (KO K H → sp vs H Q E)) :=
  ⟨fun vs H Q E h => h.1, fun A outer s H args us vs Q E hr e0 hb r h => F.run A outer s H args us vs Q E hr e0 hb r (h.2 fun b hb => by
    cases e : K.lookup b with
    | none => rfl
    | some o => exact absurd (e0.bs b o (e0.mod.kin b o e)).2 hb)⟩
theorem tabIn_of {K : PySem.W.Frag} {x : Str} {f c P : Addr} {fd : FuncData} {oc oc2 : Value} {od od2 : Option Addr} {sl sl2 : Array (Option Value)} {vs : Array Value} (a : PySem.W.nsIn K mainGlobals x = some (some (.ref f))) (l : K.lookup f = some ⟨oc, od, .func fd, sl⟩) (e : fd.code = .ref c) (t : K.lookup c = some ⟨oc2, od2, .fields vs, sl2⟩) (p : vs[11]? = some (.ref P)) : PySem.W.tabIn K x = some (c, P) := by
  unfold PySem.W.tabIn
  rw [a]
  dsimp only
  rw [l]
  dsimp only
  rw [e]
  dsimp only
  rw [t]
  dsimp only
  rw [p]
/-- the tables of the text's defs -/
def TabK (q : Program) (K : PySem.W.Frag) (h : Heap) : Prop := ∀ (x : Str) (c P : Addr), ((PyProof.Rows.recsOf q).any fun e => e.name == x) = true → PySem.W.tabIn K x = some (c, P) → PySem.W.CodeHd h c P ∧ h.get? P = some { cls := .none, data := .fields #[] }
def scrD (ns : List Int) : D := .list (ns.map .int)
theorem rpa_ints {K : PySem.W.Frag} {w : World} {O : Addr → Prop} {H : Hp} : ∀ ns : List Int, RpA K w O H (ns.map V.int) (ns.map .int)
  | [] => .nil
  | n :: ns => .cons (.int n) (rpa_ints ns)
theorem law_walk {l : PySem.W.OpenLaw} {q : Program} {loose : List Str} {XP : (Str → Option Value) → Heap → Prop} {YP : World → Heap → Prop} {d : DefRec} {K : Params → PySem.W.Frag} {x : Str} {k : Nat}
    (hn : l.most = some 63) (hdf : d.params.defaults = []) (hr : Room k callerA) (hY : ∀ (w : World) (h : Heap), YP w h → (K w.params).In h)
    (F : ∀ (w : World) (mg : Str → Option Value) (fa : Addr) (h : Heap), (K w.params).In h → h.Ns mainGlobals mg → mg d.name = some (.ref fa) → TabK q (K w.params) h →
      ∃ (T0 : Tabs) (Φ : Fn) (Ml : Kds) (fd : FuncData), T0 ≠ [] ∧ (∀ t ∈ T0, t.2.2 = false ∧ (PySem.W.CodeHd h t.1 t.2.1 ∧ h.get? t.2.1 = some { cls := .none, data := .fields #[] }) ∧ (K w.params).lookup t.2.1 = none) ∧ (Ml 0).own = false ∧
        (∀ ns : List Int, ns.length ≤ 63 → ∃ r, Φ [scrD ns] = some (.bool true, [r])) ∧ (∀ (s : Shared) (u : Value), BindsTo s fd ⟨[u], []⟩ [(x, u)]) ∧
        ∀ base : Heap, (K w.params).In base → base.Ns mainGlobals mg → (∀ t ∈ T0, PySem.W.CodeHd base t.1 t.2.1) → BmG ⟨l.prog, w, K w.params, mg, base⟩ → FnOk l.prog w (K w.params) mg base CX0 k fa fd [x] (spF (K w.params) w T0 Ml 1 false Φ)) :
    PySem.W.WalkO q loose XP YP l.row.toRowW d [] (fun f vs => PySem.call f vs) := by
  refine Att.attach_callB hn hdf fun w s₀ s₁ mg mb fa o pm cd doc a vs ns G Y ho hd hcd hmg hobj hints hlen hbits hg => ?_
  have KX := hY w _ Y
  have tabs : TabK q (K w.params) s₁.heap := fun x c P hx ht => by
    obtain ⟨dL, hm, hn1⟩ := List.any_eq_true.mp hx
    cases e : (PyProof.Rows.recsOf q).find? (fun e => e.name == x) with
    | none => exact absurd hn1 (by simpa using List.find?_eq_none.mp e dL hm)
    | some d' => exact PySem.W.tab_of G.T KX e ht
  obtain ⟨T0, Φ, Ml, fd, hne, hT, hMl, hΦ, hb, hF⟩ := F w mg fa _ KX G.T.g hmg tabs
  have hcs : ∀ p ∈ T0.map (fun t => (t.1, t.2.1)), ∃ t ∈ T0, p = (t.1, t.2.1) := fun p hp => by
    obtain ⟨t, ht, e⟩ := List.mem_map.mp hp
    exact ⟨t, ht, e.symm⟩
  refine LamX.law_callTs (cs := T0.map fun t => (t.1, t.2.1)) (CX := CX0) (sp := fun vs H Q E => vs.length = [x].length ∧ (KO (K w.params) H → spF (K w.params) w T0 Ml 1 false Φ vs H Q E)) KX G.T.g G.T.b G.T.builtins G.T.nolimit hg (fun p hp => ?_) (fun p hp => ?_) (fun p hp => ?_) G.T.bmain hobj hints (Nat.le_trans hlen (by rw [sizeLine_eq]; decide)) hr (fun base hK hns hTB => ?_) hb (fun H hH hS => ⟨rfl, fun ko => ?_⟩) fun H e s' hx => ?_
  · obtain ⟨t, ht, rfl⟩ := hcs p hp; exact (hT t ht).2.1.2
  · obtain ⟨t, ht, rfl⟩ := hcs p hp; exact (hT t ht).2.2
  · obtain ⟨t, ht, rfl⟩ := hcs p hp; exact (hT t ht).2.1.1
  · have hTB' : ∀ t ∈ T0, LamX.TabB base mg t.1 t.2.1 := fun t ht => hTB (t.1, t.2.1) (List.mem_map.mpr ⟨t, ht, rfl⟩)
    refine FnOk.ko (hF base hK hns (fun t ht => (hTB' t ht).code) ?_)
    cases T0 with
    | nil => exact absurd rfl hne
    | cons t T =>
      obtain ⟨bm, ob, b1, b2, nG, nP, b3, b4, b5, b6⟩ := (hTB' t List.mem_cons_self).bm
      exact ⟨bm, ob, b1, b2, b3, b4, b5, b6⟩
  · obtain ⟨r, hr⟩ := hΦ ns hlen
    have nO : ∀ b, ¬ Ow Ml (fun _ => False) [some (.ref a)] [some (scrD ns)] b := fun b z => by
      rcases z with z | ⟨i, _, h, h2, _⟩
      · exact z
      · cases i with
        | zero => rw [hMl] at h; cases h
        | succ i => simp at h2
    refine ⟨T0, fun _ h => h, fun _ => False, [scrD ns], .bool true, [r], rfl, rfl, ⟨Nat.le_refl _, fun i dd h1 h2 => ?_, fun i dd h1 h2 => ?_, fun i j dd dd' b h1 _ h2 => ?_, fun b z => z.elim, fun t ht => ⟨fun n => TabT.nil (hH (t.1, t.2.1) (List.mem_map.mpr ⟨t, ht, rfl⟩)) n, fun z => ?_⟩, ko⟩, hr, rfl, ?_⟩
    · cases i with
      | zero =>
        have e : dd = scrD ns := by simpa using h2.symm
        subst e
        exact ⟨.ref a, rfl, .lst (nO a) hS (rpa_ints ns)⟩
      | succ i => simp at h2
    · cases i with
      | zero => rw [hMl] at h1; cases h1
      | succ i => simp at h2
    · cases i with
      | zero => rw [hMl] at h1; cases h1
      | succ i => simp at h2
    · rw [(hT t ht).1] at z; cases z
    · intro v H' S' st rp
      cases rp
      rfl
  · exact hx

section
variable {g : Gb} {N ps : List Str} {k : Nat} {T0 : Tabs} {Mc : Kds} {fr : Bool} {f : Sv} {x : Str} {st : Stmt} {fa c P : Addr} {oc : Value} {od an : Option Addr} {kV doc pm ct : Value} {osl : Array (Option Value)}
theorem fn_okT (l : g.K.lookup fa = some ⟨oc, od, .func (PySem.W.fnOf x x (defArgs st) (defBody st) (defScope st) .none kV doc pm an (.ref c) ct), osl⟩) (hcd : PySem.W.codeIn g.K (.ref c) x = true) (hmem : (c, P, false) ∈ T0) (hhd : PySem.W.CodeHd g.base c P) (S : FnScope N ps (defScope st)) (hn : noOw Mc ps.length = true)
    (body : ∀ (T : Tabs) (X : Cx), (∀ q ∈ T0, q ∈ T) → Kx X g N (defScope st) (fun _ => true) k → CdX X T → SSs X T Mc fr (defBody st) f) : FnOk g.P g.w g.K g.mg g.base CX0 (k + 1) fa (PySem.W.fnOf x x (defArgs st) (defBody st) (defScope st) .none kV doc pm an (.ref c) ct) ps (spF g.K g.w T0 Mc ps.length fr (fBody Mc (N.length - ps.length) fr f)) := by
  refine fn_of l hcd S (fun vs H Q E h => ?_) fun A outer s H vs Q E hr h => ?_
  · obtain ⟨T, sub0, U, ds, d, ds', h1, _⟩ := h
    exact h1
  · obtain ⟨t, h1, q⟩ := body_core (X := (cxOf CX0 g.P g.w g.K g.mg g.base N x (defScope st) fa (.ref c) A outer s H E).nox) hn h fun T sub0 => body T _ sub0 ⟨rfl, rfl, rfl, rfl, rfl, hr, S.nd, PassesOwn.never, S.kind⟩ ⟨c, P, false, rfl, sub0 _ hmem, .inr hhd⟩
    exact ⟨t, h1.nox, q⟩
end
end Sx
/-! C4: the plain functions step by step (equations for simp only, nothing under a binder). -/
namespace Sx
open PySem PySem.Spec PyProof.Rows L2
section
variable {ρ ρ1 : Env} {f f1 f2 fb : Sv} {fe e1 e2 fk fv : Ev} {g : Evs} {h h1 h2 : Tv} {i n : Nat} {d d0 : D} {ds es : List D} {b : Bool} {gi gi1 : Iv} {G G1 : Gv} {R : Gvs} {t : Gt} {vs vs1 : List Nat} {cap : List (Option Nat)} {sem : List D → Option D} {Φ : Fn} {ls : Ls} {Mc : Kds} {fr : Bool}
def kSeq (f2 : Sv) : Out → Option Out
  | .nx ρ1 => f2 ρ1
  | .rt ρ d => some (.rt ρ d)
  | .bk ρ => some (.bk ρ)
  | .ct ρ => some (.ct ρ)
theorem x_seq : aSeq f1 f2 ρ = (f1 ρ).bind (kSeq f2) := by
  unfold aSeq
  congr
  funext o
  cases o <;> rfl
theorem x_seq1 : kSeq f2 (.nx ρ) = f2 ρ := rfl
theorem x_seq2 : kSeq f2 (.rt ρ d) = some (.rt ρ d) := rfl
theorem x_seq3 : kSeq f2 (.bk ρ) = some (.bk ρ) := rfl
theorem x_seq4 : kSeq f2 (.ct ρ) = some (.ct ρ) := rfl
theorem x_nil : aNil ρ = some (.nx ρ) := rfl
theorem x_brk : aBreak ρ = some (.bk ρ) := rfl
theorem x_cnt : aCont ρ = some (.ct ρ) := rfl
def kIf (f1 f2 : Sv) (p : Env × Bool) : Option Out := if p.2 = true then f1 p.1 else f2 p.1
theorem x_if : aIf h f1 f2 ρ = (h ρ).bind (kIf f1 f2) := rfl
theorem x_if1 : kIf f1 f2 (ρ, true) = f1 ρ := rfl
theorem x_if2 : kIf f1 f2 (ρ, false) = f2 ρ := rfl
def kSet (i : Nat) (p : Env × D) : Out := .nx (p.1.set i (some p.2))
theorem x_set : aSet i fe ρ = (fe ρ).map (kSet i) := rfl
theorem x_set1 : kSet i (ρ, d) = .nx (ρ.set i (some d)) := rfl
def kRet (p : Env × D) : Out := .rt p.1 p.2
theorem x_ret : aRet fe ρ = (fe ρ).map kRet := rfl
theorem x_ret1 : kRet (ρ, d) = .rt ρ d := rfl
theorem x_retN : aRetN ρ = some (.rt ρ .none) := rfl
def kDrop (p : Env × D) : Out := .nx p.1
theorem x_drop : aDrop fe ρ = (fe ρ).map kDrop := rfl
theorem x_drop1 : kDrop (ρ, d) = .nx ρ := rfl
/-! slots -/
def kEv (ρ : Env) : Option (Option D) → Option (Env × D)
  | some (some d) => some (ρ, d)
  | _ => none
theorem x_ev : eV i ρ = kEv ρ (ρ[i]?) := by
  unfold eV kEv
  cases ρ[i]? with
  | none => rfl
  | some o => cases o <;> rfl
theorem x_ev1 : kEv ρ (some (some d)) = some (ρ, d) := rfl
def kEt (i : Nat) (ρ : Env) : Option (Option D) → Option (Env × D)
  | some (some d) => some (ρ.set i none, d)
  | _ => none
theorem x_et : eT i ρ = kEt i ρ (ρ[i]?) := by
  unfold eT kEt
  cases ρ[i]? with
  | none => rfl
  | some o => cases o <;> rfl
theorem x_et1 : kEt i ρ (some (some d)) = some (ρ.set i none, d) := rfl
theorem x_ec : eC d ρ = some (ρ, d) := rfl
theorem x_gn : gN ρ = some (ρ, []) := rfl
def kE1 (d : D) (p : Env × List D) : Env × List D := (p.1, d :: p.2)
def kE (g : Evs) (p : Env × D) : Option (Env × List D) := (g p.1).map (kE1 p.2)
theorem x_ge : gE fe g ρ = (fe ρ).bind (kE g) := rfl
theorem x_ge1 : kE g (ρ, d) = (g ρ).map (kE1 d) := rfl
theorem x_ge2 : kE1 d (ρ, ds) = (ρ, d :: ds) := rfl
def kGv2 (ρ1 : Env) (ds : List D) : Option (Option D) → Option (Env × List D)
  | some (some d) => some (ρ1, d :: ds)
  | _ => none
def kGv1 (i : Nat) (p : Env × List D) : Option (Env × List D) := kGv2 p.1 p.2 (p.1[i]?)
def kGv (i : Nat) (g : Evs) (ρ : Env) : Option (Option D) → Option (Env × List D)
  | some (some _) => (g ρ).bind (kGv1 i)
  | _ => none
theorem x_gv : gV i g ρ = kGv i g ρ (ρ[i]?) := by
  unfold gV kGv
  cases ρ[i]? with
  | none => rfl
  | some o =>
    cases o with
    | none => rfl
    | some d =>
      show (g ρ).bind _ = (g ρ).bind _
      congr
      funext p
      unfold kGv1 kGv2
      cases p.1[i]? with
      | none => rfl
      | some o => cases o <;> rfl
theorem x_gv1 : kGv i g ρ (some (some d)) = (g ρ).bind (kGv1 i) := rfl
theorem x_gv2 : kGv1 i (ρ, ds) = kGv2 ρ ds (ρ[i]?) := rfl
theorem x_gv3 : kGv2 ρ ds (some (some d)) = some (ρ, d :: ds) := rfl
/-! operations -/
def kOp (sem : List D → Option D) (p : Env × List D) : Option (Env × D) := (sem p.2).map (Prod.mk p.1)
theorem x_op : fOp sem g ρ = (g ρ).bind (kOp sem) := rfl
theorem x_op1 : kOp sem (ρ, ds) = (sem ds).map (Prod.mk ρ) := rfl
def kHop1 (ρ : Env) : Option D → Option (Env × Bool)
  | some (.bool b) => some (ρ, b)
  | _ => none
def kHop (sem : List D → Option D) (p : Env × List D) : Option (Env × Bool) := kHop1 p.1 (sem p.2)
theorem x_hop : hOp sem g ρ = (g ρ).bind (kHop sem) := by
  show (g ρ).bind _ = (g ρ).bind _
  refine congrArg _ (funext fun p => ?_)
  unfold kHop kHop1
  cases sem p.2 with
  | none => rfl
  | some d => cases d <;> rfl
theorem x_hop1 : kHop sem (ρ, ds) = kHop1 ρ (sem ds) := rfl
theorem x_hop2 : kHop1 ρ (some (.bool b)) = some (ρ, b) := rfl
def kTru (p : Env × List D) : Option (Env × Bool) := match p.2 with
  | [d] => (truD d).map (Prod.mk p.1)
  | _ => none
theorem x_tru : hTru g ρ = (g ρ).bind kTru := rfl
theorem x_tru1 : kTru (ρ, [d]) = (truD d).map (Prod.mk ρ) := rfl
def kNot (p : Env × Bool) : Env × Bool := (p.1, !p.2)
theorem x_not : hNot h ρ = (h ρ).map kNot := rfl
theorem x_not1 : kNot (ρ, b) = (ρ, !b) := rfl
def kAnd (h2 : Tv) (p : Env × Bool) : Option (Env × Bool) := if p.2 = true then h2 p.1 else some (p.1, false)
theorem x_and : hAnd h1 h2 ρ = (h1 ρ).bind (kAnd h2) := rfl
theorem x_and1 : kAnd h2 (ρ, true) = h2 ρ := rfl
theorem x_and2 : kAnd h2 (ρ, false) = some (ρ, false) := rfl
def kOr (h2 : Tv) (p : Env × Bool) : Option (Env × Bool) := if p.2 = true then some (p.1, true) else h2 p.1
theorem x_or : hOr h1 h2 ρ = (h1 ρ).bind (kOr h2) := rfl
theorem x_or1 : kOr h2 (ρ, true) = some (ρ, true) := rfl
theorem x_or2 : kOr h2 (ρ, false) = h2 ρ := rfl
theorem x_yes : hYes ρ = some (ρ, true) := rfl
def kTup (p : Env × List D) : Option (Env × D) := if small p.2 then some (p.1, .tuple p.2) else none
theorem x_tup : eTup g ρ = (g ρ).bind kTup := rfl
theorem x_tup1 (hl : ds.length ≤ 16777216) : kTup (ρ, ds) = some (ρ, .tuple ds) := if_pos (decide_eq_true hl)
def kLs0 (p : Env × List D) : Option (Env × D) := if small p.2 then some (p.1, .list p.2) else none
theorem x_lst : eLst g ρ = (g ρ).bind kLs0 := rfl
theorem x_lst1 (hl : ds.length ≤ 16777216) : kLs0 (ρ, ds) = some (ρ, .list ds) := if_pos (decide_eq_true hl)
def kEif (f1 f2 : Ev) (p : Env × Bool) : Option (Env × D) := if p.2 = true then f1 p.1 else f2 p.1
theorem x_eif : eIf h e1 e2 ρ = (h ρ).bind (kEif e1 e2) := rfl
theorem x_eif1 : kEif e1 e2 (ρ, true) = e1 ρ := rfl
theorem x_eif2 : kEif e1 e2 (ρ, false) = e2 ρ := rfl
def kNotE (p : Env × Bool) : Env × D := (p.1, .bool (!p.2))
theorem x_notE : eNot g ρ = (hTru g ρ).map kNotE := rfl
theorem x_notE1 : kNotE (ρ, b) = (ρ, .bool (!b)) := rfl
def kEand (e2 : Ev) (p : Env × D) : Option (Env × D) := (truD p.2).bind fun k => if k = true then e2 p.1 else some p
theorem x_eand : eAnd e1 e2 ρ = (e1 ρ).bind (kEand e2) := rfl
theorem x_eand1 : kEand e2 (ρ, .bool true) = e2 ρ := rfl
theorem x_eand2 : kEand e2 (ρ, .bool false) = some (ρ, .bool false) := rfl
def kEor (e2 : Ev) (p : Env × D) : Option (Env × D) := (truD p.2).bind fun k => if k = true then some p else e2 p.1
theorem x_eor : eOr e1 e2 ρ = (e1 ρ).bind (kEor e2) := rfl
theorem x_eor1 : kEor e2 (ρ, .bool true) = some (ρ, .bool true) := rfl
theorem x_eor2 : kEor e2 (ρ, .bool false) = e2 ρ := rfl
/-! calls -/
def kCall1 (ls : Ls) (ρ : Env) (q : D × List D) : Option (Env × D) := if q.2.length = ls.length then some (putB ls q.2 ρ, q.1) else none
def kCall (ls : Ls) (Φ : Fn) (p : Env × List D) : Option (Env × D) := (Φ p.2).bind (kCall1 ls p.1)
theorem x_call : eCall ls Φ g ρ = (g ρ).bind (kCall ls Φ) := rfl
theorem x_call1 : kCall ls Φ (ρ, ds) = (Φ ds).bind (kCall1 ls ρ) := rfl
theorem x_call2 (hl : ds.length = ls.length) : kCall1 ls ρ (d, ds) = some (putB ls ds ρ, d) := if_pos hl
theorem x_put1 {r : Ls} : putB (some i :: r) (d :: ds) ρ = putB r ds (ρ.set i (some d)) := rfl
theorem x_put2 {r : Ls} : putB (none :: r) (d :: ds) ρ = putB r ds ρ := rfl
theorem x_put3 : putB [] ds ρ = ρ := by cases ds <;> rfl
def kBody (Mc : Kds) (fr : Bool) (ds : List D) : Out → Option (D × List D)
  | .nx ρ => if fr = true then none else some (.none, outs Mc ρ ds)
  | .rt ρ d => some (d, outs Mc ρ ds)
  | .bk _ => none
  | .ct _ => none
theorem x_body : fBody Mc n fr f ds = (f (ds.map some ++ List.replicate n none)).bind (kBody Mc fr ds) := by
  unfold fBody
  congr
  funext o
  cases o <;> rfl
theorem x_body1 : kBody Mc fr ds (.rt ρ d) = some (d, outs Mc ρ ds) := rfl
theorem x_body2 : kBody Mc false ds (.nx ρ) = some (.none, outs Mc ρ ds) := rfl
/-! own lists -/
def kApp2 (i : Nat) (ρ1 : Env) (d : D) : Option (Option D) → Option Out
  | some (some (.list ds)) => if ds.length < 16777216 then some (.nx (ρ1.set i (some (.list (ds ++ [d]))))) else none
  | _ => none
def kApp1 (i : Nat) (p : Env × D) : Option Out := kApp2 i p.1 p.2 (p.1[i]?)
def kApp (i : Nat) (fe : Ev) (ρ : Env) : Option (Option D) → Option Out
  | some (some (.list _)) => (fe ρ).bind (kApp1 i)
  | _ => none
theorem x_app : aApp i fe ρ = kApp i fe ρ (ρ[i]?) := by
  unfold aApp kApp isLst
  cases ρ[i]? with
  | none => rfl
  | some o =>
    cases o with
    | none => rfl
    | some d =>
      cases d with
      | list xs =>
        show (fe ρ).bind _ = (fe ρ).bind _
        congr
        funext p
        unfold kApp1 kApp2 lstAt
        cases p.1[i]? with
        | none => rfl
        | some o =>
          cases o with
          | none => rfl
          | some d => cases d <;> rfl
      | _ => rfl
theorem x_app1 : kApp i fe ρ (some (some (.list ds))) = (fe ρ).bind (kApp1 i) := rfl
theorem x_app2 : kApp1 i (ρ, d) = kApp2 i ρ d (ρ[i]?) := rfl
theorem x_app3 (hl : ds.length < 16777216) : kApp2 i ρ d (some (some (.list ds))) = some (.nx (ρ.set i (some (.list (ds ++ [d]))))) := if_pos hl
def kPut3 (i : Nat) (d : D) (ρ2 : Env) (ds : List D) (j : Nat) : Out := .nx (ρ2.set i (some (.list (ds.set j d))))
def kPut2 (i : Nat) (d : D) (ρ2 : Env) (u : D) : Option (Option D) → Option Out
  | some (some (.list ds)) => match u with
    | .int k => (ixN ds.length k).map (kPut3 i d ρ2 ds)
    | _ => none
  | _ => none
def kPut1 (i : Nat) (d : D) (p : Env × D) : Option Out := kPut2 i d p.1 p.2 (p.1[i]?)
def kPut0 (i : Nat) (fi : Ev) (ρ1 : Env) (d : D) : Option (Option D) → Option Out
  | some (some (.list _)) => (fi ρ1).bind (kPut1 i d)
  | _ => none
def kPut (i : Nat) (fi : Ev) (p : Env × D) : Option Out := kPut0 i fi p.1 p.2 (p.1[i]?)
theorem x_pt : aPut i fe e1 ρ = (fe ρ).bind (kPut i e1) := by
  unfold aPut
  congr
  funext p
  unfold kPut kPut0 isLst
  cases p.1[i]? with
  | none => rfl
  | some o =>
    cases o with
    | none => rfl
    | some d =>
      cases d with
      | list xs =>
        show (e1 p.1).bind _ = (e1 p.1).bind _
        congr
        funext u
        unfold kPut1 kPut2 lstAt
        cases u.1[i]? with
        | none => rfl
        | some o =>
          cases o with
          | none => rfl
          | some d =>
            cases d with
            | list ys => cases u.2 <;> rfl
            | _ => rfl
      | _ => rfl
theorem x_pt1 : kPut i e1 (ρ, d) = kPut0 i e1 ρ d (ρ[i]?) := rfl
theorem x_pt2 : kPut0 i e1 ρ d (some (some (.list ds))) = (e1 ρ).bind (kPut1 i d) := rfl
theorem x_pt3 : kPut1 i d (ρ, d0) = kPut2 i d ρ d0 (ρ[i]?) := rfl
theorem x_pt4 {k : Int} : kPut2 i d ρ (.int k) (some (some (.list ds))) = (ixN ds.length k).map (kPut3 i d ρ ds) := rfl
theorem x_pt5 {j : Nat} : kPut3 i d ρ ds j = .nx (ρ.set i (some (.list (ds.set j d)))) := rfl
/-! iterators, targets -/
def kIe (p : Env × D) : Option (Env × List D) := (items p.2).map (Prod.mk p.1)
theorem x_ie : iE fe ρ = (fe ρ).bind kIe := rfl
theorem x_ie1 : kIe (ρ, d) = (items d).map (Prod.mk ρ) := rfl
theorem x_items1 : items (.list ds) = some ds := rfl
theorem x_items2 : items (.tuple ds) = some ds := rfl
def kRg1 (p : Env × List D) : Option (Env × List D) := match p.2 with
  | [.int j] => if ok62 j = true then some (p.1, upTo 0 j) else none
  | _ => none
theorem x_rg1 : iRg1 g ρ = (g ρ).bind kRg1 := rfl
theorem x_rg11 {j : Int} (h : ok62 j = true) : kRg1 (ρ, [.int j]) = some (ρ, upTo 0 j) := if_pos h
def kRg2 (p : Env × List D) : Option (Env × List D) := match p.2 with
  | [.int i, .int j] => if (ok62 i && ok62 j) = true then some (p.1, upTo i j) else none
  | _ => none
theorem x_rg2 : iRg2 g ρ = (g ρ).bind kRg2 := rfl
theorem x_rg21 {i j : Int} (h : ok62 i = true) (h' : ok62 j = true) : kRg2 (ρ, [.int i, .int j]) = some (ρ, upTo i j) := if_pos (by rw [h, h']; rfl)
def kZip (p : Env × List D) : Option (Env × List D) := match p.2 with
  | [.list a, .list b] => some (p.1, pairsD a b)
  | [.tuple a, .tuple b] => some (p.1, pairsD a b)
  | _ => none
theorem x_zip : iZip g ρ = (g ρ).bind kZip := rfl
theorem x_zip1 : kZip (ρ, [.tuple ds, .tuple es]) = some (ρ, pairsD ds es) := rfl
theorem x_zip2 : kZip (ρ, [.list ds, .list es]) = some (ρ, pairsD ds es) := rfl
theorem x_gs : gSet i d ρ = some (ρ.set i (some d)) := rfl
theorem x_gt (hl : ds.length = n) : gTupT n R (.tuple ds) ρ = R ds ρ := if_pos hl
theorem x_gc : gsCons G R (d :: ds) ρ = (G d ρ).bind (R ds) := rfl
theorem x_gl : gsNil [] ρ = some ρ := rfl
def kAsg (G : Gv) (p : Env × D) : Option Out := (G p.2 p.1).map .nx
theorem x_asg : aAsg fe G ρ = (fe ρ).bind (kAsg G) := rfl
theorem x_asg1 : kAsg G (ρ, d) = (G d ρ).map .nx := rfl
/-! loops -/
def kFor (G : Gv) (f : Sv) (p : Env × List D) : Option Out := forL G f p.2 p.1
theorem x_for : aFor gi G fb ρ = (gi ρ).bind (kFor G fb) := rfl
theorem x_for1 : kFor G fb (ρ, ds) = forL G fb ds ρ := rfl
def kNext (G : Gv) (f : Sv) (ds : List D) : Out → Option Out
  | .nx ρ => forL G f ds ρ
  | .ct ρ => forL G f ds ρ
  | .bk ρ => some (.nx ρ)
  | .rt ρ d => some (.rt ρ d)
def kTurn (G : Gv) (f : Sv) (ds : List D) (ρ : Env) : Option Out := (f ρ).bind (kNext G f ds)
theorem forL_nil : forL G fb [] ρ = some (.nx ρ) := rfl
theorem forL_cons : forL G fb (d :: ds) ρ = (G d ρ).bind (kTurn G fb ds) := by
  show (G d ρ).bind _ = (G d ρ).bind _
  refine congrArg _ (funext fun ρ1 => ?_)
  show (fb ρ1).bind _ = (fb ρ1).bind _
  refine congrArg _ (funext fun o => ?_)
  cases o <;> rfl
theorem x_turn : kTurn G fb ds ρ = (fb ρ).bind (kNext G fb ds) := rfl
theorem x_next1 : kNext G fb ds (.nx ρ) = forL G fb ds ρ := rfl
theorem x_next2 : kNext G fb ds (.ct ρ) = forL G fb ds ρ := rfl
theorem x_next3 : kNext G fb ds (.bk ρ) = some (.nx ρ) := rfl
theorem x_next4 : kNext G fb ds (.rt ρ d) = some (.rt ρ d) := rfl
/-- a loop that keeps P -/
theorem forL_keep {P : List D → Env → Prop} (step : ∀ d ds ρ, P (d :: ds) ρ → ∃ ρ1 ρ2, G d ρ = some ρ1 ∧ (fb ρ1 = some (.nx ρ2) ∨ fb ρ1 = some (.ct ρ2)) ∧ P ds ρ2) : ∀ (ds : List D) (ρ : Env), P ds ρ → ∃ ρ', forL G fb ds ρ = some (.nx ρ') ∧ P [] ρ'
  | [], ρ, hp => ⟨ρ, rfl, hp⟩
  | d :: ds, ρ, hp => by
    obtain ⟨ρ1, ρ2, h1, h2, h3⟩ := step d ds ρ hp
    obtain ⟨ρ', h4, h5⟩ := forL_keep step ds ρ2 h3
    refine ⟨ρ', ?_, h5⟩
    rw [forL_cons, h1, Option.bind_some, x_turn]
    rcases h2 with h2 | h2 <;> rw [h2] <;> exact h4
/-! comprehensions -/
def kT3 (p : Env × D) : Env × Option D := (p.1, some p.2)
def kT2 (fe : Ev) (p : Env × Bool) : Option (Env × Option D) := if p.2 = true then (fe p.1).map kT3 else some (p.1, none)
def kT1 (h : Tv) (fe : Ev) (ρ1 : Env) : Option (Env × Option D) := (h ρ1).bind (kT2 fe)
theorem x_tn : gTurn G h fe d ρ = (G d ρ).bind (kT1 h fe) := rfl
theorem x_tn1 : kT1 h fe ρ = (h ρ).bind (kT2 fe) := rfl
theorem x_tn2 : kT2 fe (ρ, true) = (fe ρ).map kT3 := rfl
theorem x_tn3 : kT2 fe (ρ, false) = some (ρ, none) := rfl
theorem x_tn4 : kT3 (ρ, d) = (ρ, some d) := rfl
def kLc1 (ρ1 : Env) (vs : List Nat) (q : Env × List D) : Option (Env × D) := if small q.2 then some (backD ρ1 vs q.1, .list q.2) else none
def kLc (t : Gt) (vs : List Nat) (p : Env × List D) : Option (Env × D) := (lcL vs t p.2 (wipeD p.1 vs)).bind (kLc1 p.1 vs)
theorem x_lc : eLc gi t vs ρ = (gi ρ).bind (kLc t vs) := rfl
theorem x_lc1 : kLc t vs (ρ, ds) = (lcL vs t ds (wipeD ρ vs)).bind (kLc1 ρ vs) := rfl
theorem x_lc2 (hl : ds.length ≤ 16777216) : kLc1 ρ vs (ρ1, ds) = some (backD ρ vs ρ1, .list ds) := if_pos (decide_eq_true hl)
def kLd (G : Gv) (h : Tv) (gi1 : Iv) (t1 : Gt) (vs vs1 : List Nat) (p : Env × List D) : Option (Env × D) := (lcL2 vs vs1 G h gi1 t1 p.2 (wipeD p.1 vs)).bind (kLc1 p.1 vs)
theorem x_ld : eLc2 gi G h gi1 t vs vs1 ρ = (gi ρ).bind (kLd G h gi1 t vs vs1) := rfl
theorem x_ld1 : kLd G h gi1 t vs vs1 (ρ, ds) = (lcL2 vs vs1 G h gi1 t ds (wipeD ρ vs)).bind (kLc1 ρ vs) := rfl
theorem x_w1 : wipeD ρ [] = ρ := rfl
theorem x_w2 : wipeD ρ (i :: vs) = (wipeD ρ vs).set i none := rfl
/-- every turn goes back to the same frame -/
theorem lcL_same {φ : D → Option D} : ∀ {ds : List D} {ρ : Env}, (∀ d ∈ ds, ∃ ρ', t d ρ = some (ρ', φ d) ∧ wipeD ρ' vs = ρ) → lcL vs t ds ρ = some (ρ, ds.filterMap φ)
  | [], ρ, _ => rfl
  | d :: ds, ρ, hs => by
    obtain ⟨ρ', h1, h2⟩ := hs d List.mem_cons_self
    show ((t d ρ).bind _) = _
    rw [h1, Option.bind_some]
    dsimp only
    rw [h2, lcL_same (ds := ds) fun d hd => hs d (List.mem_cons_of_mem _ hd), Option.map_some, List.filterMap_cons]
    cases φ d <;> rfl
theorem lcL2_same {φ : D → List D} {G : Gv} {h : Tv} : ∀ {ds : List D} {ρ : Env}, (∀ d ∈ ds, ∃ ρ1 ρ2 ρ3 ρ4 es, G d ρ = some ρ1 ∧ h ρ1 = some (ρ2, true) ∧ gi1 ρ2 = some (ρ3, es) ∧ lcL vs1 t es (wipeD ρ3 vs1) = some (ρ4, φ d) ∧ wipeD ρ4 vs = ρ) → lcL2 vs vs1 G h gi1 t ds ρ = some (ρ, ds.flatMap φ)
  | [], ρ, _ => rfl
  | d :: ds, ρ, hs => by
    obtain ⟨ρ1, ρ2, ρ3, ρ4, es, h1, h2, h3, h4, h5⟩ := hs d List.mem_cons_self
    show ((G d ρ).bind _) = _
    rw [h1, Option.bind_some, h2, Option.bind_some]
    dsimp only
    rw [if_pos rfl, h3, Option.bind_some]
    dsimp only
    rw [h4, Option.bind_some]
    dsimp only
    rw [h5, lcL2_same (ds := ds) fun d hd => hs d (List.mem_cons_of_mem _ hd), Option.map_some, List.flatMap_cons]
/-! generator expressions -/
def kTg1 (ρ : Env) (r : List D) : Option (Env × D) := if small r then some (ρ, .tuple r) else none
def kTg (t : Gt) (cap : List (Option Nat)) (p : Env × List D) : Option (Env × D) := (drainL t p.2 (caps cap p.1)).bind (kTg1 p.1)
theorem x_tg : eTupG gi t cap ρ = (gi ρ).bind (kTg t cap) := rfl
theorem x_tg1 : kTg t cap (ρ, ds) = (drainL t ds (caps cap ρ)).bind (kTg1 ρ) := rfl
theorem x_tg2 (hl : ds.length ≤ 16777216) : kTg1 ρ ds = some (ρ, .tuple ds) := if_pos (decide_eq_true hl)
def kSm1 (ρ : Env) (k : Int) : Env × D := (ρ, .int k)
def kSm (t : Gt) (cap : List (Option Nat)) (p : Env × List D) : Option (Env × D) := (sumL t p.2 (caps cap p.1)).map (kSm1 p.1)
theorem x_sm : eSum gi t cap ρ = (gi ρ).bind (kSm t cap) := rfl
theorem x_sm1 : kSm t cap (ρ, ds) = (sumL t ds (caps cap ρ)).map (kSm1 ρ) := rfl
theorem x_sm2 {k : Int} : kSm1 ρ k = (ρ, .int k) := rfl
def kBl1 (ρ : Env) (k : Bool) : Env × D := (ρ, .bool k)
def kAl (t : Gt) (cap : List (Option Nat)) (p : Env × List D) : Option (Env × D) := (allL t p.2 (caps cap p.1)).map (kBl1 p.1)
theorem x_al : eAll gi t cap ρ = (gi ρ).bind (kAl t cap) := rfl
theorem x_al1 : kAl t cap (ρ, ds) = (allL t ds (caps cap ρ)).map (kBl1 ρ) := rfl
def kAy (t : Gt) (cap : List (Option Nat)) (p : Env × List D) : Option (Env × D) := (anyL t p.2 (caps cap p.1)).map (kBl1 p.1)
theorem x_ay : eAny gi t cap ρ = (gi ρ).bind (kAy t cap) := rfl
theorem x_ay1 : kAy t cap (ρ, ds) = (anyL t ds (caps cap ρ)).map (kBl1 ρ) := rfl
theorem x_bl {k : Bool} : kBl1 ρ k = (ρ, .bool k) := rfl
theorem drainL_same {φ : D → Option D} {P : Env → Prop} : ∀ {ds : List D} {ρ : Env}, P ρ → (∀ d ∈ ds, ∀ ρ, P ρ → ∃ ρ', t d ρ = some (ρ', φ d) ∧ P ρ') → drainL t ds ρ = some (ds.filterMap φ)
  | [], ρ, _, _ => rfl
  | d :: ds, ρ, hp, hs => by
    obtain ⟨ρ', h1, h2⟩ := hs d List.mem_cons_self ρ hp
    show ((t d ρ).bind _) = _
    rw [h1, Option.bind_some]
    dsimp only
    rw [drainL_same (ds := ds) h2 fun d hd => hs d (List.mem_cons_of_mem _ hd), Option.map_some, List.filterMap_cons]
    cases φ d <;> rfl
theorem sumL_same {φ : D → Option Int} {P : Env → Prop} : ∀ {ds : List D} {ρ : Env}, P ρ → (∀ d ∈ ds, ∀ ρ, P ρ → ∃ ρ', t d ρ = some (ρ', (φ d).map .int) ∧ P ρ') → sumL t ds ρ = some (ds.filterMap φ).sum
  | [], ρ, _, _ => rfl
  | d :: ds, ρ, hp, hs => by
    obtain ⟨ρ', h1, h2⟩ := hs d List.mem_cons_self ρ hp
    show ((t d ρ).bind _) = _
    rw [h1, Option.bind_some]
    have ih := sumL_same (ds := ds) h2 fun d hd => hs d (List.mem_cons_of_mem _ hd)
    rw [List.filterMap_cons]
    cases e : φ d with
    | none => exact ih
    | some k =>
      show (sumL t ds ρ').map (k + ·) = _
      rw [ih]
      rfl
theorem x_bk1 {ρ2 : Env} : backD ρ2 [] ρ = ρ := rfl
theorem x_bk2 {ρ2 : Env} : backD ρ2 (i :: vs) ρ = (backD ρ2 vs ρ).set i ((ρ2[i]?).join) := rfl
theorem x_jn {α : Type} {o : Option α} : (some o).join = o := by cases o <;> rfl
theorem x_pr1 : pairsD (d :: ds) (d0 :: es) = .tuple [d, d0] :: pairsD ds es := rfl
theorem x_pr2 : pairsD [] es = [] := rfl
end
end Sx
/-! F1: enumerate, two names set at once. -/
namespace Sx
open PySem PySem.Spec PyProof.Rows L2
def enumD : Nat → List D → List D
  | _, [] => []
  | i, d :: ds => .tuple [.int (i : Int), d] :: enumD (i + 1) ds
theorem enum_len : ∀ (ds : List D) (i : Nat), (enumD i ds).length = ds.length
  | [], _ => rfl
  | d :: ds, i => by rw [enumD, List.length_cons, List.length_cons, enum_len ds]
theorem enum_get : ∀ {ds : List D} {i k : Nat} {d : D}, ds[i]? = some d → (enumD k ds)[i]? = some (.tuple [.int ((k + i : Nat) : Int), d])
  | [], _, _, _, h => by simp at h
  | d :: ds, 0, k, _, h => by simp at h; subst h; rfl
  | d :: ds, i + 1, k, _, h => by
    rw [List.getElem?_cons_succ] at h
    rw [enumD, List.getElem?_cons_succ, enum_get h]
    have : k + 1 + i = k + (i + 1) := by omega
    rw [this]
section
variable {K : PySem.W.Frag} {w : World} {O : Addr → Prop} {H : Hp} {a : Addr} {xs : List V} {ds : List D}
theorem ite_ok (hO : ¬ O a) (h : SqL K H a xs) (r : RpA K w O H xs ds) : ItOk K w O (Ite K a) (enumD 0 ds) H := by
  have l1 := r.length
  refine ⟨fun i H2 hi st => ?_, fun i H2 x H3 O' hU hD hi st y ko => ?_, fun H2 st => ⟨xs, sqlStay st hO h, ?_⟩⟩
  · rw [enum_len] at hi
    exact ⟨xs, xs[i]'(by omega), sqlStay st hO h, by simp⟩
  · obtain ⟨T, x1, rfl, hT, rfl, hx⟩ := y
    obtain ⟨d, e1, e2⟩ := (RpA.stay st hU ds xs r).getV (hx xs (sqlStay st hO h))
    exact ⟨upd_keep hT, .tuple [.int ((0 + i : Nat) : Int), d], enum_get e1, .tup (fun z => hD T z hT) (.of upd_same) (.cons (by rw [Nat.zero_add]; exact .int _) (.cons (e2.grow (upd_keep hT)) .nil))⟩
  · rw [enum_len]
    omega
end
/-- enumerate(a list) -/
def iEnu (g : Evs) : Iv := fun ρ => (g ρ).bind fun p => match p.2 with
  | [.list a] => some (p.1, enumD 0 a)
  | _ => none
section
variable {X : Cx} {T : Tabs} {M : Kds} {fr : Bool} {e e2 : Expr} {g : Evs} {p pos tpos : Pos} {elts : List Expr} {kk : Nat}
theorem si_enu (hg : Gl X "enumerate") (hm : X.mg "enumerate" = none) (ha : SA X T M [e] g) (hp : plainArg e = true) : SI X T M (.Tuple elts kk tpos) (.Call (.Name "enumerate" p) [e] [] pos) (iEnu g) := by
  refine ⟨_, pi_enum hg hm ha (by rw [star_cons hp]; rfl), fun σ H U ρ ρ' ds R S hf q => ?_⟩
  obtain ⟨⟨ρ1, vs⟩, e1, e2⟩ := bind_of hf
  refine ⟨U, ρ, ρ1, vs, S, e1, fun us H1 S1 st1 r => ?_⟩
  dsimp only at e2
  split at e2
  · cases e2
    cases r with
    | cons r1 r =>
      cases r
      cases r1 with
      | lst h1 h2 h3 => exact ⟨_, _, rfl, h2, q _ H1 S1 st1 (ite_ok h1 h2 h3)⟩
  · cases e2
/-- a, b = x, y -/
def aPar (i j : Nat) (g : Evs) : Sv := fun ρ => (g ρ).bind fun p => match p.2 with
  | [d, e] => some (.nx ((p.1.set i (some d)).set j (some e)))
  | _ => none
theorem ss_par {i j : Nat} {x y : Str} {a b : Expr} {px py pt : Pos} {kt k2 pt2} (hM : M i = .fz) (hM2 : M j = .fz) (hc : X.calm = true) (hN : X.N.Nodup) (hi : X.N[i]? = some x) (hj : X.N[j]? = some y) (hij : i ≠ j)
    (hx : X.env.scope.names.lookup x = some .local) (hy : X.env.scope.names.lookup y = some .local) (ha : SA X T M [a, b] g)
    (hw : swappedStores [.Tuple [.Name x px, .Name y py] kt pt] (.Tuple [a, b] k2 pt2) X.env = pure (some [x, y])) :
    SS X T M fr (.Assign [.Tuple [.Name x px, .Name y py] kt pt] (.Tuple [a, b] k2 pt2) pos) (aPar i j g) := by
  refine PS.imp (ps_par hc hN hi hj hij hx hy ha hw) fun Dn σ H hw => ?_
  obtain ⟨U, ρ, o, S, hf, q⟩ := hw
  obtain ⟨⟨ρ1, ds⟩, e1, e2⟩ := bind_of hf
  refine ⟨U, ρ, ρ1, ds, S, e1, fun vs H1 S1 st1 r => ?_⟩
  dsimp only at e2
  split at e2
  · cases e2
    cases r with
    | cons r1 r =>
      cases r with
      | cons r2 r =>
        cases r
        obtain ⟨S2, st2⟩ := S1.putF hM r1
        obtain ⟨S3, st3⟩ := S2.putF hM2 (st2.rp S2 r2)
        exact ⟨_, _, rfl, q _ H1 S3 ((st1.trans st2).trans st3)⟩
  · cases e2
theorem swap_ok {env : PySem.Env} {x y u v : Str} {px py pu pv pt : Pos} {kt k2 : Nat} {pt2 : Pos} (hk : env.blockKind = .function) (hx : env.kindOf x = some .local) (hy : env.kindOf y = some .local) (hne : (x == y) = false) (hl : (py.line == px.line) = true)
    (hu : (u == ("__debug__" : Str)) = false) :
    swappedStores [.Tuple [.Name x px, .Name y py] kt pt] (.Tuple [.Name u pu, .Name v pv] k2 pt2) env = pure (some [x, y]) := by
  have hne' : (y == x) = false := by
    rw [beq_eq_false_iff_ne] at hne ⊢
    exact fun e => hne e.symm
  have hl' : py.line = px.line := by simpa using hl
  have hkk : (env.blockKind != .function) = false := by rw [hk]; rfl
  have e2 : ([x, y] : List Str).eraseDups.length = 2 := by
    unfold List.eraseDups List.eraseDupsBy List.eraseDupsBy.loop List.eraseDupsBy.loop List.eraseDupsBy.loop
    simp [hne']
  have e3 : ([Expr.Name u pu, Expr.Name v pv].all (foldedForSure 8)) = false := rfl
  have e4 : ([Expr.Name u pu, Expr.Name v pv].all (constantsAlone 8)) = false := by
    show ((u == ("__debug__" : Str)) && _) = false
    rw [hu]
    rfl
  unfold swappedStores
  show (if (!(2 == 2 || 2 == 3) || 2 != 2 || env.blockKind != .function) = true then _ else _) = _
  rw [hkk]
  have e5 : (Option.map (fun x : Expr => x.pos.line) [Expr.Name x px, Expr.Name y py].head?).getD 0 = px.line := rfl
  rw [if_neg (by decide), e5]
  dsimp only
  rw [if_neg (by simp)]
  simp only [List.filterMap_cons, List.filterMap_nil, hx, hy, hl', beq_self_eq_true, Bool.and_true, if_true]
  rw [if_neg (by rw [e2]; show ¬ (false = true); decide), e3, e4]
  rfl
end
section
variable {X : Cx} {g : Gb} {N : List Str} {sc : Scope} {F : Str → Bool} {k : Nat} {T : Tabs} {M : Kds} {x y u v : Str} {pos p : Pos} {e a : Expr} {gg : Evs} {fr : Bool}
theorem i_enu {elts : List Expr} {kk : Nat} {tpos : Pos} (h : Kx X g N sc F k) (hm : g.mg "enumerate" = none) (ha : SA X T M [a] gg) (hg : isGl sc "enumerate" := by rfl) (hp : plainArg a = true := by rfl) : SI X T M (.Tuple elts kk tpos) (.Call (.Name "enumerate" p) [a] [] pos) (iEnu gg) := si_enu (h.gl hg) (h.mg hm) ha hp
theorem t_par {px py pu pv pt : Pos} {kt k2 : Nat} {pt2 : Pos} (h : Kx X g N sc F k) (i j : Nat) (ha : SA X T M [.Name u pu, .Name v pv] gg) (hi : N[i]? = some x := by rfl) (hj : N[j]? = some y := by rfl) (hij : i ≠ j := by decide) (hM : M i = .fz := by rfl) (hM2 : M j = .fz := by rfl)
    (hx : sc.names.lookup x = some .local := by rfl) (hy : sc.names.lookup y = some .local := by rfl) (hne : (x == y) = false := by rfl) (hl : (py.line == px.line) = true := by rfl) (hu : (u == ("__debug__" : Str)) = false := by rfl) :
    SS X T M fr (.Assign [.Tuple [.Name x px, .Name y py] kt pt] (.Tuple [.Name u pu, .Name v pv] k2 pt2) pos) (aPar i j gg) := by
  have hk : X.env.blockKind = .function := by
    unfold Env.blockKind
    rw [h.hsc, h.kind]
    rfl
  have hx' : X.env.scope.names.lookup x = some .local := by rw [h.hsc]; exact hx
  have hy' : X.env.scope.names.lookup y = some .local := by rw [h.hsc]; exact hy
  exact ss_par hM hM2 h.calm h.xnd (h.hn hi) (h.hn hj) hij hx' hy' ha (swap_ok hk hx' hy' hne hl hu)
end
/-! their equations -/
section
variable {ρ ρ1 : Env} {g : Evs} {i j : Nat} {d e : D} {ds : List D}
def kEnu (p : Env × List D) : Option (Env × List D) := match p.2 with
  | [.list a] => some (p.1, enumD 0 a)
  | _ => none
theorem x_enu : iEnu g ρ = (g ρ).bind kEnu := rfl
theorem x_enu1 : kEnu (ρ, [.list ds]) = some (ρ, enumD 0 ds) := rfl
def kPar (i j : Nat) (p : Env × List D) : Option Out := match p.2 with
  | [d, e] => some (.nx ((p.1.set i (some d)).set j (some e)))
  | _ => none
theorem x_par : aPar i j g ρ = (g ρ).bind (kPar i j) := rfl
theorem x_par1 : kPar i j (ρ, [d, e]) = some (.nx ((ρ.set i (some d)).set j (some e))) := rfl
end
end Sx
namespace FH
open Sx PySem PySem.Spec PyProof.Rows L2
def M_product : Kds := fun i => match i with | 3 => .ow | _ => .fz
def b_product : Sv := (aSeq (aSet 2 (fOp ixA ((gV 1) ((gE (eC (.int 1))) gN))))
    (aSeq (aSet 3 (eLst gN))
    (aSeq (aFor (iZip (gE (fOp ixA ((gV 0) ((gE (eC (.int 2))) gN))) (gE (fOp ixA ((gV 1) ((gE (eC (.int 2))) gN))) gN))) (gTupT 2 (gsCons (gTupT 3 (gsCons (gSet 4) (gsCons (gSet 5) (gsCons (gSet 6) gsNil)))) (gsCons (gTupT 3 (gsCons (gSet 7) (gsCons (gSet 7) (gsCons (gSet 8) gsNil)))) gsNil))) (aSeq (aSet 11 (eLc2 (iE (eV 6)) (gSet 9) hYes (iE (eV 8)) (gTurn (gSet 10) hYes (eTupG (iZip (gE (eV 9) (gE (eV 10) gN))) (gTurn (gTupT 2 (gsCons (gSet 0) (gsCons (gSet 1) gsNil))) hYes (fOp addI ((gE (fOp mulI ((gV 0) ((gV 2) gN)))) ((gV 1) gN)))) [none, none, some 2])) [9, 10] [10]))
    (aSeq (aApp 3 (eTup (gE (eV 4) (gE (eV 5) (gE (fOp tupI ((gE (fOp sortI ((gV 11) gN))) gN)) gN)))))
    aNil)))
    (aSeq (aRet (eTup (gE (eC (.str "structure")) (gE (fOp mulI ((gE (fOp ixA ((gV 0) ((gE (eC (.int 1))) gN)))) ((gV 2) gN))) (gE (fOp tupI ((gV 3) gN)) gN)))))
    aNil))))
def f_product : Fn := fBody M_product 10 false b_product
def M_sum_of : Kds := fun i => match i with | 3 => .ow | _ => .fz
def b_sum_of : Sv := (aSeq (aSet 2 (fOp ixA ((gV 0) ((gE (eC (.int 1))) gN))))
    (aSeq (aSet 3 (eLst gN))
    (aSeq (aFor (iZip (gE (fOp ixA ((gV 0) ((gE (eC (.int 2))) gN))) (gE (fOp ixA ((gV 1) ((gE (eC (.int 2))) gN))) gN))) (gTupT 2 (gsCons (gTupT 3 (gsCons (gSet 4) (gsCons (gSet 5) (gsCons (gSet 6) gsNil)))) (gsCons (gTupT 3 (gsCons (gSet 7) (gsCons (gSet 7) (gsCons (gSet 8) gsNil)))) gsNil))) (aSeq (aApp 3 (eTup (gE (eV 4) (gE (eV 5) (gE (fOp addI ((gV 6) ((gE (eTupG (iE (eV 8)) (gTurn (gSet 0) hYes (eTupG (iE (eV 0)) (gTurn (gSet 0) hYes (fOp addI ((gV 1) ((gV 0) gN)))) [none, some 1])) [none, some 2])) gN))) gN)))))
    aNil))
    (aSeq (aRet (eTup (gE (eC (.str "structure")) (gE (fOp addI ((gV 2) ((gE (fOp ixA ((gV 1) ((gE (eC (.int 1))) gN)))) gN))) (gE (fOp tupI ((gV 3) gN)) gN)))))
    aNil))))
def f_sum_of : Fn := fBody M_sum_of 7 false b_sum_of
def M_rows_by_name : Kds := fun _ => .fz
def b_rows_by_name : Sv := (aSeq (aRet (eDc (iE (fOp ixA ((gV 0) ((gE (eC (.int 2))) gN)))) (gTurn2 (gTupT 3 (gsCons (gSet 1) (gsCons (gSet 2) (gsCons (gSet 3) gsNil)))) hYes (eV 1) (eV 3)) [1, 2, 3]))
    aNil)
def f_rows_by_name : Fn := fBody M_rows_by_name 3 true b_rows_by_name
def M_keeps_rows : Kds := fun _ => .fz
def b_keeps_rows : Sv := (aSeq (aSet 3 (fOp subI ((gE (fOp lenI ((gV 2) gN))) ((gE (eC (.int 1))) gN))))
    (aSeq (aFor (iE (fOp ixA ((gV 0) ((gE (eC (.int 2))) gN)))) (gTupT 3 (gsCons (gSet 4) (gsCons (gSet 5) (gsCons (gSet 6) gsNil)))) (aSeq (aFor (iE (eV 6)) (gSet 7) (aSeq (aIf (hAnd (hOp eqI ((gE (fOp (extI true) ((gV 7) gN))) ((gV 3) gN))) (hOp niA ((gE (eTupG (iE (eV 7)) (gTurn (gSet 0) hYes (fOp ixA ((gV 1) ((gV 0) gN)))) [none, some 2])) ((gE (fOp ixA ((gV 1) ((gV 4) gN)))) gN)))) (aSeq (aRet (eC (.bool false)))
    aNil) aNil)
    aNil))
    aNil))
    (aSeq (aRet (eC (.bool true)))
    aNil)))
def f_keeps_rows : Fn := fBody M_keeps_rows 5 false b_keeps_rows
def M_count_from : Kds := fun _ => .fz
def b_count_from (self : Fn) : Sv := (aSeq (aIf (hOp eqI ((gE (fOp lenI ((gV 2) gN))) ((gE (fOp ixA ((gV 0) ((gE (eC (.int 1))) gN)))) gN))) (aSeq (aRet (eC (.int 1)))
    aNil) aNil)
    (aSeq (aSet 3 (eCall [none] f_rows_by_name (gE (eV 1) gN)))
    (aSeq (aRet (eSum (iRg1 ((gE (fOp ixA ((gV 1) ((gE (eC (.int 1))) gN)))) gN)) (gTurn (gSet 0) (hTru ((gE (eCall [none, none, none] f_keeps_rows (gE (eV 1) (gE (eV 4) (gE (fOp addI ((gV 3) ((gE (eTup (gE (eV 0) gN))) gN))) gN))))) gN)) (eCall [none, none, none] self (gE (eV 1) (gE (eV 2) (gE (fOp addI ((gV 3) ((gE (eTup (gE (eV 0) gN))) gN))) gN))))) [none, some 0, some 1, some 2, some 3]))
    aNil)))
def f_count_from : Nat → Fn
  | 0 => fun _ => none
  | n + 1 => fBody M_count_from 1 false (b_count_from (f_count_from n))
def M_count_maps : Kds := fun _ => .fz
def b_count_maps : Sv := (aSeq (aRet (eCall [none, none, none] (f_count_from 8) (gE (eV 0) (gE (eV 1) (gE (eTup gN) gN)))))
    aNil)
def f_count_maps : Fn := fBody M_count_maps 0 false b_count_maps
def M_law_cell : Kds := fun _ => .fz
def b_law_cell : Sv := (aSeq (aIf (hOp ltI ((gV 1) ((gE (fOp lenI ((gV 0) gN))) gN))) (aSeq (aRet (fOp ixA ((gV 0) ((gV 1) gN))))
    aNil) aNil)
    (aSeq (aRet (eC (.int 0)))
    aNil))
def f_law_cell : Fn := fBody M_law_cell 0 false b_law_cell
def M_law_digits : Kds := fun i => match i with | 3 => .ow | _ => .fz
def b_law_digits : Sv := (aSeq (aSet 3 (eLst gN))
    (aSeq (aFor (iRg2 ((gV 1) ((gV 2) gN))) (gSet 4) (aSeq (aSet 5 (eCall [none, none] f_law_cell (gE (eV 0) (gE (eV 4) gN))))
    (aSeq (aIf (hOp ltI ((gV 5) ((gE (eC (.int 0))) gN))) (aSeq (aSet 5 (fOp subI ((gE (eC (.int 1))) ((gE (fOp mulI ((gE (eC (.int 2))) ((gV 5) gN)))) gN))))
    aNil) aNil)
    (aSeq (aIf (hOp geI ((gV 5) ((gE (fOp powI ((gE (eC (.int 10))) ((gE (eC (.int 18))) gN)))) gN))) (aSeq (aFor (iRg1 ((gE (eC (.int 60))) gN)) (gSet 6) (aSeq (aIf (hOp gtI ((gV 5) ((gE (eC (.int 0))) gN))) (aSeq (aApp 3 (fOp modI ((gE (fOp intI ((gV 5) gN))) ((gE (eC (.int 1000))) gN))))
    (aSeq (aSet 5 (fOp fdivI ((gV 5) ((gE (eC (.int 1000))) gN))))
    aNil)) aNil)
    aNil))
    aNil) (aSeq (aSet 7 (fOp modI ((gE (fOp intI ((gE (fOp addI ((gE (fOp addI ((gE (fOp mulI ((gV 5) ((gE (eC (.int 48271))) gN)))) ((gE (fOp mulI ((gV 4) ((gE (eC (.int 69621))) gN)))) gN)))) ((gE (eC (.int 11))) gN)))) gN))) ((gE (eC (.int 2147483647))) gN))))
    (aSeq (aFor (iRg1 ((gE (eC (.int 12))) gN)) (gSet 6) (aSeq (aSet 7 (fOp modI ((gE (fOp intI ((gE (fOp addI ((gE (fOp addI ((gE (fOp mulI ((gV 7) ((gE (eC (.int 16807))) gN)))) ((gE (fOp mulI ((gE (eC (.int 7))) ((gV 6) gN)))) gN)))) ((gE (eC (.int 1))) gN)))) gN))) ((gE (eC (.int 2147483647))) gN))))
    (aSeq (aApp 3 (fOp modI ((gE (fOp intI ((gE (fOp fdivI ((gV 7) ((gE (eC (.int 997))) gN)))) gN))) ((gE (eC (.int 1000))) gN))))
    aNil)))
    aNil)))
    aNil))))
    (aSeq (aRet (eT 3))
    aNil)))
def f_law_digits : Fn := fBody M_law_digits 5 true b_law_digits
def M_law_box : Kds := fun _ => .fz
def b_law_box : Sv := (aSeq (aRet (eLst (gE (eCall [none, none, none] f_law_digits (gE (eV 0) (gE (eV 1) (gE (eV 2) gN)))) (gE (eC (.int 0)) gN))))
    aNil)
def f_law_box : Fn := fBody M_law_box 0 true b_law_box
def M_law_draw : Kds := fun i => match i with | 0 => .le | _ => .fz
def b_law_draw : Sv := (aSeq (aSet 2 (fOp ixA ((gV 0) ((gE (eC (.int 1))) gN))))
    (aSeq (aPut 0 (fOp addI ((gV 2) ((gE (eC (.int 1))) gN))) (eC (.int 1)))
    (aSeq (aIf (hOp ltI ((gV 2) ((gE (fOp lenI ((gE (fOp ixA ((gV 0) ((gE (eC (.int 0))) gN)))) gN))) gN))) (aSeq (aRet (fOp modI ((gE (fOp intI ((gE (fOp ixA ((gE (fOp ixA ((gV 0) ((gE (eC (.int 0))) gN)))) ((gV 2) gN)))) gN))) ((gV 1) gN))))
    aNil) aNil)
    (aSeq (aRet (eC (.int 0)))
    aNil))))
def f_law_draw : Fn := fBody M_law_draw 1 false b_law_draw
def M_law_kinds : Kds := fun i => match i with | 0 => .le | _ => .fz
def b_law_kinds : Sv := (aSeq (aRet (fOp ixA ((gE (eLst (gE (eTup (gE (eTup (gE (eC (.str "E")) (gE (eC (.int 2)) gN))) gN)) (gE (eTup (gE (eTup (gE (eC (.str "E")) (gE (eC (.int 2)) gN))) (gE (eTup (gE (eC (.str "P")) (gE (eC (.int 1)) gN))) gN))) (gE (eTup (gE (eTup (gE (eC (.str "P")) (gE (eC (.int 1)) gN))) (gE (eTup (gE (eC (.str "Q")) (gE (eC (.int 1)) gN))) gN))) (gE (eTup (gE (eTup (gE (eC (.str "E")) (gE (eC (.int 2)) gN))) (gE (eTup (gE (eC (.str "F")) (gE (eC (.int 2)) gN))) gN))) (gE (eTup gN) (gE (eTup (gE (eTup (gE (eC (.str "E")) (gE (eC (.int 2)) gN))) (gE (eTup (gE (eC (.str "F")) (gE (eC (.int 2)) gN))) (gE (eTup (gE (eC (.str "P")) (gE (eC (.int 1)) gN))) gN)))) gN)))))))) ((gE (eCall [some 0, none] f_law_draw (gV 0 (gE (eC (.int 6)) gN)))) gN))))
    aNil)
def f_law_kinds : Fn := fBody M_law_kinds 0 false b_law_kinds
def M_law_tuples : Kds := fun _ => .fz
def b_law_tuples : Sv := (aSeq (aSet 2 (eLst (gE (eTup gN) gN)))
    (aSeq (aFor (iRg1 ((gV 1) gN)) (gSet 3) (aSeq (aSet 4 (eLst gN))
    (aSeq (aFor (iE (eV 2)) (gSet 5) (aSeq (aSet 4 (fOp addI ((gV 4) ((gE (eLc (iRg1 ((gV 0) gN)) (gTurn (gSet 6) hYes (fOp addI ((gV 5) ((gE (eTup (gE (eV 6) gN))) gN)))) [6])) gN))))
    aNil))
    (aSeq (aSet 2 (eV 4))
    aNil))))
    (aSeq (aRet (eV 2))
    aNil)))
def f_law_tuples : Fn := fBody M_law_tuples 5 false b_law_tuples
def M_law_structure : Kds := fun i => match i with | 0 => .le | 3 => .ow | _ => .fz
def b_law_structure : Sv := (aSeq (aSet 3 (eLst gN))
    (aSeq (aFor (iE (eV 1)) (gTupT 2 (gsCons (gSet 4) (gsCons (gSet 5) gsNil))) (aSeq (aSet 6 (fOp addI ((gE (eC (.int 1))) ((gE (eCall [some 0, none] f_law_draw (gV 0 (gE (eC (.int 4)) gN)))) gN))))
    (aSeq (aSet 8 (fOp tupI ((gE (eLc (iE (eCall [none, none] f_law_tuples (gE (eV 2) (gE (eV 5) gN)))) (gTurn (gSet 7) (hOp ltI ((gE (eCall [some 0, none] f_law_draw (gV 0 (gE (eC (.int 5)) gN)))) ((gV 6) gN))) (eV 7)) [7])) gN)))
    (aSeq (aApp 3 (eTup (gE (eV 4) (gE (eV 5) (gE (eV 8) gN)))))
    aNil))))
    (aSeq (aRet (eTup (gE (eC (.str "structure")) (gE (eV 2) (gE (fOp tupI ((gV 3) gN)) gN)))))
    aNil)))
def f_law_structure : Fn := fBody M_law_structure 6 false b_law_structure
def M_law_same : Kds := fun _ => .fz
def b_law_same (self : Fn) : Sv := (aSeq (aIf (hTru ((gE (fOp (isiI isT) ((gV 1) gN))) gN)) (aSeq (aIf (hOr (hNot (hTru ((gE (fOp (isiI isT) ((gV 0) gN))) gN))) (hOp neI ((gE (fOp lenI ((gV 0) gN))) ((gE (fOp lenI ((gV 1) gN))) gN)))) (aSeq (aRet (eC (.bool false)))
    aNil) aNil)
    (aSeq (aFor (iRg1 ((gE (fOp lenI ((gV 1) gN))) gN)) (gSet 2) (aSeq (aIf (hNot (hTru ((gE (eCall [none, none] self (gE (fOp ixA ((gV 0) ((gV 2) gN))) (gE (fOp ixA ((gV 1) ((gV 2) gN))) gN)))) gN))) (aSeq (aRet (eC (.bool false)))
    aNil) aNil)
    aNil))
    (aSeq (aRet (eC (.bool true)))
    aNil))) aNil)
    (aSeq (aIf (hOp isI ((gV 1) ((gE (eC .none)) gN))) (aSeq (aRet (fOp isI ((gV 0) ((gE (eC .none)) gN))))
    aNil) aNil)
    (aSeq (aIf (hTru ((gE (fOp (isiI isB) ((gV 1) gN))) gN)) (aSeq (aRet (eAnd (fOp (isiI isB) ((gV 0) gN)) (fOp eqI ((gV 0) ((gV 1) gN)))))
    aNil) aNil)
    (aSeq (aIf (hTru ((gE (fOp (isiI isNu) ((gV 1) gN))) gN)) (aSeq (aRet (eAnd (fOp (isiI isNu) ((gV 0) gN)) (eAnd (eNot ((gE (fOp (isiI isB) ((gV 0) gN))) gN)) (fOp eqI ((gV 0) ((gV 1) gN))))))
    aNil) aNil)
    (aSeq (aRet (eAnd (fOp (isiI isS) ((gV 0) gN)) (fOp eqI ((gV 0) ((gV 1) gN)))))
    aNil)))))
def f_law_same : Nat → Fn
  | 0 => fun _ => none
  | n + 1 => fBody M_law_same 1 false (b_law_same (f_law_same n))
def M_law_is_map : Kds := fun _ => .fz
def b_law_is_map : Sv := (aSeq (aFor (iRg1 ((gE (fOp lenI ((gE (fOp ixA ((gV 0) ((gE (eC (.int 2))) gN)))) gN))) gN)) (gSet 3) (aSeq (aFor (iE (fOp ixA ((gE (fOp ixA ((gE (fOp ixA ((gV 0) ((gE (eC (.int 2))) gN)))) ((gV 3) gN)))) ((gE (eC (.int 2))) gN)))) (gSet 4) (aSeq (aIf (hOp niA ((gE (fOp tupI ((gE (eLc (iE (eV 4)) (gTurn (gSet 5) hYes (fOp ixA ((gV 2) ((gV 5) gN)))) [5])) gN))) ((gE (fOp ixA ((gE (fOp ixA ((gE (fOp ixA ((gV 1) ((gE (eC (.int 2))) gN)))) ((gV 3) gN)))) ((gE (eC (.int 2))) gN)))) gN))) (aSeq (aRet (eC (.bool false)))
    aNil) aNil)
    aNil))
    aNil))
    (aSeq (aRet (eC (.bool true)))
    aNil))
def f_law_is_map : Fn := fBody M_law_is_map 3 false b_law_is_map
def M_law_maps : Kds := fun _ => .fz
def b_law_maps : Sv := (aSeq (aRet (eLc (iE (eCall [none, none] f_law_tuples (gE (fOp ixA ((gV 1) ((gE (eC (.int 1))) gN))) (gE (fOp ixA ((gV 0) ((gE (eC (.int 1))) gN))) gN)))) (gTurn (gSet 2) (hTru ((gE (eCall [none, none, none] f_law_is_map (gE (eV 0) (gE (eV 1) (gE (eV 2) gN))))) gN)) (eV 2)) [2]))
    aNil)
def f_law_maps : Fn := fBody M_law_maps 1 true b_law_maps
def M_law_product : Kds := fun i => match i with | 2 => .ow | 7 => .ow | _ => .fz
def b_law_product : Sv := (aSeq (aSet 2 (eLst gN))
    (aSeq (aFor (iRg1 ((gE (fOp lenI ((gE (fOp ixA ((gV 0) ((gE (eC (.int 2))) gN)))) gN))) gN)) (gSet 3) (aSeq (aAsg (fOp ixA ((gE (fOp ixA ((gV 0) ((gE (eC (.int 2))) gN)))) ((gV 3) gN))) (gTupT 3 (gsCons (gSet 4) (gsCons (gSet 5) (gsCons (gSet 6) gsNil)))))
    (aSeq (aSet 7 (eLst gN))
    (aSeq (aFor (iE (eV 6)) (gSet 8) (aSeq (aFor (iE (fOp ixA ((gE (fOp ixA ((gE (fOp ixA ((gV 1) ((gE (eC (.int 2))) gN)))) ((gV 3) gN)))) ((gE (eC (.int 2))) gN)))) (gSet 9) (aSeq (aApp 7 (fOp tupI ((gE (eLc (iRg1 ((gV 5) gN)) (gTurn (gSet 10) hYes (fOp addI ((gE (fOp mulI ((gE (fOp ixA ((gV 8) ((gV 10) gN)))) ((gE (fOp ixA ((gV 1) ((gE (eC (.int 1))) gN)))) gN)))) ((gE (fOp ixA ((gV 9) ((gV 10) gN)))) gN)))) [10])) gN)))
    aNil))
    aNil))
    (aSeq (aApp 2 (eTup (gE (eV 4) (gE (eV 5) (gE (fOp tupI ((gE (fOp sortI ((gV 7) gN))) gN)) gN)))))
    aNil)))))
    (aSeq (aRet (eTup (gE (eC (.str "structure")) (gE (fOp mulI ((gE (fOp ixA ((gV 0) ((gE (eC (.int 1))) gN)))) ((gE (fOp ixA ((gV 1) ((gE (eC (.int 1))) gN)))) gN))) (gE (fOp tupI ((gV 2) gN)) gN)))))
    aNil)))
def f_law_product : Fn := fBody M_law_product 9 false b_law_product
def M_law_sum : Kds := fun i => match i with | 2 => .ow | _ => .fz
def b_law_sum : Sv := (aSeq (aSet 2 (eLst gN))
    (aSeq (aFor (iRg1 ((gE (fOp lenI ((gE (fOp ixA ((gV 0) ((gE (eC (.int 2))) gN)))) gN))) gN)) (gSet 3) (aSeq (aAsg (fOp ixA ((gE (fOp ixA ((gV 0) ((gE (eC (.int 2))) gN)))) ((gV 3) gN))) (gTupT 3 (gsCons (gSet 4) (gsCons (gSet 5) (gsCons (gSet 6) gsNil)))))
    (aSeq (aSet 9 (eLc (iE (fOp ixA ((gE (fOp ixA ((gE (fOp ixA ((gV 1) ((gE (eC (.int 2))) gN)))) ((gV 3) gN)))) ((gE (eC (.int 2))) gN)))) (gTurn (gSet 7) hYes (fOp tupI ((gE (eLc (iE (eV 7)) (gTurn (gSet 8) hYes (fOp addI ((gE (fOp ixA ((gV 0) ((gE (eC (.int 1))) gN)))) ((gV 8) gN)))) [8])) gN))) [7]))
    (aSeq (aApp 2 (eTup (gE (eV 4) (gE (eV 5) (gE (fOp tupI ((gE (fOp sortI ((gE (fOp addI ((gE (fOp lstI ((gV 6) gN))) ((gV 9) gN)))) gN))) gN)) gN)))))
    aNil))))
    (aSeq (aRet (eTup (gE (eC (.str "structure")) (gE (fOp addI ((gE (fOp ixA ((gV 0) ((gE (eC (.int 1))) gN)))) ((gE (fOp ixA ((gV 1) ((gE (eC (.int 1))) gN)))) gN))) (gE (fOp tupI ((gV 2) gN)) gN)))))
    aNil)))
def f_law_sum : Fn := fBody M_law_sum 8 false b_law_sum
def M_law : Kds := fun i => match i with | 1 => .ow | _ => .fz
def b_law : Sv := (aSeq (aSet 1 (eCall [none, none, none] f_law_box (gE (eV 0) (gE (eC (.int 0)) (gE (eC (.int 63)) gN)))))
    (aSeq (aFor (iRg1 ((gE (eC (.int 3))) gN)) (gSet 2) (aSeq (aSet 3 (eCall [some 1] f_law_kinds (gV 1 gN)))
    (aSeq (aSet 4 (eCall [some 1, none, none] f_law_structure (gV 1 (gE (eV 3) (gE (fOp addI ((gE (eC (.int 1))) ((gE (eCall [some 1, none] f_law_draw (gV 1 (gE (eC (.int 3)) gN)))) gN))) gN)))))
    (aSeq (aSet 5 (eCall [some 1, none, none] f_law_structure (gV 1 (gE (eV 3) (gE (fOp addI ((gE (eC (.int 1))) ((gE (eCall [some 1, none] f_law_draw (gV 1 (gE (eC (.int 2)) gN)))) gN))) gN)))))
    (aSeq (aSet 6 (eCall [some 1, none, none] f_law_structure (gV 1 (gE (eV 3) (gE (fOp addI ((gE (eC (.int 1))) ((gE (eCall [some 1, none] f_law_draw (gV 1 (gE (eC (.int 2)) gN)))) gN))) gN)))))
    (aSeq (aIf (hOr (hNot (hTru ((gE (eCall [none, none] (f_law_same 8) (gE (eCall [none, none] f_product (gE (eV 4) (gE (eV 5) gN))) (gE (eCall [none, none] f_law_product (gE (eV 4) (gE (eV 5) gN))) gN)))) gN))) (hNot (hTru ((gE (eCall [none, none] (f_law_same 8) (gE (eCall [none, none] f_sum_of (gE (eV 4) (gE (eV 5) gN))) (gE (eCall [none, none] f_law_sum (gE (eV 4) (gE (eV 5) gN))) gN)))) gN)))) (aSeq (aRet (eC (.bool false)))
    aNil) aNil)
    (aSeq (aSet 7 (fOp mulI ((gE (fOp lenI ((gE (eCall [none, none] f_law_maps (gE (eV 6) (gE (eV 4) gN)))) gN))) ((gE (fOp lenI ((gE (eCall [none, none] f_law_maps (gE (eV 6) (gE (eV 5) gN)))) gN))) gN))))
    (aSeq (aSet 8 (fOp mulI ((gE (fOp lenI ((gE (eCall [none, none] f_law_maps (gE (eV 4) (gE (eV 6) gN)))) gN))) ((gE (fOp lenI ((gE (eCall [none, none] f_law_maps (gE (eV 5) (gE (eV 6) gN)))) gN))) gN))))
    (aSeq (aIf (hOr (hOp neI ((gE (fOp lenI ((gE (eCall [none, none] f_law_maps (gE (eV 6) (gE (eCall [none, none] f_law_product (gE (eV 4) (gE (eV 5) gN))) gN)))) gN))) ((gV 7) gN))) (hOp neI ((gE (fOp lenI ((gE (eCall [none, none] f_law_maps (gE (eCall [none, none] f_law_sum (gE (eV 4) (gE (eV 5) gN))) (gE (eV 6) gN)))) gN))) ((gV 8) gN)))) (aSeq (aRet (eC (.bool false)))
    aNil) aNil)
    (aSeq (aIf (hNot (hTru ((gE (eCall [none, none] (f_law_same 8) (gE (eCall [none, none] f_count_maps (gE (eCall [none, none] f_law_sum (gE (eV 4) (gE (eV 5) gN))) (gE (eV 6) gN))) (gE (eV 8) gN)))) gN))) (aSeq (aRet (eC (.bool false)))
    aNil) aNil)
    aNil))))))))))
    (aSeq (aRet (eC (.bool true)))
    aNil)))
def f_law : Fn := fBody M_law 8 false b_law
end FH
/-! L0: the laws' own draws. -/
namespace Sx
open PySem PySem.Spec PyProof.Rows L2

def Mdraw : Kds := fun i => match i with | 0 => .le | _ => .fz
def Bdraw : Sv := (aSeq (aSet 2 (fOp ixA ((gV 0) ((gE (eC (.int 1))) gN))))
    (aSeq (aPut 0 (fOp addI ((gV 2) ((gE (eC (.int 1))) gN))) (eC (.int 1)))
    (aSeq (aIf (hOp ltI ((gV 2) ((gE (fOp lenI ((gE (fOp ixA ((gV 0) ((gE (eC (.int 0))) gN)))) gN))) gN))) (aSeq (aRet (fOp modI ((gE (fOp intI ((gE (fOp ixA ((gE (fOp ixA ((gV 0) ((gE (eC (.int 0))) gN)))) ((gV 2) gN)))) gN))) ((gV 1) gN))))
    aNil) aNil)
    (aSeq (aRet (eC (.int 0)))
    aNil))))
def Fdraw : Fn := fBody Mdraw 1 false Bdraw
/-- a box of draws -/
def BoxD (ds : List Int) (at_ : Nat) : D := .list [.list (ds.map .int), .int (at_ : Int)]
def IsBox (b : D) : Prop := ∃ ds at_, b = BoxD ds at_
theorem ixA_zero {a b : D} : ixA [.list [a, b], .int 0] = some a := rfl
theorem ixA_one {a b : D} : ixA [.list [a, b], .int 1] = some b := rfl
theorem ixN_nat {n k : Nat} (h : k < n) : ixN n (k : Int) = some k := by
  unfold ixN
  rw [if_pos (by omega)]
  simp [h]
theorem ixN21 : ixN 2 1 = some 1 := rfl
theorem atI_nat' {α : Type} {xs : List α} {k : Nat} {v : α} (h : xs[k]? = some v) : atI xs (k : Int) = some v := by
  have hk := (List.getElem?_eq_some_iff.mp h).1
  unfold atI
  rw [ixN_nat hk]
  exact h
theorem ixA_list {xs : List D} {k : Nat} {v : D} (h : xs[k]? = some v) : ixA [.list xs, .int (k : Int)] = some v := by
  show ((atI xs (k : Int)).or _) = _
  rw [atI_nat' h]
  rfl
theorem ixA_tup {xs : List D} {k : Nat} {v : D} (h : xs[k]? = some v) : ixA [.tuple xs, .int (k : Int)] = some v := by
  show ((atI xs (k : Int)).or _) = _
  rw [atI_nat' h]
  rfl
/-! operations on what is seen -/
theorem add_ii {i j : Int} : addI [.int i, .int j] = some (.int (i + j)) := rfl
theorem sub_ii {i j : Int} : subI [.int i, .int j] = some (.int (i - j)) := rfl
theorem mul_ii {i j : Int} (h : (-(2 ^ 64) < i ∧ i < 2 ^ 64) ∨ (-(2 ^ 64) < j ∧ j < 2 ^ 64)) : mulI [.int i, .int j] = some (.int (i * j)) := if_pos h
theorem mod_ii {i j : Int} (h : 0 < j) : modI [.int i, .int j] = some (.int (i % j)) := if_pos h
theorem div_ii {i j : Int} (h : 0 < j ∧ j < 1073741824) : fdivI [.int i, .int j] = some (.int (i / j)) := if_pos h
theorem lt_ii {i j : Int} : ltI [.int i, .int j] = some (.bool (decide (i < j))) := rfl
theorem le_ii {i j : Int} : leI [.int i, .int j] = some (.bool (decide (i ≤ j))) := rfl
theorem gt_ii {i j : Int} : gtI [.int i, .int j] = some (.bool (decide (j < i))) := rfl
theorem ge_ii {i j : Int} : geI [.int i, .int j] = some (.bool (decide (j ≤ i))) := rfl
theorem len_l {ds : List D} : lenI [.list ds] = some (.int ds.length) := rfl
theorem len_t {ds : List D} : lenI [.tuple ds] = some (.int ds.length) := rfl
theorem int_i {i : Int} : intI [.int i] = some (.int i) := rfl
theorem draw_ok {b : D} {m : Int} (hb : IsBox b) (hm : 0 < m) : ∃ (v : Int) (b' : D), Fdraw [b, .int m] = some (.int v, [b', .int m]) ∧ 0 ≤ v ∧ v < m ∧ IsBox b' := by
  obtain ⟨ds, at_, rfl⟩ := hb
  have e2 : ((at_ : Int) + 1) = ((at_ + 1 : Nat) : Int) := by omega
  by_cases h : at_ < ds.length
  · refine ⟨ds[at_] % m, BoxD ds (at_ + 1), ?_, Int.emod_nonneg _ (by omega), Int.emod_lt_of_pos _ hm, ds, at_ + 1, rfl⟩
    have e : ixA [.list (ds.map PyData.int), .int (at_ : Int)] = some (.int ds[at_]) := ixA_list (by simp [h])
    have hd : decide ((at_ : Int) < ((ds.map PyData.int).length : Int)) = true := decide_eq_true (by rw [List.length_map]; omega)
    simp only [Fdraw, Bdraw, BoxD, ixA_zero, ixA_one, add_ii, lt_ii, len_l, mod_ii hm, int_i, ixN21, hd, e, e2, x_seq, x_seq1, x_seq2, x_seq3, x_seq4, x_nil, x_brk, x_cnt, x_if, x_if1, x_if2, x_set, x_set1, x_ret, x_ret1, x_retN, x_drop, x_drop1, x_ev, x_ev1, x_et, x_et1, x_ec, x_gn, x_ge, x_ge1, x_ge2, x_gv, x_gv1, x_gv2, x_gv3, x_op, x_op1, x_hop, x_hop1, x_hop2, x_tru, x_tru1, x_not, x_not1, x_and, x_and1, x_and2, x_or, x_or1, x_or2, x_yes, x_tup, x_tup1, x_lst, x_lst1, x_eif, x_eif1, x_eif2, x_notE, x_notE1, x_eand, x_eand1, x_eand2, x_eor, x_eor1, x_eor2, x_call, x_call1, x_call2, x_put1, x_put2, x_put3, x_body, x_body1, x_body2, x_app, x_app1, x_app2, x_app3, x_pt, x_pt1, x_pt2, x_pt3, x_pt4, x_pt5, x_ie, x_ie1, x_items1, x_items2, x_rg1, x_rg11, x_rg2, x_rg21, x_zip, x_zip1, x_zip2, x_gs, x_gt, x_gc, x_gl, x_asg, x_asg1, x_for, x_for1, x_turn, x_next1, x_next2, x_next3, x_next4, x_tn, x_tn1, x_tn2, x_tn3, x_tn4, x_lc, x_lc1, x_lc2, x_ld, x_ld1, x_w1, x_w2, x_tg, x_tg1, x_tg2, x_sm, x_sm1, x_sm2, x_al, x_al1, x_ay, x_ay1, x_bl, x_bk1, x_bk2, x_jn, x_pr1, x_pr2, Option.bind_some, Option.bind_none, Option.map_some, Option.map_none, List.map_cons, List.map_nil, List.replicate_succ, List.replicate_zero, List.cons_append, List.nil_append, List.append_nil, List.getElem?_cons_zero, List.getElem?_cons_succ, List.set_cons_zero, List.set_cons_succ, List.length_cons, List.length_nil, Nat.zero_add, Nat.reduceAdd, Nat.reduceLeDiff, Nat.reduceLT]
    rfl
  · refine ⟨0, BoxD ds (at_ + 1), ?_, by omega, hm, ds, at_ + 1, rfl⟩
    have hd : decide ((at_ : Int) < ((ds.map PyData.int).length : Int)) = false := decide_eq_false (by rw [List.length_map]; omega)
    simp only [Fdraw, Bdraw, BoxD, ixA_zero, ixA_one, add_ii, lt_ii, len_l, mod_ii hm, int_i, ixN21, hd, e2, x_seq, x_seq1, x_seq2, x_seq3, x_seq4, x_nil, x_brk, x_cnt, x_if, x_if1, x_if2, x_set, x_set1, x_ret, x_ret1, x_retN, x_drop, x_drop1, x_ev, x_ev1, x_et, x_et1, x_ec, x_gn, x_ge, x_ge1, x_ge2, x_gv, x_gv1, x_gv2, x_gv3, x_op, x_op1, x_hop, x_hop1, x_hop2, x_tru, x_tru1, x_not, x_not1, x_and, x_and1, x_and2, x_or, x_or1, x_or2, x_yes, x_tup, x_tup1, x_lst, x_lst1, x_eif, x_eif1, x_eif2, x_notE, x_notE1, x_eand, x_eand1, x_eand2, x_eor, x_eor1, x_eor2, x_call, x_call1, x_call2, x_put1, x_put2, x_put3, x_body, x_body1, x_body2, x_app, x_app1, x_app2, x_app3, x_pt, x_pt1, x_pt2, x_pt3, x_pt4, x_pt5, x_ie, x_ie1, x_items1, x_items2, x_rg1, x_rg11, x_rg2, x_rg21, x_zip, x_zip1, x_zip2, x_gs, x_gt, x_gc, x_gl, x_asg, x_asg1, x_for, x_for1, x_turn, x_next1, x_next2, x_next3, x_next4, x_tn, x_tn1, x_tn2, x_tn3, x_tn4, x_lc, x_lc1, x_lc2, x_ld, x_ld1, x_w1, x_w2, x_tg, x_tg1, x_tg2, x_sm, x_sm1, x_sm2, x_al, x_al1, x_ay, x_ay1, x_bl, x_bk1, x_bk2, x_jn, x_pr1, x_pr2, Option.bind_some, Option.bind_none, Option.map_some, Option.map_none, List.map_cons, List.map_nil, List.replicate_succ, List.replicate_zero, List.cons_append, List.nil_append, List.append_nil, List.getElem?_cons_zero, List.getElem?_cons_succ, List.set_cons_zero, List.set_cons_succ, List.length_cons, List.length_nil, Nat.zero_add, Nat.reduceAdd, Nat.reduceLeDiff, Nat.reduceLT]
    rfl

/-! the script's numbers -/
def Bcell : Sv := (aSeq (aIf (hOp ltI ((gV 1) ((gE (fOp lenI ((gV 0) gN))) gN))) (aSeq (aRet (fOp ixA ((gV 0) ((gV 1) gN))))
    aNil) aNil)
    (aSeq (aRet (eC (.int 0)))
    aNil))
def Fcell : Fn := fBody (fun _ => .fz) 0 false Bcell
theorem cell_ok (ns : List Int) (k : Nat) : Fcell [scrD ns, .int (k : Int)] = some (.int (ns[k]?.getD 0), [scrD ns, .int (k : Int)]) := by
  by_cases h : k < ns.length
  · have e : ixA [.list (ns.map PyData.int), .int (k : Int)] = some (.int ns[k]) := ixA_list (by simp [h])
    have hd : decide ((k : Int) < ((ns.map PyData.int).length : Int)) = true := decide_eq_true (by rw [List.length_map]; omega)
    have e2 : ns[k]?.getD 0 = ns[k] := by simp [h]
    rw [e2]
    simp only [Fcell, Bcell, scrD, lt_ii, len_l, hd, e, x_seq, x_seq1, x_seq2, x_seq3, x_seq4, x_nil, x_brk, x_cnt, x_if, x_if1, x_if2, x_set, x_set1, x_ret, x_ret1, x_retN, x_drop, x_drop1, x_ev, x_ev1, x_et, x_et1, x_ec, x_gn, x_ge, x_ge1, x_ge2, x_gv, x_gv1, x_gv2, x_gv3, x_op, x_op1, x_hop, x_hop1, x_hop2, x_tru, x_tru1, x_not, x_not1, x_and, x_and1, x_and2, x_or, x_or1, x_or2, x_yes, x_tup, x_tup1, x_lst, x_lst1, x_eif, x_eif1, x_eif2, x_notE, x_notE1, x_eand, x_eand1, x_eand2, x_eor, x_eor1, x_eor2, x_call, x_call1, x_call2, x_put1, x_put2, x_put3, x_body, x_body1, x_body2, x_app, x_app1, x_app2, x_app3, x_pt, x_pt1, x_pt2, x_pt3, x_pt4, x_pt5, x_ie, x_ie1, x_items1, x_items2, x_rg1, x_rg11, x_rg2, x_rg21, x_zip, x_zip1, x_zip2, x_gs, x_gt, x_gc, x_gl, x_asg, x_asg1, x_for, x_for1, x_turn, x_next1, x_next2, x_next3, x_next4, x_tn, x_tn1, x_tn2, x_tn3, x_tn4, x_lc, x_lc1, x_lc2, x_ld, x_ld1, x_w1, x_w2, x_tg, x_tg1, x_tg2, x_sm, x_sm1, x_sm2, x_al, x_al1, x_ay, x_ay1, x_bl, x_bk1, x_bk2, x_jn, x_pr1, x_pr2, Option.bind_some, Option.bind_none, Option.map_some, Option.map_none, List.map_cons, List.map_nil, List.replicate_succ, List.replicate_zero, List.cons_append, List.nil_append, List.append_nil, List.getElem?_cons_zero, List.getElem?_cons_succ, List.set_cons_zero, List.set_cons_succ, List.length_cons, List.length_nil, Nat.zero_add, Nat.reduceAdd, Nat.reduceLeDiff, Nat.reduceLT]
    rfl
  · have hd : decide ((k : Int) < ((ns.map PyData.int).length : Int)) = false := decide_eq_false (by rw [List.length_map]; omega)
    have e2 : ns[k]?.getD 0 = 0 := by rw [List.getElem?_eq_none (by omega)]; rfl
    rw [e2]
    simp only [Fcell, Bcell, scrD, lt_ii, len_l, hd, x_seq, x_seq1, x_seq2, x_seq3, x_seq4, x_nil, x_brk, x_cnt, x_if, x_if1, x_if2, x_set, x_set1, x_ret, x_ret1, x_retN, x_drop, x_drop1, x_ev, x_ev1, x_et, x_et1, x_ec, x_gn, x_ge, x_ge1, x_ge2, x_gv, x_gv1, x_gv2, x_gv3, x_op, x_op1, x_hop, x_hop1, x_hop2, x_tru, x_tru1, x_not, x_not1, x_and, x_and1, x_and2, x_or, x_or1, x_or2, x_yes, x_tup, x_tup1, x_lst, x_lst1, x_eif, x_eif1, x_eif2, x_notE, x_notE1, x_eand, x_eand1, x_eand2, x_eor, x_eor1, x_eor2, x_call, x_call1, x_call2, x_put1, x_put2, x_put3, x_body, x_body1, x_body2, x_app, x_app1, x_app2, x_app3, x_pt, x_pt1, x_pt2, x_pt3, x_pt4, x_pt5, x_ie, x_ie1, x_items1, x_items2, x_rg1, x_rg11, x_rg2, x_rg21, x_zip, x_zip1, x_zip2, x_gs, x_gt, x_gc, x_gl, x_asg, x_asg1, x_for, x_for1, x_turn, x_next1, x_next2, x_next3, x_next4, x_tn, x_tn1, x_tn2, x_tn3, x_tn4, x_lc, x_lc1, x_lc2, x_ld, x_ld1, x_w1, x_w2, x_tg, x_tg1, x_tg2, x_sm, x_sm1, x_sm2, x_al, x_al1, x_ay, x_ay1, x_bl, x_bk1, x_bk2, x_jn, x_pr1, x_pr2, Option.bind_some, Option.bind_none, Option.map_some, Option.map_none, List.map_cons, List.map_nil, List.replicate_succ, List.replicate_zero, List.cons_append, List.nil_append, List.append_nil, List.getElem?_cons_zero, List.getElem?_cons_succ, List.set_cons_zero, List.set_cons_succ, List.length_cons, List.length_nil, Nat.zero_add, Nat.reduceAdd, Nat.reduceLeDiff, Nat.reduceLT]
    rfl
def Mdig : Kds := fun i => match i with | 3 => .ow | _ => .fz
/-- the digits of a great number -/
def Tbig : Sv := (aSeq (aIf (hOp gtI ((gV 5) ((gE (eC (.int 0))) gN))) (aSeq (aApp 3 (fOp modI ((gE (fOp intI ((gV 5) gN))) ((gE (eC (.int 1000))) gN))))
    (aSeq (aSet 5 (fOp fdivI ((gV 5) ((gE (eC (.int 1000))) gN))))
    aNil)) aNil)
    aNil)
def Tsml : Sv := (aSeq (aSet 7 (fOp modI ((gE (fOp intI ((gE (fOp addI ((gE (fOp addI ((gE (fOp mulI ((gV 7) ((gE (eC (.int 16807))) gN)))) ((gE (fOp mulI ((gE (eC (.int 7))) ((gV 6) gN)))) gN)))) ((gE (eC (.int 1))) gN)))) gN))) ((gE (eC (.int 2147483647))) gN))))
    (aSeq (aApp 3 (fOp modI ((gE (fOp intI ((gE (fOp fdivI ((gV 7) ((gE (eC (.int 997))) gN)))) gN))) ((gE (eC (.int 1000))) gN))))
    aNil))
def Tdig : Sv := (aSeq (aSet 5 (eCall [none, none] Fcell (gE (eV 0) (gE (eV 4) gN))))
    (aSeq (aIf (hOp ltI ((gV 5) ((gE (eC (.int 0))) gN))) (aSeq (aSet 5 (fOp subI ((gE (eC (.int 1))) ((gE (fOp mulI ((gE (eC (.int 2))) ((gV 5) gN)))) gN))))
    aNil) aNil)
    (aSeq (aIf (hOp geI ((gV 5) ((gE (fOp powI ((gE (eC (.int 10))) ((gE (eC (.int 18))) gN)))) gN))) (aSeq (aFor (iRg1 ((gE (eC (.int 60))) gN)) (gSet 6) Tbig)
    aNil) (aSeq (aSet 7 (fOp modI ((gE (fOp intI ((gE (fOp addI ((gE (fOp addI ((gE (fOp mulI ((gV 5) ((gE (eC (.int 48271))) gN)))) ((gE (fOp mulI ((gV 4) ((gE (eC (.int 69621))) gN)))) gN)))) ((gE (eC (.int 11))) gN)))) gN))) ((gE (eC (.int 2147483647))) gN))))
    (aSeq (aFor (iRg1 ((gE (eC (.int 12))) gN)) (gSet 6) Tsml)
    aNil)))
    aNil)))
def Bdig : Sv := (aSeq (aSet 3 (eLst gN))
    (aSeq (aFor (iRg2 ((gV 1) ((gV 2) gN))) (gSet 4) Tdig)
    (aSeq (aRet (eT 3))
    aNil)))
def Fdig : Fn := fBody Mdig 5 true Bdig
/-- a frame with so many digits at most -/
def digE (a b c : D) (xs : List Int) (k ce tu se : Option D) : Env := [some a, some b, some c, some (.list (xs.map .int)), k, ce, tu, se]
theorem map_snoc (xs : List Int) (y : Int) : xs.map PyData.int ++ [.int y] = (xs ++ [y]).map PyData.int := by simp
theorem big_turn (a b c : D) (k tu se : Option D) (xs : List Int) (ce : Int) (hl : xs.length < 16777216) : ∃ ys ce', Tbig (digE a b c xs k (some (.int ce)) tu se) = some (.nx (digE a b c ys k (some (.int ce')) tu se)) ∧ ys.length ≤ xs.length + 1 := by
  by_cases h : 0 < ce
  · refine ⟨xs ++ [ce % 1000], ce / 1000, ?_, by simp⟩
    have hd : decide ((0 : Int) < ce) = true := decide_eq_true h
    have hl' : (xs.map PyData.int).length < 16777216 := by rw [List.length_map]; exact hl
    simp only [Tbig, digE, gt_ii, hd, int_i, mod_ii (show (0 : Int) < 1000 by decide), div_ii (show (0 : Int) < 1000 ∧ (1000 : Int) < 1073741824 by decide), x_app3 hl', map_snoc, x_seq, x_seq1, x_seq2, x_seq3, x_seq4, x_nil, x_brk, x_cnt, x_if, x_if1, x_if2, x_set, x_set1, x_ret, x_ret1, x_retN, x_drop, x_drop1, x_ev, x_ev1, x_et, x_et1, x_ec, x_gn, x_ge, x_ge1, x_ge2, x_gv, x_gv1, x_gv2, x_gv3, x_op, x_op1, x_hop, x_hop1, x_hop2, x_tru, x_tru1, x_not, x_not1, x_and, x_and1, x_and2, x_or, x_or1, x_or2, x_yes, x_tup, x_tup1, x_lst, x_lst1, x_eif, x_eif1, x_eif2, x_notE, x_notE1, x_eand, x_eand1, x_eand2, x_eor, x_eor1, x_eor2, x_call, x_call1, x_call2, x_put1, x_put2, x_put3, x_body, x_body1, x_body2, x_app, x_app1, x_app2, x_app3, x_pt, x_pt1, x_pt2, x_pt3, x_pt4, x_pt5, x_ie, x_ie1, x_items1, x_items2, x_rg1, x_rg11, x_rg2, x_rg21, x_zip, x_zip1, x_zip2, x_gs, x_gt, x_gc, x_gl, x_asg, x_asg1, x_for, x_for1, x_turn, x_next1, x_next2, x_next3, x_next4, x_tn, x_tn1, x_tn2, x_tn3, x_tn4, x_lc, x_lc1, x_lc2, x_ld, x_ld1, x_w1, x_w2, x_tg, x_tg1, x_tg2, x_sm, x_sm1, x_sm2, x_al, x_al1, x_ay, x_ay1, x_bl, x_bk1, x_bk2, x_jn, x_pr1, x_pr2, Option.bind_some, Option.bind_none, Option.map_some, Option.map_none, List.map_cons, List.map_nil, List.replicate_succ, List.replicate_zero, List.cons_append, List.nil_append, List.append_nil, List.getElem?_cons_zero, List.getElem?_cons_succ, List.set_cons_zero, List.set_cons_succ, List.length_cons, List.length_nil, Nat.zero_add, Nat.reduceAdd, Nat.reduceLeDiff, Nat.reduceLT]
  · refine ⟨xs, ce, ?_, by omega⟩
    have hd : decide ((0 : Int) < ce) = false := decide_eq_false h
    simp only [Tbig, digE, gt_ii, hd, x_seq, x_seq1, x_seq2, x_seq3, x_seq4, x_nil, x_brk, x_cnt, x_if, x_if1, x_if2, x_set, x_set1, x_ret, x_ret1, x_retN, x_drop, x_drop1, x_ev, x_ev1, x_et, x_et1, x_ec, x_gn, x_ge, x_ge1, x_ge2, x_gv, x_gv1, x_gv2, x_gv3, x_op, x_op1, x_hop, x_hop1, x_hop2, x_tru, x_tru1, x_not, x_not1, x_and, x_and1, x_and2, x_or, x_or1, x_or2, x_yes, x_tup, x_tup1, x_lst, x_lst1, x_eif, x_eif1, x_eif2, x_notE, x_notE1, x_eand, x_eand1, x_eand2, x_eor, x_eor1, x_eor2, x_call, x_call1, x_call2, x_put1, x_put2, x_put3, x_body, x_body1, x_body2, x_app, x_app1, x_app2, x_app3, x_pt, x_pt1, x_pt2, x_pt3, x_pt4, x_pt5, x_ie, x_ie1, x_items1, x_items2, x_rg1, x_rg11, x_rg2, x_rg21, x_zip, x_zip1, x_zip2, x_gs, x_gt, x_gc, x_gl, x_asg, x_asg1, x_for, x_for1, x_turn, x_next1, x_next2, x_next3, x_next4, x_tn, x_tn1, x_tn2, x_tn3, x_tn4, x_lc, x_lc1, x_lc2, x_ld, x_ld1, x_w1, x_w2, x_tg, x_tg1, x_tg2, x_sm, x_sm1, x_sm2, x_al, x_al1, x_ay, x_ay1, x_bl, x_bk1, x_bk2, x_jn, x_pr1, x_pr2, Option.bind_some, Option.bind_none, Option.map_some, Option.map_none, List.map_cons, List.map_nil, List.replicate_succ, List.replicate_zero, List.cons_append, List.nil_append, List.append_nil, List.getElem?_cons_zero, List.getElem?_cons_succ, List.set_cons_zero, List.set_cons_succ, List.length_cons, List.length_nil, Nat.zero_add, Nat.reduceAdd, Nat.reduceLeDiff, Nat.reduceLT]
theorem sml_turn (a b c : D) (k ce : Option D) (xs : List Int) (t s : Int) (hs : 0 ≤ s ∧ s < 2147483647) (hl : xs.length < 16777216) : ∃ ys s', Tsml (digE a b c xs k ce (some (.int t)) (some (.int s))) = some (.nx (digE a b c ys k ce (some (.int t)) (some (.int s')))) ∧ ys.length ≤ xs.length + 1 ∧ 0 ≤ s' ∧ s' < 2147483647 := by
  refine ⟨xs ++ [(s * 16807 + 7 * t + 1) % 2147483647 / 997 % 1000], (s * 16807 + 7 * t + 1) % 2147483647, ?_, by simp, Int.emod_nonneg _ (by decide), Int.emod_lt_of_pos _ (by decide)⟩
  have hl' : (xs.map PyData.int).length < 16777216 := by rw [List.length_map]; exact hl
  simp only [Tsml, digE, int_i, add_ii, mul_ii (i := s) (j := 16807) (.inr (by decide)), mul_ii (i := 7) (j := t) (.inl (by decide)), mod_ii (show (0 : Int) < 2147483647 by decide), mod_ii (show (0 : Int) < 1000 by decide), div_ii (show (0 : Int) < 997 ∧ (997 : Int) < 1073741824 by decide), x_app3 hl', map_snoc, x_seq, x_seq1, x_seq2, x_seq3, x_seq4, x_nil, x_brk, x_cnt, x_if, x_if1, x_if2, x_set, x_set1, x_ret, x_ret1, x_retN, x_drop, x_drop1, x_ev, x_ev1, x_et, x_et1, x_ec, x_gn, x_ge, x_ge1, x_ge2, x_gv, x_gv1, x_gv2, x_gv3, x_op, x_op1, x_hop, x_hop1, x_hop2, x_tru, x_tru1, x_not, x_not1, x_and, x_and1, x_and2, x_or, x_or1, x_or2, x_yes, x_tup, x_tup1, x_lst, x_lst1, x_eif, x_eif1, x_eif2, x_notE, x_notE1, x_eand, x_eand1, x_eand2, x_eor, x_eor1, x_eor2, x_call, x_call1, x_call2, x_put1, x_put2, x_put3, x_body, x_body1, x_body2, x_app, x_app1, x_app2, x_app3, x_pt, x_pt1, x_pt2, x_pt3, x_pt4, x_pt5, x_ie, x_ie1, x_items1, x_items2, x_rg1, x_rg11, x_rg2, x_rg21, x_zip, x_zip1, x_zip2, x_gs, x_gt, x_gc, x_gl, x_asg, x_asg1, x_for, x_for1, x_turn, x_next1, x_next2, x_next3, x_next4, x_tn, x_tn1, x_tn2, x_tn3, x_tn4, x_lc, x_lc1, x_lc2, x_ld, x_ld1, x_w1, x_w2, x_tg, x_tg1, x_tg2, x_sm, x_sm1, x_sm2, x_al, x_al1, x_ay, x_ay1, x_bl, x_bk1, x_bk2, x_jn, x_pr1, x_pr2, Option.bind_some, Option.bind_none, Option.map_some, Option.map_none, List.map_cons, List.map_nil, List.replicate_succ, List.replicate_zero, List.cons_append, List.nil_append, List.append_nil, List.getElem?_cons_zero, List.getElem?_cons_succ, List.set_cons_zero, List.set_cons_succ, List.length_cons, List.length_nil, Nat.zero_add, Nat.reduceAdd, Nat.reduceLeDiff, Nat.reduceLT]
theorem ok62_60 : ok62 60 = true := by decide
theorem ok62_12 : ok62 12 = true := by decide
theorem upTo_mem {lo hi : Int} {d : D} (h : d ∈ upTo lo hi) : ∃ k : Int, d = .int k ∧ lo ≤ k ∧ k < hi := by
  unfold upTo at h
  obtain ⟨n, hn, rfl⟩ := List.mem_map.mp h
  have := List.mem_range.mp hn
  exact ⟨_, rfl, by omega, by omega⟩
theorem upTo_len (lo hi : Int) : (upTo lo hi).length = (hi - lo).toNat := by simp [upTo]

theorem big_loop (a b c : D) (k se : Option D) : ∀ (ds : List D) (xs : List Int) (ce : Int) (tu : Option D), xs.length + ds.length ≤ 16777216 → ∃ ys ce' tu', forL (gSet 6) Tbig ds (digE a b c xs k (some (.int ce)) tu se) = some (.nx (digE a b c ys k (some (.int ce')) tu' se)) ∧ ys.length ≤ xs.length + ds.length
  | [], xs, ce, tu, _ => ⟨xs, ce, tu, rfl, by simp⟩
  | d :: ds, xs, ce, tu, hl => by
    rw [List.length_cons] at hl
    obtain ⟨ys, ce', e, h1⟩ := big_turn a b c k (some d) se xs ce (by omega)
    obtain ⟨zs, ce2, tu2, e2, h2⟩ := big_loop a b c k se ds ys ce' (some d) (by omega)
    refine ⟨zs, ce2, tu2, ?_, by rw [List.length_cons]; omega⟩
    rw [forL_cons]
    have e0 : gSet 6 d (digE a b c xs k (some (.int ce)) tu se) = some (digE a b c xs k (some (.int ce)) (some d) se) := rfl
    rw [e0, Option.bind_some, x_turn, e, Option.bind_some, x_next1]
    exact e2
theorem sml_loop (a b c : D) (k ce : Option D) : ∀ (ds : List D) (_ : ∀ d ∈ ds, ∃ t : Int, d = .int t) (xs : List Int) (s : Int) (tu : Option D), 0 ≤ s ∧ s < 2147483647 → xs.length + ds.length ≤ 16777216 → ∃ ys se' tu', forL (gSet 6) Tsml ds (digE a b c xs k ce tu (some (.int s))) = some (.nx (digE a b c ys k ce tu' se')) ∧ ys.length ≤ xs.length + ds.length
  | [], _, xs, s, tu, _, _ => ⟨xs, _, tu, rfl, by simp⟩
  | d :: ds, hd, xs, s, tu, hs, hl => by
    rw [List.length_cons] at hl
    obtain ⟨t, rfl⟩ := hd d List.mem_cons_self
    obtain ⟨ys, s', e, h1, h3⟩ := sml_turn a b c k ce xs t s hs (by omega)
    obtain ⟨zs, se2, tu2, e2, h2⟩ := sml_loop a b c k ce ds (fun d h => hd d (List.mem_cons_of_mem _ h)) ys s' (some (.int t)) h3 (by omega)
    refine ⟨zs, se2, tu2, ?_, by rw [List.length_cons]; omega⟩
    rw [forL_cons]
    have e0 : gSet 6 (.int t) (digE a b c xs k ce tu (some (.int s))) = some (digE a b c xs k ce (some (.int t)) (some (.int s))) := rfl
    rw [e0, Option.bind_some, x_turn, e, Option.bind_some, x_next1]
    exact e2
theorem pow_1018 : powI [.int 10, .int 18] = some (.int 1000000000000000000) := by
  show (if (0 : Int) ≤ 18 ∧ (18 : Int) ≤ 1000000 ∧ (10 : Int).natAbs < 2 ^ 64 then some (PyData.int ((10 : Int) ^ (18 : Int).toNat)) else none) = _
  rw [if_pos (by decide)]
  rfl
theorem upTo60 : (upTo 0 60).length = 60 := by rw [upTo_len]; rfl
theorem upTo12 : (upTo 0 12).length = 12 := by rw [upTo_len]; rfl
def TdigA : Sv := (aIf (hOp geI ((gV 5) ((gE (fOp powI ((gE (eC (.int 10))) ((gE (eC (.int 18))) gN)))) gN))) (aSeq (aFor (iRg1 ((gE (eC (.int 60))) gN)) (gSet 6) Tbig)
    aNil) (aSeq (aSet 7 (fOp modI ((gE (fOp intI ((gE (fOp addI ((gE (fOp addI ((gE (fOp mulI ((gV 5) ((gE (eC (.int 48271))) gN)))) ((gE (fOp mulI ((gV 4) ((gE (eC (.int 69621))) gN)))) gN)))) ((gE (eC (.int 11))) gN)))) gN))) ((gE (eC (.int 2147483647))) gN))))
    (aSeq (aFor (iRg1 ((gE (eC (.int 12))) gN)) (gSet 6) Tsml)
    aNil)))
theorem mod_in (z : Int) : 0 ≤ z % 2147483647 ∧ z % 2147483647 < 2147483647 := ⟨Int.emod_nonneg _ (by decide), Int.emod_lt_of_pos _ (by decide)⟩
theorem dig_tail (a b c : D) (k : Int) (tu se : Option D) (xs : List Int) (ce : Int) (hl : xs.length + 60 ≤ 16777216) : ∃ ys k' ce' tu' se', TdigA (digE a b c xs (some (.int k)) (some (.int ce)) tu se) = some (.nx (digE a b c ys k' ce' tu' se')) ∧ ys.length ≤ xs.length + 60 := by
  by_cases h : (1000000000000000000 : Int) ≤ ce
  · obtain ⟨ys, ce', tu', e, h1⟩ := big_loop a b c (some (.int k)) se (upTo 0 60) xs ce tu (by rw [upTo60]; omega)
    refine ⟨ys, some (.int k), some (.int ce'), tu', se, ?_, by rw [upTo60] at h1; omega⟩
    have hd : decide ((1000000000000000000 : Int) ≤ ce) = true := decide_eq_true h
    unfold digE at e ⊢
    simp only [TdigA, pow_1018, ge_ii, hd, x_rg11 ok62_60, e, x_seq, x_seq1, x_seq2, x_seq3, x_seq4, x_nil, x_brk, x_cnt, x_if, x_if1, x_if2, x_set, x_set1, x_ret, x_ret1, x_retN, x_drop, x_drop1, x_ev, x_ev1, x_et, x_et1, x_ec, x_gn, x_ge, x_ge1, x_ge2, x_gv, x_gv1, x_gv2, x_gv3, x_op, x_op1, x_hop, x_hop1, x_hop2, x_tru, x_tru1, x_not, x_not1, x_and, x_and1, x_and2, x_or, x_or1, x_or2, x_yes, x_tup, x_tup1, x_lst, x_lst1, x_eif, x_eif1, x_eif2, x_notE, x_notE1, x_eand, x_eand1, x_eand2, x_eor, x_eor1, x_eor2, x_call, x_call1, x_call2, x_put1, x_put2, x_put3, x_body, x_body1, x_body2, x_app, x_app1, x_app2, x_app3, x_pt, x_pt1, x_pt2, x_pt3, x_pt4, x_pt5, x_ie, x_ie1, x_items1, x_items2, x_rg1, x_rg11, x_rg2, x_rg21, x_zip, x_zip1, x_zip2, x_gs, x_gt, x_gc, x_gl, x_asg, x_asg1, x_for, x_for1, x_turn, x_next1, x_next2, x_next3, x_next4, x_tn, x_tn1, x_tn2, x_tn3, x_tn4, x_lc, x_lc1, x_lc2, x_ld, x_ld1, x_w1, x_w2, x_tg, x_tg1, x_tg2, x_sm, x_sm1, x_sm2, x_al, x_al1, x_ay, x_ay1, x_bl, x_bk1, x_bk2, x_jn, x_pr1, x_pr2, Option.bind_some, Option.bind_none, Option.map_some, Option.map_none, List.map_cons, List.map_nil, List.replicate_succ, List.replicate_zero, List.cons_append, List.nil_append, List.append_nil, List.getElem?_cons_zero, List.getElem?_cons_succ, List.set_cons_zero, List.set_cons_succ, List.length_cons, List.length_nil, Nat.zero_add, Nat.reduceAdd, Nat.reduceLeDiff, Nat.reduceLT]
  · obtain ⟨ys, se', tu', e, h1⟩ := sml_loop a b c (some (.int k)) (some (.int ce)) (upTo 0 12) (fun d hd => by obtain ⟨t, rfl, _⟩ := upTo_mem hd; exact ⟨t, rfl⟩) xs ((ce * 48271 + k * 69621 + 11) % 2147483647) tu (mod_in _) (by rw [upTo12]; omega)
    refine ⟨ys, some (.int k), some (.int ce), tu', se', ?_, by rw [upTo12] at h1; omega⟩
    have hd : decide ((1000000000000000000 : Int) ≤ ce) = false := decide_eq_false h
    unfold digE at e ⊢
    simp only [TdigA, pow_1018, ge_ii, hd, int_i, add_ii, mul_ii (i := ce) (j := 48271) (.inr (by decide)), mul_ii (i := k) (j := 69621) (.inr (by decide)), mod_ii (show (0 : Int) < 2147483647 by decide), x_rg11 ok62_12, e, x_seq, x_seq1, x_seq2, x_seq3, x_seq4, x_nil, x_brk, x_cnt, x_if, x_if1, x_if2, x_set, x_set1, x_ret, x_ret1, x_retN, x_drop, x_drop1, x_ev, x_ev1, x_et, x_et1, x_ec, x_gn, x_ge, x_ge1, x_ge2, x_gv, x_gv1, x_gv2, x_gv3, x_op, x_op1, x_hop, x_hop1, x_hop2, x_tru, x_tru1, x_not, x_not1, x_and, x_and1, x_and2, x_or, x_or1, x_or2, x_yes, x_tup, x_tup1, x_lst, x_lst1, x_eif, x_eif1, x_eif2, x_notE, x_notE1, x_eand, x_eand1, x_eand2, x_eor, x_eor1, x_eor2, x_call, x_call1, x_call2, x_put1, x_put2, x_put3, x_body, x_body1, x_body2, x_app, x_app1, x_app2, x_app3, x_pt, x_pt1, x_pt2, x_pt3, x_pt4, x_pt5, x_ie, x_ie1, x_items1, x_items2, x_rg1, x_rg11, x_rg2, x_rg21, x_zip, x_zip1, x_zip2, x_gs, x_gt, x_gc, x_gl, x_asg, x_asg1, x_for, x_for1, x_turn, x_next1, x_next2, x_next3, x_next4, x_tn, x_tn1, x_tn2, x_tn3, x_tn4, x_lc, x_lc1, x_lc2, x_ld, x_ld1, x_w1, x_w2, x_tg, x_tg1, x_tg2, x_sm, x_sm1, x_sm2, x_al, x_al1, x_ay, x_ay1, x_bl, x_bk1, x_bk2, x_jn, x_pr1, x_pr2, Option.bind_some, Option.bind_none, Option.map_some, Option.map_none, List.map_cons, List.map_nil, List.replicate_succ, List.replicate_zero, List.cons_append, List.nil_append, List.append_nil, List.getElem?_cons_zero, List.getElem?_cons_succ, List.set_cons_zero, List.set_cons_succ, List.length_cons, List.length_nil, Nat.zero_add, Nat.reduceAdd, Nat.reduceLeDiff, Nat.reduceLT]
theorem dig_turn (ns : List Int) (b c : D) (k : Nat) (ce tu se : Option D) (xs : List Int) (hl : xs.length + 60 ≤ 16777216) : ∃ ys k' ce' tu' se', Tdig (digE (scrD ns) b c xs (some (.int (k : Int))) ce tu se) = some (.nx (digE (scrD ns) b c ys k' ce' tu' se')) ∧ ys.length ≤ xs.length + 60 := by
  by_cases h : ns[k]?.getD 0 < 0
  · obtain ⟨ys, k', ce', tu', se', e, h1⟩ := dig_tail (scrD ns) b c (k : Int) tu se xs (1 - 2 * ns[k]?.getD 0) hl
    refine ⟨ys, k', ce', tu', se', ?_, h1⟩
    have hd : decide (ns[k]?.getD 0 < 0) = true := decide_eq_true h
    unfold digE at e ⊢
    show (aSeq _ (aSeq _ (aSeq TdigA aNil))) _ = _
    simp only [cell_ok, lt_ii, hd, sub_ii, mul_ii (i := 2) (j := ns[k]?.getD 0) (.inl (by decide)), e, x_seq, x_seq1, x_seq2, x_seq3, x_seq4, x_nil, x_brk, x_cnt, x_if, x_if1, x_if2, x_set, x_set1, x_ret, x_ret1, x_retN, x_drop, x_drop1, x_ev, x_ev1, x_et, x_et1, x_ec, x_gn, x_ge, x_ge1, x_ge2, x_gv, x_gv1, x_gv2, x_gv3, x_op, x_op1, x_hop, x_hop1, x_hop2, x_tru, x_tru1, x_not, x_not1, x_and, x_and1, x_and2, x_or, x_or1, x_or2, x_yes, x_tup, x_tup1, x_lst, x_lst1, x_eif, x_eif1, x_eif2, x_notE, x_notE1, x_eand, x_eand1, x_eand2, x_eor, x_eor1, x_eor2, x_call, x_call1, x_call2, x_put1, x_put2, x_put3, x_body, x_body1, x_body2, x_app, x_app1, x_app2, x_app3, x_pt, x_pt1, x_pt2, x_pt3, x_pt4, x_pt5, x_ie, x_ie1, x_items1, x_items2, x_rg1, x_rg11, x_rg2, x_rg21, x_zip, x_zip1, x_zip2, x_gs, x_gt, x_gc, x_gl, x_asg, x_asg1, x_for, x_for1, x_turn, x_next1, x_next2, x_next3, x_next4, x_tn, x_tn1, x_tn2, x_tn3, x_tn4, x_lc, x_lc1, x_lc2, x_ld, x_ld1, x_w1, x_w2, x_tg, x_tg1, x_tg2, x_sm, x_sm1, x_sm2, x_al, x_al1, x_ay, x_ay1, x_bl, x_bk1, x_bk2, x_jn, x_pr1, x_pr2, Option.bind_some, Option.bind_none, Option.map_some, Option.map_none, List.map_cons, List.map_nil, List.replicate_succ, List.replicate_zero, List.cons_append, List.nil_append, List.append_nil, List.getElem?_cons_zero, List.getElem?_cons_succ, List.set_cons_zero, List.set_cons_succ, List.length_cons, List.length_nil, Nat.zero_add, Nat.reduceAdd, Nat.reduceLeDiff, Nat.reduceLT]
  · obtain ⟨ys, k', ce', tu', se', e, h1⟩ := dig_tail (scrD ns) b c (k : Int) tu se xs (ns[k]?.getD 0) hl
    refine ⟨ys, k', ce', tu', se', ?_, h1⟩
    have hd : decide (ns[k]?.getD 0 < 0) = false := decide_eq_false h
    unfold digE at e ⊢
    show (aSeq _ (aSeq _ (aSeq TdigA aNil))) _ = _
    simp only [cell_ok, lt_ii, hd, e, x_seq, x_seq1, x_seq2, x_seq3, x_seq4, x_nil, x_brk, x_cnt, x_if, x_if1, x_if2, x_set, x_set1, x_ret, x_ret1, x_retN, x_drop, x_drop1, x_ev, x_ev1, x_et, x_et1, x_ec, x_gn, x_ge, x_ge1, x_ge2, x_gv, x_gv1, x_gv2, x_gv3, x_op, x_op1, x_hop, x_hop1, x_hop2, x_tru, x_tru1, x_not, x_not1, x_and, x_and1, x_and2, x_or, x_or1, x_or2, x_yes, x_tup, x_tup1, x_lst, x_lst1, x_eif, x_eif1, x_eif2, x_notE, x_notE1, x_eand, x_eand1, x_eand2, x_eor, x_eor1, x_eor2, x_call, x_call1, x_call2, x_put1, x_put2, x_put3, x_body, x_body1, x_body2, x_app, x_app1, x_app2, x_app3, x_pt, x_pt1, x_pt2, x_pt3, x_pt4, x_pt5, x_ie, x_ie1, x_items1, x_items2, x_rg1, x_rg11, x_rg2, x_rg21, x_zip, x_zip1, x_zip2, x_gs, x_gt, x_gc, x_gl, x_asg, x_asg1, x_for, x_for1, x_turn, x_next1, x_next2, x_next3, x_next4, x_tn, x_tn1, x_tn2, x_tn3, x_tn4, x_lc, x_lc1, x_lc2, x_ld, x_ld1, x_w1, x_w2, x_tg, x_tg1, x_tg2, x_sm, x_sm1, x_sm2, x_al, x_al1, x_ay, x_ay1, x_bl, x_bk1, x_bk2, x_jn, x_pr1, x_pr2, Option.bind_some, Option.bind_none, Option.map_some, Option.map_none, List.map_cons, List.map_nil, List.replicate_succ, List.replicate_zero, List.cons_append, List.nil_append, List.append_nil, List.getElem?_cons_zero, List.getElem?_cons_succ, List.set_cons_zero, List.set_cons_succ, List.length_cons, List.length_nil, Nat.zero_add, Nat.reduceAdd, Nat.reduceLeDiff, Nat.reduceLT]
theorem dig_loop (ns : List Int) (b c : D) : ∀ (ds : List D) (_ : ∀ d ∈ ds, ∃ k : Nat, d = .int (k : Int)) (xs : List Int) (k ce tu se : Option D), xs.length + 60 * ds.length ≤ 16777216 → ∃ ys k' ce' tu' se', forL (gSet 4) Tdig ds (digE (scrD ns) b c xs k ce tu se) = some (.nx (digE (scrD ns) b c ys k' ce' tu' se'))
  | [], _, xs, k, ce, tu, se, _ => ⟨xs, k, ce, tu, se, rfl⟩
  | d :: ds, hd, xs, k, ce, tu, se, hl => by
    rw [List.length_cons] at hl
    obtain ⟨n, rfl⟩ := hd d List.mem_cons_self
    obtain ⟨ys, k', ce', tu', se', e, h1⟩ := dig_turn ns b c n ce tu se xs (by omega)
    obtain ⟨zs, k2, ce2, tu2, se2, e2⟩ := dig_loop ns b c ds (fun d h => hd d (List.mem_cons_of_mem _ h)) ys k' ce' tu' se' (by omega)
    refine ⟨zs, k2, ce2, tu2, se2, ?_⟩
    rw [forL_cons]
    have e0 : gSet 4 (.int (n : Int)) (digE (scrD ns) b c xs k ce tu se) = some (digE (scrD ns) b c xs (some (.int (n : Int))) ce tu se) := rfl
    rw [e0, Option.bind_some, x_turn, e, Option.bind_some, x_next1]
    exact e2
theorem ok62_small {i : Int} (h : 0 ≤ i) (h2 : i ≤ 1000000) : ok62 i = true := by
  unfold ok62
  rw [Bool.and_eq_true]
  exact ⟨decide_eq_true (by omega), decide_eq_true (by omega)⟩
theorem dig_ok (ns : List Int) (i j : Int) (hi0 : 0 ≤ i) (hi : i ≤ 1000) (hj0 : 0 ≤ j) (hj : j ≤ 1000) : ∃ xs : List Int, Fdig [scrD ns, .int i, .int j] = some (.list (xs.map .int), [scrD ns, .int i, .int j]) := by
  have hu : ∀ d ∈ upTo i j, ∃ k : Nat, d = .int (k : Int) := fun d hd => by
    obtain ⟨k, rfl, h1, h2⟩ := upTo_mem hd
    exact ⟨k.toNat, by congr 1; omega⟩
  have hlen : ([] : List Int).length + 60 * (upTo i j).length ≤ 16777216 := by rw [upTo_len, List.length_nil]; omega
  obtain ⟨ys, k', ce', tu', se', e⟩ := dig_loop ns (.int i) (.int j) (upTo i j) hu [] none none none none hlen
  refine ⟨ys, ?_⟩
  have o1 : ok62 i = true := ok62_small hi0 (by omega)
  have o2 : ok62 j = true := ok62_small hj0 (by omega)
  unfold digE at e
  rw [List.map_nil] at e
  have z : kLs0 ([some (scrD ns), some (.int i), some (.int j), none, none, none, none, none], []) = some ([some (scrD ns), some (.int i), some (.int j), none, none, none, none, none], .list []) := rfl
  simp only [Fdig, Bdig, x_rg21 o1 o2, z, e, x_seq, x_seq1, x_seq2, x_seq3, x_seq4, x_nil, x_brk, x_cnt, x_if, x_if1, x_if2, x_set, x_set1, x_ret, x_ret1, x_retN, x_drop, x_drop1, x_ev, x_ev1, x_et, x_et1, x_ec, x_gn, x_ge, x_ge1, x_ge2, x_gv, x_gv1, x_gv2, x_gv3, x_op, x_op1, x_hop, x_hop1, x_hop2, x_tru, x_tru1, x_not, x_not1, x_and, x_and1, x_and2, x_or, x_or1, x_or2, x_yes, x_tup, x_tup1, x_lst, x_lst1, x_eif, x_eif1, x_eif2, x_notE, x_notE1, x_eand, x_eand1, x_eand2, x_eor, x_eor1, x_eor2, x_call, x_call1, x_call2, x_put1, x_put2, x_put3, x_body, x_body1, x_body2, x_app, x_app1, x_app2, x_app3, x_pt, x_pt1, x_pt2, x_pt3, x_pt4, x_pt5, x_ie, x_ie1, x_items1, x_items2, x_rg1, x_rg11, x_rg2, x_rg21, x_zip, x_zip1, x_zip2, x_gs, x_gt, x_gc, x_gl, x_asg, x_asg1, x_for, x_for1, x_turn, x_next1, x_next2, x_next3, x_next4, x_tn, x_tn1, x_tn2, x_tn3, x_tn4, x_lc, x_lc1, x_lc2, x_ld, x_ld1, x_w1, x_w2, x_tg, x_tg1, x_tg2, x_sm, x_sm1, x_sm2, x_al, x_al1, x_ay, x_ay1, x_bl, x_bk1, x_bk2, x_jn, x_pr1, x_pr2, Option.bind_some, Option.bind_none, Option.map_some, Option.map_none, List.map_cons, List.map_nil, List.replicate_succ, List.replicate_zero, List.cons_append, List.nil_append, List.append_nil, List.getElem?_cons_zero, List.getElem?_cons_succ, List.set_cons_zero, List.set_cons_succ, List.length_cons, List.length_nil, Nat.zero_add, Nat.reduceAdd, Nat.reduceLeDiff, Nat.reduceLT]
  rfl
/-- the box -/
def Bbox : Sv := (aSeq (aRet (eLst (gE (eCall [none, none, none] Fdig (gE (eV 0) (gE (eV 1) (gE (eV 2) gN)))) (gE (eC (.int 0)) gN))))
    aNil)
def Fbox : Fn := fBody (fun _ => .fz) 0 true Bbox
theorem box_ok (ns : List Int) (i j : Int) (hi0 : 0 ≤ i) (hi : i ≤ 1000) (hj0 : 0 ≤ j) (hj : j ≤ 1000) : ∃ b, Fbox [scrD ns, .int i, .int j] = some (b, [scrD ns, .int i, .int j]) ∧ IsBox b := by
  obtain ⟨xs, e⟩ := dig_ok ns i j hi0 hi hj0 hj
  refine ⟨BoxD xs 0, ?_, xs, 0, rfl⟩
  simp only [Fbox, Bbox, e, x_seq, x_seq1, x_seq2, x_seq3, x_seq4, x_nil, x_brk, x_cnt, x_if, x_if1, x_if2, x_set, x_set1, x_ret, x_ret1, x_retN, x_drop, x_drop1, x_ev, x_ev1, x_et, x_et1, x_ec, x_gn, x_ge, x_ge1, x_ge2, x_gv, x_gv1, x_gv2, x_gv3, x_op, x_op1, x_hop, x_hop1, x_hop2, x_tru, x_tru1, x_not, x_not1, x_and, x_and1, x_and2, x_or, x_or1, x_or2, x_yes, x_tup, x_tup1, x_lst, x_lst1, x_eif, x_eif1, x_eif2, x_notE, x_notE1, x_eand, x_eand1, x_eand2, x_eor, x_eor1, x_eor2, x_call, x_call1, x_call2, x_put1, x_put2, x_put3, x_body, x_body1, x_body2, x_app, x_app1, x_app2, x_app3, x_pt, x_pt1, x_pt2, x_pt3, x_pt4, x_pt5, x_ie, x_ie1, x_items1, x_items2, x_rg1, x_rg11, x_rg2, x_rg21, x_zip, x_zip1, x_zip2, x_gs, x_gt, x_gc, x_gl, x_asg, x_asg1, x_for, x_for1, x_turn, x_next1, x_next2, x_next3, x_next4, x_tn, x_tn1, x_tn2, x_tn3, x_tn4, x_lc, x_lc1, x_lc2, x_ld, x_ld1, x_w1, x_w2, x_tg, x_tg1, x_tg2, x_sm, x_sm1, x_sm2, x_al, x_al1, x_ay, x_ay1, x_bl, x_bk1, x_bk2, x_jn, x_pr1, x_pr2, Option.bind_some, Option.bind_none, Option.map_some, Option.map_none, List.map_cons, List.map_nil, List.replicate_succ, List.replicate_zero, List.cons_append, List.nil_append, List.append_nil, List.getElem?_cons_zero, List.getElem?_cons_succ, List.set_cons_zero, List.set_cons_succ, List.length_cons, List.length_nil, Nat.zero_add, Nat.reduceAdd, Nat.reduceLeDiff, Nat.reduceLT]
  rfl
end Sx
/-! L1: the laws' own lists of tuples. -/
namespace Sx
open PySem PySem.Spec PyProof.Rows L2

/-- all rows of p numbers below m, rising -/
def tups (m : Nat) : Nat → List (List Nat)
  | 0 => [[]]
  | p + 1 => (tups m p).flatMap fun r => (List.range m).map fun x => r ++ [x]
def rowD (r : List Nat) : D := .tuple (r.map fun (n : Nat) => .int (n : Int))
def rowsD (l : List (List Nat)) : List D := l.map rowD
theorem tups_len (m : Nat) : ∀ p, (tups m p).length = m ^ p
  | 0 => rfl
  | p + 1 => by
    rw [tups, List.length_flatMap]
    have : ∀ l : List (List Nat), (List.map (fun r => ((List.range m).map fun x => r ++ [x]).length) l).sum = l.length * m := fun l => by
      induction l with
      | nil => simp
      | cons a l ih =>
        rw [List.map_cons, List.sum_cons, ih, List.length_cons, Nat.succ_mul, List.length_map, List.length_range, Nat.add_comm]
    rw [this, tups_len m p, Nat.pow_succ]
theorem tups_mem {m : Nat} : ∀ {p : Nat} {r : List Nat}, r ∈ tups m p → r.length = p ∧ ∀ x ∈ r, x < m
  | 0, r, h => by
    have : r = [] := by simpa [tups] using h
    subst this
    exact ⟨rfl, fun x hx => by simp at hx⟩
  | p + 1, r, h => by
    rw [tups] at h
    obtain ⟨q, hq, h⟩ := List.mem_flatMap.mp h
    obtain ⟨x, hx, rfl⟩ := List.mem_map.mp h
    obtain ⟨h1, h2⟩ := tups_mem hq
    refine ⟨by simp [h1], fun y hy => ?_⟩
    rcases List.mem_append.mp hy with hy | hy
    · exact h2 y hy
    · rw [List.mem_singleton.mp hy]; exact List.mem_range.mp hx
theorem upTo_nat (m : Nat) : upTo 0 (m : Int) = (List.range m).map fun (k : Nat) => (.int (k : Int) : D) := by
  unfold upTo
  simp
def Tti : Sv := (aSeq (aSet 4 (fOp addI ((gV 4) ((gE (eLc (iRg1 ((gV 0) gN)) (gTurn (gSet 6) hYes (fOp addI ((gV 5) ((gE (eTup (gE (eV 6) gN))) gN)))) [6])) gN))))
    aNil)
def Tto : Sv := (aSeq (aSet 4 (eLst gN))
    (aSeq (aFor (iE (eV 2)) (gSet 5) Tti)
    (aSeq (aSet 2 (eV 4))
    aNil)))
def Btup : Sv := (aSeq (aSet 2 (eLst (gE (eTup gN) gN)))
    (aSeq (aFor (iRg1 ((gV 1) gN)) (gSet 3) Tto)
    (aSeq (aRet (eV 2))
    aNil)))
def Ftup : Fn := fBody (fun _ => .fz) 5 false Btup
abbrev nI (m : Nat) : D := .int (m : Int)
theorem add_ll {a b : List D} (h : a.length + b.length ≤ 16777216) : addI [.list a, .list b] = some (.list (a ++ b)) := if_pos h
theorem add_tt {a b : List D} (h : a.length + b.length ≤ 16777216) : addI [.tuple a, .tuple b] = some (.tuple (a ++ b)) := if_pos h
theorem okN {m : Nat} (h : m ≤ 1000000) : ok62 (m : Int) = true := ok62_small (by omega) (by omega)
theorem tup_lc (m : Nat) (mi : Int) (hmi : mi = (m : Int)) (hm : m ≤ 1000000) (p rows k lon x : Option D) (r : List Nat) (hr : r.length ≤ 1000) :
    eLc (iRg1 ((gV 0) gN)) (gTurn (gSet 6) hYes (fOp addI ((gV 5) ((gE (eTup (gE (eV 6) gN))) gN)))) [6] [some (.int mi), p, rows, k, lon, some (rowD r), x] = some ([some (.int mi), p, rows, k, lon, some (rowD r), x], .list (rowsD ((List.range m).map fun x => r ++ [x]))) := by
  have ok : ok62 mi = true := by rw [hmi]; exact okN hm
  have hu : upTo 0 mi = (List.range m).map fun (k : Nat) => (.int (k : Int) : D) := by rw [hmi]; exact upTo_nat m
  clear hmi
  have key : lcL [6] (gTurn (gSet 6) hYes (fOp addI ((gV 5) ((gE (eTup (gE (eV 6) gN))) gN)))) (upTo 0 mi) [some (.int mi), p, rows, k, lon, some (rowD r), none] = some ([some (.int mi), p, rows, k, lon, some (rowD r), none], (upTo 0 mi).filterMap fun d => (addI [rowD r, .tuple [d]])) := by
    refine lcL_same fun d hd => ⟨[some (.int mi), p, rows, k, lon, some (rowD r), some d], ?_, rfl⟩
    have e : addI [rowD r, .tuple [d]] = some (.tuple ((r.map fun (n : Nat) => .int (n : Int)) ++ [d])) := add_tt (by rw [List.length_map, List.length_singleton]; omega)
    simp only [e, x_seq, x_seq1, x_seq2, x_seq3, x_seq4, x_nil, x_brk, x_cnt, x_if, x_if1, x_if2, x_set, x_set1, x_ret, x_ret1, x_retN, x_drop, x_drop1, x_ev, x_ev1, x_et, x_et1, x_ec, x_gn, x_ge, x_ge1, x_ge2, x_gv, x_gv1, x_gv2, x_gv3, x_op, x_op1, x_hop, x_hop1, x_hop2, x_tru, x_tru1, x_not, x_not1, x_and, x_and1, x_and2, x_or, x_or1, x_or2, x_yes, x_tup, x_tup1, x_lst, x_lst1, x_eif, x_eif1, x_eif2, x_notE, x_notE1, x_eand, x_eand1, x_eand2, x_eor, x_eor1, x_eor2, x_call, x_call1, x_call2, x_put1, x_put2, x_put3, x_body, x_body1, x_body2, x_app, x_app1, x_app2, x_app3, x_pt, x_pt1, x_pt2, x_pt3, x_pt4, x_pt5, x_ie, x_ie1, x_items1, x_items2, x_rg1, x_rg11, x_rg2, x_rg21, x_zip, x_zip1, x_zip2, x_gs, x_gt, x_gc, x_gl, x_asg, x_asg1, x_for, x_for1, x_turn, x_next1, x_next2, x_next3, x_next4, x_tn, x_tn1, x_tn2, x_tn3, x_tn4, x_lc, x_lc1, x_lc2, x_ld, x_ld1, x_w1, x_w2, x_tg, x_tg1, x_tg2, x_sm, x_sm1, x_sm2, x_al, x_al1, x_ay, x_ay1, x_bl, x_bk1, x_bk2, x_jn, x_pr1, x_pr2, Option.bind_some, Option.bind_none, Option.map_some, Option.map_none, List.map_cons, List.map_nil, List.replicate_succ, List.replicate_zero, List.cons_append, List.nil_append, List.append_nil, List.getElem?_cons_zero, List.getElem?_cons_succ, List.set_cons_zero, List.set_cons_succ, List.length_cons, List.length_nil, Nat.zero_add, Nat.reduceAdd, Nat.reduceLeDiff, Nat.reduceLT]
  have e2 : ((upTo 0 mi).filterMap fun d => (addI [rowD r, .tuple [d]])) = rowsD ((List.range m).map fun x => r ++ [x]) := by
    rw [hu, List.filterMap_map]
    unfold rowsD
    rw [List.map_map, ← List.filterMap_eq_map]
    congr 1
    funext x
    show addI [rowD r, .tuple [.int (x : Int)]] = some (rowD (r ++ [x]))
    unfold rowD
    rw [add_tt (by rw [List.length_map, List.length_singleton]; omega)]
    simp
  have hl : (rowsD ((List.range m).map fun x => r ++ [x])).length ≤ 16777216 := by
    unfold rowsD
    rw [List.length_map, List.length_map, List.length_range]
    omega
  rw [e2] at key
  generalize rowsD ((List.range m).map fun x => r ++ [x]) = out at key hl ⊢
  simp only [x_rg11 ok, key, x_lc2 hl, x_seq, x_seq1, x_seq2, x_seq3, x_seq4, x_nil, x_brk, x_cnt, x_if, x_if1, x_if2, x_set, x_set1, x_ret, x_ret1, x_retN, x_drop, x_drop1, x_ev, x_ev1, x_et, x_et1, x_ec, x_gn, x_ge, x_ge1, x_ge2, x_gv, x_gv1, x_gv2, x_gv3, x_op, x_op1, x_hop, x_hop1, x_hop2, x_tru, x_tru1, x_not, x_not1, x_and, x_and1, x_and2, x_or, x_or1, x_or2, x_yes, x_tup, x_tup1, x_lst, x_lst1, x_eif, x_eif1, x_eif2, x_notE, x_notE1, x_eand, x_eand1, x_eand2, x_eor, x_eor1, x_eor2, x_call, x_call1, x_call2, x_put1, x_put2, x_put3, x_body, x_body1, x_body2, x_app, x_app1, x_app2, x_app3, x_pt, x_pt1, x_pt2, x_pt3, x_pt4, x_pt5, x_ie, x_ie1, x_items1, x_items2, x_rg1, x_rg11, x_rg2, x_rg21, x_zip, x_zip1, x_zip2, x_gs, x_gt, x_gc, x_gl, x_asg, x_asg1, x_for, x_for1, x_turn, x_next1, x_next2, x_next3, x_next4, x_tn, x_tn1, x_tn2, x_tn3, x_tn4, x_lc, x_lc1, x_lc2, x_ld, x_ld1, x_w1, x_w2, x_tg, x_tg1, x_tg2, x_sm, x_sm1, x_sm2, x_al, x_al1, x_ay, x_ay1, x_bl, x_bk1, x_bk2, x_jn, x_pr1, x_pr2, Option.bind_some, Option.bind_none, Option.map_some, Option.map_none, List.map_cons, List.map_nil, List.replicate_succ, List.replicate_zero, List.cons_append, List.nil_append, List.append_nil, List.getElem?_cons_zero, List.getElem?_cons_succ, List.set_cons_zero, List.set_cons_succ, List.length_cons, List.length_nil, Nat.zero_add, Nat.reduceAdd, Nat.reduceLeDiff, Nat.reduceLT]
theorem tup_in (m : Nat) (mi : Int) (hmi : mi = (m : Int)) (hm : m ≤ 1000000) (p rows k x : Option D) : ∀ (l acc : List (List Nat)) (r0 : Option D), (∀ r ∈ l, r.length ≤ 1000) → (acc.length + l.length * m ≤ 16777216) →
    ∃ r1, forL (gSet 5) Tti (rowsD l) [some (.int mi), p, rows, k, some (.list (rowsD acc)), r0, x] = some (.nx [some (.int mi), p, rows, k, some (.list (rowsD (acc ++ l.flatMap fun r => (List.range m).map fun x => r ++ [x]))), r1, x])
  | [], acc, r0, _, _ => ⟨r0, by rw [List.flatMap_nil, List.append_nil]; rfl⟩
  | r :: l, acc, r0, hr, hl => by
    have hs : (acc ++ (List.range m).map fun x => r ++ [x]).length + l.length * m ≤ 16777216 := by
      rw [List.length_append, List.length_map, List.length_range]
      rw [List.length_cons, Nat.succ_mul] at hl
      omega
    obtain ⟨r1, e⟩ := tup_in m mi hmi hm p rows k x l (acc ++ (List.range m).map fun x => r ++ [x]) (some (rowD r)) (fun q hq => hr q (List.mem_cons_of_mem _ hq)) hs
    refine ⟨r1, ?_⟩
    have ea : addI [.list (rowsD acc), .list (rowsD ((List.range m).map fun x => r ++ [x]))] = some (.list (rowsD (acc ++ (List.range m).map fun x => r ++ [x]))) := by
      rw [add_ll (by
        unfold rowsD
        rw [List.length_map, List.length_map, List.length_map, List.length_range]
        rw [List.length_append, List.length_map, List.length_range] at hs
        omega)]
      unfold rowsD
      rw [List.map_append]
    have el := tup_lc m mi hmi hm p rows k (some (.list (rowsD acc))) x r (hr r List.mem_cons_self)
    show forL (gSet 5) Tti (rowD r :: rowsD l) _ = _
    rw [forL_cons, List.flatMap_cons, ← List.append_assoc]
    simp only [Tti, el, ea, x_seq, x_seq1, x_seq2, x_seq3, x_seq4, x_nil, x_brk, x_cnt, x_if, x_if1, x_if2, x_set, x_set1, x_ret, x_ret1, x_retN, x_drop, x_drop1, x_ev, x_ev1, x_et, x_et1, x_ec, x_gn, x_ge, x_ge1, x_ge2, x_gv, x_gv1, x_gv2, x_gv3, x_op, x_op1, x_hop, x_hop1, x_hop2, x_tru, x_tru1, x_not, x_not1, x_and, x_and1, x_and2, x_or, x_or1, x_or2, x_yes, x_tup, x_tup1, x_lst, x_lst1, x_eif, x_eif1, x_eif2, x_notE, x_notE1, x_eand, x_eand1, x_eand2, x_eor, x_eor1, x_eor2, x_call, x_call1, x_call2, x_put1, x_put2, x_put3, x_body, x_body1, x_body2, x_app, x_app1, x_app2, x_app3, x_pt, x_pt1, x_pt2, x_pt3, x_pt4, x_pt5, x_ie, x_ie1, x_items1, x_items2, x_rg1, x_rg11, x_rg2, x_rg21, x_zip, x_zip1, x_zip2, x_gs, x_gt, x_gc, x_gl, x_asg, x_asg1, x_for, x_for1, x_turn, x_next1, x_next2, x_next3, x_next4, x_tn, x_tn1, x_tn2, x_tn3, x_tn4, x_lc, x_lc1, x_lc2, x_ld, x_ld1, x_w1, x_w2, x_tg, x_tg1, x_tg2, x_sm, x_sm1, x_sm2, x_al, x_al1, x_ay, x_ay1, x_bl, x_bk1, x_bk2, x_jn, x_pr1, x_pr2, Option.bind_some, Option.bind_none, Option.map_some, Option.map_none, List.map_cons, List.map_nil, List.replicate_succ, List.replicate_zero, List.cons_append, List.nil_append, List.append_nil, List.getElem?_cons_zero, List.getElem?_cons_succ, List.set_cons_zero, List.set_cons_succ, List.length_cons, List.length_nil, Nat.zero_add, Nat.reduceAdd, Nat.reduceLeDiff, Nat.reduceLT]
    exact e

theorem tups_pow_le {m k p : Nat} (hk : k ≤ p) (h : m ^ p ≤ 16777216) : m ^ k ≤ 16777216 := by
  by_cases hm : m = 0
  · subst hm
    cases k with
    | zero => simp
    | succ k => simp
  · exact Nat.le_trans (Nat.pow_le_pow_right (Nat.pos_of_ne_zero hm) hk) h
theorem tup_out (m : Nat) (mi : Int) (hmi : mi = (m : Int)) (hm : m ≤ 1000000) (p x : Option D) : ∀ (ds : List D) (q : Nat) (k lon r0 : Option D), q + ds.length ≤ 1000 → m ^ (q + ds.length) ≤ 16777216 →
    ∃ k' lon' r', forL (gSet 3) Tto ds [some (.int mi), p, some (.list (rowsD (tups m q))), k, lon, r0, x] = some (.nx [some (.int mi), p, some (.list (rowsD (tups m (q + ds.length)))), k', lon', r', x])
  | [], q, k, lon, r0, _, _ => ⟨k, lon, r0, rfl⟩
  | d :: ds, q, k, lon, r0, hq, hl => by
    rw [List.length_cons] at hq hl
    have h1 : (tups m q).length * m ≤ 16777216 := by
      rw [tups_len, ← Nat.pow_succ]
      exact tups_pow_le (p := q + (ds.length + 1)) (by omega) hl
    obtain ⟨r1, e⟩ := tup_in m mi hmi hm p (some (.list (rowsD (tups m q)))) (some d) x (tups m q) [] r0 (fun r hr => by rw [(tups_mem hr).1]; omega) (by rw [List.length_nil]; omega)
    have e3 : ([] : List (List Nat)) ++ (tups m q).flatMap (fun r => (List.range m).map fun x => r ++ [x]) = tups m (q + 1) := rfl
    rw [e3] at e
    have e4 : q + 1 + ds.length = q + (ds.length + 1) := by omega
    obtain ⟨k', lon', r', e5⟩ := tup_out m mi hmi hm p x ds (q + 1) (some d) (some (.list (rowsD (tups m (q + 1))))) r1 (by omega) (by rw [e4]; exact hl)
    refine ⟨k', lon', r', ?_⟩
    rw [List.length_cons, ← e4, ← e5, forL_cons]
    have e6 : rowsD [] = [] := rfl
    rw [e6] at e
    generalize rowsD (tups m (q + 1)) = out at e ⊢
    generalize rowsD (tups m q) = inp at e ⊢
    simp only [Tto, e, x_seq, x_seq1, x_seq2, x_seq3, x_seq4, x_nil, x_brk, x_cnt, x_if, x_if1, x_if2, x_set, x_set1, x_ret, x_ret1, x_retN, x_drop, x_drop1, x_ev, x_ev1, x_et, x_et1, x_ec, x_gn, x_ge, x_ge1, x_ge2, x_gv, x_gv1, x_gv2, x_gv3, x_op, x_op1, x_hop, x_hop1, x_hop2, x_tru, x_tru1, x_not, x_not1, x_and, x_and1, x_and2, x_or, x_or1, x_or2, x_yes, x_tup, x_tup1, x_lst, x_lst1, x_eif, x_eif1, x_eif2, x_notE, x_notE1, x_eand, x_eand1, x_eand2, x_eor, x_eor1, x_eor2, x_call, x_call1, x_call2, x_put1, x_put2, x_put3, x_body, x_body1, x_body2, x_app, x_app1, x_app2, x_app3, x_pt, x_pt1, x_pt2, x_pt3, x_pt4, x_pt5, x_ie, x_ie1, x_items1, x_items2, x_rg1, x_rg11, x_rg2, x_rg21, x_zip, x_zip1, x_zip2, x_gs, x_gt, x_gc, x_gl, x_asg, x_asg1, x_for, x_for1, x_turn, x_next1, x_next2, x_next3, x_next4, x_tn, x_tn1, x_tn2, x_tn3, x_tn4, x_lc, x_lc1, x_lc2, x_ld, x_ld1, x_w1, x_w2, x_tg, x_tg1, x_tg2, x_sm, x_sm1, x_sm2, x_al, x_al1, x_ay, x_ay1, x_bl, x_bk1, x_bk2, x_jn, x_pr1, x_pr2, Option.bind_some, Option.bind_none, Option.map_some, Option.map_none, List.map_cons, List.map_nil, List.replicate_succ, List.replicate_zero, List.cons_append, List.nil_append, List.append_nil, List.getElem?_cons_zero, List.getElem?_cons_succ, List.set_cons_zero, List.set_cons_succ, List.length_cons, List.length_nil, Nat.zero_add, Nat.reduceAdd, Nat.reduceLeDiff, Nat.reduceLT]
theorem tup_ok (m p : Nat) (mi pi : Int) (hmi : mi = (m : Int)) (hpi : pi = (p : Int)) (hm : m ≤ 1000000) (hp : p ≤ 1000) (hl : m ^ p ≤ 16777216) : Ftup [.int mi, .int pi] = some (.list (rowsD (tups m p)), [.int mi, .int pi]) := by
  have okp : ok62 pi = true := by rw [hpi]; exact okN (by omega)
  have hu : (upTo 0 pi).length = p := by rw [upTo_len, hpi]; omega
  obtain ⟨k', lon', r', e⟩ := tup_out m mi hmi hm (some (.int pi)) none (upTo 0 pi) 0 none none none (by rw [hu]; omega) (by rw [hu, Nat.zero_add]; exact hl)
  rw [hu, Nat.zero_add] at e
  have e0 : rowsD (tups m 0) = [.tuple []] := rfl
  rw [e0] at e
  clear hu hpi hmi
  generalize rowsD (tups m p) = out at e ⊢
  simp only [Ftup, Btup, x_rg11 okp, e, x_seq, x_seq1, x_seq2, x_seq3, x_seq4, x_nil, x_brk, x_cnt, x_if, x_if1, x_if2, x_set, x_set1, x_ret, x_ret1, x_retN, x_drop, x_drop1, x_ev, x_ev1, x_et, x_et1, x_ec, x_gn, x_ge, x_ge1, x_ge2, x_gv, x_gv1, x_gv2, x_gv3, x_op, x_op1, x_hop, x_hop1, x_hop2, x_tru, x_tru1, x_not, x_not1, x_and, x_and1, x_and2, x_or, x_or1, x_or2, x_yes, x_tup, x_tup1, x_lst, x_lst1, x_eif, x_eif1, x_eif2, x_notE, x_notE1, x_eand, x_eand1, x_eand2, x_eor, x_eor1, x_eor2, x_call, x_call1, x_call2, x_put1, x_put2, x_put3, x_body, x_body1, x_body2, x_app, x_app1, x_app2, x_app3, x_pt, x_pt1, x_pt2, x_pt3, x_pt4, x_pt5, x_ie, x_ie1, x_items1, x_items2, x_rg1, x_rg11, x_rg2, x_rg21, x_zip, x_zip1, x_zip2, x_gs, x_gt, x_gc, x_gl, x_asg, x_asg1, x_for, x_for1, x_turn, x_next1, x_next2, x_next3, x_next4, x_tn, x_tn1, x_tn2, x_tn3, x_tn4, x_lc, x_lc1, x_lc2, x_ld, x_ld1, x_w1, x_w2, x_tg, x_tg1, x_tg2, x_sm, x_sm1, x_sm2, x_al, x_al1, x_ay, x_ay1, x_bl, x_bk1, x_bk2, x_jn, x_pr1, x_pr2, Option.bind_some, Option.bind_none, Option.map_some, Option.map_none, List.map_cons, List.map_nil, List.replicate_succ, List.replicate_zero, List.cons_append, List.nil_append, List.append_nil, List.getElem?_cons_zero, List.getElem?_cons_succ, List.set_cons_zero, List.set_cons_succ, List.length_cons, List.length_nil, Nat.zero_add, Nat.reduceAdd, Nat.reduceLeDiff, Nat.reduceLT]
  rfl
end Sx
/-! L2: the laws' own comparison; facts of operations. -/
namespace Sx
open PySem PySem.Spec PyProof.Rows L2

theorem eqOk_ii {i j : Int} : eqOk (.int i) (.int j) = true := by
  unfold eqOk
  simp only [PyData.plain, PyData.depth]
  rfl
theorem eqOk_ss {i j : Str} : eqOk (.str i) (.str j) = true := by
  unfold eqOk
  simp only [PyData.plain, PyData.depth]
  rfl
theorem eq_ii {i j : Int} : eqI [.int i, .int j] = some (.bool (decide (i = j))) := by
  unfold eqI
  dsimp only
  rw [if_pos eqOk_ii]
  simp only [PyData.eqv]
  rw [PySem.W.beq_decide]
theorem ne_ii {i j : Int} : neI [.int i, .int j] = some (.bool (!decide (i = j))) := by
  unfold neI
  dsimp only
  rw [if_pos eqOk_ii]
  simp only [PyData.eqv]
  rw [PySem.W.beq_decide]
theorem eq_ss {i j : Str} : eqI [.str i, .str j] = some (.bool (decide (i = j))) := by
  unfold eqI
  dsimp only
  rw [if_pos eqOk_ss]
  simp only [PyData.eqv]
  rw [PySem.W.beq_decide]
theorem isi_i {f : D → Bool} {i : Int} : isiI f [.int i] = some (.bool (f (.int i))) := rfl
theorem isi_s {f : D → Bool} {i : Str} : isiI f [.str i] = some (.bool (f (.str i))) := rfl
theorem isi_t {f : D → Bool} {i : List D} : isiI f [.tuple i] = some (.bool (f (.tuple i))) := rfl
def BsameT (self : Fn) : Sv := (aIf (hNot (hTru ((gE (eCall [none, none] self (gE (fOp ixA ((gV 0) ((gV 2) gN))) (gE (fOp ixA ((gV 1) ((gV 2) gN))) gN)))) gN))) (aSeq (aRet (eC (.bool false)))
    aNil) aNil)
def Bsame (self : Fn) : Sv := (aSeq (aIf (hTru ((gE (fOp (isiI isT) ((gV 1) gN))) gN)) (aSeq (aIf (hOr (hNot (hTru ((gE (fOp (isiI isT) ((gV 0) gN))) gN))) (hOp neI ((gE (fOp lenI ((gV 0) gN))) ((gE (fOp lenI ((gV 1) gN))) gN)))) (aSeq (aRet (eC (.bool false)))
    aNil) aNil)
    (aSeq (aFor (iRg1 ((gE (fOp lenI ((gV 1) gN))) gN)) (gSet 2) (aSeq (BsameT self)
    aNil))
    (aSeq (aRet (eC (.bool true)))
    aNil))) aNil)
    (aSeq (aIf (hOp isI ((gV 1) ((gE (eC .none)) gN))) (aSeq (aRet (fOp isI ((gV 0) ((gE (eC .none)) gN))))
    aNil) aNil)
    (aSeq (aIf (hTru ((gE (fOp (isiI isB) ((gV 1) gN))) gN)) (aSeq (aRet (eAnd (fOp (isiI isB) ((gV 0) gN)) (fOp eqI ((gV 0) ((gV 1) gN)))))
    aNil) aNil)
    (aSeq (aIf (hTru ((gE (fOp (isiI isNu) ((gV 1) gN))) gN)) (aSeq (aRet (eAnd (fOp (isiI isNu) ((gV 0) gN)) (eAnd (eNot ((gE (fOp (isiI isB) ((gV 0) gN))) gN)) (fOp eqI ((gV 0) ((gV 1) gN))))))
    aNil) aNil)
    (aSeq (aRet (eAnd (fOp (isiI isS) ((gV 0) gN)) (fOp eqI ((gV 0) ((gV 1) gN)))))
    aNil)))))
def Fsame : Nat → Fn
  | 0 => fun _ => none
  | n + 1 => fBody (fun _ => .fz) 1 false (Bsame (Fsame n))
/-- numbers, texts and tuples of them, so deep -/
def SameD : Nat → D → Prop
  | 0, _ => False
  | n + 1, .int _ => True
  | n + 1, .str _ => True
  | n + 1, .tuple ds => ds.length ≤ 1000000 ∧ ∀ d ∈ ds, SameD n d
  | _ + 1, _ => False
theorem tru_b {b : Bool} : truD (.bool b) = some b := rfl
theorem lenI_t {ds : List D} {li : Int} (h : li = (ds.length : Int)) : lenI [.tuple ds] = some (.int li) := by rw [h]; rfl
theorem same_turn (self : Fn) (x d : D) (ds : List D) (ki : Int) (k : Nat) (hk : ki = (k : Int)) (hx : x = .tuple ds) (hd : ds[k]? = some d) (hs : self [d, d] = some (.bool true, [d, d])) : BsameT self [some x, some x, some (.int ki)] = some (.nx [some x, some x, some (.int ki)]) := by
  have e : ixA [x, .int ki] = some d := by rw [hx, hk]; exact ixA_tup hd
  clear hk hx
  simp only [BsameT, e, hs, tru_b, Bool.not_true, x_seq, x_seq1, x_seq2, x_seq3, x_seq4, x_nil, x_brk, x_cnt, x_if, x_if1, x_if2, x_set, x_set1, x_ret, x_ret1, x_retN, x_drop, x_drop1, x_ev, x_ev1, x_et, x_et1, x_ec, x_gn, x_ge, x_ge1, x_ge2, x_gv, x_gv1, x_gv2, x_gv3, x_op, x_op1, x_hop, x_hop1, x_hop2, x_tru, x_tru1, x_not, x_not1, x_and, x_and1, x_and2, x_or, x_or1, x_or2, x_yes, x_tup, x_tup1, x_lst, x_lst1, x_eif, x_eif1, x_eif2, x_notE, x_notE1, x_eand, x_eand1, x_eand2, x_eor, x_eor1, x_eor2, x_call, x_call1, x_call2, x_put1, x_put2, x_put3, x_body, x_body1, x_body2, x_app, x_app1, x_app2, x_app3, x_pt, x_pt1, x_pt2, x_pt3, x_pt4, x_pt5, x_ie, x_ie1, x_items1, x_items2, x_rg1, x_rg11, x_rg2, x_rg21, x_zip, x_zip1, x_zip2, x_gs, x_gt, x_gc, x_gl, x_asg, x_asg1, x_for, x_for1, x_turn, x_next1, x_next2, x_next3, x_next4, x_tn, x_tn1, x_tn2, x_tn3, x_tn4, x_lc, x_lc1, x_lc2, x_ld, x_ld1, x_w1, x_w2, x_tg, x_tg1, x_tg2, x_sm, x_sm1, x_sm2, x_al, x_al1, x_ay, x_ay1, x_bl, x_bk1, x_bk2, x_jn, x_pr1, x_pr2, Option.bind_some, Option.bind_none, Option.map_some, Option.map_none, List.map_cons, List.map_nil, List.replicate_succ, List.replicate_zero, List.cons_append, List.nil_append, List.append_nil, List.getElem?_cons_zero, List.getElem?_cons_succ, List.set_cons_zero, List.set_cons_succ, List.length_cons, List.length_nil, Nat.zero_add, Nat.reduceAdd, Nat.reduceLeDiff, Nat.reduceLT]
theorem same_ok : ∀ (n : Nat) (x : D), SameD n x → Fsame n [x, x] = some (.bool true, [x, x])
  | n + 1, .int i, _ => by
    have h1 : isT (.int i) = false := rfl
    have h2 : isI [.int i, .none] = some (.bool false) := rfl
    have h3 : isB (.int i) = false := rfl
    have h4 : isNu (.int i) = true := rfl
    simp only [Fsame, Bsame, isi_i, h1, h2, h3, h4, decide_true, eq_ii, tru_b, Bool.not_true, Bool.not_false, x_seq, x_seq1, x_seq2, x_seq3, x_seq4, x_nil, x_brk, x_cnt, x_if, x_if1, x_if2, x_set, x_set1, x_ret, x_ret1, x_retN, x_drop, x_drop1, x_ev, x_ev1, x_et, x_et1, x_ec, x_gn, x_ge, x_ge1, x_ge2, x_gv, x_gv1, x_gv2, x_gv3, x_op, x_op1, x_hop, x_hop1, x_hop2, x_tru, x_tru1, x_not, x_not1, x_and, x_and1, x_and2, x_or, x_or1, x_or2, x_yes, x_tup, x_tup1, x_lst, x_lst1, x_eif, x_eif1, x_eif2, x_notE, x_notE1, x_eand, x_eand1, x_eand2, x_eor, x_eor1, x_eor2, x_call, x_call1, x_call2, x_put1, x_put2, x_put3, x_body, x_body1, x_body2, x_app, x_app1, x_app2, x_app3, x_pt, x_pt1, x_pt2, x_pt3, x_pt4, x_pt5, x_ie, x_ie1, x_items1, x_items2, x_rg1, x_rg11, x_rg2, x_rg21, x_zip, x_zip1, x_zip2, x_gs, x_gt, x_gc, x_gl, x_asg, x_asg1, x_for, x_for1, x_turn, x_next1, x_next2, x_next3, x_next4, x_tn, x_tn1, x_tn2, x_tn3, x_tn4, x_lc, x_lc1, x_lc2, x_ld, x_ld1, x_w1, x_w2, x_tg, x_tg1, x_tg2, x_sm, x_sm1, x_sm2, x_al, x_al1, x_ay, x_ay1, x_bl, x_bk1, x_bk2, x_jn, x_pr1, x_pr2, Option.bind_some, Option.bind_none, Option.map_some, Option.map_none, List.map_cons, List.map_nil, List.replicate_succ, List.replicate_zero, List.cons_append, List.nil_append, List.append_nil, List.getElem?_cons_zero, List.getElem?_cons_succ, List.set_cons_zero, List.set_cons_succ, List.length_cons, List.length_nil, Nat.zero_add, Nat.reduceAdd, Nat.reduceLeDiff, Nat.reduceLT]
    rfl
  | n + 1, .str i, _ => by
    have h1 : isT (.str i) = false := rfl
    have h2 : isI [.str i, .none] = some (.bool false) := rfl
    have h3 : isB (.str i) = false := rfl
    have h4 : isNu (.str i) = false := rfl
    have h6 : isS (.str i) = true := rfl
    simp only [Fsame, Bsame, isi_s, h1, h2, h3, h4, h6, decide_true, eq_ss, tru_b, Bool.not_true, Bool.not_false, x_seq, x_seq1, x_seq2, x_seq3, x_seq4, x_nil, x_brk, x_cnt, x_if, x_if1, x_if2, x_set, x_set1, x_ret, x_ret1, x_retN, x_drop, x_drop1, x_ev, x_ev1, x_et, x_et1, x_ec, x_gn, x_ge, x_ge1, x_ge2, x_gv, x_gv1, x_gv2, x_gv3, x_op, x_op1, x_hop, x_hop1, x_hop2, x_tru, x_tru1, x_not, x_not1, x_and, x_and1, x_and2, x_or, x_or1, x_or2, x_yes, x_tup, x_tup1, x_lst, x_lst1, x_eif, x_eif1, x_eif2, x_notE, x_notE1, x_eand, x_eand1, x_eand2, x_eor, x_eor1, x_eor2, x_call, x_call1, x_call2, x_put1, x_put2, x_put3, x_body, x_body1, x_body2, x_app, x_app1, x_app2, x_app3, x_pt, x_pt1, x_pt2, x_pt3, x_pt4, x_pt5, x_ie, x_ie1, x_items1, x_items2, x_rg1, x_rg11, x_rg2, x_rg21, x_zip, x_zip1, x_zip2, x_gs, x_gt, x_gc, x_gl, x_asg, x_asg1, x_for, x_for1, x_turn, x_next1, x_next2, x_next3, x_next4, x_tn, x_tn1, x_tn2, x_tn3, x_tn4, x_lc, x_lc1, x_lc2, x_ld, x_ld1, x_w1, x_w2, x_tg, x_tg1, x_tg2, x_sm, x_sm1, x_sm2, x_al, x_al1, x_ay, x_ay1, x_bl, x_bk1, x_bk2, x_jn, x_pr1, x_pr2, Option.bind_some, Option.bind_none, Option.map_some, Option.map_none, List.map_cons, List.map_nil, List.replicate_succ, List.replicate_zero, List.cons_append, List.nil_append, List.append_nil, List.getElem?_cons_zero, List.getElem?_cons_succ, List.set_cons_zero, List.set_cons_succ, List.length_cons, List.length_nil, Nat.zero_add, Nat.reduceAdd, Nat.reduceLeDiff, Nat.reduceLT]
    rfl
  | n + 1, .tuple ds, h => by
    obtain ⟨hl, hd⟩ := h
    have h1 : isiI isT [.tuple ds] = some (.bool true) := rfl
    obtain ⟨x, hx⟩ : ∃ x, x = PyData.tuple ds := ⟨_, rfl⟩
    obtain ⟨li, hli⟩ : ∃ li : Int, li = (ds.length : Int) := ⟨_, rfl⟩
    have e1 : lenI [x] = some (.int li) := by rw [hx]; exact lenI_t hli
    have e2 : ok62 li = true := by rw [hli]; exact okN hl
    have lp : ∀ (us : List D), (∀ u ∈ us, ∃ k : Nat, u = .int (k : Int) ∧ k < ds.length) → ∀ o : Option D, ∃ o', forL (gSet 2) (aSeq (BsameT (Fsame n)) aNil) us [some x, some x, o] = some (.nx [some x, some x, o']) := by
      intro us
      induction us with
      | nil => intro _ o; exact ⟨o, rfl⟩
      | cons u us ih =>
        intro hu o
        obtain ⟨k, rfl, hk⟩ := hu u List.mem_cons_self
        obtain ⟨o', e⟩ := ih (fun u h => hu u (List.mem_cons_of_mem _ h)) (some (.int (k : Int)))
        refine ⟨o', ?_⟩
        have hg : ds[k]? = some ds[k] := List.getElem?_eq_getElem hk
        have et := same_turn (Fsame n) x ds[k] ds (k : Int) k rfl hx hg (same_ok n _ (hd _ (List.getElem_mem hk)))
        rw [forL_cons]
        show kTurn _ _ us [some x, some x, some (.int (k : Int))] = _
        rw [x_turn, x_seq, et, Option.bind_some, x_seq1, x_nil, Option.bind_some, x_next1]
        exact e
    obtain ⟨o', e3⟩ := lp (upTo 0 li) (fun u hu => by
      obtain ⟨k, rfl, h1, h2⟩ := upTo_mem hu
      exact ⟨k.toNat, by congr 1; omega, by omega⟩) none
    rw [← hx] at h1 ⊢
    clear lp hx hli
    simp only [Fsame, Bsame, h1, e1, ne_ii, decide_true, e3, x_rg11 e2, tru_b, Bool.not_true, Bool.not_false, x_seq, x_seq1, x_seq2, x_seq3, x_seq4, x_nil, x_brk, x_cnt, x_if, x_if1, x_if2, x_set, x_set1, x_ret, x_ret1, x_retN, x_drop, x_drop1, x_ev, x_ev1, x_et, x_et1, x_ec, x_gn, x_ge, x_ge1, x_ge2, x_gv, x_gv1, x_gv2, x_gv3, x_op, x_op1, x_hop, x_hop1, x_hop2, x_tru, x_tru1, x_not, x_not1, x_and, x_and1, x_and2, x_or, x_or1, x_or2, x_yes, x_tup, x_tup1, x_lst, x_lst1, x_eif, x_eif1, x_eif2, x_notE, x_notE1, x_eand, x_eand1, x_eand2, x_eor, x_eor1, x_eor2, x_call, x_call1, x_call2, x_put1, x_put2, x_put3, x_body, x_body1, x_body2, x_app, x_app1, x_app2, x_app3, x_pt, x_pt1, x_pt2, x_pt3, x_pt4, x_pt5, x_ie, x_ie1, x_items1, x_items2, x_rg1, x_rg11, x_rg2, x_rg21, x_zip, x_zip1, x_zip2, x_gs, x_gt, x_gc, x_gl, x_asg, x_asg1, x_for, x_for1, x_turn, x_next1, x_next2, x_next3, x_next4, x_tn, x_tn1, x_tn2, x_tn3, x_tn4, x_lc, x_lc1, x_lc2, x_ld, x_ld1, x_w1, x_w2, x_tg, x_tg1, x_tg2, x_sm, x_sm1, x_sm2, x_al, x_al1, x_ay, x_ay1, x_bl, x_bk1, x_bk2, x_jn, x_pr1, x_pr2, Option.bind_some, Option.bind_none, Option.map_some, Option.map_none, List.map_cons, List.map_nil, List.replicate_succ, List.replicate_zero, List.cons_append, List.nil_append, List.append_nil, List.getElem?_cons_zero, List.getElem?_cons_succ, List.set_cons_zero, List.set_cons_succ, List.length_cons, List.length_nil, Nat.zero_add, Nat.reduceAdd, Nat.reduceLeDiff, Nat.reduceLT]
    rfl
/-! tuples of numbers as data -/
def nLt : List Nat → List Nat → Bool
  | [], [] => false
  | [], _ :: _ => true
  | _ :: _, [] => false
  | x :: xs, y :: ys => if x = y then nLt xs ys else decide (x < y)
def nLe (a b : List Nat) : Bool := !nLt b a
def tupN (r : List Nat) : PySem.W.Tup Int := ⟨r.map fun (n : Nat) => (n : Int)⟩
theorem rowD_eq (r : List Nat) : rowD r = PySem.W.Datum.toD (tupN r) := by
  unfold rowD tupN
  show PyData.tuple _ = PyData.tuple (List.map PyData.int (r.map fun (n : Nat) => (n : Int)))
  rw [List.map_map]
  rfl
theorem lt_map : ∀ a b : List Nat, PySem.W.listLt (a.map fun (n : Nat) => (n : Int)) (b.map fun (n : Nat) => (n : Int)) = nLt a b
  | [], [] => rfl
  | [], _ :: _ => rfl
  | _ :: _, [] => rfl
  | x :: xs, y :: ys => by
    rw [List.map_cons, List.map_cons, PySem.W.listLt, nLt, lt_map xs ys]
    show (if (x : Int) = (y : Int) then _ else decide ((x : Int) < (y : Int))) = _
    by_cases h : x = y
    · rw [if_pos h, if_pos (by omega)]
    · rw [if_neg h, if_neg (by omega)]
      exact decide_eq_decide.mpr (by omega)
theorem dle_row (a b : List Nat) : dle (rowD a) (rowD b) = nLe a b := by
  unfold dle nLe
  rw [rowD_eq, rowD_eq, ← lt_map]
  exact (congrFun (congrFun (PySem.W.dataLe_eq false id) _) _).trans (congrArg (!·) (PySem.W.DatumOrd.lt_eq (tupN b) (tupN a)))
theorem tupN_inj {a b : List Nat} : (tupN a = tupN b) ↔ a = b := by
  constructor
  · intro h
    unfold tupN at h
    have h := congrArg PySem.W.Tup.items h
    exact (List.map_inj_right (fun x y h => by exact Int.ofNat.inj h)).mp h
  · intro h; rw [h]
theorem eqv_row (a b : List Nat) : PyData.eqv (rowD a) (rowD b) = decide (a = b) := by
  rw [rowD_eq, rowD_eq, PySem.W.Datum.eqv]
  exact decide_eq_decide.mpr tupN_inj
theorem plain_row (a : List Nat) : (rowD a).plain = true := by rw [rowD_eq]; exact PySem.W.Datum.plain _
theorem depth_row (a : List Nat) : (rowD a).depth ≤ 1 := by rw [rowD_eq]; exact PySem.W.Datum.depth_le (tupN a)
theorem rowsD_eq (l : List (List Nat)) : rowsD l = (l.map tupN).map PySem.W.Datum.toD := by
  unfold rowsD
  rw [List.map_map]
  exact List.map_congr_left fun r _ => rowD_eq r
theorem plain_rows (l : List (List Nat)) : PyData.plainAll (rowsD l) = true := by rw [rowsD_eq]; exact PySem.W.plainAll_map _
theorem depth_rows (l : List (List Nat)) : PyData.depthAll (rowsD l) ≤ 1 := by rw [rowsD_eq]; exact PySem.W.depthAll_map (l.map tupN)
theorem any_row (l : List (List Nat)) (r : List Nat) : ((rowsD l).any fun z => PyData.eqv z (rowD r)) = decide (r ∈ l) := by
  unfold rowsD
  rw [Bool.eq_iff_iff, List.any_eq_true, decide_eq_true_eq]
  constructor
  · rintro ⟨d, hd, he⟩
    obtain ⟨q, hq, rfl⟩ := List.mem_map.mp hd
    rw [eqv_row] at he
    rw [← of_decide_eq_true he]
    exact hq
  · intro h
    exact ⟨rowD r, List.mem_map_of_mem h, by rw [eqv_row]; exact decide_eq_true rfl⟩
theorem ni_row (l : List (List Nat)) (r : List Nat) : niA [rowD r, .tuple (rowsD l)] = some (.bool (!decide (r ∈ l))) := by
  have h : inOk (rowD r) (rowsD l) = true := by
    unfold inOk
    rw [plain_row, plain_rows, Bool.true_and, Bool.true_and]
    exact decide_eq_true (by have := depth_row r; omega)
  have : niI [rowD r, .tuple (rowsD l)] = some (.bool (!decide (r ∈ l))) := by
    rw [← any_row]
    exact if_pos h
  unfold niA
  rw [this]
  rfl
theorem alike_row (a b : List Nat) : PySem.W.alike (rowD a) (rowD b) = true := by
  rw [rowD_eq, rowD_eq]
  exact PySem.W.DatumOrd.alike (tupN a) (tupN b)
theorem sort_rows {l : List (List Nat)} (hl : l.length ≤ 16777216) (hn : ∀ r ∈ l, r ≠ []) : sortI [.list (rowsD l)] = some (.list (rowsD (l.mergeSort nLe))) := by
  have hok : sortOk (rowsD l) = true := by
    unfold sortOk
    have hs : small (rowsD l) = true := decide_eq_true (by unfold rowsD; rw [List.length_map]; exact hl)
    have ha : alikeL (rowsD l) = true := by
      unfold alikeL rowsD
      rw [List.all_eq_true]
      intro d hd
      rw [List.all_eq_true]
      intro e he
      obtain ⟨a, _, rfl⟩ := List.mem_map.mp hd
      obtain ⟨b, _, rfl⟩ := List.mem_map.mp he
      exact alike_row a b
    have hf : (rowsD l).all tupFull = true := by
      rw [List.all_eq_true]
      intro d hd
      obtain ⟨a, h, rfl⟩ := List.mem_map.mp hd
      cases a with
      | nil => exact absurd rfl (hn _ h)
      | cons x a => rfl
    rw [hs, plain_rows, ha, hf, decide_eq_true (by have := depth_rows l; omega)]
    rfl
  have e : (rowsD l).mergeSort dle = rowsD (l.mergeSort nLe) := by
    unfold rowsD
    exact (List.map_mergeSort fun a _ b _ => (dle_row a b).symm).symm
  rw [← e]
  exact if_pos hok
end Sx
/-! L3: loops and comprehensions over lists of Lean values. -/
namespace Sx
open PySem PySem.Spec PyProof.Rows L2
section
variable {α β : Type} {enc : α → D} {t : Gt} {vs vs1 : List Nat} {G : Gv} {fb : Sv}
theorem drainL_map {out : α → D} {P : Sx.Env → Prop} : ∀ {l : List α} {ρ : Sx.Env}, P ρ → (∀ a ∈ l, ∀ ρ, P ρ → ∃ ρ', t (enc a) ρ = some (ρ', some (out a)) ∧ P ρ') → drainL t (l.map enc) ρ = some (l.map out)
  | [], ρ, _, _ => rfl
  | a :: l, ρ, hp, hs => by
    obtain ⟨ρ', h1, h2⟩ := hs a List.mem_cons_self ρ hp
    show ((t (enc a) ρ).bind _) = _
    rw [h1, Option.bind_some]
    dsimp only
    rw [drainL_map (l := l) h2 fun d hd => hs d (List.mem_cons_of_mem _ hd)]
    rfl
theorem lcL_filter {out : α → D} {p : α → Bool} : ∀ {l : List α} {ρ : Sx.Env}, (∀ a ∈ l, ∃ ρ', t (enc a) ρ = some (ρ', if p a = true then some (out a) else none) ∧ wipeD ρ' vs = ρ) → lcL vs t (l.map enc) ρ = some (ρ, (l.filter p).map out)
  | [], ρ, _ => rfl
  | a :: l, ρ, hs => by
    obtain ⟨ρ', h1, h2⟩ := hs a List.mem_cons_self
    show ((t (enc a) ρ).bind _) = _
    rw [h1, Option.bind_some]
    dsimp only
    rw [h2, lcL_filter (l := l) fun d hd => hs d (List.mem_cons_of_mem _ hd), Option.map_some, List.filter_cons]
    cases p a <;> rfl
theorem lcL_map {out : α → D} {l : List α} {ρ : Sx.Env} (hs : ∀ a ∈ l, ∃ ρ', t (enc a) ρ = some (ρ', some (out a)) ∧ wipeD ρ' vs = ρ) : lcL vs t (l.map enc) ρ = some (ρ, l.map out) := by
  have := lcL_filter (p := fun _ => true) (out := out) (l := l) (ρ := ρ) (t := t) (vs := vs) (enc := enc) fun a ha => by
    obtain ⟨ρ', h1, h2⟩ := hs a ha
    exact ⟨ρ', by rw [h1, if_pos rfl], h2⟩
  rw [this, List.filter_eq_self.mpr (fun _ _ => rfl)]
theorem lcL2_map {h : Tv} {gi1 : Iv} {out : α → List D} : ∀ {l : List α} {ρ : Sx.Env}, (∀ a ∈ l, ∃ ρ1 ρ2 ρ3 ρ4 es, G (enc a) ρ = some ρ1 ∧ h ρ1 = some (ρ2, true) ∧ gi1 ρ2 = some (ρ3, es) ∧ lcL vs1 t es (wipeD ρ3 vs1) = some (ρ4, out a) ∧ wipeD ρ4 vs = ρ) → lcL2 vs vs1 G h gi1 t (l.map enc) ρ = some (ρ, l.flatMap out)
  | [], ρ, _ => rfl
  | a :: l, ρ, hs => by
    obtain ⟨ρ1, ρ2, ρ3, ρ4, es, h1, h2, h3, h4, h5⟩ := hs a List.mem_cons_self
    show ((G (enc a) ρ).bind _) = _
    rw [h1, Option.bind_some, h2, Option.bind_some]
    dsimp only
    rw [if_pos rfl, h3, Option.bind_some]
    dsimp only
    rw [h4, Option.bind_some]
    dsimp only
    rw [h5, lcL2_map (l := l) fun d hd => hs d (List.mem_cons_of_mem _ hd), Option.map_some, List.flatMap_cons]
theorem sumL_map {p : α → Bool} {f : α → Nat} {P : Sx.Env → Prop} : ∀ {l : List α} {ρ : Sx.Env}, P ρ → (∀ a ∈ l, ∀ ρ, P ρ → ∃ ρ', t (enc a) ρ = some (ρ', if p a = true then some (.int (f a : Int)) else none) ∧ P ρ') → sumL t (l.map enc) ρ = some ((((l.filter p).map f).sum : Nat) : Int)
  | [], ρ, _, _ => rfl
  | a :: l, ρ, hp, hs => by
    obtain ⟨ρ', h1, h2⟩ := hs a List.mem_cons_self ρ hp
    show ((t (enc a) ρ).bind _) = _
    rw [h1, Option.bind_some, List.filter_cons]
    have ih := sumL_map (l := l) h2 fun d hd => hs d (List.mem_cons_of_mem _ hd)
    cases p a with
    | false =>
      show sumL t (l.map enc) ρ' = _
      exact ih
    | true =>
      show (sumL t (l.map enc) ρ').map ((f a : Int) + ·) = _
      rw [ih, Option.map_some]
      simp
theorem forL_list {Q : List α → Sx.Env → Prop} : ∀ {l pre : List α} {ρ : Sx.Env}, Q pre ρ → (∀ p a s, pre ++ l = p ++ a :: s → ∀ ρ, Q p ρ → ∃ ρ1 ρ2, G (enc a) ρ = some ρ1 ∧ fb ρ1 = some (.nx ρ2) ∧ Q (p ++ [a]) ρ2) → ∃ ρ', forL G fb (l.map enc) ρ = some (.nx ρ') ∧ Q (pre ++ l) ρ'
  | [], pre, ρ, hq, _ => ⟨ρ, rfl, by rw [List.append_nil]; exact hq⟩
  | a :: l, pre, ρ, hq, hs => by
    obtain ⟨ρ1, ρ2, h1, h2, h3⟩ := hs pre a l rfl ρ hq
    obtain ⟨ρ', h4, h5⟩ := forL_list (l := l) (pre := pre ++ [a]) (ρ := ρ2) h3 fun p b s e => hs p b s (by rw [← e, List.append_assoc]; rfl)
    refine ⟨ρ', ?_, by rw [List.append_assoc] at h5; exact h5⟩
    rw [List.map_cons, forL_cons, h1, Option.bind_some, x_turn, h2, Option.bind_some, x_next1, h4]
/-- over the places of a list -/
theorem forL_idx {Q : List α → Sx.Env → Prop} {l : List α} {n : Int} (hn : n = (l.length : Int)) {ρ : Sx.Env} (hq : Q [] ρ) (hs : ∀ (i : Nat) (ii : Int) (a : α), ii = (i : Int) → l[i]? = some a → ∀ ρ, Q (l.take i) ρ → ∃ ρ1 ρ2, G (.int ii) ρ = some ρ1 ∧ fb ρ1 = some (.nx ρ2) ∧ Q (l.take i ++ [a]) ρ2) : ∃ ρ', forL G fb (upTo 0 n) ρ = some (.nx ρ') ∧ Q l ρ' := by
  have e : upTo 0 n = (List.range l.length).map fun (k : Nat) => (.int (k : Int) : D) := by rw [hn]; exact upTo_nat _
  have key := forL_list (enc := fun (k : Nat) => (.int (k : Int) : D)) (G := G) (fb := fb) (Q := fun p ρ => Q (l.take p.length) ρ) (l := List.range l.length) (pre := []) (ρ := ρ) hq fun p i s es ρ h => by
    rw [List.nil_append] at es
    have hi : p.length = i := by
      have := congrArg (fun l => l[p.length]?) es
      simp only [List.getElem?_append_right (Nat.le_refl _), Nat.sub_self, List.getElem?_cons_zero] at this
      have := List.getElem?_range (n := l.length) (i := p.length) (by
        have := congrArg List.length es
        simp at this
        omega) ▸ this
      exact Option.some.inj this
    have hlt : i < l.length := by
      have := congrArg List.length es
      simp at this
      omega
    subst hi
    obtain ⟨ρ1, ρ2, h1, h2, h3⟩ := hs p.length _ l[p.length] rfl (List.getElem?_eq_getElem hlt) ρ h
    refine ⟨ρ1, ρ2, h1, h2, ?_⟩
    rw [List.length_append, List.length_singleton, List.take_add_one, List.getElem?_eq_getElem hlt]
    exact h3
  obtain ⟨ρ', h1, h2⟩ := key
  refine ⟨ρ', by rw [e]; exact h1, ?_⟩
  rw [List.nil_append, List.length_range, List.take_length] at h2
  exact h2
theorem forL_all {p : α → Bool} {Q : Sx.Env → Prop} {d : D} : ∀ {l : List α} {ρ : Sx.Env}, Q ρ → (∀ a ∈ l, ∀ ρ, Q ρ → ∃ ρ1 ρ2, G (enc a) ρ = some ρ1 ∧ fb ρ1 = some (if p a = true then .nx ρ2 else .rt ρ2 d) ∧ Q ρ2) → ∃ ρ', forL G fb (l.map enc) ρ = some (if l.all p = true then .nx ρ' else .rt ρ' d) ∧ Q ρ'
  | [], ρ, hq, _ => ⟨ρ, rfl, hq⟩
  | a :: l, ρ, hq, hs => by
    obtain ⟨ρ1, ρ2, h1, h2, h3⟩ := hs a List.mem_cons_self ρ hq
    rw [List.map_cons, forL_cons, h1, Option.bind_some, x_turn, h2, Option.bind_some, List.all_cons]
    cases hp : p a with
    | false => exact ⟨ρ2, rfl, h3⟩
    | true =>
      obtain ⟨ρ', h4, h5⟩ := forL_all (l := l) (ρ := ρ2) h3 fun b hb => hs b (List.mem_cons_of_mem _ hb)
      refine ⟨ρ', ?_, h5⟩
      rw [if_pos rfl, x_next1, h4, Bool.true_and]
theorem upTo_zip {l : List α} {n : Int} (hn : n = (l.length : Int)) : upTo 0 n = l.zipIdx.map fun q => (.int (q.2 : Int) : D) := by
  rw [hn, upTo_nat]
  have : (fun q : α × Nat => (.int (q.2 : Int) : D)) = (fun (k : Nat) => (.int (k : Int) : D)) ∘ Prod.snd := rfl
  rw [this, ← List.map_map, List.zipIdx_map_snd, List.range_eq_range']
theorem forL_idx_all {p : α → Bool} {Q : Sx.Env → Prop} {d : D} {l : List α} {n : Int} (hn : n = (l.length : Int)) {ρ : Sx.Env} (hq : Q ρ) (hs : ∀ (i : Nat) (ii : Int) (a : α), ii = (i : Int) → l[i]? = some a → ∀ ρ, Q ρ → ∃ ρ1 ρ2, G (.int ii) ρ = some ρ1 ∧ fb ρ1 = some (if p a = true then .nx ρ2 else .rt ρ2 d) ∧ Q ρ2) : ∃ ρ', forL G fb (upTo 0 n) ρ = some (if l.all p = true then .nx ρ' else .rt ρ' d) ∧ Q ρ' := by
  obtain ⟨ρ', h1, h2⟩ := forL_all (G := G) (fb := fb) (enc := fun q : α × Nat => (.int (q.2 : Int) : D)) (p := fun q => p q.1) (Q := Q) (d := d) (l := l.zipIdx) (ρ := ρ) hq fun q hq ρ h => by
    have hq := List.mk_mem_zipIdx_iff_getElem?.mp (show (q.1, q.2) ∈ l.zipIdx from hq)
    exact hs q.2 _ q.1 rfl hq ρ h
  refine ⟨ρ', ?_, h2⟩
  have e : l.zipIdx.all (fun q => p q.1) = l.all p := by
    have : (fun q : α × Nat => p q.1) = p ∘ Prod.fst := rfl
    rw [this, ← List.all_map, List.zipIdx_map_fst]
  rw [← upTo_zip hn, e] at h1
  exact h1
theorem pairs_map (f g : α → D) : ∀ l : List α, pairsD (l.map f) (l.map g) = l.map fun a => .tuple [f a, g a]
  | [] => rfl
  | a :: l => by rw [List.map_cons, List.map_cons, x_pr1, pairs_map f g l]; rfl
end
end Sx
/-! L4: rows rising, sums over all rows (plain lists). -/
namespace Sx
/-! the order of rows -/
theorem nLt_asym : ∀ {a b : List Nat}, nLt a b = true → nLt b a = false
  | [], _ :: _, _ => rfl
  | x :: xs, y :: ys, h => by
    unfold nLt at h ⊢
    by_cases e : x = y
    · rw [if_pos e] at h
      rw [if_pos e.symm]
      exact nLt_asym h
    · rw [if_neg e] at h
      rw [if_neg fun q => e q.symm]
      have := of_decide_eq_true h
      exact decide_eq_false (by omega)
theorem nLt_le {a b : List Nat} (h : nLt a b = true) : nLe a b = true := by
  unfold nLe
  rw [nLt_asym h]
  rfl
theorem nLt_app : ∀ {a b : List Nat} (c d : List Nat), a.length = b.length → nLt a b = true → nLt (a ++ c) (b ++ d) = true
  | [], [], _, _, _, h => by cases h
  | [], _ :: _, _, _, hl, _ => by simp at hl
  | x :: xs, y :: ys, c, d, hl, h => by
    rw [List.cons_append, List.cons_append]
    unfold nLt at h ⊢
    by_cases e : x = y
    · rw [if_pos e] at h ⊢
      exact nLt_app c d (by simpa using hl) h
    · rw [if_neg e] at h ⊢
      exact h
theorem nLt_last : ∀ (a : List Nat) {x y : Nat}, x < y → nLt (a ++ [x]) (a ++ [y]) = true
  | [], x, y, h => by
    show (if x = y then _ else decide (x < y)) = true
    rw [if_neg (by omega)]
    exact decide_eq_true h
  | z :: a, x, y, h => by
    rw [List.cons_append, List.cons_append]
    unfold nLt
    rw [if_pos rfl]
    exact nLt_last a h
theorem tups_asc (m : Nat) : ∀ p, (tups m p).Pairwise fun a b => nLt a b = true
  | 0 => by simp [tups]
  | p + 1 => by
    rw [tups, List.pairwise_flatMap]
    refine ⟨fun r _ => ?_, ?_⟩
    · rw [List.pairwise_map]
      exact List.pairwise_lt_range.imp fun h => nLt_last r h
    · refine (tups_asc m p).imp_of_mem fun {a b} ha hb h => ?_
      intro x hx y hy
      obtain ⟨i, _, rfl⟩ := List.mem_map.mp hx
      obtain ⟨j, _, rfl⟩ := List.mem_map.mp hy
      exact nLt_app _ _ (by rw [(tups_mem ha).1, (tups_mem hb).1]) h
theorem mem_tups {m : Nat} : ∀ {p : Nat} {r : List Nat}, r.length = p → (∀ x ∈ r, x < m) → r ∈ tups m p := by
  intro p
  induction p with
  | zero =>
    intro r h _
    rw [List.length_eq_zero_iff.mp h]
    simp [tups]
  | succ p ih =>
    intro r h hm
    have hne : r ≠ [] := fun e => by rw [e] at h; simp at h
    rw [tups, List.mem_flatMap]
    refine ⟨r.dropLast, ih (by rw [List.length_dropLast, h]; rfl) fun x hx => hm x ((List.dropLast_sublist r).subset hx), ?_⟩
    rw [List.mem_map]
    exact ⟨r.getLast hne, List.mem_range.mpr (hm _ (List.getLast_mem hne)), List.dropLast_concat_getLast hne⟩
/-! sums -/
section
variable {α β : Type}
def sm (l : List α) (f : α → Nat) : Nat := (l.map f).sum
theorem sm_nil (f : α → Nat) : sm [] f = 0 := rfl
theorem sm_cons (a : α) (l : List α) (f : α → Nat) : sm (a :: l) f = f a + sm l f := by
  unfold sm
  rw [List.map_cons, List.sum_cons]
theorem sm_app (l m : List α) (f : α → Nat) : sm (l ++ m) f = sm l f + sm m f := by
  unfold sm
  rw [List.map_append, List.sum_append]
theorem sm_map (g : α → β) (l : List α) (f : β → Nat) : sm (l.map g) f = sm l fun a => f (g a) := by
  unfold sm
  rw [List.map_map]
  rfl
theorem sm_flatMap (g : α → List β) (f : β → Nat) : ∀ l : List α, sm (l.flatMap g) f = sm l fun a => sm (g a) f
  | [] => rfl
  | a :: l => by rw [List.flatMap_cons, sm_app, sm_cons, sm_flatMap g f l]
theorem sm_congr {f g : α → Nat} : ∀ {l : List α}, (∀ a ∈ l, f a = g a) → sm l f = sm l g
  | [], _ => rfl
  | a :: l, h => by
    rw [sm_cons, sm_cons, h a List.mem_cons_self, sm_congr fun a ha => h a (List.mem_cons_of_mem _ ha)]
theorem sm_zero : ∀ l : List α, (sm l fun _ => 0) = 0
  | [] => rfl
  | a :: l => by rw [sm_cons, sm_zero l]
theorem sm_plus (f g : α → Nat) : ∀ l : List α, (sm l fun a => f a + g a) = sm l f + sm l g
  | [] => rfl
  | a :: l => by
    rw [sm_cons, sm_cons, sm_cons, sm_plus f g l]
    omega
theorem sm_swap (F : α → β → Nat) (m : List β) : ∀ l : List α, (sm l fun a => sm m fun b => F a b) = sm m fun b => sm l fun a => F a b
  | [] => (sm_zero m).symm
  | a :: l => by
    have : (fun b => sm (a :: l) fun a => F a b) = fun b => F a b + sm l fun a => F a b := funext fun b => sm_cons a l fun a => F a b
    rw [sm_cons, sm_swap F m l, this, sm_plus]
theorem sm_mul (f : α → Nat) (c : Nat) : ∀ l : List α, (sm l fun a => f a * c) = sm l f * c
  | [] => by rw [sm_nil, sm_nil, Nat.zero_mul]
  | a :: l => by rw [sm_cons, sm_cons, sm_mul f c l, Nat.add_mul]
theorem sm_mul' (f : α → Nat) (c : Nat) (l : List α) : (sm l fun a => c * f a) = c * sm l f := by
  rw [Nat.mul_comm c, ← sm_mul]
  exact sm_congr fun a _ => Nat.mul_comm _ _
theorem sm_prod (f : α → Nat) (g : β → Nat) (l : List α) (m : List β) : (sm l fun a => sm m fun b => f a * g b) = sm l f * sm m g := by
  rw [← sm_mul]
  exact sm_congr fun a _ => sm_mul' g (f a) m
/-- 1 or 0 -/
def one (b : Bool) : Nat := if b = true then 1 else 0
theorem one_and (a b : Bool) : one (a && b) = one a * one b := by cases a <;> cases b <;> rfl
theorem filter_len (p : α → Bool) : ∀ l : List α, (l.filter p).length = sm l fun a => one (p a)
  | [] => rfl
  | a :: l => by
    rw [sm_cons, ← filter_len p l, List.filter_cons]
    cases p a
    · show _ = 0 + _
      rw [Nat.zero_add]
      rfl
    · show _ = 1 + _
      rw [Nat.add_comm]
      rfl
theorem sum_filter (p : α → Bool) (f : α → Nat) : ∀ l : List α, ((l.filter p).map f).sum = sm l fun a => one (p a) * f a
  | [] => rfl
  | a :: l => by
    rw [sm_cons, ← sum_filter p f l, List.filter_cons]
    cases p a
    · show _ = 0 * _ + _
      rw [Nat.zero_mul, Nat.zero_add]
      rfl
    · show _ = 1 * _ + _
      rw [if_pos rfl, List.map_cons, List.sum_cons, Nat.one_mul]
end
theorem range_mul (b : Nat) (hb : 0 < b) (F : Nat → Nat → Nat) : ∀ a : Nat, (sm (List.range (a * b)) fun x => F (x / b) (x % b)) = sm (List.range a) fun i => sm (List.range b) fun j => F i j
  | 0 => by rw [Nat.zero_mul]; rfl
  | a + 1 => by
    rw [Nat.succ_mul, List.range_add, sm_app, range_mul b hb F a, List.range_succ, sm_app, sm_map, sm_cons, sm_nil, Nat.add_zero]
    congr 1
    refine sm_congr fun j hj => ?_
    have hj := List.mem_range.mp hj
    rw [Nat.mul_comm a b, Nat.mul_add_div hb, Nat.div_eq_of_lt hj, Nat.add_zero, Nat.mul_add_mod, Nat.mod_eq_of_lt hj]
/-- rows below a * b are pairs of rows -/
theorem tups_mul (a b : Nat) (hb : 0 < b) : ∀ (n : Nat) (F : List Nat → List Nat → Nat), (sm (tups (a * b) n) fun h => F (h.map (· / b)) (h.map (· % b))) = sm (tups a n) fun u => sm (tups b n) fun v => F u v
  | 0, F => rfl
  | n + 1, F => by
    rw [tups, tups, tups, sm_flatMap, sm_flatMap]
    have e1 : (sm (tups (a * b) n) fun r => sm ((List.range (a * b)).map fun x => r ++ [x]) fun h => F (h.map (· / b)) (h.map (· % b))) = sm (tups (a * b) n) fun r => sm (List.range a) fun i => sm (List.range b) fun j => F (r.map (· / b) ++ [i]) (r.map (· % b) ++ [j]) := by
      refine sm_congr fun r _ => ?_
      rw [sm_map, ← range_mul b hb (fun i j => F (r.map (· / b) ++ [i]) (r.map (· % b) ++ [j]))]
      refine sm_congr fun x _ => ?_
      rw [List.map_append, List.map_append]
      rfl
    rw [e1, tups_mul a b hb n fun u v => sm (List.range a) fun i => sm (List.range b) fun j => F (u ++ [i]) (v ++ [j])]
    refine sm_congr fun u _ => ?_
    rw [sm_swap, sm_map]
    refine sm_congr fun i _ => ?_
    rw [sm_flatMap]
    refine sm_congr fun v _ => ?_
    rw [sm_map]
/-- rows are joined of two rows -/
theorem tups_add (c m : Nat) : ∀ n : Nat, tups c (m + n) = (tups c m).flatMap fun u => (tups c n).map fun v => u ++ v
  | 0 => by
    show tups c m = (tups c m).flatMap fun u => [u ++ []]
    simp
  | n + 1 => by
    show (tups c (m + n)).flatMap _ = _
    rw [tups_add c m n, tups, List.flatMap_assoc]
    congr 1
    funext u
    rw [List.flatMap_map, List.map_flatMap]
    congr 1
    funext v
    rw [List.map_map]
    congr 1
    funext x
    exact List.append_assoc _ _ _
theorem tups_one (c : Nat) : tups c 1 = (List.range c).map fun x => [x] := by
  show ([[]] : List (List Nat)).flatMap _ = _
  simp
theorem tups_front (c p : Nat) : tups c (p + 1) = (List.range c).flatMap fun x => (tups c p).map fun v => x :: v := by
  rw [Nat.add_comm, tups_add, tups_one, List.flatMap_map]
  rfl
end Sx
namespace FH
open Sx PySem PySem.Spec PyProof.Rows L2
theorem e_draw : f_law_draw = Fdraw := rfl
theorem e_cell : f_law_cell = Fcell := rfl
theorem e_box : f_law_box = Fbox := rfl
theorem e_tup : f_law_tuples = Ftup := rfl

structure Rel where
  name : Str
  k : Nat
  rows : List (List Nat)
abbrev Kind := List (Str × Nat)
def kndD (p : Str × Nat) : D := .tuple [.str p.1, .int (p.2 : Int)]
def kindD (ks : Kind) : D := .tuple (ks.map kndD)
def relD (r : Rel) : D := .tuple [.str r.name, .int (r.k : Int), .tuple (rowsD r.rows)]
def strD (n : Nat) (rs : List Rel) : D := .tuple [.str "structure", .int (n : Int), .tuple (rs.map relD)]
def allKinds : List Kind := [[("E", 2)], [("E", 2), ("P", 1)], [("P", 1), ("Q", 1)], [("E", 2), ("F", 2)], [], [("E", 2), ("F", 2), ("P", 1)]]
theorem kinds_ok {b : D} (hb : IsBox b) : ∃ ks b', f_law_kinds [b] = some (kindD ks, [b']) ∧ IsBox b' ∧ ks ∈ allKinds := by
  obtain ⟨v, b', e, h1, h2, h3⟩ := draw_ok (m := 6) hb (by decide)
  have key : ∀ ks : Kind, ixA [.list (allKinds.map kindD), .int v] = some (kindD ks) → f_law_kinds [b] = some (kindD ks, [b']) := fun ks hk => by
    have hk' : ixA [.list [.tuple [.tuple [.str "E", .int 2]], .tuple [.tuple [.str "E", .int 2], .tuple [.str "P", .int 1]], .tuple [.tuple [.str "P", .int 1], .tuple [.str "Q", .int 1]], .tuple [.tuple [.str "E", .int 2], .tuple [.str "F", .int 2]], .tuple [], .tuple [.tuple [.str "E", .int 2], .tuple [.str "F", .int 2], .tuple [.str "P", .int 1]]], .int v] = some (kindD ks) := hk
    generalize kindD ks = out at hk' ⊢
    simp only [f_law_kinds, b_law_kinds, e_draw, e, hk', x_seq, x_seq1, x_seq2, x_seq3, x_seq4, x_nil, x_brk, x_cnt, x_if, x_if1, x_if2, x_set, x_set1, x_ret, x_ret1, x_retN, x_drop, x_drop1, x_ev, x_ev1, x_et, x_et1, x_ec, x_gn, x_ge, x_ge1, x_ge2, x_gv, x_gv1, x_gv2, x_gv3, x_op, x_op1, x_hop, x_hop1, x_hop2, x_tru, x_tru1, x_not, x_not1, x_and, x_and1, x_and2, x_or, x_or1, x_or2, x_yes, x_tup, x_tup1, x_lst, x_lst1, x_eif, x_eif1, x_eif2, x_notE, x_notE1, x_eand, x_eand1, x_eand2, x_eor, x_eor1, x_eor2, x_call, x_call1, x_call2, x_put1, x_put2, x_put3, x_body, x_body1, x_body2, x_app, x_app1, x_app2, x_app3, x_pt, x_pt1, x_pt2, x_pt3, x_pt4, x_pt5, x_ie, x_ie1, x_items1, x_items2, x_rg1, x_rg11, x_rg2, x_rg21, x_zip, x_zip1, x_zip2, x_gs, x_gt, x_gc, x_gl, x_asg, x_asg1, x_for, x_for1, x_turn, x_next1, x_next2, x_next3, x_next4, x_tn, x_tn1, x_tn2, x_tn3, x_tn4, x_lc, x_lc1, x_lc2, x_ld, x_ld1, x_w1, x_w2, x_tg, x_tg1, x_tg2, x_sm, x_sm1, x_sm2, x_al, x_al1, x_ay, x_ay1, x_bl, x_bk1, x_bk2, x_jn, x_pr1, x_pr2, Option.bind_some, Option.bind_none, Option.map_some, Option.map_none, List.map_cons, List.map_nil, List.replicate_succ, List.replicate_zero, List.cons_append, List.nil_append, List.append_nil, List.getElem?_cons_zero, List.getElem?_cons_succ, List.set_cons_zero, List.set_cons_succ, List.length_cons, List.length_nil, Nat.zero_add, Nat.reduceAdd, Nat.reduceLeDiff, Nat.reduceLT]
    rfl
  have hv : v = 0 ∨ v = 1 ∨ v = 2 ∨ v = 3 ∨ v = 4 ∨ v = 5 := by omega
  rcases hv with rfl | rfl | rfl | rfl | rfl | rfl
  · exact ⟨_, b', key [("E", 2)] rfl, h3, by simp [allKinds]⟩
  · exact ⟨_, b', key [("E", 2), ("P", 1)] rfl, h3, by simp [allKinds]⟩
  · exact ⟨_, b', key [("P", 1), ("Q", 1)] rfl, h3, by simp [allKinds]⟩
  · exact ⟨_, b', key [("E", 2), ("F", 2)] rfl, h3, by simp [allKinds]⟩
  · exact ⟨_, b', key [] rfl, h3, by simp [allKinds]⟩
  · exact ⟨_, b', key [("E", 2), ("F", 2), ("P", 1)] rfl, h3, by simp [allKinds]⟩

abbrev tS : Gt := gTurn (gSet 7) (hOp ltI ((gE (eCall [some 0, none] f_law_draw (gV 0 (gE (eC (.int 5)) gN)))) ((gV 6) gN))) (eV 7)
theorem pick (ks mi rel nm pl rw8 : Option D) (ofi : Int) : ∀ (l : List (List Nat)) (b : D), IsBox b → ∃ b' sub, lcL [7] tS (rowsD l) [some b, ks, mi, rel, nm, pl, some (.int ofi), none, rw8] = some ([some b', ks, mi, rel, nm, pl, some (.int ofi), none, rw8], rowsD sub) ∧ sub.Sublist l ∧ IsBox b'
  | [], b, hb => ⟨b, [], rfl, .slnil, hb⟩
  | r :: l, b, hb => by
    obtain ⟨v, b1, e, h1, h2, h3⟩ := draw_ok (m := 5) hb (by decide)
    obtain ⟨b2, sub, e2, hs, h4⟩ := pick ks mi rel nm pl rw8 ofi l b1 h3
    by_cases hv : v < ofi
    · refine ⟨b2, r :: sub, ?_, hs.cons_cons r, h4⟩
      have hd : decide (v < ofi) = true := decide_eq_true hv
      have et : tS (rowD r) [some b, ks, mi, rel, nm, pl, some (.int ofi), none, rw8] = some ([some b1, ks, mi, rel, nm, pl, some (.int ofi), some (rowD r), rw8], some (rowD r)) := by
        simp only [tS, e_draw, e, lt_ii, hd, x_seq, x_seq1, x_seq2, x_seq3, x_seq4, x_nil, x_brk, x_cnt, x_if, x_if1, x_if2, x_set, x_set1, x_ret, x_ret1, x_retN, x_drop, x_drop1, x_ev, x_ev1, x_et, x_et1, x_ec, x_gn, x_ge, x_ge1, x_ge2, x_gv, x_gv1, x_gv2, x_gv3, x_op, x_op1, x_hop, x_hop1, x_hop2, x_tru, x_tru1, x_not, x_not1, x_and, x_and1, x_and2, x_or, x_or1, x_or2, x_yes, x_tup, x_tup1, x_lst, x_lst1, x_eif, x_eif1, x_eif2, x_notE, x_notE1, x_eand, x_eand1, x_eand2, x_eor, x_eor1, x_eor2, x_call, x_call1, x_call2, x_put1, x_put2, x_put3, x_body, x_body1, x_body2, x_app, x_app1, x_app2, x_app3, x_pt, x_pt1, x_pt2, x_pt3, x_pt4, x_pt5, x_ie, x_ie1, x_items1, x_items2, x_rg1, x_rg11, x_rg2, x_rg21, x_zip, x_zip1, x_zip2, x_gs, x_gt, x_gc, x_gl, x_asg, x_asg1, x_for, x_for1, x_turn, x_next1, x_next2, x_next3, x_next4, x_tn, x_tn1, x_tn2, x_tn3, x_tn4, x_lc, x_lc1, x_lc2, x_ld, x_ld1, x_w1, x_w2, x_tg, x_tg1, x_tg2, x_sm, x_sm1, x_sm2, x_al, x_al1, x_ay, x_ay1, x_bl, x_bk1, x_bk2, x_jn, x_pr1, x_pr2, Option.bind_some, Option.bind_none, Option.map_some, Option.map_none, List.map_cons, List.map_nil, List.replicate_succ, List.replicate_zero, List.cons_append, List.nil_append, List.append_nil, List.getElem?_cons_zero, List.getElem?_cons_succ, List.set_cons_zero, List.set_cons_succ, List.length_cons, List.length_nil, Nat.zero_add, Nat.reduceAdd, Nat.reduceLeDiff, Nat.reduceLT]
      show ((tS (rowD r) _).bind _) = _
      rw [et, Option.bind_some]
      show (lcL [7] tS (rowsD l) [some b1, ks, mi, rel, nm, pl, some (.int ofi), none, rw8]).map _ = _
      rw [e2]
      rfl
    · refine ⟨b2, sub, ?_, hs.cons r, h4⟩
      have hd : decide (v < ofi) = false := decide_eq_false hv
      have et : tS (rowD r) [some b, ks, mi, rel, nm, pl, some (.int ofi), none, rw8] = some ([some b1, ks, mi, rel, nm, pl, some (.int ofi), some (rowD r), rw8], none) := by
        simp only [tS, e_draw, e, lt_ii, hd, x_seq, x_seq1, x_seq2, x_seq3, x_seq4, x_nil, x_brk, x_cnt, x_if, x_if1, x_if2, x_set, x_set1, x_ret, x_ret1, x_retN, x_drop, x_drop1, x_ev, x_ev1, x_et, x_et1, x_ec, x_gn, x_ge, x_ge1, x_ge2, x_gv, x_gv1, x_gv2, x_gv3, x_op, x_op1, x_hop, x_hop1, x_hop2, x_tru, x_tru1, x_not, x_not1, x_and, x_and1, x_and2, x_or, x_or1, x_or2, x_yes, x_tup, x_tup1, x_lst, x_lst1, x_eif, x_eif1, x_eif2, x_notE, x_notE1, x_eand, x_eand1, x_eand2, x_eor, x_eor1, x_eor2, x_call, x_call1, x_call2, x_put1, x_put2, x_put3, x_body, x_body1, x_body2, x_app, x_app1, x_app2, x_app3, x_pt, x_pt1, x_pt2, x_pt3, x_pt4, x_pt5, x_ie, x_ie1, x_items1, x_items2, x_rg1, x_rg11, x_rg2, x_rg21, x_zip, x_zip1, x_zip2, x_gs, x_gt, x_gc, x_gl, x_asg, x_asg1, x_for, x_for1, x_turn, x_next1, x_next2, x_next3, x_next4, x_tn, x_tn1, x_tn2, x_tn3, x_tn4, x_lc, x_lc1, x_lc2, x_ld, x_ld1, x_w1, x_w2, x_tg, x_tg1, x_tg2, x_sm, x_sm1, x_sm2, x_al, x_al1, x_ay, x_ay1, x_bl, x_bk1, x_bk2, x_jn, x_pr1, x_pr2, Option.bind_some, Option.bind_none, Option.map_some, Option.map_none, List.map_cons, List.map_nil, List.replicate_succ, List.replicate_zero, List.cons_append, List.nil_append, List.append_nil, List.getElem?_cons_zero, List.getElem?_cons_succ, List.set_cons_zero, List.set_cons_succ, List.length_cons, List.length_nil, Nat.zero_add, Nat.reduceAdd, Nat.reduceLeDiff, Nat.reduceLT]
      show ((tS (rowD r) _).bind _) = _
      rw [et, Option.bind_some]
      show (lcL [7] tS (rowsD l) [some b1, ks, mi, rel, nm, pl, some (.int ofi), none, rw8]).map _ = _
      rw [e2]
      rfl
end FH
namespace FH
open Sx PySem PySem.Spec PyProof.Rows L2
theorem tup_i {ds : List D} : tupI [.list ds] = some (.tuple ds) := rfl
/-- what a structure drawn is -/
def Drawn (ks : Kind) (m : Nat) (rs : List Rel) : Prop := rs.map (fun r => (r.name, r.k)) = ks ∧ ∀ r ∈ rs, r.rows.Sublist (tups m r.k)
abbrev Tst : Sv := (aSeq (aSet 6 (fOp addI ((gE (eC (.int 1))) ((gE (eCall [some 0, none] f_law_draw (gV 0 (gE (eC (.int 4)) gN)))) gN))))
    (aSeq (aSet 8 (fOp tupI ((gE (eLc (iE (eCall [none, none] f_law_tuples (gE (eV 2) (gE (eV 5) gN)))) tS [7])) gN)))
    (aSeq (aApp 3 (eTup (gE (eV 4) (gE (eV 5) (gE (eV 8) gN)))))
    aNil)))
theorem st_turn (ks : Option D) (m p : Nat) (mi pi : Int) (hmi : mi = (m : Int)) (hpi : pi = (p : Int)) (hm : m ≤ 1000) (hp : p ≤ 2) (nm : Str) (rel : List D) (hrel : rel.length < 100) (o6 o7 o8 : Option D) (b : D) (hb : IsBox b) :
    ∃ b' of7 rows, Tst [some b, ks, some (.int mi), some (.list rel), some (.str nm), some (.int pi), o6, o7, o8] = some (.nx [some b', ks, some (.int mi), some (.list (rel ++ [.tuple [.str nm, .int pi, .tuple (rowsD rows)]])), some (.str nm), some (.int pi), of7, o7, some (.tuple (rowsD rows))]) ∧ IsBox b' ∧ rows.Sublist (tups m p) := by
  obtain ⟨v, b1, e, h1, h2, h3⟩ := draw_ok (m := 4) hb (by decide)
  have hpow : m ^ p ≤ 16777216 := by
    have : p = 0 ∨ p = 1 ∨ p = 2 := by omega
    rcases this with rfl | rfl | rfl
    · simp
    · rw [Nat.pow_one]; omega
    · rw [Nat.pow_two]; exact Nat.le_trans (Nat.mul_le_mul hm hm) (by decide)
  have et := tup_ok m p mi pi hmi hpi (by omega) (by omega) hpow
  obtain ⟨b2, sub, e2, hs, h4⟩ := pick ks (some (.int mi)) (some (.list rel)) (some (.str nm)) (some (.int pi)) o8 (1 + v) (tups m p) b1 h3
  refine ⟨b2, some (.int (1 + v)), sub, ?_, h4, hs⟩
  have hl : (rowsD sub).length ≤ 16777216 := by
    unfold rowsD
    rw [List.length_map]
    exact Nat.le_trans hs.length_le (by rw [tups_len]; exact hpow)
  have hr : rel.length < 16777216 := by omega
  clear hmi hpi hpow
  generalize rowsD sub = out at e2 hl ⊢
  generalize rowsD (tups m p) = inp at et e2 ⊢
  simp only [Tst, e_draw, e_tup, e, et, e2, add_ii, tup_i, x_lc2 hl, x_app3 hr, x_seq, x_seq1, x_seq2, x_seq3, x_seq4, x_nil, x_brk, x_cnt, x_if, x_if1, x_if2, x_set, x_set1, x_ret, x_ret1, x_retN, x_drop, x_drop1, x_ev, x_ev1, x_et, x_et1, x_ec, x_gn, x_ge, x_ge1, x_ge2, x_gv, x_gv1, x_gv2, x_gv3, x_op, x_op1, x_hop, x_hop1, x_hop2, x_tru, x_tru1, x_not, x_not1, x_and, x_and1, x_and2, x_or, x_or1, x_or2, x_yes, x_tup, x_tup1, x_lst, x_lst1, x_eif, x_eif1, x_eif2, x_notE, x_notE1, x_eand, x_eand1, x_eand2, x_eor, x_eor1, x_eor2, x_call, x_call1, x_call2, x_put1, x_put2, x_put3, x_body, x_body1, x_body2, x_app, x_app1, x_app2, x_app3, x_pt, x_pt1, x_pt2, x_pt3, x_pt4, x_pt5, x_ie, x_ie1, x_items1, x_items2, x_rg1, x_rg11, x_rg2, x_rg21, x_zip, x_zip1, x_zip2, x_gs, x_gt, x_gc, x_gl, x_asg, x_asg1, x_for, x_for1, x_turn, x_next1, x_next2, x_next3, x_next4, x_tn, x_tn1, x_tn2, x_tn3, x_tn4, x_lc, x_lc1, x_lc2, x_ld, x_ld1, x_w1, x_w2, x_tg, x_tg1, x_tg2, x_sm, x_sm1, x_sm2, x_al, x_al1, x_ay, x_ay1, x_bl, x_bk1, x_bk2, x_jn, x_pr1, x_pr2, Option.bind_some, Option.bind_none, Option.map_some, Option.map_none, List.map_cons, List.map_nil, List.replicate_succ, List.replicate_zero, List.cons_append, List.nil_append, List.append_nil, List.getElem?_cons_zero, List.getElem?_cons_succ, List.set_cons_zero, List.set_cons_succ, List.length_cons, List.length_nil, Nat.zero_add, Nat.reduceAdd, Nat.reduceLeDiff, Nat.reduceLT]
theorem st_loop (kd : Option D) (m : Nat) (mi : Int) (hmi : mi = (m : Int)) (hm : m ≤ 1000) : ∀ (ks : Kind) (b : D) (done : List Rel) (o4 o5 o6 o7 o8 : Option D), IsBox b → (∀ k ∈ ks, k.2 ≤ 2) → done.length + ks.length ≤ 99 →
    ∃ b' rs q4 q5 q6 q7 q8, forL (gTupT 2 (gsCons (gSet 4) (gsCons (gSet 5) gsNil))) Tst (ks.map kndD) [some b, kd, some (.int mi), some (.list (done.map relD)), o4, o5, o6, o7, o8] = some (.nx [some b', kd, some (.int mi), some (.list ((done ++ rs).map relD)), q4, q5, q6, q7, q8]) ∧ IsBox b' ∧ Drawn ks m rs
  | [], b, done, o4, o5, o6, o7, o8, hb, _, _ => ⟨b, [], o4, o5, o6, o7, o8, by rw [List.append_nil]; rfl, hb, rfl, fun _ h => by simp at h⟩
  | k :: ks, b, done, o4, o5, o6, o7, o8, hb, hk, hl => by
    rw [List.length_cons] at hl
    obtain ⟨b1, of7, rows, e1, h1, h2⟩ := st_turn kd m k.2 mi (k.2 : Int) hmi rfl hm (hk k List.mem_cons_self) k.1 (done.map relD) (by rw [List.length_map]; omega) o6 o7 o8 b hb
    obtain ⟨b2, rs, q4, q5, q6, q7, q8, e2, h3, h4, h5⟩ := st_loop kd m mi hmi hm ks b1 (done ++ [⟨k.1, k.2, rows⟩]) (some (.str k.1)) (some (.int (k.2 : Int))) of7 o7 (some (.tuple (rowsD rows))) h1 (fun k h => hk k (List.mem_cons_of_mem _ h)) (by rw [List.length_append, List.length_singleton]; omega)
    refine ⟨b2, (⟨k.1, k.2, rows⟩ : Rel) :: rs, q4, q5, q6, q7, q8, ?_, h3, ?_, ?_⟩
    · rw [List.map_cons, forL_cons]
      have e0 : gTupT 2 (gsCons (gSet 4) (gsCons (gSet 5) gsNil)) (kndD k) [some b, kd, some (.int mi), some (.list (done.map relD)), o4, o5, o6, o7, o8] = some [some b, kd, some (.int mi), some (.list (done.map relD)), some (.str k.1), some (.int (k.2 : Int)), o6, o7, o8] := rfl
      rw [e0, Option.bind_some, x_turn, e1, Option.bind_some, x_next1]
      have e3 : done.map relD ++ [.tuple [.str k.1, .int (k.2 : Int), .tuple (rowsD rows)]] = (done ++ [(⟨k.1, k.2, rows⟩ : Rel)]).map relD := by rw [List.map_append]; rfl
      rw [e3, e2, List.append_assoc]
      rfl
    · rw [List.map_cons, h4]
    · intro r hr
      rcases List.mem_cons.mp hr with rfl | hr
      · exact h2
      · exact h5 r hr
theorem structure_ok (ks : Kind) (hk : ks ∈ allKinds) (m : Nat) (mi : Int) (hmi : mi = (m : Int)) (hm : m ≤ 1000) (b : D) (hb : IsBox b) : ∃ b' rs, f_law_structure [b, kindD ks, .int mi] = some (.tuple [.str "structure", .int mi, .tuple (rs.map relD)], [b', kindD ks, .int mi]) ∧ IsBox b' ∧ Drawn ks m rs := by
  have hk2 : (∀ k ∈ ks, k.2 ≤ 2) ∧ ks.length ≤ 3 := by
    simp only [allKinds, List.mem_cons, List.not_mem_nil, or_false] at hk
    rcases hk with rfl | rfl | rfl | rfl | rfl | rfl <;> simp
  obtain ⟨b2, rs, q4, q5, q6, q7, q8, e2, h3, h4⟩ := st_loop (some (kindD ks)) m mi hmi hm ks b [] none none none none none hb hk2.1 (by rw [List.length_nil]; omega)
  refine ⟨b2, rs, ?_, h3, h4⟩
  rw [List.nil_append, List.map_nil] at e2
  have it : items (kindD ks) = some (ks.map kndD) := rfl
  have z : ∀ ρ : Sx.Env, kLs0 (ρ, []) = some (ρ, .list []) := fun _ => rfl
  generalize kindD ks = kk at e2 it ⊢
  generalize List.map relD rs = out at e2 ⊢
  clear hmi
  simp only [f_law_structure, b_law_structure, it, e2, tup_i, z, x_seq, x_seq1, x_seq2, x_seq3, x_seq4, x_nil, x_brk, x_cnt, x_if, x_if1, x_if2, x_set, x_set1, x_ret, x_ret1, x_retN, x_drop, x_drop1, x_ev, x_ev1, x_et, x_et1, x_ec, x_gn, x_ge, x_ge1, x_ge2, x_gv, x_gv1, x_gv2, x_gv3, x_op, x_op1, x_hop, x_hop1, x_hop2, x_tru, x_tru1, x_not, x_not1, x_and, x_and1, x_and2, x_or, x_or1, x_or2, x_yes, x_tup, x_tup1, x_lst, x_lst1, x_eif, x_eif1, x_eif2, x_notE, x_notE1, x_eand, x_eand1, x_eand2, x_eor, x_eor1, x_eor2, x_call, x_call1, x_call2, x_put1, x_put2, x_put3, x_body, x_body1, x_body2, x_app, x_app1, x_app2, x_app3, x_pt, x_pt1, x_pt2, x_pt3, x_pt4, x_pt5, x_ie, x_ie1, x_items1, x_items2, x_rg1, x_rg11, x_rg2, x_rg21, x_zip, x_zip1, x_zip2, x_gs, x_gt, x_gc, x_gl, x_asg, x_asg1, x_for, x_for1, x_turn, x_next1, x_next2, x_next3, x_next4, x_tn, x_tn1, x_tn2, x_tn3, x_tn4, x_lc, x_lc1, x_lc2, x_ld, x_ld1, x_w1, x_w2, x_tg, x_tg1, x_tg2, x_sm, x_sm1, x_sm2, x_al, x_al1, x_ay, x_ay1, x_bl, x_bk1, x_bk2, x_jn, x_pr1, x_pr2, Option.bind_some, Option.bind_none, Option.map_some, Option.map_none, List.map_cons, List.map_nil, List.replicate_succ, List.replicate_zero, List.cons_append, List.nil_append, List.append_nil, List.getElem?_cons_zero, List.getElem?_cons_succ, List.set_cons_zero, List.set_cons_succ, List.length_cons, List.length_nil, Nat.zero_add, Nat.reduceAdd, Nat.reduceLeDiff, Nat.reduceLT]
  rfl
end FH
namespace FH
open Sx PySem PySem.Spec PyProof.Rows L2
def strI (mi : Int) (rs : List Rel) : D := .tuple [.str "structure", .int mi, .tuple (rs.map relD)]
def shift (m : Nat) (r : List Nat) : List Nat := r.map (m + ·)
def addR (m : Nat) (p : Rel × Rel) : Rel := ⟨p.1.name, p.1.k, p.1.rows ++ p.2.rows.map (shift m)⟩
theorem ix_str1 {mi : Int} {rs : List Rel} : ixA [strI mi rs, .int 1] = some (.int mi) := rfl
theorem ix_str2 {mi : Int} {rs : List Rel} : ixA [strI mi rs, .int 2] = some (.tuple (rs.map relD)) := rfl
theorem ix_rel2 {r : Rel} : ixA [relD r, .int 2] = some (.tuple (rowsD r.rows)) := rfl
theorem rowD_def {r : List Nat} : rowD r = .tuple (r.map fun (n : Nat) => .int (n : Int)) := rfl
theorem items_row {r : List Nat} : items (rowD r) = some (r.map fun (n : Nat) => .int (n : Int)) := rfl
theorem sg1 (m : Nat) (mi : Int) (hmi : mi = (m : Int)) (r : List Nat) (hr : r.length ≤ 1000) : eTupG (iE (eV 0)) (gTurn (gSet 0) hYes (fOp addI ((gV 1) ((gV 0) gN)))) [none, some 1] [some (rowD r), some (.int mi)] = some ([some (rowD r), some (.int mi)], rowD (shift m r)) := by
  have key := drainL_map (t := gTurn (gSet 0) hYes (fOp addI ((gV 1) ((gV 0) gN)))) (enc := fun (n : Nat) => (.int (n : Int) : D)) (out := fun (n : Nat) => (.int ((m + n : Nat) : Int) : D)) (P := fun ρ => ∃ o, ρ = [o, some (.int mi)]) (l := r) (ρ := [none, some (.int mi)]) ⟨_, rfl⟩ fun a _ ρ hρ => by
    obtain ⟨o, rfl⟩ := hρ
    refine ⟨[some (.int (a : Int)), some (.int mi)], ?_, _, rfl⟩
    have e : mi + (a : Int) = ((m + a : Nat) : Int) := by omega
    simp only [add_ii, e, x_seq, x_seq1, x_seq2, x_seq3, x_seq4, x_nil, x_brk, x_cnt, x_if, x_if1, x_if2, x_set, x_set1, x_ret, x_ret1, x_retN, x_drop, x_drop1, x_ev, x_ev1, x_et, x_et1, x_ec, x_gn, x_ge, x_ge1, x_ge2, x_gv, x_gv1, x_gv2, x_gv3, x_op, x_op1, x_hop, x_hop1, x_hop2, x_tru, x_tru1, x_not, x_not1, x_and, x_and1, x_and2, x_or, x_or1, x_or2, x_yes, x_tup, x_tup1, x_lst, x_lst1, x_eif, x_eif1, x_eif2, x_notE, x_notE1, x_eand, x_eand1, x_eand2, x_eor, x_eor1, x_eor2, x_call, x_call1, x_call2, x_put1, x_put2, x_put3, x_body, x_body1, x_body2, x_app, x_app1, x_app2, x_app3, x_pt, x_pt1, x_pt2, x_pt3, x_pt4, x_pt5, x_ie, x_ie1, x_items1, x_items2, x_rg1, x_rg11, x_rg2, x_rg21, x_zip, x_zip1, x_zip2, x_gs, x_gt, x_gc, x_gl, x_asg, x_asg1, x_for, x_for1, x_turn, x_next1, x_next2, x_next3, x_next4, x_tn, x_tn1, x_tn2, x_tn3, x_tn4, x_lc, x_lc1, x_lc2, x_ld, x_ld1, x_w1, x_w2, x_tg, x_tg1, x_tg2, x_sm, x_sm1, x_sm2, x_al, x_al1, x_ay, x_ay1, x_bl, x_bk1, x_bk2, x_jn, x_pr1, x_pr2, Option.bind_some, Option.bind_none, Option.map_some, Option.map_none, List.map_cons, List.map_nil, List.replicate_succ, List.replicate_zero, List.cons_append, List.nil_append, List.append_nil, List.getElem?_cons_zero, List.getElem?_cons_succ, List.set_cons_zero, List.set_cons_succ, List.length_cons, List.length_nil, Nat.zero_add, Nat.reduceAdd, Nat.reduceLeDiff, Nat.reduceLT]
  have e2 : List.map (fun (n : Nat) => (.int ((m + n : Nat) : Int) : D)) r = (shift m r).map fun (n : Nat) => (.int (n : Int) : D) := by unfold shift; rw [List.map_map]; rfl
  rw [e2] at key
  have hl : ((shift m r).map fun (n : Nat) => (.int (n : Int) : D)).length ≤ 16777216 := by unfold shift; rw [List.length_map, List.length_map]; omega
  have it := @items_row r
  rw [@rowD_def (shift m r)]
  clear hmi e2
  generalize List.map (fun (n : Nat) => (.int (n : Int) : D)) (shift m r) = out at key hl ⊢
  generalize List.map (fun (n : Nat) => (.int (n : Int) : D)) r = inp at key it
  generalize rowD r = rd at it ⊢
  simp only [it, key, x_tg2 hl, x_seq, x_seq1, x_seq2, x_seq3, x_seq4, x_nil, x_brk, x_cnt, x_if, x_if1, x_if2, x_set, x_set1, x_ret, x_ret1, x_retN, x_drop, x_drop1, x_ev, x_ev1, x_et, x_et1, x_ec, x_gn, x_ge, x_ge1, x_ge2, x_gv, x_gv1, x_gv2, x_gv3, x_op, x_op1, x_hop, x_hop1, x_hop2, x_tru, x_tru1, x_not, x_not1, x_and, x_and1, x_and2, x_or, x_or1, x_or2, x_yes, x_tup, x_tup1, x_lst, x_lst1, x_eif, x_eif1, x_eif2, x_notE, x_notE1, x_eand, x_eand1, x_eand2, x_eor, x_eor1, x_eor2, x_call, x_call1, x_call2, x_put1, x_put2, x_put3, x_body, x_body1, x_body2, x_app, x_app1, x_app2, x_app3, x_pt, x_pt1, x_pt2, x_pt3, x_pt4, x_pt5, x_ie, x_ie1, x_items1, x_items2, x_rg1, x_rg11, x_rg2, x_rg21, x_zip, x_zip1, x_zip2, x_gs, x_gt, x_gc, x_gl, x_asg, x_asg1, x_for, x_for1, x_turn, x_next1, x_next2, x_next3, x_next4, x_tn, x_tn1, x_tn2, x_tn3, x_tn4, x_lc, x_lc1, x_lc2, x_ld, x_ld1, x_w1, x_w2, x_tg, x_tg1, x_tg2, x_sm, x_sm1, x_sm2, x_al, x_al1, x_ay, x_ay1, x_bl, x_bk1, x_bk2, x_jn, x_pr1, x_pr2, Option.bind_some, Option.bind_none, Option.map_some, Option.map_none, List.map_cons, List.map_nil, List.replicate_succ, List.replicate_zero, List.cons_append, List.nil_append, List.append_nil, List.getElem?_cons_zero, List.getElem?_cons_succ, List.set_cons_zero, List.set_cons_succ, List.length_cons, List.length_nil, Nat.zero_add, Nat.reduceAdd, Nat.reduceLeDiff, Nat.reduceLT]
abbrev Tsm : Gt := (gTurn (gSet 0) hYes (eTupG (iE (eV 0)) (gTurn (gSet 0) hYes (fOp addI ((gV 1) ((gV 0) gN)))) [none, some 1]))
theorem sg2 (m : Nat) (mi : Int) (hmi : mi = (m : Int)) (l : List (List Nat)) (hr : ∀ r ∈ l, r.length ≤ 1000) : drainL Tsm (rowsD l) [none, some (.int mi)] = some (rowsD (l.map (shift m))) := by
  have key := drainL_map (t := Tsm) (enc := rowD) (out := fun r => rowD (shift m r)) (P := fun ρ => ∃ o, ρ = [o, some (.int mi)]) (l := l) (ρ := [none, some (.int mi)]) ⟨_, rfl⟩ fun a ha ρ hρ => by
    obtain ⟨o, rfl⟩ := hρ
    refine ⟨[some (rowD a), some (.int mi)], ?_, _, rfl⟩
    have e := sg1 m mi hmi a (hr a ha)
    generalize rowD a = u at e ⊢
    generalize rowD (shift m a) = v at e ⊢
    simp only [e, x_seq, x_seq1, x_seq2, x_seq3, x_seq4, x_nil, x_brk, x_cnt, x_if, x_if1, x_if2, x_set, x_set1, x_ret, x_ret1, x_retN, x_drop, x_drop1, x_ev, x_ev1, x_et, x_et1, x_ec, x_gn, x_ge, x_ge1, x_ge2, x_gv, x_gv1, x_gv2, x_gv3, x_op, x_op1, x_hop, x_hop1, x_hop2, x_tru, x_tru1, x_not, x_not1, x_and, x_and1, x_and2, x_or, x_or1, x_or2, x_yes, x_tup, x_tup1, x_lst, x_lst1, x_eif, x_eif1, x_eif2, x_notE, x_notE1, x_eand, x_eand1, x_eand2, x_eor, x_eor1, x_eor2, x_call, x_call1, x_call2, x_put1, x_put2, x_put3, x_body, x_body1, x_body2, x_app, x_app1, x_app2, x_app3, x_pt, x_pt1, x_pt2, x_pt3, x_pt4, x_pt5, x_ie, x_ie1, x_items1, x_items2, x_rg1, x_rg11, x_rg2, x_rg21, x_zip, x_zip1, x_zip2, x_gs, x_gt, x_gc, x_gl, x_asg, x_asg1, x_for, x_for1, x_turn, x_next1, x_next2, x_next3, x_next4, x_tn, x_tn1, x_tn2, x_tn3, x_tn4, x_lc, x_lc1, x_lc2, x_ld, x_ld1, x_w1, x_w2, x_tg, x_tg1, x_tg2, x_sm, x_sm1, x_sm2, x_al, x_al1, x_ay, x_ay1, x_bl, x_bk1, x_bk2, x_jn, x_pr1, x_pr2, Option.bind_some, Option.bind_none, Option.map_some, Option.map_none, List.map_cons, List.map_nil, List.replicate_succ, List.replicate_zero, List.cons_append, List.nil_append, List.append_nil, List.getElem?_cons_zero, List.getElem?_cons_succ, List.set_cons_zero, List.set_cons_succ, List.length_cons, List.length_nil, Nat.zero_add, Nat.reduceAdd, Nat.reduceLeDiff, Nat.reduceLT]
  unfold rowsD
  rw [key, List.map_map]
  rfl
abbrev Tsu : Sv := (aSeq (aApp 3 (eTup (gE (eV 4) (gE (eV 5) (gE (fOp addI ((gV 6) ((gE (eTupG (iE (eV 8)) Tsm [none, some 2])) gN))) gN)))))
    aNil)
abbrev Gzip : Gv := (gTupT 2 (gsCons (gTupT 3 (gsCons (gSet 4) (gsCons (gSet 5) (gsCons (gSet 6) gsNil)))) (gsCons (gTupT 3 (gsCons (gSet 7) (gsCons (gSet 7) (gsCons (gSet 8) gsNil)))) gsNil)))
/-- how great the parts of a structure are -/
structure Fit (m : Nat) (r : Rel) : Prop where
  k1 : 1 ≤ r.k
  k2 : r.k ≤ 2
  row : ∀ q ∈ r.rows, q.length = r.k ∧ ∀ x ∈ q, x < m
  many : r.rows.length ≤ 1000
theorem sum_turn (st ot : Option D) (m : Nat) (mi : Int) (hmi : mi = (m : Int)) (nm : D) (ki : Int) (l1 l2 : List (List Nat)) (h1 : l1.length ≤ 1000) (h2 : l2.length ≤ 1000) (hr : ∀ r ∈ l2, r.length ≤ 1000) (acc : List D) (ha : acc.length ≤ 1000) (o7 : Option D) :
    Tsu [st, ot, some (.int mi), some (.list acc), some nm, some (.int ki), some (.tuple (rowsD l1)), o7, some (.tuple (rowsD l2))] = some (.nx [st, ot, some (.int mi), some (.list (acc ++ [.tuple [nm, .int ki, .tuple (rowsD (l1 ++ l2.map (shift m)))]])), some nm, some (.int ki), some (.tuple (rowsD l1)), o7, some (.tuple (rowsD l2))]) := by
  have e := sg2 m mi hmi l2 hr
  have e2 : addI [.tuple (rowsD l1), .tuple (rowsD (l2.map (shift m)))] = some (.tuple (rowsD (l1 ++ l2.map (shift m)))) := by
    rw [add_tt (by unfold rowsD; rw [List.length_map, List.length_map, List.length_map]; omega)]
    unfold rowsD
    rw [List.map_append]
  have hl : (rowsD (l2.map (shift m))).length ≤ 16777216 := by unfold rowsD; rw [List.length_map, List.length_map]; omega
  have hs : acc.length < 16777216 := by omega
  clear hmi
  generalize rowsD (l1 ++ l2.map (shift m)) = r12 at e2 ⊢
  generalize rowsD (l2.map (shift m)) = r2s at e e2 hl ⊢
  generalize rowsD l2 = r2 at e ⊢
  generalize rowsD l1 = r1 at e2 ⊢
  simp only [Tsu, e, e2, x_tg2 hl, x_app3 hs, x_seq, x_seq1, x_seq2, x_seq3, x_seq4, x_nil, x_brk, x_cnt, x_if, x_if1, x_if2, x_set, x_set1, x_ret, x_ret1, x_retN, x_drop, x_drop1, x_ev, x_ev1, x_et, x_et1, x_ec, x_gn, x_ge, x_ge1, x_ge2, x_gv, x_gv1, x_gv2, x_gv3, x_op, x_op1, x_hop, x_hop1, x_hop2, x_tru, x_tru1, x_not, x_not1, x_and, x_and1, x_and2, x_or, x_or1, x_or2, x_yes, x_tup, x_tup1, x_lst, x_lst1, x_eif, x_eif1, x_eif2, x_notE, x_notE1, x_eand, x_eand1, x_eand2, x_eor, x_eor1, x_eor2, x_call, x_call1, x_call2, x_put1, x_put2, x_put3, x_body, x_body1, x_body2, x_app, x_app1, x_app2, x_app3, x_pt, x_pt1, x_pt2, x_pt3, x_pt4, x_pt5, x_ie, x_ie1, x_items1, x_items2, x_rg1, x_rg11, x_rg2, x_rg21, x_zip, x_zip1, x_zip2, x_gs, x_gt, x_gc, x_gl, x_asg, x_asg1, x_for, x_for1, x_turn, x_next1, x_next2, x_next3, x_next4, x_tn, x_tn1, x_tn2, x_tn3, x_tn4, x_lc, x_lc1, x_lc2, x_ld, x_ld1, x_w1, x_w2, x_tg, x_tg1, x_tg2, x_sm, x_sm1, x_sm2, x_al, x_al1, x_ay, x_ay1, x_bl, x_bk1, x_bk2, x_jn, x_pr1, x_pr2, Option.bind_some, Option.bind_none, Option.map_some, Option.map_none, List.map_cons, List.map_nil, List.replicate_succ, List.replicate_zero, List.cons_append, List.nil_append, List.append_nil, List.getElem?_cons_zero, List.getElem?_cons_succ, List.set_cons_zero, List.set_cons_succ, List.length_cons, List.length_nil, Nat.zero_add, Nat.reduceAdd, Nat.reduceLeDiff, Nat.reduceLT]
theorem sum_of_ok (m n : Nat) (mi ni si : Int) (hmi : mi = (m : Int)) (hsi : si = mi + ni) (ps : List (Rel × Rel)) (hps : ps.length ≤ 3) (h1 : ∀ p ∈ ps, Fit m p.1 ∧ Fit n p.2) :
    f_sum_of [strI mi (ps.map (·.1)), strI ni (ps.map (·.2))] = some (strI si (ps.map (addR m)), [strI mi (ps.map (·.1)), strI ni (ps.map (·.2))]) := by
  have lp := forL_list (G := Gzip) (fb := Tsu) (enc := fun p : Rel × Rel => .tuple [relD p.1, relD p.2]) (l := ps) (pre := []) (Q := fun p ρ => ∃ o4 o5 o6 o7 o8, ρ = [some (strI mi (ps.map (·.1))), some (strI ni (ps.map (·.2))), some (.int mi), some (.list (p.map fun p => relD (addR m p))), o4, o5, o6, o7, o8]) (ρ := [some (strI mi (ps.map (·.1))), some (strI ni (ps.map (·.2))), some (.int mi), some (.list []), none, none, none, none, none]) ⟨_, _, _, _, _, rfl⟩ fun p a s es ρ hρ => by
    obtain ⟨o4, o5, o6, o7, o8, rfl⟩ := hρ
    rw [List.nil_append] at es
    have ha : a ∈ ps := by rw [es]; simp
    have hp : p.length ≤ 3 := by
      have := congrArg List.length es
      rw [List.length_append] at this
      omega
    obtain ⟨f1, f2⟩ := h1 a ha
    have ht := sum_turn (some (strI mi (ps.map (·.1)))) (some (strI ni (ps.map (·.2)))) m mi hmi (.str a.1.name) (a.1.k : Int) a.1.rows a.2.rows f1.many f2.many (fun r hr => by rw [(f2.row r hr).1]; have := f2.k2; omega) (p.map fun p => relD (addR m p)) (by rw [List.length_map]; omega) (some (.int (a.2.k : Int)))
    refine ⟨_, _, rfl, ht, ?_⟩
    rw [List.map_append]
    exact ⟨_, _, _, _, _, rfl⟩
  obtain ⟨ρ', e, o4, o5, o6, o7, o8, rfl⟩ := lp
  rw [← pairs_map (fun p : Rel × Rel => relD p.1) (fun p => relD p.2), List.nil_append] at e
  have i1 : ixA [strI mi (ps.map (·.1)), .int 2] = some (.tuple (ps.map fun p => relD p.1)) := by rw [ix_str2, List.map_map]; rfl
  have i2 : ixA [strI ni (ps.map (·.2)), .int 2] = some (.tuple (ps.map fun p => relD p.2)) := by rw [ix_str2, List.map_map]; rfl
  have i3 := @ix_str1 mi (ps.map (·.1))
  have i4 := @ix_str1 ni (ps.map (·.2))
  have hout : strI si (ps.map (addR m)) = .tuple [.str "structure", .int si, .tuple (ps.map fun p => relD (addR m p))] := by unfold strI; rw [List.map_map]; rfl
  rw [hout]
  have z : ∀ ρ : Sx.Env, kLs0 (ρ, []) = some (ρ, .list []) := fun _ => rfl
  clear hout hmi
  generalize strI mi (ps.map (·.1)) = s1 at i1 i3 e ⊢
  generalize strI ni (ps.map (·.2)) = s2 at i2 i4 e ⊢
  generalize (ps.map fun p => relD p.1) = q1 at i1 e
  generalize (ps.map fun p => relD p.2) = q2 at i2 e
  generalize (ps.map fun p => relD (addR m p)) = q3 at e ⊢
  simp only [f_sum_of, b_sum_of, i1, i2, i3, i4, z, e, add_ii, tup_i, ← hsi, x_seq, x_seq1, x_seq2, x_seq3, x_seq4, x_nil, x_brk, x_cnt, x_if, x_if1, x_if2, x_set, x_set1, x_ret, x_ret1, x_retN, x_drop, x_drop1, x_ev, x_ev1, x_et, x_et1, x_ec, x_gn, x_ge, x_ge1, x_ge2, x_gv, x_gv1, x_gv2, x_gv3, x_op, x_op1, x_hop, x_hop1, x_hop2, x_tru, x_tru1, x_not, x_not1, x_and, x_and1, x_and2, x_or, x_or1, x_or2, x_yes, x_tup, x_tup1, x_lst, x_lst1, x_eif, x_eif1, x_eif2, x_notE, x_notE1, x_eand, x_eand1, x_eand2, x_eor, x_eor1, x_eor2, x_call, x_call1, x_call2, x_put1, x_put2, x_put3, x_body, x_body1, x_body2, x_app, x_app1, x_app2, x_app3, x_pt, x_pt1, x_pt2, x_pt3, x_pt4, x_pt5, x_ie, x_ie1, x_items1, x_items2, x_rg1, x_rg11, x_rg2, x_rg21, x_zip, x_zip1, x_zip2, x_gs, x_gt, x_gc, x_gl, x_asg, x_asg1, x_for, x_for1, x_turn, x_next1, x_next2, x_next3, x_next4, x_tn, x_tn1, x_tn2, x_tn3, x_tn4, x_lc, x_lc1, x_lc2, x_ld, x_ld1, x_w1, x_w2, x_tg, x_tg1, x_tg2, x_sm, x_sm1, x_sm2, x_al, x_al1, x_ay, x_ay1, x_bl, x_bk1, x_bk2, x_jn, x_pr1, x_pr2, Option.bind_some, Option.bind_none, Option.map_some, Option.map_none, List.map_cons, List.map_nil, List.replicate_succ, List.replicate_zero, List.cons_append, List.nil_append, List.append_nil, List.getElem?_cons_zero, List.getElem?_cons_succ, List.set_cons_zero, List.set_cons_succ, List.length_cons, List.length_nil, Nat.zero_add, Nat.reduceAdd, Nat.reduceLeDiff, Nat.reduceLT]
  rfl
end FH
namespace FH
open Sx PySem PySem.Spec PyProof.Rows L2
theorem lst_t {ds : List D} : lstI [.tuple ds] = some (.list ds) := rfl
theorem sort_asc {l : List (List Nat)} (h : l.Pairwise fun a b => nLe a b = true) : l.mergeSort nLe = l := List.mergeSort_of_pairwise h
abbrev Tls1 : Gt := (gTurn (gSet 8) hYes (fOp addI ((gE (fOp ixA ((gV 0) ((gE (eC (.int 1))) gN)))) ((gV 8) gN))))
abbrev Tls2 : Gt := (gTurn (gSet 7) hYes (fOp tupI ((gE (eLc (iE (eV 7)) Tls1 [8])) gN)))
theorem ls1 (one : D) (o1 o2 o3 o4 o5 o6 o8 o9 : Option D) (m : Nat) (mi : Int) (hmi : mi = (m : Int)) (hone : ixA [one, .int 1] = some (.int mi)) (r : List Nat) (hr : r.length ≤ 1000) :
    Tls2 (rowD r) [some one, o1, o2, o3, o4, o5, o6, none, o8, o9] = some ([some one, o1, o2, o3, o4, o5, o6, some (rowD r), o8, o9], some (rowD (shift m r))) := by
  have key := lcL_map (t := Tls1) (vs := [8]) (enc := fun (n : Nat) => (.int (n : Int) : D)) (out := fun (n : Nat) => (.int ((m + n : Nat) : Int) : D)) (l := r) (ρ := [some one, o1, o2, o3, o4, o5, o6, some (rowD r), none, o9]) fun a _ => by
    refine ⟨[some one, o1, o2, o3, o4, o5, o6, some (rowD r), some (.int (a : Int)), o9], ?_, rfl⟩
    have e : mi + (a : Int) = ((m + a : Nat) : Int) := by omega
    generalize rowD r = rd
    simp only [hone, add_ii, e, x_seq, x_seq1, x_seq2, x_seq3, x_seq4, x_nil, x_brk, x_cnt, x_if, x_if1, x_if2, x_set, x_set1, x_ret, x_ret1, x_retN, x_drop, x_drop1, x_ev, x_ev1, x_et, x_et1, x_ec, x_gn, x_ge, x_ge1, x_ge2, x_gv, x_gv1, x_gv2, x_gv3, x_op, x_op1, x_hop, x_hop1, x_hop2, x_tru, x_tru1, x_not, x_not1, x_and, x_and1, x_and2, x_or, x_or1, x_or2, x_yes, x_tup, x_tup1, x_lst, x_lst1, x_eif, x_eif1, x_eif2, x_notE, x_notE1, x_eand, x_eand1, x_eand2, x_eor, x_eor1, x_eor2, x_call, x_call1, x_call2, x_put1, x_put2, x_put3, x_body, x_body1, x_body2, x_app, x_app1, x_app2, x_app3, x_pt, x_pt1, x_pt2, x_pt3, x_pt4, x_pt5, x_ie, x_ie1, x_items1, x_items2, x_rg1, x_rg11, x_rg2, x_rg21, x_zip, x_zip1, x_zip2, x_gs, x_gt, x_gc, x_gl, x_asg, x_asg1, x_for, x_for1, x_turn, x_next1, x_next2, x_next3, x_next4, x_tn, x_tn1, x_tn2, x_tn3, x_tn4, x_lc, x_lc1, x_lc2, x_ld, x_ld1, x_w1, x_w2, x_tg, x_tg1, x_tg2, x_sm, x_sm1, x_sm2, x_al, x_al1, x_ay, x_ay1, x_bl, x_bk1, x_bk2, x_jn, x_pr1, x_pr2, Option.bind_some, Option.bind_none, Option.map_some, Option.map_none, List.map_cons, List.map_nil, List.replicate_succ, List.replicate_zero, List.cons_append, List.nil_append, List.append_nil, List.getElem?_cons_zero, List.getElem?_cons_succ, List.set_cons_zero, List.set_cons_succ, List.length_cons, List.length_nil, Nat.zero_add, Nat.reduceAdd, Nat.reduceLeDiff, Nat.reduceLT]
  have e2 : List.map (fun (n : Nat) => (.int ((m + n : Nat) : Int) : D)) r = (shift m r).map fun (n : Nat) => (.int (n : Int) : D) := by unfold shift; rw [List.map_map]; rfl
  rw [e2] at key
  have hl : ((shift m r).map fun (n : Nat) => (.int (n : Int) : D)).length ≤ 16777216 := by unfold shift; rw [List.length_map, List.length_map]; omega
  have it := @items_row r
  rw [@rowD_def (shift m r)]
  clear hmi e2
  generalize List.map (fun (n : Nat) => (.int (n : Int) : D)) (shift m r) = out at key hl ⊢
  generalize List.map (fun (n : Nat) => (.int (n : Int) : D)) r = inp at key it
  generalize rowD r = rd at it key ⊢
  simp only [it, key, x_lc2 hl, tup_i, x_seq, x_seq1, x_seq2, x_seq3, x_seq4, x_nil, x_brk, x_cnt, x_if, x_if1, x_if2, x_set, x_set1, x_ret, x_ret1, x_retN, x_drop, x_drop1, x_ev, x_ev1, x_et, x_et1, x_ec, x_gn, x_ge, x_ge1, x_ge2, x_gv, x_gv1, x_gv2, x_gv3, x_op, x_op1, x_hop, x_hop1, x_hop2, x_tru, x_tru1, x_not, x_not1, x_and, x_and1, x_and2, x_or, x_or1, x_or2, x_yes, x_tup, x_tup1, x_lst, x_lst1, x_eif, x_eif1, x_eif2, x_notE, x_notE1, x_eand, x_eand1, x_eand2, x_eor, x_eor1, x_eor2, x_call, x_call1, x_call2, x_put1, x_put2, x_put3, x_body, x_body1, x_body2, x_app, x_app1, x_app2, x_app3, x_pt, x_pt1, x_pt2, x_pt3, x_pt4, x_pt5, x_ie, x_ie1, x_items1, x_items2, x_rg1, x_rg11, x_rg2, x_rg21, x_zip, x_zip1, x_zip2, x_gs, x_gt, x_gc, x_gl, x_asg, x_asg1, x_for, x_for1, x_turn, x_next1, x_next2, x_next3, x_next4, x_tn, x_tn1, x_tn2, x_tn3, x_tn4, x_lc, x_lc1, x_lc2, x_ld, x_ld1, x_w1, x_w2, x_tg, x_tg1, x_tg2, x_sm, x_sm1, x_sm2, x_al, x_al1, x_ay, x_ay1, x_bl, x_bk1, x_bk2, x_jn, x_pr1, x_pr2, Option.bind_some, Option.bind_none, Option.map_some, Option.map_none, List.map_cons, List.map_nil, List.replicate_succ, List.replicate_zero, List.cons_append, List.nil_append, List.append_nil, List.getElem?_cons_zero, List.getElem?_cons_succ, List.set_cons_zero, List.set_cons_succ, List.length_cons, List.length_nil, Nat.zero_add, Nat.reduceAdd, Nat.reduceLeDiff, Nat.reduceLT]
abbrev Tls : Sv := (aSeq (aAsg (fOp ixA ((gE (fOp ixA ((gV 0) ((gE (eC (.int 2))) gN)))) ((gV 3) gN))) (gTupT 3 (gsCons (gSet 4) (gsCons (gSet 5) (gsCons (gSet 6) gsNil)))))
    (aSeq (aSet 9 (eLc (iE (fOp ixA ((gE (fOp ixA ((gE (fOp ixA ((gV 1) ((gE (eC (.int 2))) gN)))) ((gV 3) gN)))) ((gE (eC (.int 2))) gN)))) Tls2 [7]))
    (aSeq (aApp 2 (eTup (gE (eV 4) (gE (eV 5) (gE (fOp tupI ((gE (fOp sortI ((gE (fOp addI ((gE (fOp lstI ((gV 6) gN))) ((gV 9) gN)))) gN))) gN)) gN)))))
    aNil)))
theorem lsum_turn (one two : D) (s1 s2 : List D) (o4 o5 o6 o7 o8 o9 : Option D) (m : Nat) (mi : Int) (hmi : mi = (m : Int)) (h11 : ixA [one, .int 1] = some (.int mi)) (h12 : ixA [one, .int 2] = some (.tuple s1)) (h22 : ixA [two, .int 2] = some (.tuple s2))
    (k : Int) (nm : D) (ki kj : Int) (l1 l2 : List (List Nat)) (hk1 : ixA [.tuple s1, .int k] = some (.tuple [nm, .int ki, .tuple (rowsD l1)])) (hk2 : ixA [.tuple s2, .int k] = some (.tuple [nm, .int kj, .tuple (rowsD l2)]))
    (h1 : l1.length ≤ 1000) (h2 : l2.length ≤ 1000) (hr : ∀ r ∈ l2, r.length ≤ 1000) (acc : List D) (ha : acc.length ≤ 1000) (hne : ∀ r ∈ l1 ++ l2.map (shift m), r ≠ []) (hasc : (l1 ++ l2.map (shift m)).Pairwise fun a b => nLe a b = true) :
    ∃ q4 q5 q6 q7 q8 q9, Tls [some one, some two, some (.list acc), some (.int k), o4, o5, o6, o7, o8, o9] = some (.nx [some one, some two, some (.list (acc ++ [.tuple [nm, .int ki, .tuple (rowsD (l1 ++ l2.map (shift m)))]])), some (.int k), q4, q5, q6, q7, q8, q9]) := by
  refine ⟨some nm, some (.int ki), some (.tuple (rowsD l1)), o7, o8, some (.list (rowsD (l2.map (shift m)))), ?_⟩
  have key := lcL_map (t := Tls2) (vs := [7]) (enc := rowD) (out := fun r => rowD (shift m r)) (l := l2) (ρ := [some one, some two, some (.list acc), some (.int k), some nm, some (.int ki), some (.tuple (rowsD l1)), none, o8, o9]) fun a ha =>
    ⟨[some one, some two, some (.list acc), some (.int k), some nm, some (.int ki), some (.tuple (rowsD l1)), some (rowD a), o8, o9], ls1 one (some two) (some (.list acc)) (some (.int k)) (some nm) (some (.int ki)) (some (.tuple (rowsD l1))) o8 o9 m mi hmi h11 a (hr a ha), rfl⟩
  have ek : l2.map (fun r => rowD (shift m r)) = rowsD (l2.map (shift m)) := by unfold rowsD; rw [List.map_map]; rfl
  rw [ek] at key
  have e2 : addI [.list (rowsD l1), .list (rowsD (l2.map (shift m)))] = some (.list (rowsD (l1 ++ l2.map (shift m)))) := by
    rw [add_ll (by unfold rowsD; rw [List.length_map, List.length_map, List.length_map]; omega)]
    unfold rowsD
    rw [List.map_append]
  have e3 := sort_rows (l := l1 ++ l2.map (shift m)) (by rw [List.length_append, List.length_map]; omega) hne
  rw [sort_asc hasc] at e3
  have hl : (rowsD (l2.map (shift m))).length ≤ 16777216 := by unfold rowsD; rw [List.length_map, List.length_map]; omega
  have hs : acc.length < 16777216 := by omega
  have i2 : ixA [.tuple [nm, .int kj, .tuple (rowsD l2)], .int 2] = some (.tuple (rowsD l2)) := rfl
  have ir : l2.map rowD = rowsD l2 := rfl
  rw [ir] at key
  clear hmi ek hasc hne
  generalize rowsD (l1 ++ l2.map (shift m)) = r12 at e2 e3 ⊢
  generalize rowsD (l2.map (shift m)) = r2s at key e2 hl ⊢
  generalize rowsD l2 = r2 at key hk2 i2
  generalize rowsD l1 = r1 at e2 key hk1 ⊢
  simp only [Tls, h12, h22, hk1, hk2, i2, lst_t, key, e2, e3, tup_i, x_lc2 hl, x_app3 hs, x_seq, x_seq1, x_seq2, x_seq3, x_seq4, x_nil, x_brk, x_cnt, x_if, x_if1, x_if2, x_set, x_set1, x_ret, x_ret1, x_retN, x_drop, x_drop1, x_ev, x_ev1, x_et, x_et1, x_ec, x_gn, x_ge, x_ge1, x_ge2, x_gv, x_gv1, x_gv2, x_gv3, x_op, x_op1, x_hop, x_hop1, x_hop2, x_tru, x_tru1, x_not, x_not1, x_and, x_and1, x_and2, x_or, x_or1, x_or2, x_yes, x_tup, x_tup1, x_lst, x_lst1, x_eif, x_eif1, x_eif2, x_notE, x_notE1, x_eand, x_eand1, x_eand2, x_eor, x_eor1, x_eor2, x_call, x_call1, x_call2, x_put1, x_put2, x_put3, x_body, x_body1, x_body2, x_app, x_app1, x_app2, x_app3, x_pt, x_pt1, x_pt2, x_pt3, x_pt4, x_pt5, x_ie, x_ie1, x_items1, x_items2, x_rg1, x_rg11, x_rg2, x_rg21, x_zip, x_zip1, x_zip2, x_gs, x_gt, x_gc, x_gl, x_asg, x_asg1, x_for, x_for1, x_turn, x_next1, x_next2, x_next3, x_next4, x_tn, x_tn1, x_tn2, x_tn3, x_tn4, x_lc, x_lc1, x_lc2, x_ld, x_ld1, x_w1, x_w2, x_tg, x_tg1, x_tg2, x_sm, x_sm1, x_sm2, x_al, x_al1, x_ay, x_ay1, x_bl, x_bk1, x_bk2, x_jn, x_pr1, x_pr2, Option.bind_some, Option.bind_none, Option.map_some, Option.map_none, List.map_cons, List.map_nil, List.replicate_succ, List.replicate_zero, List.cons_append, List.nil_append, List.append_nil, List.getElem?_cons_zero, List.getElem?_cons_succ, List.set_cons_zero, List.set_cons_succ, List.length_cons, List.length_nil, Nat.zero_add, Nat.reduceAdd, Nat.reduceLeDiff, Nat.reduceLT]
theorem law_sum_end (s1 s2 : D) (q1 q3 : List D) (mi ni si li : Int) (hsi : si = mi + ni) (i1 : ixA [s1, .int 2] = some (.tuple q1)) (i3 : ixA [s1, .int 1] = some (.int mi)) (i4 : ixA [s2, .int 1] = some (.int ni)) (il : lenI [.tuple q1] = some (.int li)) (ok : ok62 li = true) (o3 o4 o5 o6 o7 o8 o9 : Option D)
    (e : forL (gSet 3) Tls (upTo 0 li) [some s1, some s2, some (.list []), none, none, none, none, none, none, none] = some (.nx [some s1, some s2, some (.list q3), o3, o4, o5, o6, o7, o8, o9])) :
    f_law_sum [s1, s2] = some (.tuple [.str "structure", .int si, .tuple q3], [s1, s2]) := by
  have z : ∀ ρ : Sx.Env, kLs0 (ρ, []) = some (ρ, .list []) := fun _ => rfl
  simp only [f_law_sum, b_law_sum, i1, i3, i4, il, x_rg11 ok, z, e, add_ii, tup_i, ← hsi, x_seq, x_seq1, x_seq2, x_seq3, x_seq4, x_nil, x_brk, x_cnt, x_if, x_if1, x_if2, x_set, x_set1, x_ret, x_ret1, x_retN, x_drop, x_drop1, x_ev, x_ev1, x_et, x_et1, x_ec, x_gn, x_ge, x_ge1, x_ge2, x_gv, x_gv1, x_gv2, x_gv3, x_op, x_op1, x_hop, x_hop1, x_hop2, x_tru, x_tru1, x_not, x_not1, x_and, x_and1, x_and2, x_or, x_or1, x_or2, x_yes, x_tup, x_tup1, x_lst, x_lst1, x_eif, x_eif1, x_eif2, x_notE, x_notE1, x_eand, x_eand1, x_eand2, x_eor, x_eor1, x_eor2, x_call, x_call1, x_call2, x_put1, x_put2, x_put3, x_body, x_body1, x_body2, x_app, x_app1, x_app2, x_app3, x_pt, x_pt1, x_pt2, x_pt3, x_pt4, x_pt5, x_ie, x_ie1, x_items1, x_items2, x_rg1, x_rg11, x_rg2, x_rg21, x_zip, x_zip1, x_zip2, x_gs, x_gt, x_gc, x_gl, x_asg, x_asg1, x_for, x_for1, x_turn, x_next1, x_next2, x_next3, x_next4, x_tn, x_tn1, x_tn2, x_tn3, x_tn4, x_lc, x_lc1, x_lc2, x_ld, x_ld1, x_w1, x_w2, x_tg, x_tg1, x_tg2, x_sm, x_sm1, x_sm2, x_al, x_al1, x_ay, x_ay1, x_bl, x_bk1, x_bk2, x_jn, x_pr1, x_pr2, Option.bind_some, Option.bind_none, Option.map_some, Option.map_none, List.map_cons, List.map_nil, List.replicate_succ, List.replicate_zero, List.cons_append, List.nil_append, List.append_nil, List.getElem?_cons_zero, List.getElem?_cons_succ, List.set_cons_zero, List.set_cons_succ, List.length_cons, List.length_nil, Nat.zero_add, Nat.reduceAdd, Nat.reduceLeDiff, Nat.reduceLT]
  rfl
theorem law_sum_ok (m n : Nat) (mi ni si : Int) (hmi : mi = (m : Int)) (hsi : si = mi + ni) (ps : List (Rel × Rel)) (hps : ps.length ≤ 3) (h1 : ∀ p ∈ ps, Fit m p.1 ∧ Fit n p.2) (hnm : ∀ p ∈ ps, p.1.name = p.2.name) (hasc : ∀ p ∈ ps, (addR m p).rows.Pairwise fun a b => nLe a b = true) :
    f_law_sum [strI mi (ps.map (·.1)), strI ni (ps.map (·.2))] = some (strI si (ps.map (addR m)), [strI mi (ps.map (·.1)), strI ni (ps.map (·.2))]) := by
  obtain ⟨li, hli⟩ : ∃ li : Int, li = (ps.length : Int) := ⟨_, rfl⟩
  have lp := forL_idx (G := gSet 3) (fb := Tls) (l := ps) (n := li) hli (Q := fun p ρ => ∃ o3 o4 o5 o6 o7 o8 o9, ρ = [some (strI mi (ps.map (·.1))), some (strI ni (ps.map (·.2))), some (.list (p.map fun p => relD (addR m p))), o3, o4, o5, o6, o7, o8, o9]) (ρ := [some (strI mi (ps.map (·.1))), some (strI ni (ps.map (·.2))), some (.list []), none, none, none, none, none, none, none]) ⟨_, _, _, _, _, _, _, rfl⟩ fun i ii a hii hia ρ hρ => by
    obtain ⟨o3, o4, o5, o6, o7, o8, o9, rfl⟩ := hρ
    have ha : a ∈ ps := List.mem_of_getElem? hia
    obtain ⟨f1, f2⟩ := h1 a ha
    have hk1 : ixA [.tuple ((ps.map (·.1)).map relD), .int ii] = some (.tuple [.str a.1.name, .int (a.1.k : Int), .tuple (rowsD a.1.rows)]) := by
      rw [hii]
      refine ixA_tup ?_
      rw [List.map_map, List.getElem?_map, hia]
      rfl
    have hk2 : ixA [.tuple ((ps.map (·.2)).map relD), .int ii] = some (.tuple [.str a.1.name, .int (a.2.k : Int), .tuple (rowsD a.2.rows)]) := by
      rw [hii]
      refine ixA_tup ?_
      rw [List.map_map, List.getElem?_map, hia, hnm a ha]
      rfl
    have hr2 : ∀ r ∈ a.2.rows, r.length ≤ 1000 := fun r hr => by rw [(f2.row r hr).1]; have := f2.k2; omega
    have hne : ∀ r ∈ a.1.rows ++ a.2.rows.map (shift m), r ≠ [] := by
      intro r hr hn
      subst hn
      rcases List.mem_append.mp hr with hr | hr
      · have h0 : 0 = a.1.k := (f1.row _ hr).1
        have := f1.k1
        omega
      · obtain ⟨q, hq, e⟩ := List.mem_map.mp hr
        have e := congrArg List.length e
        unfold shift at e
        rw [List.length_map, List.length_nil] at e
        have := (f2.row _ hq).1; have := f2.k1; omega
    have hl3 : ((ps.take i).map fun p => relD (addR m p)).length ≤ 1000 := by rw [List.length_map, List.length_take]; omega
    have hasc' := hasc a ha
    have hx1 := @ix_str1 mi (ps.map (·.1))
    have hx2 := @ix_str2 mi (ps.map (·.1))
    have hx3 := @ix_str2 ni (ps.map (·.2))
    generalize strI mi (ps.map (·.1)) = s1 at *
    generalize strI ni (ps.map (·.2)) = s2 at *
    generalize (ps.map (·.1)).map relD = q1 at *
    generalize (ps.map (·.2)).map relD = q2 at *
    obtain ⟨q4, q5, q6, q7, q8, q9, ht⟩ := lsum_turn s1 s2 q1 q2 o4 o5 o6 o7 o8 o9 m mi hmi hx1 hx2 hx3 ii (.str a.1.name) (a.1.k : Int) (a.2.k : Int) a.1.rows a.2.rows hk1 hk2 f1.many f2.many hr2 _ hl3 hne hasc'
    refine ⟨_, _, rfl, ht, ?_⟩
    rw [List.map_append]
    exact ⟨_, _, _, _, _, _, _, rfl⟩
  obtain ⟨ρ', e, o3, o4, o5, o6, o7, o8, o9, rfl⟩ := lp
  have il : lenI [.tuple ((ps.map (·.1)).map relD)] = some (.int li) := lenI_t (by rw [hli, List.length_map, List.length_map])
  have ok : ok62 li = true := by rw [hli]; exact okN (by omega)
  have hout : strI si (ps.map (addR m)) = .tuple [.str "structure", .int si, .tuple (ps.map fun p => relD (addR m p))] := by unfold strI; rw [List.map_map]; rfl
  rw [hout]
  exact law_sum_end _ _ _ _ mi ni si li hsi ix_str2 ix_str1 ix_str1 il ok o3 o4 o5 o6 o7 o8 o9 e
end FH
namespace FH
open Sx PySem PySem.Spec PyProof.Rows L2
def mulRow (w : Nat) (a b : List Nat) : List Nat := (a.zip b).map fun p => p.1 * w + p.2
def mulRows (w : Nat) (l1 l2 : List (List Nat)) : List (List Nat) := l1.flatMap fun a => l2.map fun b => mulRow w a b
def mulR (w : Nat) (p : Rel × Rel) : Rel := ⟨p.1.name, p.1.k, (mulRows w p.1.rows p.2.rows).mergeSort nLe⟩
theorem pairs_zip (f g : Nat → D) : ∀ a b : List Nat, pairsD (a.map f) (b.map g) = (a.zip b).map fun p => .tuple [f p.1, g p.2]
  | [], _ => rfl
  | _ :: _, [] => rfl
  | x :: a, y :: b => by
    rw [List.map_cons, List.map_cons, x_pr1, pairs_zip f g a b]
    rfl
theorem zip_tuple {ρ : Sx.Env} {a b : List Nat} : kZip (ρ, [rowD a, rowD b]) = some (ρ, (a.zip b).map fun p => .tuple [.int (p.1 : Int), .int (p.2 : Int)]) := by
  rw [← pairs_zip (fun n => .int (n : Int)) (fun n => .int (n : Int))]
  rfl
abbrev Tp0 : Gt := (gTurn (gTupT 2 (gsCons (gSet 0) (gsCons (gSet 1) gsNil))) hYes (fOp addI ((gE (fOp mulI ((gV 0) ((gV 2) gN)))) ((gV 1) gN))))
theorem pg00 (i j wi k : Int) (o o1 : Option D) (e1 : mulI [.int i, .int wi] = some (.int k)) : Tp0 (.tuple [.int i, .int j]) [o, o1, some (.int wi)] = some ([some (.int i), some (.int j), some (.int wi)], some (.int (k + j))) := by
  have g0 : gTupT 2 (gsCons (gSet 0) (gsCons (gSet 1) gsNil)) (.tuple [.int i, .int j]) [o, o1, some (.int wi)] = some [some (.int i), some (.int j), some (.int wi)] := rfl
  simp only [Tp0, g0, e1, add_ii, x_seq, x_seq1, x_seq2, x_seq3, x_seq4, x_nil, x_brk, x_cnt, x_if, x_if1, x_if2, x_set, x_set1, x_ret, x_ret1, x_retN, x_drop, x_drop1, x_ev, x_ev1, x_et, x_et1, x_ec, x_gn, x_ge, x_ge1, x_ge2, x_gv, x_gv1, x_gv2, x_gv3, x_op, x_op1, x_hop, x_hop1, x_hop2, x_tru, x_tru1, x_not, x_not1, x_and, x_and1, x_and2, x_or, x_or1, x_or2, x_yes, x_tup, x_tup1, x_lst, x_lst1, x_eif, x_eif1, x_eif2, x_notE, x_notE1, x_eand, x_eand1, x_eand2, x_eor, x_eor1, x_eor2, x_call, x_call1, x_call2, x_put1, x_put2, x_put3, x_body, x_body1, x_body2, x_app, x_app1, x_app2, x_app3, x_pt, x_pt1, x_pt2, x_pt3, x_pt4, x_pt5, x_ie, x_ie1, x_items1, x_items2, x_rg1, x_rg11, x_rg2, x_rg21, x_zip, x_zip1, x_zip2, x_gs, x_gt, x_gc, x_gl, x_asg, x_asg1, x_for, x_for1, x_turn, x_next1, x_next2, x_next3, x_next4, x_tn, x_tn1, x_tn2, x_tn3, x_tn4, x_lc, x_lc1, x_lc2, x_ld, x_ld1, x_w1, x_w2, x_tg, x_tg1, x_tg2, x_sm, x_sm1, x_sm2, x_al, x_al1, x_ay, x_ay1, x_bl, x_bk1, x_bk2, x_jn, x_pr1, x_pr2, Option.bind_some, Option.bind_none, Option.map_some, Option.map_none, List.map_cons, List.map_nil, List.replicate_succ, List.replicate_zero, List.cons_append, List.nil_append, List.append_nil, List.getElem?_cons_zero, List.getElem?_cons_succ, List.set_cons_zero, List.set_cons_succ, List.length_cons, List.length_nil, Nat.zero_add, Nat.reduceAdd, Nat.reduceLeDiff, Nat.reduceLT]
theorem pg0 (w : Nat) (wi : Int) (hwi : wi = (w : Int)) (hw : w ≤ 1000) (a b : List Nat) : drainL Tp0 ((a.zip b).map fun p => .tuple [.int (p.1 : Int), .int (p.2 : Int)]) [none, none, some (.int wi)] = some ((mulRow w a b).map fun (n : Nat) => .int (n : Int)) := by
  have key := drainL_map (t := Tp0) (enc := fun p : Nat × Nat => .tuple [.int (p.1 : Int), .int (p.2 : Int)]) (out := fun p => (.int ((p.1 * w + p.2 : Nat) : Int) : D)) (P := fun ρ => ∃ o o1, ρ = [o, o1, some (.int wi)]) (l := a.zip b) (ρ := [none, none, some (.int wi)]) ⟨_, _, rfl⟩ fun p _ ρ hρ => by
    obtain ⟨o, o1, rfl⟩ := hρ
    refine ⟨[some (.int (p.1 : Int)), some (.int (p.2 : Int)), some (.int wi)], ?_, _, _, rfl⟩
    have e1 : mulI [.int (p.1 : Int), .int wi] = some (.int ((p.1 : Int) * wi)) := mul_ii (.inr (by omega))
    have e2 : (p.1 : Int) * wi + (p.2 : Int) = ((p.1 * w + p.2 : Nat) : Int) := by rw [hwi]; simp
    rw [← e2]
    exact pg00 _ _ wi _ o o1 e1
  rw [key]
  unfold mulRow
  rw [List.map_map]
  rfl
abbrev Tp1 : Gt := (gTurn (gSet 10) hYes (eTupG (iZip (gE (eV 9) (gE (eV 10) gN))) Tp0 [none, none, some 2]))
theorem mulRow_len {w : Nat} {a b : List Nat} (h : a.length ≤ 1000) : ((mulRow w a b).map fun (n : Nat) => (.int (n : Int) : D)).length ≤ 16777216 := by
  unfold mulRow
  rw [List.length_map, List.length_map, List.length_zip]
  omega
theorem pg1 (w : Nat) (wi : Int) (hwi : wi = (w : Int)) (hw : w ≤ 1000) (a b : List Nat) (ha : a.length ≤ 1000) (o0 o1 o3 o4 o5 o6 o7 o8 o10 o11 : Option D) : Tp1 (rowD b) [o0, o1, some (.int wi), o3, o4, o5, o6, o7, o8, some (rowD a), o10, o11] = some ([o0, o1, some (.int wi), o3, o4, o5, o6, o7, o8, some (rowD a), some (rowD b), o11], some (rowD (mulRow w a b))) := by
  have key := pg0 w wi hwi hw a b
  have hl := @mulRow_len w a b ha
  have hz := fun ρ => @zip_tuple ρ a b
  rw [@rowD_def (mulRow w a b)]
  clear hwi
  generalize ((mulRow w a b).map fun (n : Nat) => (.int (n : Int) : D)) = out at *
  generalize ((a.zip b).map fun p => (.tuple [.int (p.1 : Int), .int (p.2 : Int)] : D)) = zz at *
  generalize rowD a = ra at *
  generalize rowD b = rb at *
  simp only [Tp1, hz, key, x_tg2 hl, x_seq, x_seq1, x_seq2, x_seq3, x_seq4, x_nil, x_brk, x_cnt, x_if, x_if1, x_if2, x_set, x_set1, x_ret, x_ret1, x_retN, x_drop, x_drop1, x_ev, x_ev1, x_et, x_et1, x_ec, x_gn, x_ge, x_ge1, x_ge2, x_gv, x_gv1, x_gv2, x_gv3, x_op, x_op1, x_hop, x_hop1, x_hop2, x_tru, x_tru1, x_not, x_not1, x_and, x_and1, x_and2, x_or, x_or1, x_or2, x_yes, x_tup, x_tup1, x_lst, x_lst1, x_eif, x_eif1, x_eif2, x_notE, x_notE1, x_eand, x_eand1, x_eand2, x_eor, x_eor1, x_eor2, x_call, x_call1, x_call2, x_put1, x_put2, x_put3, x_body, x_body1, x_body2, x_app, x_app1, x_app2, x_app3, x_pt, x_pt1, x_pt2, x_pt3, x_pt4, x_pt5, x_ie, x_ie1, x_items1, x_items2, x_rg1, x_rg11, x_rg2, x_rg21, x_zip, x_zip1, x_zip2, x_gs, x_gt, x_gc, x_gl, x_asg, x_asg1, x_for, x_for1, x_turn, x_next1, x_next2, x_next3, x_next4, x_tn, x_tn1, x_tn2, x_tn3, x_tn4, x_lc, x_lc1, x_lc2, x_ld, x_ld1, x_w1, x_w2, x_tg, x_tg1, x_tg2, x_sm, x_sm1, x_sm2, x_al, x_al1, x_ay, x_ay1, x_bl, x_bk1, x_bk2, x_jn, x_pr1, x_pr2, Option.bind_some, Option.bind_none, Option.map_some, Option.map_none, List.map_cons, List.map_nil, List.replicate_succ, List.replicate_zero, List.cons_append, List.nil_append, List.append_nil, List.getElem?_cons_zero, List.getElem?_cons_succ, List.set_cons_zero, List.set_cons_succ, List.length_cons, List.length_nil, Nat.zero_add, Nat.reduceAdd, Nat.reduceLeDiff, Nat.reduceLT]
theorem pg2 (w : Nat) (wi : Int) (hwi : wi = (w : Int)) (hw : w ≤ 1000) (l1 l2 : List (List Nat)) (hr : ∀ r ∈ l1, r.length ≤ 1000) (o0 o1 o3 o4 o5 o6 o7 o11 : Option D) :
    lcL2 [9, 10] [10] (gSet 9) hYes (iE (eV 8)) Tp1 (rowsD l1) [o0, o1, some (.int wi), o3, o4, o5, o6, o7, some (.tuple (rowsD l2)), none, none, o11] = some ([o0, o1, some (.int wi), o3, o4, o5, o6, o7, some (.tuple (rowsD l2)), none, none, o11], rowsD (mulRows w l1 l2)) := by
  have key := lcL2_map (G := gSet 9) (h := hYes) (gi1 := iE (eV 8)) (t := Tp1) (vs := [9, 10]) (vs1 := [10]) (enc := rowD) (out := fun a => l2.map fun b => rowD (mulRow w a b)) (l := l1) (ρ := [o0, o1, some (.int wi), o3, o4, o5, o6, o7, some (.tuple (rowsD l2)), none, none, o11]) fun a ha => by
    refine ⟨[o0, o1, some (.int wi), o3, o4, o5, o6, o7, some (.tuple (rowsD l2)), some (rowD a), none, o11], [o0, o1, some (.int wi), o3, o4, o5, o6, o7, some (.tuple (rowsD l2)), some (rowD a), none, o11], [o0, o1, some (.int wi), o3, o4, o5, o6, o7, some (.tuple (rowsD l2)), some (rowD a), none, o11], [o0, o1, some (.int wi), o3, o4, o5, o6, o7, some (.tuple (rowsD l2)), some (rowD a), none, o11], rowsD l2, rfl, rfl, rfl, ?_, rfl⟩
    exact lcL_map (t := Tp1) (vs := [10]) (enc := rowD) (out := fun b => rowD (mulRow w a b)) (l := l2) (ρ := [o0, o1, some (.int wi), o3, o4, o5, o6, o7, some (.tuple (rowsD l2)), some (rowD a), none, o11]) fun b _ => ⟨_, pg1 w wi hwi hw a b (hr a ha) o0 o1 o3 o4 o5 o6 o7 (some (.tuple (rowsD l2))) none o11, rfl⟩
  have e : rowsD (mulRows w l1 l2) = l1.flatMap fun a => l2.map fun b => rowD (mulRow w a b) := by
    unfold rowsD mulRows
    rw [List.map_flatMap]
    congr 1
    funext a
    rw [List.map_map]
    rfl
  rw [e]
  exact key
theorem mulRows_len (w : Nat) (l2 : List (List Nat)) : ∀ l1 : List (List Nat), (mulRows w l1 l2).length = l1.length * l2.length
  | [] => by simp [mulRows]
  | a :: l1 => by
    have := mulRows_len w l2 l1
    unfold mulRows at this ⊢
    rw [List.flatMap_cons, List.length_append, this, List.length_map, List.length_cons, Nat.succ_mul, Nat.add_comm]
theorem mulRows_ne {w : Nat} {l1 l2 : List (List Nat)} (h1 : ∀ r ∈ l1, r ≠ []) (h2 : ∀ r ∈ l2, r ≠ []) : ∀ r ∈ mulRows w l1 l2, r ≠ [] := by
  intro r hr
  unfold mulRows at hr
  obtain ⟨a, ha, hr⟩ := List.mem_flatMap.mp hr
  obtain ⟨b, hb, rfl⟩ := List.mem_map.mp hr
  have := h1 a ha
  have := h2 b hb
  match a, b with
  | [], _ => contradiction
  | _, [] => contradiction
  | x :: a, y :: b => simp [mulRow]
abbrev Tpr : Sv := (aSeq (aSet 11 (eLc2 (iE (eV 6)) (gSet 9) hYes (iE (eV 8)) Tp1 [9, 10] [10]))
    (aSeq (aApp 3 (eTup (gE (eV 4) (gE (eV 5) (gE (fOp tupI ((gE (fOp sortI ((gV 11) gN))) gN)) gN)))))
    aNil))
theorem prod_turn (o0 o1 : Option D) (w : Nat) (wi : Int) (hwi : wi = (w : Int)) (hw : w ≤ 1000) (nm : D) (ki : Int) (l1 l2 : List (List Nat)) (h1 : l1.length ≤ 1000) (h2 : l2.length ≤ 1000) (hr : ∀ r ∈ l1, r.length ≤ 1000) (hn1 : ∀ r ∈ l1, r ≠ []) (hn2 : ∀ r ∈ l2, r ≠ []) (acc : List D) (ha : acc.length ≤ 1000) (o7 o9 o10 o11 : Option D) :
    Tpr [o0, o1, some (.int wi), some (.list acc), some nm, some (.int ki), some (.tuple (rowsD l1)), o7, some (.tuple (rowsD l2)), o9, o10, o11] = some (.nx [o0, o1, some (.int wi), some (.list (acc ++ [.tuple [nm, .int ki, .tuple (rowsD ((mulRows w l1 l2).mergeSort nLe))]])), some nm, some (.int ki), some (.tuple (rowsD l1)), o7, some (.tuple (rowsD l2)), o9, o10, some (.list (rowsD (mulRows w l1 l2)))]) := by
  have key := pg2 w wi hwi hw l1 l2 hr o0 o1 (some (.list acc)) (some nm) (some (.int ki)) (some (.tuple (rowsD l1))) o7 o11
  have hml : (mulRows w l1 l2).length ≤ 16777216 := by
    rw [mulRows_len]
    exact Nat.le_trans (Nat.mul_le_mul h1 h2) (by decide)
  have e3 := sort_rows (l := mulRows w l1 l2) hml (mulRows_ne hn1 hn2)
  have hl : (rowsD (mulRows w l1 l2)).length ≤ 16777216 := by unfold rowsD; rw [List.length_map]; exact hml
  have hs : acc.length < 16777216 := by omega
  clear hwi hml
  generalize rowsD ((mulRows w l1 l2).mergeSort nLe) = r12 at e3 ⊢
  generalize rowsD (mulRows w l1 l2) = r2s at key e3 hl ⊢
  generalize rowsD l2 = r2 at key ⊢
  generalize rowsD l1 = r1 at key ⊢
  simp only [Tpr, key, e3, tup_i, x_lc2 hl, x_app3 hs, x_seq, x_seq1, x_seq2, x_seq3, x_seq4, x_nil, x_brk, x_cnt, x_if, x_if1, x_if2, x_set, x_set1, x_ret, x_ret1, x_retN, x_drop, x_drop1, x_ev, x_ev1, x_et, x_et1, x_ec, x_gn, x_ge, x_ge1, x_ge2, x_gv, x_gv1, x_gv2, x_gv3, x_op, x_op1, x_hop, x_hop1, x_hop2, x_tru, x_tru1, x_not, x_not1, x_and, x_and1, x_and2, x_or, x_or1, x_or2, x_yes, x_tup, x_tup1, x_lst, x_lst1, x_eif, x_eif1, x_eif2, x_notE, x_notE1, x_eand, x_eand1, x_eand2, x_eor, x_eor1, x_eor2, x_call, x_call1, x_call2, x_put1, x_put2, x_put3, x_body, x_body1, x_body2, x_app, x_app1, x_app2, x_app3, x_pt, x_pt1, x_pt2, x_pt3, x_pt4, x_pt5, x_ie, x_ie1, x_items1, x_items2, x_rg1, x_rg11, x_rg2, x_rg21, x_zip, x_zip1, x_zip2, x_gs, x_gt, x_gc, x_gl, x_asg, x_asg1, x_for, x_for1, x_turn, x_next1, x_next2, x_next3, x_next4, x_tn, x_tn1, x_tn2, x_tn3, x_tn4, x_lc, x_lc1, x_lc2, x_ld, x_ld1, x_w1, x_w2, x_tg, x_tg1, x_tg2, x_sm, x_sm1, x_sm2, x_al, x_al1, x_ay, x_ay1, x_bl, x_bk1, x_bk2, x_jn, x_pr1, x_pr2, Option.bind_some, Option.bind_none, Option.map_some, Option.map_none, List.map_cons, List.map_nil, List.replicate_succ, List.replicate_zero, List.cons_append, List.nil_append, List.append_nil, List.getElem?_cons_zero, List.getElem?_cons_succ, List.set_cons_zero, List.set_cons_succ, List.length_cons, List.length_nil, Nat.zero_add, Nat.reduceAdd, Nat.reduceLeDiff, Nat.reduceLT]
end FH
namespace FH
open Sx PySem PySem.Spec PyProof.Rows L2
theorem prod_end (s1 s2 : D) (q1 q2 q3 : List D) (mi wi pi : Int) (i1 : ixA [s1, .int 2] = some (.tuple q1)) (i2 : ixA [s2, .int 2] = some (.tuple q2)) (i3 : ixA [s1, .int 1] = some (.int mi)) (i4 : ixA [s2, .int 1] = some (.int wi)) (hp : mulI [.int mi, .int wi] = some (.int pi)) (o4 o5 o6 o7 o8 o9 o10 o11 : Option D)
    (e : forL Gzip Tpr (pairsD q1 q2) [some s1, some s2, some (.int wi), some (.list []), none, none, none, none, none, none, none, none] = some (.nx [some s1, some s2, some (.int wi), some (.list q3), o4, o5, o6, o7, o8, o9, o10, o11])) :
    f_product [s1, s2] = some (.tuple [.str "structure", .int pi, .tuple q3], [s1, s2]) := by
  have z : ∀ ρ : Sx.Env, kLs0 (ρ, []) = some (ρ, .list []) := fun _ => rfl
  simp only [f_product, b_product, i1, i2, i3, i4, z, e, hp, tup_i, x_seq, x_seq1, x_seq2, x_seq3, x_seq4, x_nil, x_brk, x_cnt, x_if, x_if1, x_if2, x_set, x_set1, x_ret, x_ret1, x_retN, x_drop, x_drop1, x_ev, x_ev1, x_et, x_et1, x_ec, x_gn, x_ge, x_ge1, x_ge2, x_gv, x_gv1, x_gv2, x_gv3, x_op, x_op1, x_hop, x_hop1, x_hop2, x_tru, x_tru1, x_not, x_not1, x_and, x_and1, x_and2, x_or, x_or1, x_or2, x_yes, x_tup, x_tup1, x_lst, x_lst1, x_eif, x_eif1, x_eif2, x_notE, x_notE1, x_eand, x_eand1, x_eand2, x_eor, x_eor1, x_eor2, x_call, x_call1, x_call2, x_put1, x_put2, x_put3, x_body, x_body1, x_body2, x_app, x_app1, x_app2, x_app3, x_pt, x_pt1, x_pt2, x_pt3, x_pt4, x_pt5, x_ie, x_ie1, x_items1, x_items2, x_rg1, x_rg11, x_rg2, x_rg21, x_zip, x_zip1, x_zip2, x_gs, x_gt, x_gc, x_gl, x_asg, x_asg1, x_for, x_for1, x_turn, x_next1, x_next2, x_next3, x_next4, x_tn, x_tn1, x_tn2, x_tn3, x_tn4, x_lc, x_lc1, x_lc2, x_ld, x_ld1, x_w1, x_w2, x_tg, x_tg1, x_tg2, x_sm, x_sm1, x_sm2, x_al, x_al1, x_ay, x_ay1, x_bl, x_bk1, x_bk2, x_jn, x_pr1, x_pr2, Option.bind_some, Option.bind_none, Option.map_some, Option.map_none, List.map_cons, List.map_nil, List.replicate_succ, List.replicate_zero, List.cons_append, List.nil_append, List.append_nil, List.getElem?_cons_zero, List.getElem?_cons_succ, List.set_cons_zero, List.set_cons_succ, List.length_cons, List.length_nil, Nat.zero_add, Nat.reduceAdd, Nat.reduceLeDiff, Nat.reduceLT]
  rfl
theorem Fit.ne {m : Nat} {r : Rel} (f : Fit m r) : ∀ q ∈ r.rows, q ≠ [] := by
  intro q hq hn
  subst hn
  have h0 : 0 = r.k := (f.row _ hq).1
  have := f.k1
  omega
theorem Fit.short {m : Nat} {r : Rel} (f : Fit m r) : ∀ q ∈ r.rows, q.length ≤ 1000 := by
  intro q hq
  rw [(f.row q hq).1]
  have := f.k2
  omega
theorem product_ok (m n : Nat) (mi ni pi : Int) (hni : ni = (n : Int)) (hn : n ≤ 1000) (hp : mulI [.int mi, .int ni] = some (.int pi)) (ps : List (Rel × Rel)) (hps : ps.length ≤ 3) (h1 : ∀ p ∈ ps, Fit m p.1 ∧ Fit n p.2) :
    f_product [strI mi (ps.map (·.1)), strI ni (ps.map (·.2))] = some (strI pi (ps.map (mulR n)), [strI mi (ps.map (·.1)), strI ni (ps.map (·.2))]) := by
  have i1 : ixA [strI mi (ps.map (·.1)), .int 2] = some (.tuple (ps.map fun p => relD p.1)) := by rw [ix_str2, List.map_map]; rfl
  have i2 : ixA [strI ni (ps.map (·.2)), .int 2] = some (.tuple (ps.map fun p => relD p.2)) := by rw [ix_str2, List.map_map]; rfl
  have i3 := @ix_str1 mi (ps.map (·.1))
  have i4 := @ix_str1 ni (ps.map (·.2))
  have hout : strI pi (ps.map (mulR n)) = .tuple [.str "structure", .int pi, .tuple (ps.map fun p => relD (mulR n p))] := by unfold strI; rw [List.map_map]; rfl
  rw [hout]
  generalize strI mi (ps.map (·.1)) = s1 at i1 i3 ⊢
  generalize strI ni (ps.map (·.2)) = s2 at i2 i4 ⊢
  have lp := forL_list (G := Gzip) (fb := Tpr) (enc := fun p : Rel × Rel => .tuple [relD p.1, relD p.2]) (l := ps) (pre := []) (Q := fun p ρ => ∃ o4 o5 o6 o7 o8 o9 o10 o11, ρ = [some s1, some s2, some (.int ni), some (.list (p.map fun p => relD (mulR n p))), o4, o5, o6, o7, o8, o9, o10, o11]) (ρ := [some s1, some s2, some (.int ni), some (.list []), none, none, none, none, none, none, none, none]) ⟨_, _, _, _, _, _, _, _, rfl⟩ fun p a s es ρ hρ => by
    obtain ⟨o4, o5, o6, o7, o8, o9, o10, o11, rfl⟩ := hρ
    rw [List.nil_append] at es
    have ha : a ∈ ps := by rw [es]; simp
    have hp : p.length ≤ 3 := by
      have := congrArg List.length es
      rw [List.length_append] at this
      omega
    obtain ⟨f1, f2⟩ := h1 a ha
    have ht := prod_turn (some s1) (some s2) n ni hni hn (.str a.1.name) (a.1.k : Int) a.1.rows a.2.rows f1.many f2.many f1.short f1.ne f2.ne (p.map fun p => relD (mulR n p)) (by rw [List.length_map]; omega) (some (.int (a.2.k : Int))) o9 o10 o11
    refine ⟨_, _, rfl, ht, ?_⟩
    rw [List.map_append]
    exact ⟨_, _, _, _, _, _, _, _, rfl⟩
  obtain ⟨ρ', e, o4, o5, o6, o7, o8, o9, o10, o11, rfl⟩ := lp
  rw [← pairs_map (fun p : Rel × Rel => relD p.1) (fun p => relD p.2), List.nil_append] at e
  exact prod_end s1 s2 _ _ _ mi ni pi i1 i2 i3 i4 hp _ _ _ _ _ _ _ _ e
/-! the law's own product -/
abbrev Tq0 : Gt := (gTurn (gSet 10) hYes (fOp addI ((gE (fOp mulI ((gE (fOp ixA ((gV 8) ((gV 10) gN)))) ((gE (fOp ixA ((gV 1) ((gE (eC (.int 1))) gN)))) gN)))) ((gE (fOp ixA ((gV 9) ((gV 10) gN)))) gN))))
theorem q00 (two ra rb : D) (k i j wi t : Int) (o0 o2 o3 o4 o5 o6 o7 : Option D) (h2 : ixA [two, .int 1] = some (.int wi)) (ha : ixA [ra, .int k] = some (.int i)) (hb : ixA [rb, .int k] = some (.int j)) (hm : mulI [.int i, .int wi] = some (.int t)) :
    Tq0 (.int k) [o0, some two, o2, o3, o4, o5, o6, o7, some ra, some rb, none] = some ([o0, some two, o2, o3, o4, o5, o6, o7, some ra, some rb, some (.int k)], some (.int (t + j))) := by
  simp only [Tq0, h2, ha, hb, hm, add_ii, x_seq, x_seq1, x_seq2, x_seq3, x_seq4, x_nil, x_brk, x_cnt, x_if, x_if1, x_if2, x_set, x_set1, x_ret, x_ret1, x_retN, x_drop, x_drop1, x_ev, x_ev1, x_et, x_et1, x_ec, x_gn, x_ge, x_ge1, x_ge2, x_gv, x_gv1, x_gv2, x_gv3, x_op, x_op1, x_hop, x_hop1, x_hop2, x_tru, x_tru1, x_not, x_not1, x_and, x_and1, x_and2, x_or, x_or1, x_or2, x_yes, x_tup, x_tup1, x_lst, x_lst1, x_eif, x_eif1, x_eif2, x_notE, x_notE1, x_eand, x_eand1, x_eand2, x_eor, x_eor1, x_eor2, x_call, x_call1, x_call2, x_put1, x_put2, x_put3, x_body, x_body1, x_body2, x_app, x_app1, x_app2, x_app3, x_pt, x_pt1, x_pt2, x_pt3, x_pt4, x_pt5, x_ie, x_ie1, x_items1, x_items2, x_rg1, x_rg11, x_rg2, x_rg21, x_zip, x_zip1, x_zip2, x_gs, x_gt, x_gc, x_gl, x_asg, x_asg1, x_for, x_for1, x_turn, x_next1, x_next2, x_next3, x_next4, x_tn, x_tn1, x_tn2, x_tn3, x_tn4, x_lc, x_lc1, x_lc2, x_ld, x_ld1, x_w1, x_w2, x_tg, x_tg1, x_tg2, x_sm, x_sm1, x_sm2, x_al, x_al1, x_ay, x_ay1, x_bl, x_bk1, x_bk2, x_jn, x_pr1, x_pr2, Option.bind_some, Option.bind_none, Option.map_some, Option.map_none, List.map_cons, List.map_nil, List.replicate_succ, List.replicate_zero, List.cons_append, List.nil_append, List.append_nil, List.getElem?_cons_zero, List.getElem?_cons_succ, List.set_cons_zero, List.set_cons_succ, List.length_cons, List.length_nil, Nat.zero_add, Nat.reduceAdd, Nat.reduceLeDiff, Nat.reduceLT]
theorem ix_row {a : List Nat} {k x : Nat} (h : a[k]? = some x) : ixA [rowD a, .int (k : Int)] = some (.int (x : Int)) := by
  refine ixA_tup ?_
  rw [List.getElem?_map, h]
  rfl
abbrev Tq1 : Sv := (aSeq (aApp 7 (fOp tupI ((gE (eLc (iRg1 ((gV 5) gN)) Tq0 [10])) gN)))
    aNil)
theorem q1_run (two ra rb : D) (out acc : List D) (ki : Int) (o0 o2 o3 o4 o6 o10 : Option D) (ok : ok62 ki = true) (hl : out.length ≤ 16777216) (hs : acc.length < 16777216)
    (key : lcL [10] Tq0 (upTo 0 ki) [o0, some two, o2, o3, o4, some (.int ki), o6, some (.list acc), some ra, some rb, none] = some ([o0, some two, o2, o3, o4, some (.int ki), o6, some (.list acc), some ra, some rb, none], out)) :
    Tq1 [o0, some two, o2, o3, o4, some (.int ki), o6, some (.list acc), some ra, some rb, o10] = some (.nx [o0, some two, o2, o3, o4, some (.int ki), o6, some (.list (acc ++ [.tuple out])), some ra, some rb, o10]) := by
  simp only [Tq1, x_rg11 ok, key, tup_i, x_lc2 hl, x_app3 hs, x_seq, x_seq1, x_seq2, x_seq3, x_seq4, x_nil, x_brk, x_cnt, x_if, x_if1, x_if2, x_set, x_set1, x_ret, x_ret1, x_retN, x_drop, x_drop1, x_ev, x_ev1, x_et, x_et1, x_ec, x_gn, x_ge, x_ge1, x_ge2, x_gv, x_gv1, x_gv2, x_gv3, x_op, x_op1, x_hop, x_hop1, x_hop2, x_tru, x_tru1, x_not, x_not1, x_and, x_and1, x_and2, x_or, x_or1, x_or2, x_yes, x_tup, x_tup1, x_lst, x_lst1, x_eif, x_eif1, x_eif2, x_notE, x_notE1, x_eand, x_eand1, x_eand2, x_eor, x_eor1, x_eor2, x_call, x_call1, x_call2, x_put1, x_put2, x_put3, x_body, x_body1, x_body2, x_app, x_app1, x_app2, x_app3, x_pt, x_pt1, x_pt2, x_pt3, x_pt4, x_pt5, x_ie, x_ie1, x_items1, x_items2, x_rg1, x_rg11, x_rg2, x_rg21, x_zip, x_zip1, x_zip2, x_gs, x_gt, x_gc, x_gl, x_asg, x_asg1, x_for, x_for1, x_turn, x_next1, x_next2, x_next3, x_next4, x_tn, x_tn1, x_tn2, x_tn3, x_tn4, x_lc, x_lc1, x_lc2, x_ld, x_ld1, x_w1, x_w2, x_tg, x_tg1, x_tg2, x_sm, x_sm1, x_sm2, x_al, x_al1, x_ay, x_ay1, x_bl, x_bk1, x_bk2, x_jn, x_pr1, x_pr2, Option.bind_some, Option.bind_none, Option.map_some, Option.map_none, List.map_cons, List.map_nil, List.replicate_succ, List.replicate_zero, List.cons_append, List.nil_append, List.append_nil, List.getElem?_cons_zero, List.getElem?_cons_succ, List.set_cons_zero, List.set_cons_succ, List.length_cons, List.length_nil, Nat.zero_add, Nat.reduceAdd, Nat.reduceLeDiff, Nat.reduceLT]
theorem q1_turn (w : Nat) (wi : Int) (hwi : wi = (w : Int)) (hw : w ≤ 1000) (two : D) (h2 : ixA [two, .int 1] = some (.int wi)) (a b : List Nat) (ki : Int) (hki : ki = ((a.zip b).length : Int)) (ha : a.length ≤ 1000) (acc : List D) (hs : acc.length < 16777216) (o0 o2 o3 o4 o6 o10 : Option D) :
    Tq1 [o0, some two, o2, o3, o4, some (.int ki), o6, some (.list acc), some (rowD a), some (rowD b), o10] = some (.nx [o0, some two, o2, o3, o4, some (.int ki), o6, some (.list (acc ++ [rowD (mulRow w a b)])), some (rowD a), some (rowD b), o10]) := by
  have hz : (a.zip b).length ≤ 1000 := by rw [List.length_zip]; omega
  have ok : ok62 ki = true := by rw [hki]; exact okN (by omega)
  have key := lcL_map (t := Tq0) (vs := [10]) (enc := fun q : (Nat × Nat) × Nat => (.int (q.2 : Int) : D)) (out := fun q => (.int ((q.1.1 * w + q.1.2 : Nat) : Int) : D)) (l := (a.zip b).zipIdx) (ρ := [o0, some two, o2, o3, o4, some (.int ki), o6, some (.list acc), some (rowD a), some (rowD b), none]) fun q hq => by
    have hq := List.mk_mem_zipIdx_iff_getElem?.mp (show (q.1, q.2) ∈ (a.zip b).zipIdx from hq)
    obtain ⟨h3, h4⟩ := List.getElem?_zip_eq_some.mp hq
    refine ⟨[o0, some two, o2, o3, o4, some (.int ki), o6, some (.list acc), some (rowD a), some (rowD b), some (.int (q.2 : Int))], ?_, rfl⟩
    have e2 : (q.1.1 : Int) * wi + (q.1.2 : Int) = ((q.1.1 * w + q.1.2 : Nat) : Int) := by rw [hwi]; simp
    rw [← e2]
    exact q00 two _ _ _ _ _ wi _ o0 o2 o3 o4 _ o6 _ h2 (ix_row h3) (ix_row h4) (mul_ii (.inr (by omega)))
  rw [← upTo_zip hki] at key
  have e : ((a.zip b).zipIdx.map fun q => (.int ((q.1.1 * w + q.1.2 : Nat) : Int) : D)) = (mulRow w a b).map fun (n : Nat) => (.int (n : Int) : D) := by
    unfold mulRow
    rw [List.map_map]
    have : (fun q : (Nat × Nat) × Nat => (.int ((q.1.1 * w + q.1.2 : Nat) : Int) : D)) = ((fun (n : Nat) => (.int (n : Int) : D)) ∘ fun p : Nat × Nat => p.1 * w + p.2) ∘ Prod.fst := rfl
    rw [this, ← List.map_map, List.zipIdx_map_fst]
  rw [e] at key
  exact q1_run two _ _ _ acc ki o0 o2 o3 o4 o6 o10 ok (mulRow_len ha) hs key
end FH
namespace FH
open Sx PySem PySem.Spec PyProof.Rows L2
abbrev Tq2 : Sv := (aSeq (aFor (iE (fOp ixA ((gE (fOp ixA ((gE (fOp ixA ((gV 1) ((gE (eC (.int 2))) gN)))) ((gV 3) gN)))) ((gE (eC (.int 2))) gN)))) (gSet 9) Tq1)
    aNil)
theorem rowsD_app (a b : List (List Nat)) : rowsD (a ++ b) = rowsD a ++ rowsD b := by unfold rowsD; rw [List.map_append]
theorem rowsD_len (a : List (List Nat)) : (rowsD a).length = a.length := by unfold rowsD; rw [List.length_map]
section
variable (w : Nat) (wi : Int) (hwi : wi = (w : Int)) (hw : w ≤ 1000) (two : D) (h2 : ixA [two, .int 1] = some (.int wi)) (ki : Int) (kn : Nat) (hki : ki = (kn : Int)) (hkn : kn ≤ 1000)
include hwi hw h2 hki hkn
theorem q2_loop (a : List Nat) (ha : a.length = kn) (l2 acc : List (List Nat)) (hl2 : ∀ r ∈ l2, r.length = kn) (hs : acc.length + l2.length ≤ 16777216) (o0 o2 o3 o4 o6 o9 o10 : Option D) :
    ∃ q9, forL (gSet 9) Tq1 (rowsD l2) [o0, some two, o2, o3, o4, some (.int ki), o6, some (.list (rowsD acc)), some (rowD a), o9, o10] = some (.nx [o0, some two, o2, o3, o4, some (.int ki), o6, some (.list (rowsD (acc ++ l2.map (mulRow w a)))), some (rowD a), q9, o10]) := by
  have lp := forL_list (G := gSet 9) (fb := Tq1) (enc := rowD) (l := l2) (pre := []) (Q := fun p ρ => ∃ o9, ρ = [o0, some two, o2, o3, o4, some (.int ki), o6, some (.list (rowsD (acc ++ p.map (mulRow w a)))), some (rowD a), o9, o10]) (ρ := [o0, some two, o2, o3, o4, some (.int ki), o6, some (.list (rowsD acc)), some (rowD a), o9, o10]) ⟨o9, by rw [List.map_nil, List.append_nil]⟩ fun p b s es ρ hρ => by
    obtain ⟨o9, rfl⟩ := hρ
    rw [List.nil_append] at es
    have hb := hl2 b (by rw [es]; simp)
    have hp : p.length + 1 ≤ l2.length := by
      have := congrArg List.length es
      rw [List.length_append, List.length_cons] at this
      omega
    have ht := q1_turn w wi hwi hw two h2 a b ki (by rw [List.length_zip, ha, hb, hki]; omega) (by omega) (rowsD (acc ++ p.map (mulRow w a))) (by rw [rowsD_len, List.length_append, List.length_map]; omega) o0 o2 o3 o4 o6 o10
    refine ⟨_, _, rfl, ht, some (rowD b), ?_⟩
    have : rowsD (acc ++ p.map (mulRow w a)) ++ [rowD (mulRow w a b)] = rowsD (acc ++ (p ++ [b]).map (mulRow w a)) := by
      rw [List.map_append, ← List.append_assoc, rowsD_app (acc ++ p.map (mulRow w a))]
      rfl
    rw [this]
  obtain ⟨ρ', e, q9, rfl⟩ := lp
  exact ⟨q9, e⟩
theorem q2_turn (a : List Nat) (ha : a.length = kn) (l2 acc : List (List Nat)) (hl2 : ∀ r ∈ l2, r.length = kn) (hs : acc.length + l2.length ≤ 16777216) (s2 : List D) (nm kj : D) (k : Int) (h22 : ixA [two, .int 2] = some (.tuple s2)) (hk2 : ixA [.tuple s2, .int k] = some (.tuple [nm, kj, .tuple (rowsD l2)])) (o0 o2 o4 o6 o9 o10 : Option D) :
    ∃ q9, Tq2 [o0, some two, o2, some (.int k), o4, some (.int ki), o6, some (.list (rowsD acc)), some (rowD a), o9, o10] = some (.nx [o0, some two, o2, some (.int k), o4, some (.int ki), o6, some (.list (rowsD (acc ++ l2.map (mulRow w a)))), some (rowD a), q9, o10]) := by
  obtain ⟨q9, e⟩ := q2_loop w wi hwi hw two h2 ki kn hki hkn a ha l2 acc hl2 hs o0 o2 (some (.int k)) o4 o6 o9 o10
  refine ⟨q9, ?_⟩
  have i2 : ixA [.tuple [nm, kj, .tuple (rowsD l2)], .int 2] = some (.tuple (rowsD l2)) := rfl
  clear hki hwi
  generalize rowsD (acc ++ l2.map (mulRow w a)) = x1 at e ⊢
  generalize rowsD l2 = x2 at *
  generalize rowsD acc = x3 at *
  generalize rowD a = x4 at *
  simp only [Tq2, h22, hk2, i2, e, x_seq, x_seq1, x_seq2, x_seq3, x_seq4, x_nil, x_brk, x_cnt, x_if, x_if1, x_if2, x_set, x_set1, x_ret, x_ret1, x_retN, x_drop, x_drop1, x_ev, x_ev1, x_et, x_et1, x_ec, x_gn, x_ge, x_ge1, x_ge2, x_gv, x_gv1, x_gv2, x_gv3, x_op, x_op1, x_hop, x_hop1, x_hop2, x_tru, x_tru1, x_not, x_not1, x_and, x_and1, x_and2, x_or, x_or1, x_or2, x_yes, x_tup, x_tup1, x_lst, x_lst1, x_eif, x_eif1, x_eif2, x_notE, x_notE1, x_eand, x_eand1, x_eand2, x_eor, x_eor1, x_eor2, x_call, x_call1, x_call2, x_put1, x_put2, x_put3, x_body, x_body1, x_body2, x_app, x_app1, x_app2, x_app3, x_pt, x_pt1, x_pt2, x_pt3, x_pt4, x_pt5, x_ie, x_ie1, x_items1, x_items2, x_rg1, x_rg11, x_rg2, x_rg21, x_zip, x_zip1, x_zip2, x_gs, x_gt, x_gc, x_gl, x_asg, x_asg1, x_for, x_for1, x_turn, x_next1, x_next2, x_next3, x_next4, x_tn, x_tn1, x_tn2, x_tn3, x_tn4, x_lc, x_lc1, x_lc2, x_ld, x_ld1, x_w1, x_w2, x_tg, x_tg1, x_tg2, x_sm, x_sm1, x_sm2, x_al, x_al1, x_ay, x_ay1, x_bl, x_bk1, x_bk2, x_jn, x_pr1, x_pr2, Option.bind_some, Option.bind_none, Option.map_some, Option.map_none, List.map_cons, List.map_nil, List.replicate_succ, List.replicate_zero, List.cons_append, List.nil_append, List.append_nil, List.getElem?_cons_zero, List.getElem?_cons_succ, List.set_cons_zero, List.set_cons_succ, List.length_cons, List.length_nil, Nat.zero_add, Nat.reduceAdd, Nat.reduceLeDiff, Nat.reduceLT]
theorem q3_loop (l1 l2 : List (List Nat)) (hl1 : ∀ r ∈ l1, r.length = kn) (hl2 : ∀ r ∈ l2, r.length = kn) (h1 : l1.length ≤ 1000) (hl : l2.length ≤ 1000) (s2 : List D) (nm kj : D) (k : Int) (h22 : ixA [two, .int 2] = some (.tuple s2)) (hk2 : ixA [.tuple s2, .int k] = some (.tuple [nm, kj, .tuple (rowsD l2)])) (o0 o2 o4 o6 o8 o9 o10 : Option D) :
    ∃ q8 q9, forL (gSet 8) Tq2 (rowsD l1) [o0, some two, o2, some (.int k), o4, some (.int ki), o6, some (.list []), o8, o9, o10] = some (.nx [o0, some two, o2, some (.int k), o4, some (.int ki), o6, some (.list (rowsD (mulRows w l1 l2))), q8, q9, o10]) := by
  have lp := forL_list (G := gSet 8) (fb := Tq2) (enc := rowD) (l := l1) (pre := []) (Q := fun p ρ => ∃ o8 o9, ρ = [o0, some two, o2, some (.int k), o4, some (.int ki), o6, some (.list (rowsD (mulRows w p l2))), o8, o9, o10]) (ρ := [o0, some two, o2, some (.int k), o4, some (.int ki), o6, some (.list []), o8, o9, o10]) ⟨o8, o9, rfl⟩ fun p a s es ρ hρ => by
    obtain ⟨o8, o9, rfl⟩ := hρ
    rw [List.nil_append] at es
    have ha := hl1 a (by rw [es]; simp)
    have hp : p.length + 1 ≤ l1.length := by
      have := congrArg List.length es
      rw [List.length_append, List.length_cons] at this
      omega
    have hm : (mulRows w p l2).length + l2.length ≤ 16777216 := by
      rw [mulRows_len]
      have : p.length * l2.length ≤ 1000 * 1000 := Nat.mul_le_mul (by omega) hl
      omega
    obtain ⟨q9, ht⟩ := q2_turn w wi hwi hw two h2 ki kn hki hkn a ha l2 (mulRows w p l2) hl2 hm s2 nm kj k h22 hk2 o0 o2 o4 o6 o9 o10
    refine ⟨_, _, rfl, ht, some (rowD a), q9, ?_⟩
    have : mulRows w p l2 ++ l2.map (mulRow w a) = mulRows w (p ++ [a]) l2 := by
      unfold mulRows
      rw [List.flatMap_append]
      simp
    rw [this]
  obtain ⟨ρ', e, q8, q9, rfl⟩ := lp
  exact ⟨q8, q9, e⟩
end
abbrev Tq3 : Sv := (aSeq (aAsg (fOp ixA ((gE (fOp ixA ((gV 0) ((gE (eC (.int 2))) gN)))) ((gV 3) gN))) (gTupT 3 (gsCons (gSet 4) (gsCons (gSet 5) (gsCons (gSet 6) gsNil)))))
    (aSeq (aSet 7 (eLst gN))
    (aSeq (aFor (iE (eV 6)) (gSet 8) Tq2)
    (aSeq (aApp 2 (eTup (gE (eV 4) (gE (eV 5) (gE (fOp tupI ((gE (fOp sortI ((gV 7) gN))) gN)) gN)))))
    aNil))))
theorem q3_run (one two : D) (s1 x1 x2 x3 acc : List D) (nm : D) (ki k : Int) (h12 : ixA [one, .int 2] = some (.tuple s1)) (hk1 : ixA [.tuple s1, .int k] = some (.tuple [nm, .int ki, .tuple x1])) (hs : acc.length < 16777216) (e3 : sortI [.list x2] = some (.list x3)) (o4 o5 o6 o7 o8 o9 o10 q8 q9 : Option D)
    (e : forL (gSet 8) Tq2 x1 [some one, some two, some (.list acc), some (.int k), some nm, some (.int ki), some (.tuple x1), some (.list []), o8, o9, o10] = some (.nx [some one, some two, some (.list acc), some (.int k), some nm, some (.int ki), some (.tuple x1), some (.list x2), q8, q9, o10])) :
    Tq3 [some one, some two, some (.list acc), some (.int k), o4, o5, o6, o7, o8, o9, o10] = some (.nx [some one, some two, some (.list (acc ++ [.tuple [nm, .int ki, .tuple x3]])), some (.int k), some nm, some (.int ki), some (.tuple x1), some (.list x2), q8, q9, o10]) := by
  have z : ∀ ρ : Sx.Env, kLs0 (ρ, []) = some (ρ, .list []) := fun _ => rfl
  simp only [Tq3, h12, hk1, z, e, e3, tup_i, x_app3 hs, x_seq, x_seq1, x_seq2, x_seq3, x_seq4, x_nil, x_brk, x_cnt, x_if, x_if1, x_if2, x_set, x_set1, x_ret, x_ret1, x_retN, x_drop, x_drop1, x_ev, x_ev1, x_et, x_et1, x_ec, x_gn, x_ge, x_ge1, x_ge2, x_gv, x_gv1, x_gv2, x_gv3, x_op, x_op1, x_hop, x_hop1, x_hop2, x_tru, x_tru1, x_not, x_not1, x_and, x_and1, x_and2, x_or, x_or1, x_or2, x_yes, x_tup, x_tup1, x_lst, x_lst1, x_eif, x_eif1, x_eif2, x_notE, x_notE1, x_eand, x_eand1, x_eand2, x_eor, x_eor1, x_eor2, x_call, x_call1, x_call2, x_put1, x_put2, x_put3, x_body, x_body1, x_body2, x_app, x_app1, x_app2, x_app3, x_pt, x_pt1, x_pt2, x_pt3, x_pt4, x_pt5, x_ie, x_ie1, x_items1, x_items2, x_rg1, x_rg11, x_rg2, x_rg21, x_zip, x_zip1, x_zip2, x_gs, x_gt, x_gc, x_gl, x_asg, x_asg1, x_for, x_for1, x_turn, x_next1, x_next2, x_next3, x_next4, x_tn, x_tn1, x_tn2, x_tn3, x_tn4, x_lc, x_lc1, x_lc2, x_ld, x_ld1, x_w1, x_w2, x_tg, x_tg1, x_tg2, x_sm, x_sm1, x_sm2, x_al, x_al1, x_ay, x_ay1, x_bl, x_bk1, x_bk2, x_jn, x_pr1, x_pr2, Option.bind_some, Option.bind_none, Option.map_some, Option.map_none, List.map_cons, List.map_nil, List.replicate_succ, List.replicate_zero, List.cons_append, List.nil_append, List.append_nil, List.getElem?_cons_zero, List.getElem?_cons_succ, List.set_cons_zero, List.set_cons_succ, List.length_cons, List.length_nil, Nat.zero_add, Nat.reduceAdd, Nat.reduceLeDiff, Nat.reduceLT]
theorem lprod_end (s1 s2 : D) (q1 q3 : List D) (mi wi pi li : Int) (i1 : ixA [s1, .int 2] = some (.tuple q1)) (i3 : ixA [s1, .int 1] = some (.int mi)) (i4 : ixA [s2, .int 1] = some (.int wi)) (hp : mulI [.int mi, .int wi] = some (.int pi)) (il : lenI [.tuple q1] = some (.int li)) (ok : ok62 li = true) (o3 o4 o5 o6 o7 o8 o9 o10 : Option D)
    (e : forL (gSet 3) Tq3 (upTo 0 li) [some s1, some s2, some (.list []), none, none, none, none, none, none, none, none] = some (.nx [some s1, some s2, some (.list q3), o3, o4, o5, o6, o7, o8, o9, o10])) :
    f_law_product [s1, s2] = some (.tuple [.str "structure", .int pi, .tuple q3], [s1, s2]) := by
  have z : ∀ ρ : Sx.Env, kLs0 (ρ, []) = some (ρ, .list []) := fun _ => rfl
  simp only [f_law_product, b_law_product, i1, i3, i4, il, x_rg11 ok, z, e, hp, tup_i, x_seq, x_seq1, x_seq2, x_seq3, x_seq4, x_nil, x_brk, x_cnt, x_if, x_if1, x_if2, x_set, x_set1, x_ret, x_ret1, x_retN, x_drop, x_drop1, x_ev, x_ev1, x_et, x_et1, x_ec, x_gn, x_ge, x_ge1, x_ge2, x_gv, x_gv1, x_gv2, x_gv3, x_op, x_op1, x_hop, x_hop1, x_hop2, x_tru, x_tru1, x_not, x_not1, x_and, x_and1, x_and2, x_or, x_or1, x_or2, x_yes, x_tup, x_tup1, x_lst, x_lst1, x_eif, x_eif1, x_eif2, x_notE, x_notE1, x_eand, x_eand1, x_eand2, x_eor, x_eor1, x_eor2, x_call, x_call1, x_call2, x_put1, x_put2, x_put3, x_body, x_body1, x_body2, x_app, x_app1, x_app2, x_app3, x_pt, x_pt1, x_pt2, x_pt3, x_pt4, x_pt5, x_ie, x_ie1, x_items1, x_items2, x_rg1, x_rg11, x_rg2, x_rg21, x_zip, x_zip1, x_zip2, x_gs, x_gt, x_gc, x_gl, x_asg, x_asg1, x_for, x_for1, x_turn, x_next1, x_next2, x_next3, x_next4, x_tn, x_tn1, x_tn2, x_tn3, x_tn4, x_lc, x_lc1, x_lc2, x_ld, x_ld1, x_w1, x_w2, x_tg, x_tg1, x_tg2, x_sm, x_sm1, x_sm2, x_al, x_al1, x_ay, x_ay1, x_bl, x_bk1, x_bk2, x_jn, x_pr1, x_pr2, Option.bind_some, Option.bind_none, Option.map_some, Option.map_none, List.map_cons, List.map_nil, List.replicate_succ, List.replicate_zero, List.cons_append, List.nil_append, List.append_nil, List.getElem?_cons_zero, List.getElem?_cons_succ, List.set_cons_zero, List.set_cons_succ, List.length_cons, List.length_nil, Nat.zero_add, Nat.reduceAdd, Nat.reduceLeDiff, Nat.reduceLT]
  rfl
theorem law_product_ok (m n : Nat) (mi ni pi : Int) (hni : ni = (n : Int)) (hn : n ≤ 1000) (hp : mulI [.int mi, .int ni] = some (.int pi)) (ps : List (Rel × Rel)) (hps : ps.length ≤ 3) (h1 : ∀ p ∈ ps, Fit m p.1 ∧ Fit n p.2 ∧ p.1.name = p.2.name ∧ p.1.k = p.2.k) :
    f_law_product [strI mi (ps.map (·.1)), strI ni (ps.map (·.2))] = some (strI pi (ps.map (mulR n)), [strI mi (ps.map (·.1)), strI ni (ps.map (·.2))]) := by
  obtain ⟨li, hli⟩ : ∃ li : Int, li = (ps.length : Int) := ⟨_, rfl⟩
  have hx1 := @ix_str1 mi (ps.map (·.1))
  have hx2 := @ix_str2 mi (ps.map (·.1))
  have hx3 := @ix_str2 ni (ps.map (·.2))
  have hx4 := @ix_str1 ni (ps.map (·.2))
  have hout : strI pi (ps.map (mulR n)) = .tuple [.str "structure", .int pi, .tuple (ps.map fun p => relD (mulR n p))] := by unfold strI; rw [List.map_map]; rfl
  rw [hout]
  have il : lenI [.tuple ((ps.map (·.1)).map relD)] = some (.int li) := lenI_t (by rw [hli, List.length_map, List.length_map])
  have ok : ok62 li = true := by rw [hli]; exact okN (by omega)
  generalize strI mi (ps.map (·.1)) = s1 at hx1 hx2 ⊢
  generalize strI ni (ps.map (·.2)) = s2 at hx3 hx4 ⊢
  have lp := forL_idx (G := gSet 3) (fb := Tq3) (l := ps) (n := li) hli (Q := fun p ρ => ∃ o3 o4 o5 o6 o7 o8 o9 o10, ρ = [some s1, some s2, some (.list (p.map fun p => relD (mulR n p))), o3, o4, o5, o6, o7, o8, o9, o10]) (ρ := [some s1, some s2, some (.list []), none, none, none, none, none, none, none, none]) ⟨_, _, _, _, _, _, _, _, rfl⟩ fun i ii a hii hia ρ hρ => by
    obtain ⟨o3, o4, o5, o6, o7, o8, o9, o10, rfl⟩ := hρ
    have ha : a ∈ ps := List.mem_of_getElem? hia
    obtain ⟨f1, f2, hnm, hkk⟩ := h1 a ha
    have hk1 : ixA [.tuple ((ps.map (·.1)).map relD), .int ii] = some (.tuple [.str a.1.name, .int (a.1.k : Int), .tuple (rowsD a.1.rows)]) := by
      rw [hii]
      refine ixA_tup ?_
      rw [List.map_map, List.getElem?_map, hia]
      rfl
    have hk2 : ixA [.tuple ((ps.map (·.2)).map relD), .int ii] = some (.tuple [.str a.2.name, .int (a.2.k : Int), .tuple (rowsD a.2.rows)]) := by
      rw [hii]
      refine ixA_tup ?_
      rw [List.map_map, List.getElem?_map, hia]
      rfl
    have hl3 : ((ps.take i).map fun p => relD (mulR n p)).length < 16777216 := by rw [List.length_map, List.length_take]; omega
    have hk1000 : a.1.k ≤ 1000 := by have := f1.k2; omega
    have hml : (mulRows n a.1.rows a.2.rows).length ≤ 16777216 := by
      rw [mulRows_len]
      exact Nat.le_trans (Nat.mul_le_mul f1.many f2.many) (by decide)
    generalize (ps.map (·.1)).map relD = q1 at *
    generalize (ps.map (·.2)).map relD = q2 at *
    obtain ⟨q8, q9, e3⟩ := q3_loop n ni hni hn s2 hx4 (a.1.k : Int) a.1.k rfl hk1000 a.1.rows a.2.rows (fun r hr => (f1.row r hr).1) (fun r hr => by rw [hkk]; exact (f2.row r hr).1) f1.many f2.many q2 _ _ ii hx3 hk2 (some s1) (some (.list ((ps.take i).map fun p => relD (mulR n p)))) (some (.str a.1.name)) (some (.tuple (rowsD a.1.rows))) o8 o9 o10
    have ht := q3_run s1 s2 q1 _ _ _ _ _ _ ii hx2 hk1 hl3 (sort_rows hml (mulRows_ne f1.ne f2.ne)) o4 o5 o6 o7 o8 o9 o10 q8 q9 e3
    refine ⟨_, _, rfl, ht, ?_⟩
    rw [List.map_append]
    exact ⟨_, _, _, _, _, _, _, _, rfl⟩
  obtain ⟨ρ', e, o3, o4, o5, o6, o7, o8, o9, o10, rfl⟩ := lp
  exact lprod_end s1 s2 _ _ mi ni pi li hx2 hx1 hx4 hp il ok o3 o4 o5 o6 o7 o8 o9 o10 e
end FH
namespace FH
open Sx PySem PySem.Spec PyProof.Rows L2
def app (h r : List Nat) : List Nat := r.map fun x => h.getD x 0
def relOk (h : List Nat) (p : Rel × Rel) : Bool := p.1.rows.all fun r => decide (app h r ∈ p.2.rows)
def isMap (ps : List (Rel × Rel)) (h : List Nat) : Bool := ps.all (relOk h)
theorem ix_app {h : List Nat} {x : Nat} (hx : x < h.length) : ixA [rowD h, .int (x : Int)] = some (.int ((h.getD x 0 : Nat) : Int)) := by
  refine ix_row ?_
  rw [List.getD_eq_getElem?_getD, List.getElem?_eq_getElem hx]
  rfl
abbrev Ti0 : Gt := (gTurn (gSet 5) hYes (fOp ixA ((gV 2) ((gV 5) gN))))
theorem i0_turn (rh : D) (x y : Int) (o0 o1 o3 o4 : Option D) (e : ixA [rh, .int x] = some (.int y)) : Ti0 (.int x) [o0, o1, some rh, o3, o4, none] = some ([o0, o1, some rh, o3, o4, some (.int x)], some (.int y)) := by
  simp only [Ti0, e, x_seq, x_seq1, x_seq2, x_seq3, x_seq4, x_nil, x_brk, x_cnt, x_if, x_if1, x_if2, x_set, x_set1, x_ret, x_ret1, x_retN, x_drop, x_drop1, x_ev, x_ev1, x_et, x_et1, x_ec, x_gn, x_ge, x_ge1, x_ge2, x_gv, x_gv1, x_gv2, x_gv3, x_op, x_op1, x_hop, x_hop1, x_hop2, x_tru, x_tru1, x_not, x_not1, x_and, x_and1, x_and2, x_or, x_or1, x_or2, x_yes, x_tup, x_tup1, x_lst, x_lst1, x_eif, x_eif1, x_eif2, x_notE, x_notE1, x_eand, x_eand1, x_eand2, x_eor, x_eor1, x_eor2, x_call, x_call1, x_call2, x_put1, x_put2, x_put3, x_body, x_body1, x_body2, x_app, x_app1, x_app2, x_app3, x_pt, x_pt1, x_pt2, x_pt3, x_pt4, x_pt5, x_ie, x_ie1, x_items1, x_items2, x_rg1, x_rg11, x_rg2, x_rg21, x_zip, x_zip1, x_zip2, x_gs, x_gt, x_gc, x_gl, x_asg, x_asg1, x_for, x_for1, x_turn, x_next1, x_next2, x_next3, x_next4, x_tn, x_tn1, x_tn2, x_tn3, x_tn4, x_lc, x_lc1, x_lc2, x_ld, x_ld1, x_w1, x_w2, x_tg, x_tg1, x_tg2, x_sm, x_sm1, x_sm2, x_al, x_al1, x_ay, x_ay1, x_bl, x_bk1, x_bk2, x_jn, x_pr1, x_pr2, Option.bind_some, Option.bind_none, Option.map_some, Option.map_none, List.map_cons, List.map_nil, List.replicate_succ, List.replicate_zero, List.cons_append, List.nil_append, List.append_nil, List.getElem?_cons_zero, List.getElem?_cons_succ, List.set_cons_zero, List.set_cons_succ, List.length_cons, List.length_nil, Nat.zero_add, Nat.reduceAdd, Nat.reduceLeDiff, Nat.reduceLT]
theorem i0_loop (h r : List Nat) (hr : ∀ x ∈ r, x < h.length) (o0 o1 o3 o4 : Option D) : lcL [5] Ti0 (r.map fun (n : Nat) => (.int (n : Int) : D)) [o0, o1, some (rowD h), o3, o4, none] = some ([o0, o1, some (rowD h), o3, o4, none], (app h r).map fun (n : Nat) => (.int (n : Int) : D)) := by
  have key := lcL_map (t := Ti0) (vs := [5]) (enc := fun (n : Nat) => (.int (n : Int) : D)) (out := fun (n : Nat) => (.int ((h.getD n 0 : Nat) : Int) : D)) (l := r) (ρ := [o0, o1, some (rowD h), o3, o4, none]) fun x hx =>
    ⟨_, i0_turn (rowD h) (x : Int) _ o0 o1 o3 o4 (ix_app (hr x hx)), rfl⟩
  rw [key]
  unfold app
  rw [List.map_map]
  rfl
abbrev Ti1 : Sv := (aSeq (aIf (hOp niA ((gE (fOp tupI ((gE (eLc (iE (eV 4)) Ti0 [5])) gN))) ((gE (fOp ixA ((gE (fOp ixA ((gE (fOp ixA ((gV 1) ((gE (eC (.int 2))) gN)))) ((gV 3) gN)))) ((gE (eC (.int 2))) gN)))) gN))) (aSeq (aRet (eC (.bool false)))
    aNil) aNil)
    aNil)
theorem i1_run (ot rh rr : D) (k : Int) (q2 inp out rws : List D) (nm kj : D) (c : Bool) (o0 o5 : Option D) (h12 : ixA [ot, .int 2] = some (.tuple q2)) (hk : ixA [.tuple q2, .int k] = some (.tuple [nm, kj, .tuple rws])) (it : items rr = some inp) (hl : out.length ≤ 16777216)
    (key : lcL [5] Ti0 inp [o0, some ot, some rh, some (.int k), some rr, none] = some ([o0, some ot, some rh, some (.int k), some rr, none], out)) (hn : niA [.tuple out, .tuple rws] = some (.bool (!c))) :
    Ti1 [o0, some ot, some rh, some (.int k), some rr, o5] = some (if c = true then .nx [o0, some ot, some rh, some (.int k), some rr, o5] else .rt [o0, some ot, some rh, some (.int k), some rr, o5] (.bool false)) := by
  have i2 : ixA [.tuple [nm, kj, .tuple rws], .int 2] = some (.tuple rws) := rfl
  cases c with
  | true =>
    simp only [Ti1, h12, hk, i2, it, key, tup_i, x_lc2 hl, hn, Bool.not_true, x_seq, x_seq1, x_seq2, x_seq3, x_seq4, x_nil, x_brk, x_cnt, x_if, x_if1, x_if2, x_set, x_set1, x_ret, x_ret1, x_retN, x_drop, x_drop1, x_ev, x_ev1, x_et, x_et1, x_ec, x_gn, x_ge, x_ge1, x_ge2, x_gv, x_gv1, x_gv2, x_gv3, x_op, x_op1, x_hop, x_hop1, x_hop2, x_tru, x_tru1, x_not, x_not1, x_and, x_and1, x_and2, x_or, x_or1, x_or2, x_yes, x_tup, x_tup1, x_lst, x_lst1, x_eif, x_eif1, x_eif2, x_notE, x_notE1, x_eand, x_eand1, x_eand2, x_eor, x_eor1, x_eor2, x_call, x_call1, x_call2, x_put1, x_put2, x_put3, x_body, x_body1, x_body2, x_app, x_app1, x_app2, x_app3, x_pt, x_pt1, x_pt2, x_pt3, x_pt4, x_pt5, x_ie, x_ie1, x_items1, x_items2, x_rg1, x_rg11, x_rg2, x_rg21, x_zip, x_zip1, x_zip2, x_gs, x_gt, x_gc, x_gl, x_asg, x_asg1, x_for, x_for1, x_turn, x_next1, x_next2, x_next3, x_next4, x_tn, x_tn1, x_tn2, x_tn3, x_tn4, x_lc, x_lc1, x_lc2, x_ld, x_ld1, x_w1, x_w2, x_tg, x_tg1, x_tg2, x_sm, x_sm1, x_sm2, x_al, x_al1, x_ay, x_ay1, x_bl, x_bk1, x_bk2, x_jn, x_pr1, x_pr2, Option.bind_some, Option.bind_none, Option.map_some, Option.map_none, List.map_cons, List.map_nil, List.replicate_succ, List.replicate_zero, List.cons_append, List.nil_append, List.append_nil, List.getElem?_cons_zero, List.getElem?_cons_succ, List.set_cons_zero, List.set_cons_succ, List.length_cons, List.length_nil, Nat.zero_add, Nat.reduceAdd, Nat.reduceLeDiff, Nat.reduceLT]
    rfl
  | false =>
    simp only [Ti1, h12, hk, i2, it, key, tup_i, x_lc2 hl, hn, Bool.not_false, x_seq, x_seq1, x_seq2, x_seq3, x_seq4, x_nil, x_brk, x_cnt, x_if, x_if1, x_if2, x_set, x_set1, x_ret, x_ret1, x_retN, x_drop, x_drop1, x_ev, x_ev1, x_et, x_et1, x_ec, x_gn, x_ge, x_ge1, x_ge2, x_gv, x_gv1, x_gv2, x_gv3, x_op, x_op1, x_hop, x_hop1, x_hop2, x_tru, x_tru1, x_not, x_not1, x_and, x_and1, x_and2, x_or, x_or1, x_or2, x_yes, x_tup, x_tup1, x_lst, x_lst1, x_eif, x_eif1, x_eif2, x_notE, x_notE1, x_eand, x_eand1, x_eand2, x_eor, x_eor1, x_eor2, x_call, x_call1, x_call2, x_put1, x_put2, x_put3, x_body, x_body1, x_body2, x_app, x_app1, x_app2, x_app3, x_pt, x_pt1, x_pt2, x_pt3, x_pt4, x_pt5, x_ie, x_ie1, x_items1, x_items2, x_rg1, x_rg11, x_rg2, x_rg21, x_zip, x_zip1, x_zip2, x_gs, x_gt, x_gc, x_gl, x_asg, x_asg1, x_for, x_for1, x_turn, x_next1, x_next2, x_next3, x_next4, x_tn, x_tn1, x_tn2, x_tn3, x_tn4, x_lc, x_lc1, x_lc2, x_ld, x_ld1, x_w1, x_w2, x_tg, x_tg1, x_tg2, x_sm, x_sm1, x_sm2, x_al, x_al1, x_ay, x_ay1, x_bl, x_bk1, x_bk2, x_jn, x_pr1, x_pr2, Option.bind_some, Option.bind_none, Option.map_some, Option.map_none, List.map_cons, List.map_nil, List.replicate_succ, List.replicate_zero, List.cons_append, List.nil_append, List.append_nil, List.getElem?_cons_zero, List.getElem?_cons_succ, List.set_cons_zero, List.set_cons_succ, List.length_cons, List.length_nil, Nat.zero_add, Nat.reduceAdd, Nat.reduceLeDiff, Nat.reduceLT]
    rfl
abbrev Ti2 : Sv := (aSeq (aFor (iE (fOp ixA ((gE (fOp ixA ((gE (fOp ixA ((gV 0) ((gE (eC (.int 2))) gN)))) ((gV 3) gN)))) ((gE (eC (.int 2))) gN)))) (gSet 4) Ti1)
    aNil)
theorem i2_run (st ot rh : D) (k : Int) (q1 rws : List D) (nm kj : D) (c : Bool) (o4 o5 q4 : Option D) (h12 : ixA [st, .int 2] = some (.tuple q1)) (hk : ixA [.tuple q1, .int k] = some (.tuple [nm, kj, .tuple rws]))
    (key : forL (gSet 4) Ti1 rws [some st, some ot, some rh, some (.int k), o4, o5] = some (if c = true then .nx [some st, some ot, some rh, some (.int k), q4, o5] else .rt [some st, some ot, some rh, some (.int k), q4, o5] (.bool false))) :
    Ti2 [some st, some ot, some rh, some (.int k), o4, o5] = some (if c = true then .nx [some st, some ot, some rh, some (.int k), q4, o5] else .rt [some st, some ot, some rh, some (.int k), q4, o5] (.bool false)) := by
  have i2 : ixA [.tuple [nm, kj, .tuple rws], .int 2] = some (.tuple rws) := rfl
  cases c with
  | true =>
    rw [if_pos rfl] at key ⊢
    simp only [Ti2, h12, hk, i2, key, x_seq, x_seq1, x_seq2, x_seq3, x_seq4, x_nil, x_brk, x_cnt, x_if, x_if1, x_if2, x_set, x_set1, x_ret, x_ret1, x_retN, x_drop, x_drop1, x_ev, x_ev1, x_et, x_et1, x_ec, x_gn, x_ge, x_ge1, x_ge2, x_gv, x_gv1, x_gv2, x_gv3, x_op, x_op1, x_hop, x_hop1, x_hop2, x_tru, x_tru1, x_not, x_not1, x_and, x_and1, x_and2, x_or, x_or1, x_or2, x_yes, x_tup, x_tup1, x_lst, x_lst1, x_eif, x_eif1, x_eif2, x_notE, x_notE1, x_eand, x_eand1, x_eand2, x_eor, x_eor1, x_eor2, x_call, x_call1, x_call2, x_put1, x_put2, x_put3, x_body, x_body1, x_body2, x_app, x_app1, x_app2, x_app3, x_pt, x_pt1, x_pt2, x_pt3, x_pt4, x_pt5, x_ie, x_ie1, x_items1, x_items2, x_rg1, x_rg11, x_rg2, x_rg21, x_zip, x_zip1, x_zip2, x_gs, x_gt, x_gc, x_gl, x_asg, x_asg1, x_for, x_for1, x_turn, x_next1, x_next2, x_next3, x_next4, x_tn, x_tn1, x_tn2, x_tn3, x_tn4, x_lc, x_lc1, x_lc2, x_ld, x_ld1, x_w1, x_w2, x_tg, x_tg1, x_tg2, x_sm, x_sm1, x_sm2, x_al, x_al1, x_ay, x_ay1, x_bl, x_bk1, x_bk2, x_jn, x_pr1, x_pr2, Option.bind_some, Option.bind_none, Option.map_some, Option.map_none, List.map_cons, List.map_nil, List.replicate_succ, List.replicate_zero, List.cons_append, List.nil_append, List.append_nil, List.getElem?_cons_zero, List.getElem?_cons_succ, List.set_cons_zero, List.set_cons_succ, List.length_cons, List.length_nil, Nat.zero_add, Nat.reduceAdd, Nat.reduceLeDiff, Nat.reduceLT]
  | false =>
    rw [if_neg (by decide)] at key ⊢
    simp only [Ti2, h12, hk, i2, key, x_seq, x_seq1, x_seq2, x_seq3, x_seq4, x_nil, x_brk, x_cnt, x_if, x_if1, x_if2, x_set, x_set1, x_ret, x_ret1, x_retN, x_drop, x_drop1, x_ev, x_ev1, x_et, x_et1, x_ec, x_gn, x_ge, x_ge1, x_ge2, x_gv, x_gv1, x_gv2, x_gv3, x_op, x_op1, x_hop, x_hop1, x_hop2, x_tru, x_tru1, x_not, x_not1, x_and, x_and1, x_and2, x_or, x_or1, x_or2, x_yes, x_tup, x_tup1, x_lst, x_lst1, x_eif, x_eif1, x_eif2, x_notE, x_notE1, x_eand, x_eand1, x_eand2, x_eor, x_eor1, x_eor2, x_call, x_call1, x_call2, x_put1, x_put2, x_put3, x_body, x_body1, x_body2, x_app, x_app1, x_app2, x_app3, x_pt, x_pt1, x_pt2, x_pt3, x_pt4, x_pt5, x_ie, x_ie1, x_items1, x_items2, x_rg1, x_rg11, x_rg2, x_rg21, x_zip, x_zip1, x_zip2, x_gs, x_gt, x_gc, x_gl, x_asg, x_asg1, x_for, x_for1, x_turn, x_next1, x_next2, x_next3, x_next4, x_tn, x_tn1, x_tn2, x_tn3, x_tn4, x_lc, x_lc1, x_lc2, x_ld, x_ld1, x_w1, x_w2, x_tg, x_tg1, x_tg2, x_sm, x_sm1, x_sm2, x_al, x_al1, x_ay, x_ay1, x_bl, x_bk1, x_bk2, x_jn, x_pr1, x_pr2, Option.bind_some, Option.bind_none, Option.map_some, Option.map_none, List.map_cons, List.map_nil, List.replicate_succ, List.replicate_zero, List.cons_append, List.nil_append, List.append_nil, List.getElem?_cons_zero, List.getElem?_cons_succ, List.set_cons_zero, List.set_cons_succ, List.length_cons, List.length_nil, Nat.zero_add, Nat.reduceAdd, Nat.reduceLeDiff, Nat.reduceLT]
theorem im_end (s1 s2 rh : D) (q1 : List D) (li : Int) (c : Bool) (o3 o4 o5 : Option D) (i1 : ixA [s1, .int 2] = some (.tuple q1)) (il : lenI [.tuple q1] = some (.int li)) (ok : ok62 li = true)
    (e : forL (gSet 3) Ti2 (upTo 0 li) [some s1, some s2, some rh, none, none, none] = some (if c = true then .nx [some s1, some s2, some rh, o3, o4, o5] else .rt [some s1, some s2, some rh, o3, o4, o5] (.bool false))) :
    f_law_is_map [s1, s2, rh] = some (.bool c, [s1, s2, rh]) := by
  cases c with
  | true =>
    rw [if_pos rfl] at e
    simp only [f_law_is_map, b_law_is_map, i1, il, x_rg11 ok, e, x_seq, x_seq1, x_seq2, x_seq3, x_seq4, x_nil, x_brk, x_cnt, x_if, x_if1, x_if2, x_set, x_set1, x_ret, x_ret1, x_retN, x_drop, x_drop1, x_ev, x_ev1, x_et, x_et1, x_ec, x_gn, x_ge, x_ge1, x_ge2, x_gv, x_gv1, x_gv2, x_gv3, x_op, x_op1, x_hop, x_hop1, x_hop2, x_tru, x_tru1, x_not, x_not1, x_and, x_and1, x_and2, x_or, x_or1, x_or2, x_yes, x_tup, x_tup1, x_lst, x_lst1, x_eif, x_eif1, x_eif2, x_notE, x_notE1, x_eand, x_eand1, x_eand2, x_eor, x_eor1, x_eor2, x_call, x_call1, x_call2, x_put1, x_put2, x_put3, x_body, x_body1, x_body2, x_app, x_app1, x_app2, x_app3, x_pt, x_pt1, x_pt2, x_pt3, x_pt4, x_pt5, x_ie, x_ie1, x_items1, x_items2, x_rg1, x_rg11, x_rg2, x_rg21, x_zip, x_zip1, x_zip2, x_gs, x_gt, x_gc, x_gl, x_asg, x_asg1, x_for, x_for1, x_turn, x_next1, x_next2, x_next3, x_next4, x_tn, x_tn1, x_tn2, x_tn3, x_tn4, x_lc, x_lc1, x_lc2, x_ld, x_ld1, x_w1, x_w2, x_tg, x_tg1, x_tg2, x_sm, x_sm1, x_sm2, x_al, x_al1, x_ay, x_ay1, x_bl, x_bk1, x_bk2, x_jn, x_pr1, x_pr2, Option.bind_some, Option.bind_none, Option.map_some, Option.map_none, List.map_cons, List.map_nil, List.replicate_succ, List.replicate_zero, List.cons_append, List.nil_append, List.append_nil, List.getElem?_cons_zero, List.getElem?_cons_succ, List.set_cons_zero, List.set_cons_succ, List.length_cons, List.length_nil, Nat.zero_add, Nat.reduceAdd, Nat.reduceLeDiff, Nat.reduceLT]
    rfl
  | false =>
    rw [if_neg (by decide)] at e
    simp only [f_law_is_map, b_law_is_map, i1, il, x_rg11 ok, e, x_seq, x_seq1, x_seq2, x_seq3, x_seq4, x_nil, x_brk, x_cnt, x_if, x_if1, x_if2, x_set, x_set1, x_ret, x_ret1, x_retN, x_drop, x_drop1, x_ev, x_ev1, x_et, x_et1, x_ec, x_gn, x_ge, x_ge1, x_ge2, x_gv, x_gv1, x_gv2, x_gv3, x_op, x_op1, x_hop, x_hop1, x_hop2, x_tru, x_tru1, x_not, x_not1, x_and, x_and1, x_and2, x_or, x_or1, x_or2, x_yes, x_tup, x_tup1, x_lst, x_lst1, x_eif, x_eif1, x_eif2, x_notE, x_notE1, x_eand, x_eand1, x_eand2, x_eor, x_eor1, x_eor2, x_call, x_call1, x_call2, x_put1, x_put2, x_put3, x_body, x_body1, x_body2, x_app, x_app1, x_app2, x_app3, x_pt, x_pt1, x_pt2, x_pt3, x_pt4, x_pt5, x_ie, x_ie1, x_items1, x_items2, x_rg1, x_rg11, x_rg2, x_rg21, x_zip, x_zip1, x_zip2, x_gs, x_gt, x_gc, x_gl, x_asg, x_asg1, x_for, x_for1, x_turn, x_next1, x_next2, x_next3, x_next4, x_tn, x_tn1, x_tn2, x_tn3, x_tn4, x_lc, x_lc1, x_lc2, x_ld, x_ld1, x_w1, x_w2, x_tg, x_tg1, x_tg2, x_sm, x_sm1, x_sm2, x_al, x_al1, x_ay, x_ay1, x_bl, x_bk1, x_bk2, x_jn, x_pr1, x_pr2, Option.bind_some, Option.bind_none, Option.map_some, Option.map_none, List.map_cons, List.map_nil, List.replicate_succ, List.replicate_zero, List.cons_append, List.nil_append, List.append_nil, List.getElem?_cons_zero, List.getElem?_cons_succ, List.set_cons_zero, List.set_cons_succ, List.length_cons, List.length_nil, Nat.zero_add, Nat.reduceAdd, Nat.reduceLeDiff, Nat.reduceLT]
    rfl
theorem is_map_ok (mi ni : Int) (ps : List (Rel × Rel)) (hps : ps.length ≤ 3) (h : List Nat) (h1 : ∀ p ∈ ps, ∀ r ∈ p.1.rows, r.length ≤ 1000 ∧ ∀ x ∈ r, x < h.length) :
    f_law_is_map [strI mi (ps.map (·.1)), strI ni (ps.map (·.2)), rowD h] = some (.bool (isMap ps h), [strI mi (ps.map (·.1)), strI ni (ps.map (·.2)), rowD h]) := by
  obtain ⟨li, hli⟩ : ∃ li : Int, li = (ps.length : Int) := ⟨_, rfl⟩
  have hx2 := @ix_str2 mi (ps.map (·.1))
  have hx3 := @ix_str2 ni (ps.map (·.2))
  have il : lenI [.tuple ((ps.map (·.1)).map relD)] = some (.int li) := lenI_t (by rw [hli, List.length_map, List.length_map])
  have ok : ok62 li = true := by rw [hli]; exact okN (by omega)
  generalize strI mi (ps.map (·.1)) = s1 at hx2 ⊢
  generalize strI ni (ps.map (·.2)) = s2 at hx3 ⊢
  have lp := forL_idx_all (G := gSet 3) (fb := Ti2) (l := ps) (n := li) hli (p := relOk h) (d := .bool false) (Q := fun ρ => ∃ o3 o4 o5, ρ = [some s1, some s2, some (rowD h), o3, o4, o5]) (ρ := [some s1, some s2, some (rowD h), none, none, none]) ⟨_, _, _, rfl⟩ fun i ii a hii hia ρ hρ => by
    obtain ⟨o3, o4, o5, rfl⟩ := hρ
    have ha : a ∈ ps := List.mem_of_getElem? hia
    have hk1 : ixA [.tuple ((ps.map (·.1)).map relD), .int ii] = some (.tuple [.str a.1.name, .int (a.1.k : Int), .tuple (rowsD a.1.rows)]) := by
      rw [hii]
      refine ixA_tup ?_
      rw [List.map_map, List.getElem?_map, hia]
      rfl
    have hk2 : ixA [.tuple ((ps.map (·.2)).map relD), .int ii] = some (.tuple [.str a.2.name, .int (a.2.k : Int), .tuple (rowsD a.2.rows)]) := by
      rw [hii]
      refine ixA_tup ?_
      rw [List.map_map, List.getElem?_map, hia]
      rfl
    generalize (ps.map (·.1)).map relD = q1 at *
    generalize (ps.map (·.2)).map relD = q2 at *
    have lp1 := forL_all (G := gSet 4) (fb := Ti1) (enc := rowD) (l := a.1.rows) (p := fun r => decide (app h r ∈ a.2.rows)) (d := .bool false) (Q := fun ρ => ∃ o4, ρ = [some s1, some s2, some (rowD h), some (.int ii), o4, o5]) (ρ := [some s1, some s2, some (rowD h), some (.int ii), o4, o5]) ⟨_, rfl⟩ fun r hr ρ hρ => by
      obtain ⟨o4, rfl⟩ := hρ
      obtain ⟨h2, h3⟩ := h1 a ha r hr
      have key := i0_loop h r h3 (some s1) (some s2) (some (.int ii)) (some (rowD r))
      have hl : ((app h r).map fun (n : Nat) => (.int (n : Int) : D)).length ≤ 16777216 := by unfold app; rw [List.length_map, List.length_map]; omega
      have ht := i1_run s2 (rowD h) (rowD r) ii q2 _ _ (rowsD a.2.rows) _ _ (decide (app h r ∈ a.2.rows)) (some s1) o5 hx3 hk2 items_row hl key (ni_row a.2.rows (app h r))
      exact ⟨_, _, rfl, ht, _, rfl⟩
    obtain ⟨ρ', e, q4, rfl⟩ := lp1
    have ht := i2_run s1 s2 (rowD h) ii q1 (rowsD a.1.rows) _ _ (relOk h a) o4 o5 q4 hx2 hk1 e
    exact ⟨_, _, rfl, ht, _, _, _, rfl⟩
  obtain ⟨ρ', e, o3, o4, o5, rfl⟩ := lp
  exact im_end s1 s2 (rowD h) _ li (isMap ps h) o3 o4 o5 hx2 il ok e
abbrev Tmp : Gt := (gTurn (gSet 2) (hTru ((gE (eCall [none, none, none] f_law_is_map (gE (eV 0) (gE (eV 1) (gE (eV 2) gN))))) gN)) (eV 2))
theorem mp_turn (s1 s2 rh : D) (c : Bool) (e : f_law_is_map [s1, s2, rh] = some (.bool c, [s1, s2, rh])) : Tmp rh [some s1, some s2, none] = some ([some s1, some s2, some rh], if c = true then some rh else none) := by
  cases c with
  | true => simp only [Tmp, e, tru_b, x_seq, x_seq1, x_seq2, x_seq3, x_seq4, x_nil, x_brk, x_cnt, x_if, x_if1, x_if2, x_set, x_set1, x_ret, x_ret1, x_retN, x_drop, x_drop1, x_ev, x_ev1, x_et, x_et1, x_ec, x_gn, x_ge, x_ge1, x_ge2, x_gv, x_gv1, x_gv2, x_gv3, x_op, x_op1, x_hop, x_hop1, x_hop2, x_tru, x_tru1, x_not, x_not1, x_and, x_and1, x_and2, x_or, x_or1, x_or2, x_yes, x_tup, x_tup1, x_lst, x_lst1, x_eif, x_eif1, x_eif2, x_notE, x_notE1, x_eand, x_eand1, x_eand2, x_eor, x_eor1, x_eor2, x_call, x_call1, x_call2, x_put1, x_put2, x_put3, x_body, x_body1, x_body2, x_app, x_app1, x_app2, x_app3, x_pt, x_pt1, x_pt2, x_pt3, x_pt4, x_pt5, x_ie, x_ie1, x_items1, x_items2, x_rg1, x_rg11, x_rg2, x_rg21, x_zip, x_zip1, x_zip2, x_gs, x_gt, x_gc, x_gl, x_asg, x_asg1, x_for, x_for1, x_turn, x_next1, x_next2, x_next3, x_next4, x_tn, x_tn1, x_tn2, x_tn3, x_tn4, x_lc, x_lc1, x_lc2, x_ld, x_ld1, x_w1, x_w2, x_tg, x_tg1, x_tg2, x_sm, x_sm1, x_sm2, x_al, x_al1, x_ay, x_ay1, x_bl, x_bk1, x_bk2, x_jn, x_pr1, x_pr2, Option.bind_some, Option.bind_none, Option.map_some, Option.map_none, List.map_cons, List.map_nil, List.replicate_succ, List.replicate_zero, List.cons_append, List.nil_append, List.append_nil, List.getElem?_cons_zero, List.getElem?_cons_succ, List.set_cons_zero, List.set_cons_succ, List.length_cons, List.length_nil, Nat.zero_add, Nat.reduceAdd, Nat.reduceLeDiff, Nat.reduceLT]; rfl
  | false => simp only [Tmp, e, tru_b, x_seq, x_seq1, x_seq2, x_seq3, x_seq4, x_nil, x_brk, x_cnt, x_if, x_if1, x_if2, x_set, x_set1, x_ret, x_ret1, x_retN, x_drop, x_drop1, x_ev, x_ev1, x_et, x_et1, x_ec, x_gn, x_ge, x_ge1, x_ge2, x_gv, x_gv1, x_gv2, x_gv3, x_op, x_op1, x_hop, x_hop1, x_hop2, x_tru, x_tru1, x_not, x_not1, x_and, x_and1, x_and2, x_or, x_or1, x_or2, x_yes, x_tup, x_tup1, x_lst, x_lst1, x_eif, x_eif1, x_eif2, x_notE, x_notE1, x_eand, x_eand1, x_eand2, x_eor, x_eor1, x_eor2, x_call, x_call1, x_call2, x_put1, x_put2, x_put3, x_body, x_body1, x_body2, x_app, x_app1, x_app2, x_app3, x_pt, x_pt1, x_pt2, x_pt3, x_pt4, x_pt5, x_ie, x_ie1, x_items1, x_items2, x_rg1, x_rg11, x_rg2, x_rg21, x_zip, x_zip1, x_zip2, x_gs, x_gt, x_gc, x_gl, x_asg, x_asg1, x_for, x_for1, x_turn, x_next1, x_next2, x_next3, x_next4, x_tn, x_tn1, x_tn2, x_tn3, x_tn4, x_lc, x_lc1, x_lc2, x_ld, x_ld1, x_w1, x_w2, x_tg, x_tg1, x_tg2, x_sm, x_sm1, x_sm2, x_al, x_al1, x_ay, x_ay1, x_bl, x_bk1, x_bk2, x_jn, x_pr1, x_pr2, Option.bind_some, Option.bind_none, Option.map_some, Option.map_none, List.map_cons, List.map_nil, List.replicate_succ, List.replicate_zero, List.cons_append, List.nil_append, List.append_nil, List.getElem?_cons_zero, List.getElem?_cons_succ, List.set_cons_zero, List.set_cons_succ, List.length_cons, List.length_nil, Nat.zero_add, Nat.reduceAdd, Nat.reduceLeDiff, Nat.reduceLT]; rfl
theorem mp_end (s1 s2 : D) (mi ni : Int) (inp out : List D) (i1 : ixA [s1, .int 1] = some (.int mi)) (i2 : ixA [s2, .int 1] = some (.int ni)) (et : Ftup [.int ni, .int mi] = some (.list inp, [.int ni, .int mi])) (hl : out.length ≤ 16777216)
    (e : lcL [2] Tmp inp [some s1, some s2, none] = some ([some s1, some s2, none], out)) :
    f_law_maps [s1, s2] = some (.list out, [s1, s2]) := by
  simp only [f_law_maps, b_law_maps, e_tup, i1, i2, et, e, x_lc2 hl, x_seq, x_seq1, x_seq2, x_seq3, x_seq4, x_nil, x_brk, x_cnt, x_if, x_if1, x_if2, x_set, x_set1, x_ret, x_ret1, x_retN, x_drop, x_drop1, x_ev, x_ev1, x_et, x_et1, x_ec, x_gn, x_ge, x_ge1, x_ge2, x_gv, x_gv1, x_gv2, x_gv3, x_op, x_op1, x_hop, x_hop1, x_hop2, x_tru, x_tru1, x_not, x_not1, x_and, x_and1, x_and2, x_or, x_or1, x_or2, x_yes, x_tup, x_tup1, x_lst, x_lst1, x_eif, x_eif1, x_eif2, x_notE, x_notE1, x_eand, x_eand1, x_eand2, x_eor, x_eor1, x_eor2, x_call, x_call1, x_call2, x_put1, x_put2, x_put3, x_body, x_body1, x_body2, x_app, x_app1, x_app2, x_app3, x_pt, x_pt1, x_pt2, x_pt3, x_pt4, x_pt5, x_ie, x_ie1, x_items1, x_items2, x_rg1, x_rg11, x_rg2, x_rg21, x_zip, x_zip1, x_zip2, x_gs, x_gt, x_gc, x_gl, x_asg, x_asg1, x_for, x_for1, x_turn, x_next1, x_next2, x_next3, x_next4, x_tn, x_tn1, x_tn2, x_tn3, x_tn4, x_lc, x_lc1, x_lc2, x_ld, x_ld1, x_w1, x_w2, x_tg, x_tg1, x_tg2, x_sm, x_sm1, x_sm2, x_al, x_al1, x_ay, x_ay1, x_bl, x_bk1, x_bk2, x_jn, x_pr1, x_pr2, Option.bind_some, Option.bind_none, Option.map_some, Option.map_none, List.map_cons, List.map_nil, List.replicate_succ, List.replicate_zero, List.cons_append, List.nil_append, List.append_nil, List.getElem?_cons_zero, List.getElem?_cons_succ, List.set_cons_zero, List.set_cons_succ, List.length_cons, List.length_nil, Nat.zero_add, Nat.reduceAdd, Nat.reduceLeDiff, Nat.reduceLT]
  rfl
theorem maps_ok (m n : Nat) (mi ni : Int) (hmi : mi = (m : Int)) (hni : ni = (n : Int)) (hm : m ≤ 100) (hn : n ≤ 1000) (hl : n ^ m ≤ 16777216) (ps : List (Rel × Rel)) (hps : ps.length ≤ 3) (h1 : ∀ p ∈ ps, Fit m p.1) :
    f_law_maps [strI mi (ps.map (·.1)), strI ni (ps.map (·.2))] = some (.list (rowsD ((tups n m).filter (isMap ps))), [strI mi (ps.map (·.1)), strI ni (ps.map (·.2))]) := by
  have et := tup_ok n m ni mi hni hmi (by omega) (by omega) hl
  have him : ∀ h ∈ tups n m, f_law_is_map [strI mi (ps.map (·.1)), strI ni (ps.map (·.2)), rowD h] = some (.bool (isMap ps h), [strI mi (ps.map (·.1)), strI ni (ps.map (·.2)), rowD h]) := fun h hh =>
    is_map_ok mi ni ps hps h fun p hp r hr => ⟨(h1 p hp).short r hr, fun x hx => by rw [(tups_mem hh).1]; exact ((h1 p hp).row r hr).2 x hx⟩
  have i1 := @ix_str1 mi (ps.map (·.1))
  have i2 := @ix_str1 ni (ps.map (·.2))
  generalize strI mi (ps.map (·.1)) = s1 at *
  generalize strI ni (ps.map (·.2)) = s2 at *
  have key := lcL_filter (t := Tmp) (vs := [2]) (enc := rowD) (out := rowD) (p := isMap ps) (l := tups n m) (ρ := [some s1, some s2, none]) fun h hh =>
    ⟨_, mp_turn s1 s2 (rowD h) (isMap ps h) (him h hh), rfl⟩
  refine mp_end s1 s2 mi ni _ _ i1 i2 et ?_ key
  rw [rowsD_len]
  exact Nat.le_trans (List.length_filter_le _ _) (by rw [tups_len]; exact hl)
end FH
namespace FH
open Sx PySem PySem.Spec PyProof.Rows L2
/-! the greatest number of a row -/
def maxN (r : List Nat) : Nat := r.foldl max 0
theorem maxOf_nat : ∀ (xs : List Nat) (x : Nat), PySem.W.maxOf (x : Int) (xs.map fun (n : Nat) => (n : Int)) = ((xs.foldl max x : Nat) : Int)
  | [], x => rfl
  | y :: xs, x => by
    have ih := maxOf_nat xs (max x y)
    unfold PySem.W.maxOf at ih ⊢
    rw [List.map_cons, List.foldl_cons, List.foldl_cons, ← ih]
    congr 1
    show (if decide ((x : Int) < (y : Int)) = true then (y : Int) else (x : Int)) = _
    by_cases h : x < y
    · rw [if_pos (decide_eq_true (by omega)), Nat.max_eq_right (by omega)]
    · rw [if_neg (by rw [decide_eq_true_eq]; omega), Nat.max_eq_left (by omega)]
theorem ext_ints : ∀ (x : Int) (xs : List Int), extOk ((x :: xs).map PyData.int) = true := by
  intro x xs
  unfold extOk
  have h1 : PyData.plainAll ((x :: xs).map PyData.int) = true := PySem.W.plainAll_map (x :: xs)
  have h2 : PyData.depthAll ((x :: xs).map PyData.int) = 0 := PySem.W.depth_ints _
  have h3 : alikeL ((x :: xs).map PyData.int) = true := by
    unfold alikeL
    rw [List.all_eq_true]
    intro d hd
    rw [List.all_eq_true]
    intro e he
    obtain ⟨a, _, rfl⟩ := List.mem_map.mp hd
    obtain ⟨b, _, rfl⟩ := List.mem_map.mp he
    exact PySem.W.DatumOrd.alike a b
  have h4 : ((x :: xs).map PyData.int).all noNone = true := by
    rw [List.all_eq_true]
    intro d hd
    obtain ⟨a, _, rfl⟩ := List.mem_map.mp hd
    rfl
  rw [h1, h2, h3, h4]
  rfl
theorem max_row {r : List Nat} (h : r ≠ []) : extI true [rowD r] = some (.int (maxN r : Int)) := by
  match r, h with
  | x :: xs, _ =>
    have e : (x :: xs).map (fun (n : Nat) => (.int (n : Int) : D)) = (((x : Int) :: xs.map fun (n : Nat) => (n : Int)).map PyData.int) := by
      rw [List.map_cons, List.map_cons, List.map_map]
      rfl
    rw [rowD_def, e]
    have : extI true [.tuple (((x : Int) :: xs.map fun (n : Nat) => (n : Int)).map PyData.int)] = some (PySem.W.maxD (PySem.W.Datum.toD (x : Int)) ((xs.map fun (n : Nat) => (n : Int)).map PySem.W.Datum.toD)) := if_pos (ext_ints _ _)
    rw [this, PySem.W.maxD_map, maxOf_nat]
    unfold maxN
    rw [List.foldl_cons, Nat.max_eq_right (Nat.zero_le x)]
    rfl
theorem foldl_max_le : ∀ (r : List Nat) (a : Nat), a ≤ r.foldl max a ∧ ∀ x ∈ r, x ≤ r.foldl max a
  | [], a => ⟨Nat.le_refl _, fun _ h => by simp at h⟩
  | y :: r, a => by
    obtain ⟨h1, h2⟩ := foldl_max_le r (max a y)
    rw [List.foldl_cons]
    refine ⟨Nat.le_trans (Nat.le_max_left _ _) h1, fun x hx => ?_⟩
    rcases List.mem_cons.mp hx with rfl | hx
    · exact Nat.le_trans (Nat.le_max_right _ _) h1
    · exact h2 x hx
theorem foldl_max_lt : ∀ (r : List Nat) (a m : Nat), a < m → (∀ x ∈ r, x < m) → r.foldl max a < m
  | [], a, m, h, _ => h
  | y :: r, a, m, h, hr => by
    rw [List.foldl_cons]
    exact foldl_max_lt r _ m (Nat.max_lt.mpr ⟨h, hr y List.mem_cons_self⟩) fun x hx => hr x (List.mem_cons_of_mem _ hx)
/-! rows by name -/
def dicD (rs : List Rel) : D := .dict (rs.map fun r => (.str r.name, .tuple (rowsD r.rows)))
abbrev keyL (rs : List Rel) : List (L2.Key × D) := rs.map fun r => (.inr r.name, .tuple (rowsD r.rows))
abbrev Trb : Gt2 := (gTurn2 (gTupT 3 (gsCons (gSet 1) (gsCons (gSet 2) (gsCons (gSet 3) gsNil)))) hYes (eV 1) (eV 3))
theorem rb_loop (s : D) : ∀ (rs done : List Rel), ((done ++ rs).map Rel.name).Nodup → done.length + rs.length < 16777216 → dcL [1, 2, 3] Trb (rs.map relD) [some s, none, none, none] (keyL done) = some ([some s, none, none, none], keyL (done ++ rs))
  | [], done, _, _ => by rw [List.append_nil]; rfl
  | r :: rs, done, hn, hl => by
    rw [List.length_cons] at hl
    have ih := rb_loop s rs (done ++ [r]) (by rw [List.append_assoc]; exact hn) (by rw [List.length_append, List.length_singleton]; omega)
    have hp : putL (keyL done) (.inr r.name) (.tuple (rowsD r.rows)) = keyL (done ++ [r]) := by
      unfold putL
      rw [if_neg]
      · unfold keyL
        rw [List.map_append]
        rfl
      · rw [List.any_eq_true]
        rintro ⟨kv, h1, h2⟩
        obtain ⟨q, hq, rfl⟩ := List.mem_map.mp h1
        have h2 := of_decide_eq_true h2
        have h2 : q.name = r.name := Sum.inr.inj h2
        rw [List.map_append, List.map_cons, List.nodup_append] at hn
        exact hn.2.2 _ (List.mem_map_of_mem hq) _ List.mem_cons_self h2
    have ht : Trb (relD r) [some s, none, none, none] = some ([some s, some (.str r.name), some (.int (r.k : Int)), some (.tuple (rowsD r.rows))], some (.inr r.name, .tuple (rowsD r.rows))) := rfl
    rw [List.map_cons]
    show ((Trb (relD r) _).bind _) = _
    rw [ht, Option.bind_some]
    show (if (keyL done).length < 16777216 then dcL [1, 2, 3] Trb (rs.map relD) [some s, none, none, none] (putL (keyL done) (.inr r.name) (.tuple (rowsD r.rows))) else none) = _
    rw [if_pos (by rw [List.length_map]; omega), hp, ih, List.append_assoc]
    rfl
theorem rb_ok (s : D) (rs : List Rel) (h2 : ixA [s, .int 2] = some (.tuple (rs.map relD))) (hn : (rs.map Rel.name).Nodup) (hl : rs.length ≤ 1000) : f_rows_by_name [s] = some (dicD rs, [s]) := by
  have e := rb_loop s rs [] hn (by rw [List.length_nil]; omega)
  have e1 : (iE (fOp ixA ((gV 0) ((gE (eC (.int 2))) gN)))) [some s, none, none, none] = some ([some s, none, none, none], rs.map relD) := by
    generalize rs.map relD = x at *
    simp only [h2, x_seq, x_seq1, x_seq2, x_seq3, x_seq4, x_nil, x_brk, x_cnt, x_if, x_if1, x_if2, x_set, x_set1, x_ret, x_ret1, x_retN, x_drop, x_drop1, x_ev, x_ev1, x_et, x_et1, x_ec, x_gn, x_ge, x_ge1, x_ge2, x_gv, x_gv1, x_gv2, x_gv3, x_op, x_op1, x_hop, x_hop1, x_hop2, x_tru, x_tru1, x_not, x_not1, x_and, x_and1, x_and2, x_or, x_or1, x_or2, x_yes, x_tup, x_tup1, x_lst, x_lst1, x_eif, x_eif1, x_eif2, x_notE, x_notE1, x_eand, x_eand1, x_eand2, x_eor, x_eor1, x_eor2, x_call, x_call1, x_call2, x_put1, x_put2, x_put3, x_body, x_body1, x_body2, x_app, x_app1, x_app2, x_app3, x_pt, x_pt1, x_pt2, x_pt3, x_pt4, x_pt5, x_ie, x_ie1, x_items1, x_items2, x_rg1, x_rg11, x_rg2, x_rg21, x_zip, x_zip1, x_zip2, x_gs, x_gt, x_gc, x_gl, x_asg, x_asg1, x_for, x_for1, x_turn, x_next1, x_next2, x_next3, x_next4, x_tn, x_tn1, x_tn2, x_tn3, x_tn4, x_lc, x_lc1, x_lc2, x_ld, x_ld1, x_w1, x_w2, x_tg, x_tg1, x_tg2, x_sm, x_sm1, x_sm2, x_al, x_al1, x_ay, x_ay1, x_bl, x_bk1, x_bk2, x_jn, x_pr1, x_pr2, Option.bind_some, Option.bind_none, Option.map_some, Option.map_none, List.map_cons, List.map_nil, List.replicate_succ, List.replicate_zero, List.cons_append, List.nil_append, List.append_nil, List.getElem?_cons_zero, List.getElem?_cons_succ, List.set_cons_zero, List.set_cons_succ, List.length_cons, List.length_nil, Nat.zero_add, Nat.reduceAdd, Nat.reduceLeDiff, Nat.reduceLT]
  have e2 : eDc (iE (fOp ixA ((gV 0) ((gE (eC (.int 2))) gN)))) Trb [1, 2, 3] [some s, none, none, none] = some ([some s, none, none, none], dicD rs) := by
    unfold eDc
    rw [e1, Option.bind_some]
    show (dcL [1, 2, 3] Trb (rs.map relD) [some s, none, none, none] (keyL [])).map _ = _
    rw [e, Option.map_some]
    have : toPs (keyL ([] ++ rs)) = rs.map fun r => (.str r.name, .tuple (rowsD r.rows)) := by
      unfold toPs
      rw [List.nil_append, List.map_map]
      rfl
    unfold dicD
    rw [← this]
    rfl
  generalize dicD rs = x at *
  simp only [f_rows_by_name, b_rows_by_name, e2, x_seq, x_seq1, x_seq2, x_seq3, x_seq4, x_nil, x_brk, x_cnt, x_if, x_if1, x_if2, x_set, x_set1, x_ret, x_ret1, x_retN, x_drop, x_drop1, x_ev, x_ev1, x_et, x_et1, x_ec, x_gn, x_ge, x_ge1, x_ge2, x_gv, x_gv1, x_gv2, x_gv3, x_op, x_op1, x_hop, x_hop1, x_hop2, x_tru, x_tru1, x_not, x_not1, x_and, x_and1, x_and2, x_or, x_or1, x_or2, x_yes, x_tup, x_tup1, x_lst, x_lst1, x_eif, x_eif1, x_eif2, x_notE, x_notE1, x_eand, x_eand1, x_eand2, x_eor, x_eor1, x_eor2, x_call, x_call1, x_call2, x_put1, x_put2, x_put3, x_body, x_body1, x_body2, x_app, x_app1, x_app2, x_app3, x_pt, x_pt1, x_pt2, x_pt3, x_pt4, x_pt5, x_ie, x_ie1, x_items1, x_items2, x_rg1, x_rg11, x_rg2, x_rg21, x_zip, x_zip1, x_zip2, x_gs, x_gt, x_gc, x_gl, x_asg, x_asg1, x_for, x_for1, x_turn, x_next1, x_next2, x_next3, x_next4, x_tn, x_tn1, x_tn2, x_tn3, x_tn4, x_lc, x_lc1, x_lc2, x_ld, x_ld1, x_w1, x_w2, x_tg, x_tg1, x_tg2, x_sm, x_sm1, x_sm2, x_al, x_al1, x_ay, x_ay1, x_bl, x_bk1, x_bk2, x_jn, x_pr1, x_pr2, Option.bind_some, Option.bind_none, Option.map_some, Option.map_none, List.map_cons, List.map_nil, List.replicate_succ, List.replicate_zero, List.cons_append, List.nil_append, List.append_nil, List.getElem?_cons_zero, List.getElem?_cons_succ, List.set_cons_zero, List.set_cons_succ, List.length_cons, List.length_nil, Nat.zero_add, Nat.reduceAdd, Nat.reduceLeDiff, Nat.reduceLT]
  rfl
theorem keyed_dic : ∀ rs : List Rel, keyed sk (rs.map fun r => ((.str r.name : D), (.tuple (rowsD r.rows) : D))) = some (keyL rs)
  | [] => rfl
  | r :: rs => by
    have ih := keyed_dic rs
    rw [List.map_cons]
    unfold keyed
    rw [ih]
    rfl
theorem look_dic : ∀ (rs : List Rel), (rs.map Rel.name).Nodup → ∀ r ∈ rs, look (keyL rs) (.inr r.name) = some (.tuple (rowsD r.rows))
  | q :: rs, hn, r, hr => by
    unfold look keyL
    rw [List.map_cons, List.find?_cons]
    rw [List.map_cons, List.nodup_cons] at hn
    rcases List.mem_cons.mp hr with rfl | hr
    · simp
    · have hne : q.name ≠ r.name := fun e => hn.1 (by rw [e]; exact List.mem_map_of_mem hr)
      have : decide ((.inr q.name : L2.Key) = .inr r.name) = false := decide_eq_false fun e => hne (Sum.inr.inj e)
      rw [this]
      exact look_dic rs hn.2 r hr
theorem ix_dic (rs : List Rel) (hn : (rs.map Rel.name).Nodup) (r : Rel) (hr : r ∈ rs) : ixA [dicD rs, .str r.name] = some (.tuple (rowsD r.rows)) := by
  have h1 : dkGet (rs.map fun r => ((.str r.name : D), (.tuple (rowsD r.rows) : D))) (.str r.name) = some (some (.tuple (rowsD r.rows))) := by
    show ((keyed sk (rs.map fun r => ((.str r.name : D), (.tuple (rowsD r.rows) : D)))).bind fun l => if (l.map (·.1)).Nodup then some (look l (.inr r.name)) else none) = _
    rw [keyed_dic, Option.bind_some, if_pos, look_dic rs hn r hr]
    rw [List.map_map]
    have : (fun r : Rel => (Prod.fst ∘ fun r : Rel => ((.inr r.name : L2.Key), (.tuple (rowsD r.rows) : D))) r) = fun r => .inr r.name := rfl
    show (rs.map fun r : Rel => (.inr r.name : L2.Key)).Nodup
    have e : (rs.map fun r : Rel => (.inr r.name : L2.Key)) = (rs.map Rel.name).map Sum.inr := by rw [List.map_map]; rfl
    rw [e]
    exact List.Pairwise.map _ (fun a b h e => h (Sum.inr.inj e)) hn
  show ((ixI _).or (dixI _)) = _
  have h2 : ixI [dicD rs, .str r.name] = none := rfl
  rw [h2, Option.none_or]
  show (dkGet _ _).join = _
  rw [h1]
  rfl
end FH
namespace FH
open Sx PySem PySem.Spec PyProof.Rows L2
def kRow (g : List Nat) (p : Rel × Rel) (r : List Nat) : Bool := if maxN r + 1 = g.length then decide (app g r ∈ p.2.rows) else true
def kOk (ps : List (Rel × Rel)) (g : List Nat) : Bool := ps.all fun p => p.1.rows.all (kRow g p)
abbrev Tk0 : Gt := (gTurn (gSet 0) hYes (fOp ixA ((gV 1) ((gV 0) gN))))
theorem k0_turn (rh : D) (x y : Int) (o : Option D) (e : ixA [rh, .int x] = some (.int y)) : Tk0 (.int x) [o, some rh] = some ([some (.int x), some rh], some (.int y)) := by
  simp only [Tk0, e, x_seq, x_seq1, x_seq2, x_seq3, x_seq4, x_nil, x_brk, x_cnt, x_if, x_if1, x_if2, x_set, x_set1, x_ret, x_ret1, x_retN, x_drop, x_drop1, x_ev, x_ev1, x_et, x_et1, x_ec, x_gn, x_ge, x_ge1, x_ge2, x_gv, x_gv1, x_gv2, x_gv3, x_op, x_op1, x_hop, x_hop1, x_hop2, x_tru, x_tru1, x_not, x_not1, x_and, x_and1, x_and2, x_or, x_or1, x_or2, x_yes, x_tup, x_tup1, x_lst, x_lst1, x_eif, x_eif1, x_eif2, x_notE, x_notE1, x_eand, x_eand1, x_eand2, x_eor, x_eor1, x_eor2, x_call, x_call1, x_call2, x_put1, x_put2, x_put3, x_body, x_body1, x_body2, x_app, x_app1, x_app2, x_app3, x_pt, x_pt1, x_pt2, x_pt3, x_pt4, x_pt5, x_ie, x_ie1, x_items1, x_items2, x_rg1, x_rg11, x_rg2, x_rg21, x_zip, x_zip1, x_zip2, x_gs, x_gt, x_gc, x_gl, x_asg, x_asg1, x_for, x_for1, x_turn, x_next1, x_next2, x_next3, x_next4, x_tn, x_tn1, x_tn2, x_tn3, x_tn4, x_lc, x_lc1, x_lc2, x_ld, x_ld1, x_w1, x_w2, x_tg, x_tg1, x_tg2, x_sm, x_sm1, x_sm2, x_al, x_al1, x_ay, x_ay1, x_bl, x_bk1, x_bk2, x_jn, x_pr1, x_pr2, Option.bind_some, Option.bind_none, Option.map_some, Option.map_none, List.map_cons, List.map_nil, List.replicate_succ, List.replicate_zero, List.cons_append, List.nil_append, List.append_nil, List.getElem?_cons_zero, List.getElem?_cons_succ, List.set_cons_zero, List.set_cons_succ, List.length_cons, List.length_nil, Nat.zero_add, Nat.reduceAdd, Nat.reduceLeDiff, Nat.reduceLT]
theorem k0_loop (h r : List Nat) (hr : ∀ x ∈ r, x < h.length) : drainL Tk0 (r.map fun (n : Nat) => (.int (n : Int) : D)) [none, some (rowD h)] = some ((app h r).map fun (n : Nat) => (.int (n : Int) : D)) := by
  have key := drainL_map (t := Tk0) (enc := fun (n : Nat) => (.int (n : Int) : D)) (out := fun (n : Nat) => (.int ((h.getD n 0 : Nat) : Int) : D)) (P := fun ρ => ∃ o, ρ = [o, some (rowD h)]) (l := r) (ρ := [none, some (rowD h)]) ⟨_, rfl⟩ fun x hx ρ hρ => by
    obtain ⟨o, rfl⟩ := hρ
    exact ⟨_, k0_turn (rowD h) (x : Int) _ o (ix_app (hr x hx)), _, rfl⟩
  rw [key]
  unfold app
  rw [List.map_map]
  rfl
abbrev Tk1 : Sv := (aSeq (aIf (hAnd (hOp eqI ((gE (fOp (extI true) ((gV 7) gN))) ((gV 3) gN))) (hOp niA ((gE (eTupG (iE (eV 7)) Tk0 [none, some 2])) ((gE (fOp ixA ((gV 1) ((gV 4) gN)))) gN)))) (aSeq (aRet (eC (.bool false)))
    aNil) aNil)
    aNil)
theorem k1_no (s1 dic rg nm rr : D) (la mx : Int) (o5 o6 : Option D) (hm : extI true [rr] = some (.int mx)) (hne : decide (mx = la) = false) :
    Tk1 [some s1, some dic, some rg, some (.int la), some nm, o5, o6, some rr] = some (.nx [some s1, some dic, some rg, some (.int la), some nm, o5, o6, some rr]) := by
  simp only [Tk1, hm, eq_ii, hne, x_seq, x_seq1, x_seq2, x_seq3, x_seq4, x_nil, x_brk, x_cnt, x_if, x_if1, x_if2, x_set, x_set1, x_ret, x_ret1, x_retN, x_drop, x_drop1, x_ev, x_ev1, x_et, x_et1, x_ec, x_gn, x_ge, x_ge1, x_ge2, x_gv, x_gv1, x_gv2, x_gv3, x_op, x_op1, x_hop, x_hop1, x_hop2, x_tru, x_tru1, x_not, x_not1, x_and, x_and1, x_and2, x_or, x_or1, x_or2, x_yes, x_tup, x_tup1, x_lst, x_lst1, x_eif, x_eif1, x_eif2, x_notE, x_notE1, x_eand, x_eand1, x_eand2, x_eor, x_eor1, x_eor2, x_call, x_call1, x_call2, x_put1, x_put2, x_put3, x_body, x_body1, x_body2, x_app, x_app1, x_app2, x_app3, x_pt, x_pt1, x_pt2, x_pt3, x_pt4, x_pt5, x_ie, x_ie1, x_items1, x_items2, x_rg1, x_rg11, x_rg2, x_rg21, x_zip, x_zip1, x_zip2, x_gs, x_gt, x_gc, x_gl, x_asg, x_asg1, x_for, x_for1, x_turn, x_next1, x_next2, x_next3, x_next4, x_tn, x_tn1, x_tn2, x_tn3, x_tn4, x_lc, x_lc1, x_lc2, x_ld, x_ld1, x_w1, x_w2, x_tg, x_tg1, x_tg2, x_sm, x_sm1, x_sm2, x_al, x_al1, x_ay, x_ay1, x_bl, x_bk1, x_bk2, x_jn, x_pr1, x_pr2, Option.bind_some, Option.bind_none, Option.map_some, Option.map_none, List.map_cons, List.map_nil, List.replicate_succ, List.replicate_zero, List.cons_append, List.nil_append, List.append_nil, List.getElem?_cons_zero, List.getElem?_cons_succ, List.set_cons_zero, List.set_cons_succ, List.length_cons, List.length_nil, Nat.zero_add, Nat.reduceAdd, Nat.reduceLeDiff, Nat.reduceLT]
theorem k1_yes (s1 dic rg nm rr : D) (la mx : Int) (inp out rws : List D) (c : Bool) (o5 o6 : Option D) (hm : extI true [rr] = some (.int mx)) (hne : decide (mx = la) = true) (it : items rr = some inp) (key : drainL Tk0 inp [none, some rg] = some out) (hl : out.length ≤ 16777216) (hd : ixA [dic, nm] = some (.tuple rws)) (hn : niA [.tuple out, .tuple rws] = some (.bool (!c))) :
    Tk1 [some s1, some dic, some rg, some (.int la), some nm, o5, o6, some rr] = some (if c = true then .nx [some s1, some dic, some rg, some (.int la), some nm, o5, o6, some rr] else .rt [some s1, some dic, some rg, some (.int la), some nm, o5, o6, some rr] (.bool false)) := by
  cases c with
  | true =>
    simp only [Tk1, hm, eq_ii, hne, it, key, x_tg2 hl, hd, hn, Bool.not_true, x_seq, x_seq1, x_seq2, x_seq3, x_seq4, x_nil, x_brk, x_cnt, x_if, x_if1, x_if2, x_set, x_set1, x_ret, x_ret1, x_retN, x_drop, x_drop1, x_ev, x_ev1, x_et, x_et1, x_ec, x_gn, x_ge, x_ge1, x_ge2, x_gv, x_gv1, x_gv2, x_gv3, x_op, x_op1, x_hop, x_hop1, x_hop2, x_tru, x_tru1, x_not, x_not1, x_and, x_and1, x_and2, x_or, x_or1, x_or2, x_yes, x_tup, x_tup1, x_lst, x_lst1, x_eif, x_eif1, x_eif2, x_notE, x_notE1, x_eand, x_eand1, x_eand2, x_eor, x_eor1, x_eor2, x_call, x_call1, x_call2, x_put1, x_put2, x_put3, x_body, x_body1, x_body2, x_app, x_app1, x_app2, x_app3, x_pt, x_pt1, x_pt2, x_pt3, x_pt4, x_pt5, x_ie, x_ie1, x_items1, x_items2, x_rg1, x_rg11, x_rg2, x_rg21, x_zip, x_zip1, x_zip2, x_gs, x_gt, x_gc, x_gl, x_asg, x_asg1, x_for, x_for1, x_turn, x_next1, x_next2, x_next3, x_next4, x_tn, x_tn1, x_tn2, x_tn3, x_tn4, x_lc, x_lc1, x_lc2, x_ld, x_ld1, x_w1, x_w2, x_tg, x_tg1, x_tg2, x_sm, x_sm1, x_sm2, x_al, x_al1, x_ay, x_ay1, x_bl, x_bk1, x_bk2, x_jn, x_pr1, x_pr2, Option.bind_some, Option.bind_none, Option.map_some, Option.map_none, List.map_cons, List.map_nil, List.replicate_succ, List.replicate_zero, List.cons_append, List.nil_append, List.append_nil, List.getElem?_cons_zero, List.getElem?_cons_succ, List.set_cons_zero, List.set_cons_succ, List.length_cons, List.length_nil, Nat.zero_add, Nat.reduceAdd, Nat.reduceLeDiff, Nat.reduceLT]
    rfl
  | false =>
    simp only [Tk1, hm, eq_ii, hne, it, key, x_tg2 hl, hd, hn, Bool.not_false, x_seq, x_seq1, x_seq2, x_seq3, x_seq4, x_nil, x_brk, x_cnt, x_if, x_if1, x_if2, x_set, x_set1, x_ret, x_ret1, x_retN, x_drop, x_drop1, x_ev, x_ev1, x_et, x_et1, x_ec, x_gn, x_ge, x_ge1, x_ge2, x_gv, x_gv1, x_gv2, x_gv3, x_op, x_op1, x_hop, x_hop1, x_hop2, x_tru, x_tru1, x_not, x_not1, x_and, x_and1, x_and2, x_or, x_or1, x_or2, x_yes, x_tup, x_tup1, x_lst, x_lst1, x_eif, x_eif1, x_eif2, x_notE, x_notE1, x_eand, x_eand1, x_eand2, x_eor, x_eor1, x_eor2, x_call, x_call1, x_call2, x_put1, x_put2, x_put3, x_body, x_body1, x_body2, x_app, x_app1, x_app2, x_app3, x_pt, x_pt1, x_pt2, x_pt3, x_pt4, x_pt5, x_ie, x_ie1, x_items1, x_items2, x_rg1, x_rg11, x_rg2, x_rg21, x_zip, x_zip1, x_zip2, x_gs, x_gt, x_gc, x_gl, x_asg, x_asg1, x_for, x_for1, x_turn, x_next1, x_next2, x_next3, x_next4, x_tn, x_tn1, x_tn2, x_tn3, x_tn4, x_lc, x_lc1, x_lc2, x_ld, x_ld1, x_w1, x_w2, x_tg, x_tg1, x_tg2, x_sm, x_sm1, x_sm2, x_al, x_al1, x_ay, x_ay1, x_bl, x_bk1, x_bk2, x_jn, x_pr1, x_pr2, Option.bind_some, Option.bind_none, Option.map_some, Option.map_none, List.map_cons, List.map_nil, List.replicate_succ, List.replicate_zero, List.cons_append, List.nil_append, List.append_nil, List.getElem?_cons_zero, List.getElem?_cons_succ, List.set_cons_zero, List.set_cons_succ, List.length_cons, List.length_nil, Nat.zero_add, Nat.reduceAdd, Nat.reduceLeDiff, Nat.reduceLT]
    rfl
abbrev Tk2 : Sv := (aSeq (aFor (iE (eV 6)) (gSet 7) Tk1)
    aNil)
theorem k2_run (c : Bool) (rws : List D) (o0 o1 o2 o3 o4 o5 o7 q7 : Option D)
    (key : forL (gSet 7) Tk1 rws [o0, o1, o2, o3, o4, o5, some (.tuple rws), o7] = some (if c = true then .nx [o0, o1, o2, o3, o4, o5, some (.tuple rws), q7] else .rt [o0, o1, o2, o3, o4, o5, some (.tuple rws), q7] (.bool false))) :
    Tk2 [o0, o1, o2, o3, o4, o5, some (.tuple rws), o7] = some (if c = true then .nx [o0, o1, o2, o3, o4, o5, some (.tuple rws), q7] else .rt [o0, o1, o2, o3, o4, o5, some (.tuple rws), q7] (.bool false)) := by
  cases c with
  | true =>
    rw [if_pos rfl] at key ⊢
    simp only [Tk2, key, x_seq, x_seq1, x_seq2, x_seq3, x_seq4, x_nil, x_brk, x_cnt, x_if, x_if1, x_if2, x_set, x_set1, x_ret, x_ret1, x_retN, x_drop, x_drop1, x_ev, x_ev1, x_et, x_et1, x_ec, x_gn, x_ge, x_ge1, x_ge2, x_gv, x_gv1, x_gv2, x_gv3, x_op, x_op1, x_hop, x_hop1, x_hop2, x_tru, x_tru1, x_not, x_not1, x_and, x_and1, x_and2, x_or, x_or1, x_or2, x_yes, x_tup, x_tup1, x_lst, x_lst1, x_eif, x_eif1, x_eif2, x_notE, x_notE1, x_eand, x_eand1, x_eand2, x_eor, x_eor1, x_eor2, x_call, x_call1, x_call2, x_put1, x_put2, x_put3, x_body, x_body1, x_body2, x_app, x_app1, x_app2, x_app3, x_pt, x_pt1, x_pt2, x_pt3, x_pt4, x_pt5, x_ie, x_ie1, x_items1, x_items2, x_rg1, x_rg11, x_rg2, x_rg21, x_zip, x_zip1, x_zip2, x_gs, x_gt, x_gc, x_gl, x_asg, x_asg1, x_for, x_for1, x_turn, x_next1, x_next2, x_next3, x_next4, x_tn, x_tn1, x_tn2, x_tn3, x_tn4, x_lc, x_lc1, x_lc2, x_ld, x_ld1, x_w1, x_w2, x_tg, x_tg1, x_tg2, x_sm, x_sm1, x_sm2, x_al, x_al1, x_ay, x_ay1, x_bl, x_bk1, x_bk2, x_jn, x_pr1, x_pr2, Option.bind_some, Option.bind_none, Option.map_some, Option.map_none, List.map_cons, List.map_nil, List.replicate_succ, List.replicate_zero, List.cons_append, List.nil_append, List.append_nil, List.getElem?_cons_zero, List.getElem?_cons_succ, List.set_cons_zero, List.set_cons_succ, List.length_cons, List.length_nil, Nat.zero_add, Nat.reduceAdd, Nat.reduceLeDiff, Nat.reduceLT]
  | false =>
    rw [if_neg (by decide)] at key ⊢
    simp only [Tk2, key, x_seq, x_seq1, x_seq2, x_seq3, x_seq4, x_nil, x_brk, x_cnt, x_if, x_if1, x_if2, x_set, x_set1, x_ret, x_ret1, x_retN, x_drop, x_drop1, x_ev, x_ev1, x_et, x_et1, x_ec, x_gn, x_ge, x_ge1, x_ge2, x_gv, x_gv1, x_gv2, x_gv3, x_op, x_op1, x_hop, x_hop1, x_hop2, x_tru, x_tru1, x_not, x_not1, x_and, x_and1, x_and2, x_or, x_or1, x_or2, x_yes, x_tup, x_tup1, x_lst, x_lst1, x_eif, x_eif1, x_eif2, x_notE, x_notE1, x_eand, x_eand1, x_eand2, x_eor, x_eor1, x_eor2, x_call, x_call1, x_call2, x_put1, x_put2, x_put3, x_body, x_body1, x_body2, x_app, x_app1, x_app2, x_app3, x_pt, x_pt1, x_pt2, x_pt3, x_pt4, x_pt5, x_ie, x_ie1, x_items1, x_items2, x_rg1, x_rg11, x_rg2, x_rg21, x_zip, x_zip1, x_zip2, x_gs, x_gt, x_gc, x_gl, x_asg, x_asg1, x_for, x_for1, x_turn, x_next1, x_next2, x_next3, x_next4, x_tn, x_tn1, x_tn2, x_tn3, x_tn4, x_lc, x_lc1, x_lc2, x_ld, x_ld1, x_w1, x_w2, x_tg, x_tg1, x_tg2, x_sm, x_sm1, x_sm2, x_al, x_al1, x_ay, x_ay1, x_bl, x_bk1, x_bk2, x_jn, x_pr1, x_pr2, Option.bind_some, Option.bind_none, Option.map_some, Option.map_none, List.map_cons, List.map_nil, List.replicate_succ, List.replicate_zero, List.cons_append, List.nil_append, List.append_nil, List.getElem?_cons_zero, List.getElem?_cons_succ, List.set_cons_zero, List.set_cons_succ, List.length_cons, List.length_nil, Nat.zero_add, Nat.reduceAdd, Nat.reduceLeDiff, Nat.reduceLT]
abbrev Gk : Gv := (gTupT 3 (gsCons (gSet 4) (gsCons (gSet 5) (gsCons (gSet 6) gsNil))))
theorem k_end (s1 dic rg : D) (q1 : List D) (ln la : Int) (c : Bool) (o4 o5 o6 o7 : Option D) (i1 : ixA [s1, .int 2] = some (.tuple q1)) (il : lenI [rg] = some (.int ln)) (hla : ln - 1 = la)
    (e : forL Gk Tk2 q1 [some s1, some dic, some rg, some (.int la), none, none, none, none] = some (if c = true then .nx [some s1, some dic, some rg, some (.int la), o4, o5, o6, o7] else .rt [some s1, some dic, some rg, some (.int la), o4, o5, o6, o7] (.bool false))) :
    f_keeps_rows [s1, dic, rg] = some (.bool c, [s1, dic, rg]) := by
  have e0 : subI [.int ln, .int 1] = some (.int la) := by rw [sub_ii, hla]
  clear hla
  cases c with
  | true =>
    rw [if_pos rfl] at e
    simp only [f_keeps_rows, b_keeps_rows, i1, il, e0, e, x_seq, x_seq1, x_seq2, x_seq3, x_seq4, x_nil, x_brk, x_cnt, x_if, x_if1, x_if2, x_set, x_set1, x_ret, x_ret1, x_retN, x_drop, x_drop1, x_ev, x_ev1, x_et, x_et1, x_ec, x_gn, x_ge, x_ge1, x_ge2, x_gv, x_gv1, x_gv2, x_gv3, x_op, x_op1, x_hop, x_hop1, x_hop2, x_tru, x_tru1, x_not, x_not1, x_and, x_and1, x_and2, x_or, x_or1, x_or2, x_yes, x_tup, x_tup1, x_lst, x_lst1, x_eif, x_eif1, x_eif2, x_notE, x_notE1, x_eand, x_eand1, x_eand2, x_eor, x_eor1, x_eor2, x_call, x_call1, x_call2, x_put1, x_put2, x_put3, x_body, x_body1, x_body2, x_app, x_app1, x_app2, x_app3, x_pt, x_pt1, x_pt2, x_pt3, x_pt4, x_pt5, x_ie, x_ie1, x_items1, x_items2, x_rg1, x_rg11, x_rg2, x_rg21, x_zip, x_zip1, x_zip2, x_gs, x_gt, x_gc, x_gl, x_asg, x_asg1, x_for, x_for1, x_turn, x_next1, x_next2, x_next3, x_next4, x_tn, x_tn1, x_tn2, x_tn3, x_tn4, x_lc, x_lc1, x_lc2, x_ld, x_ld1, x_w1, x_w2, x_tg, x_tg1, x_tg2, x_sm, x_sm1, x_sm2, x_al, x_al1, x_ay, x_ay1, x_bl, x_bk1, x_bk2, x_jn, x_pr1, x_pr2, Option.bind_some, Option.bind_none, Option.map_some, Option.map_none, List.map_cons, List.map_nil, List.replicate_succ, List.replicate_zero, List.cons_append, List.nil_append, List.append_nil, List.getElem?_cons_zero, List.getElem?_cons_succ, List.set_cons_zero, List.set_cons_succ, List.length_cons, List.length_nil, Nat.zero_add, Nat.reduceAdd, Nat.reduceLeDiff, Nat.reduceLT]
    rfl
  | false =>
    rw [if_neg (by decide)] at e
    simp only [f_keeps_rows, b_keeps_rows, i1, il, e0, e, x_seq, x_seq1, x_seq2, x_seq3, x_seq4, x_nil, x_brk, x_cnt, x_if, x_if1, x_if2, x_set, x_set1, x_ret, x_ret1, x_retN, x_drop, x_drop1, x_ev, x_ev1, x_et, x_et1, x_ec, x_gn, x_ge, x_ge1, x_ge2, x_gv, x_gv1, x_gv2, x_gv3, x_op, x_op1, x_hop, x_hop1, x_hop2, x_tru, x_tru1, x_not, x_not1, x_and, x_and1, x_and2, x_or, x_or1, x_or2, x_yes, x_tup, x_tup1, x_lst, x_lst1, x_eif, x_eif1, x_eif2, x_notE, x_notE1, x_eand, x_eand1, x_eand2, x_eor, x_eor1, x_eor2, x_call, x_call1, x_call2, x_put1, x_put2, x_put3, x_body, x_body1, x_body2, x_app, x_app1, x_app2, x_app3, x_pt, x_pt1, x_pt2, x_pt3, x_pt4, x_pt5, x_ie, x_ie1, x_items1, x_items2, x_rg1, x_rg11, x_rg2, x_rg21, x_zip, x_zip1, x_zip2, x_gs, x_gt, x_gc, x_gl, x_asg, x_asg1, x_for, x_for1, x_turn, x_next1, x_next2, x_next3, x_next4, x_tn, x_tn1, x_tn2, x_tn3, x_tn4, x_lc, x_lc1, x_lc2, x_ld, x_ld1, x_w1, x_w2, x_tg, x_tg1, x_tg2, x_sm, x_sm1, x_sm2, x_al, x_al1, x_ay, x_ay1, x_bl, x_bk1, x_bk2, x_jn, x_pr1, x_pr2, Option.bind_some, Option.bind_none, Option.map_some, Option.map_none, List.map_cons, List.map_nil, List.replicate_succ, List.replicate_zero, List.cons_append, List.nil_append, List.append_nil, List.getElem?_cons_zero, List.getElem?_cons_succ, List.set_cons_zero, List.set_cons_succ, List.length_cons, List.length_nil, Nat.zero_add, Nat.reduceAdd, Nat.reduceLeDiff, Nat.reduceLT]
    rfl
/-- what the walk over maps needs of the two structures -/
structure Duo (m : Nat) (ps : List (Rel × Rel)) : Prop where
  len : ps.length ≤ 3
  fit : ∀ p ∈ ps, Fit m p.1
  nm : ∀ p ∈ ps, p.1.name = p.2.name
  nod : ((ps.map (·.2)).map Rel.name).Nodup
theorem lenI_row {g : List Nat} {li : Int} (h : li = (g.length : Int)) : lenI [rowD g] = some (.int li) := lenI_t (by rw [h, List.length_map])
theorem keeps_ok (m : Nat) (s1 : D) (ps : List (Rel × Rel)) (du : Duo m ps) (i1 : ixA [s1, .int 2] = some (.tuple (ps.map fun p => relD p.1))) (g : List Nat) (hg : g.length ≤ 1000) :
    f_keeps_rows [s1, dicD (ps.map (·.2)), rowD g] = some (.bool (kOk ps g), [s1, dicD (ps.map (·.2)), rowD g]) := by
  obtain ⟨ln, hln⟩ : ∃ ln : Int, ln = (g.length : Int) := ⟨_, rfl⟩
  obtain ⟨la, hla⟩ : ∃ la : Int, ln - 1 = la := ⟨_, rfl⟩
  have lp := forL_all (G := Gk) (fb := Tk2) (enc := fun p : Rel × Rel => relD p.1) (l := ps) (p := fun p => p.1.rows.all (kRow g p)) (d := .bool false) (Q := fun ρ => ∃ o4 o5 o6 o7, ρ = [some s1, some (dicD (ps.map (·.2))), some (rowD g), some (.int la), o4, o5, o6, o7]) (ρ := [some s1, some (dicD (ps.map (·.2))), some (rowD g), some (.int la), none, none, none, none]) ⟨_, _, _, _, rfl⟩ fun a ha ρ hρ => by
    obtain ⟨o4, o5, o6, o7, rfl⟩ := hρ
    have fa := du.fit a ha
    have hd : ixA [dicD (ps.map (·.2)), .str a.1.name] = some (.tuple (rowsD a.2.rows)) := by
      rw [du.nm a ha]
      exact ix_dic _ du.nod a.2 (List.mem_map_of_mem ha)
    generalize dicD (ps.map (·.2)) = dic at *
    have lp1 := forL_all (G := gSet 7) (fb := Tk1) (enc := rowD) (l := a.1.rows) (p := kRow g a) (d := .bool false) (Q := fun ρ => ∃ o7, ρ = [some s1, some dic, some (rowD g), some (.int la), some (.str a.1.name), some (.int (a.1.k : Int)), some (.tuple (rowsD a.1.rows)), o7]) (ρ := [some s1, some dic, some (rowD g), some (.int la), some (.str a.1.name), some (.int (a.1.k : Int)), some (.tuple (rowsD a.1.rows)), o7]) ⟨_, rfl⟩ fun r hr ρ hρ => by
      obtain ⟨o7, rfl⟩ := hρ
      have hm := max_row (fa.ne r hr)
      by_cases hh : maxN r + 1 = g.length
      · have hlt : ∀ x ∈ r, x < g.length := fun x hx => by have := (foldl_max_le r 0).2 x hx; unfold maxN at hh; omega
        have ek : kRow g a r = decide (app g r ∈ a.2.rows) := if_pos hh
        have hl : ((app g r).map fun (n : Nat) => (.int (n : Int) : D)).length ≤ 16777216 := by unfold app; rw [List.length_map, List.length_map]; have := fa.short r hr; omega
        have hdd : decide ((maxN r : Int) = la) = true := decide_eq_true (by omega)
        rw [ek]
        exact ⟨_, _, rfl, k1_yes s1 dic (rowD g) (.str a.1.name) (rowD r) la (maxN r : Int) _ _ (rowsD a.2.rows) (decide (app g r ∈ a.2.rows)) _ _ hm hdd items_row (k0_loop g r hlt) hl hd (ni_row a.2.rows (app g r)), _, rfl⟩
      · have ek : kRow g a r = true := if_neg hh
        have hdd : decide ((maxN r : Int) = la) = false := decide_eq_false (by omega)
        rw [ek]
        exact ⟨_, _, rfl, k1_no s1 dic (rowD g) (.str a.1.name) (rowD r) la (maxN r : Int) _ _ hm hdd, _, rfl⟩
    obtain ⟨ρ', e, q7, rfl⟩ := lp1
    exact ⟨_, _, rfl, k2_run (a.1.rows.all (kRow g a)) (rowsD a.1.rows) _ _ _ _ _ _ o7 q7 e, _, _, _, _, rfl⟩
  obtain ⟨ρ', e, o4, o5, o6, o7, rfl⟩ := lp
  exact k_end s1 _ (rowD g) _ ln la (kOk ps g) o4 o5 o6 o7 i1 (lenI_row hln) hla e
end FH
namespace FH
open Sx PySem PySem.Spec PyProof.Rows L2
/-- how many maps begin so -/
def cnt (ps : List (Rel × Rel)) (c : Nat) : Nat → List Nat → Nat
  | 0, _ => 1
  | p + 1, g => (((List.range c).filter fun x => kOk ps (g ++ [x])).map fun x => cnt ps c p (g ++ [x])).sum
abbrev Tc (self : Fn) : Gt := (gTurn (gSet 0) (hTru ((gE (eCall [none, none, none] f_keeps_rows (gE (eV 1) (gE (eV 4) (gE (fOp addI ((gV 3) ((gE (eTup (gE (eV 0) gN))) gN))) gN))))) gN)) (eCall [none, none, none] self (gE (eV 1) (gE (eV 2) (gE (fOp addI ((gV 3) ((gE (eTup (gE (eV 0) gN))) gN))) gN)))))
theorem c_turn (self : Fn) (s1 s2 rg dic rx : D) (x k : Int) (c : Bool) (o : Option D) (ea : addI [rg, .tuple [.int x]] = some rx) (ek : f_keeps_rows [s1, dic, rx] = some (.bool c, [s1, dic, rx])) (es : c = true → self [s1, s2, rx] = some (.int k, [s1, s2, rx])) :
    Tc self (.int x) [o, some s1, some s2, some rg, some dic] = some ([some (.int x), some s1, some s2, some rg, some dic], if c = true then some (.int k) else none) := by
  cases c with
  | true =>
    have es := es rfl
    simp only [Tc, ea, ek, es, tru_b, x_seq, x_seq1, x_seq2, x_seq3, x_seq4, x_nil, x_brk, x_cnt, x_if, x_if1, x_if2, x_set, x_set1, x_ret, x_ret1, x_retN, x_drop, x_drop1, x_ev, x_ev1, x_et, x_et1, x_ec, x_gn, x_ge, x_ge1, x_ge2, x_gv, x_gv1, x_gv2, x_gv3, x_op, x_op1, x_hop, x_hop1, x_hop2, x_tru, x_tru1, x_not, x_not1, x_and, x_and1, x_and2, x_or, x_or1, x_or2, x_yes, x_tup, x_tup1, x_lst, x_lst1, x_eif, x_eif1, x_eif2, x_notE, x_notE1, x_eand, x_eand1, x_eand2, x_eor, x_eor1, x_eor2, x_call, x_call1, x_call2, x_put1, x_put2, x_put3, x_body, x_body1, x_body2, x_app, x_app1, x_app2, x_app3, x_pt, x_pt1, x_pt2, x_pt3, x_pt4, x_pt5, x_ie, x_ie1, x_items1, x_items2, x_rg1, x_rg11, x_rg2, x_rg21, x_zip, x_zip1, x_zip2, x_gs, x_gt, x_gc, x_gl, x_asg, x_asg1, x_for, x_for1, x_turn, x_next1, x_next2, x_next3, x_next4, x_tn, x_tn1, x_tn2, x_tn3, x_tn4, x_lc, x_lc1, x_lc2, x_ld, x_ld1, x_w1, x_w2, x_tg, x_tg1, x_tg2, x_sm, x_sm1, x_sm2, x_al, x_al1, x_ay, x_ay1, x_bl, x_bk1, x_bk2, x_jn, x_pr1, x_pr2, Option.bind_some, Option.bind_none, Option.map_some, Option.map_none, List.map_cons, List.map_nil, List.replicate_succ, List.replicate_zero, List.cons_append, List.nil_append, List.append_nil, List.getElem?_cons_zero, List.getElem?_cons_succ, List.set_cons_zero, List.set_cons_succ, List.length_cons, List.length_nil, Nat.zero_add, Nat.reduceAdd, Nat.reduceLeDiff, Nat.reduceLT]
    rfl
  | false =>
    simp only [Tc, ea, ek, tru_b, x_seq, x_seq1, x_seq2, x_seq3, x_seq4, x_nil, x_brk, x_cnt, x_if, x_if1, x_if2, x_set, x_set1, x_ret, x_ret1, x_retN, x_drop, x_drop1, x_ev, x_ev1, x_et, x_et1, x_ec, x_gn, x_ge, x_ge1, x_ge2, x_gv, x_gv1, x_gv2, x_gv3, x_op, x_op1, x_hop, x_hop1, x_hop2, x_tru, x_tru1, x_not, x_not1, x_and, x_and1, x_and2, x_or, x_or1, x_or2, x_yes, x_tup, x_tup1, x_lst, x_lst1, x_eif, x_eif1, x_eif2, x_notE, x_notE1, x_eand, x_eand1, x_eand2, x_eor, x_eor1, x_eor2, x_call, x_call1, x_call2, x_put1, x_put2, x_put3, x_body, x_body1, x_body2, x_app, x_app1, x_app2, x_app3, x_pt, x_pt1, x_pt2, x_pt3, x_pt4, x_pt5, x_ie, x_ie1, x_items1, x_items2, x_rg1, x_rg11, x_rg2, x_rg21, x_zip, x_zip1, x_zip2, x_gs, x_gt, x_gc, x_gl, x_asg, x_asg1, x_for, x_for1, x_turn, x_next1, x_next2, x_next3, x_next4, x_tn, x_tn1, x_tn2, x_tn3, x_tn4, x_lc, x_lc1, x_lc2, x_ld, x_ld1, x_w1, x_w2, x_tg, x_tg1, x_tg2, x_sm, x_sm1, x_sm2, x_al, x_al1, x_ay, x_ay1, x_bl, x_bk1, x_bk2, x_jn, x_pr1, x_pr2, Option.bind_some, Option.bind_none, Option.map_some, Option.map_none, List.map_cons, List.map_nil, List.replicate_succ, List.replicate_zero, List.cons_append, List.nil_append, List.append_nil, List.getElem?_cons_zero, List.getElem?_cons_succ, List.set_cons_zero, List.set_cons_succ, List.length_cons, List.length_nil, Nat.zero_add, Nat.reduceAdd, Nat.reduceLeDiff, Nat.reduceLT]
    rfl
theorem c_end0 (self : Fn) (s1 s2 rg : D) (ln : Int) (i1 : ixA [s1, .int 1] = some (.int ln)) (il : lenI [rg] = some (.int ln)) : fBody M_count_from 1 false (b_count_from self) [s1, s2, rg] = some (.int 1, [s1, s2, rg]) := by
  simp only [b_count_from, i1, il, eq_ii, decide_true, x_seq, x_seq1, x_seq2, x_seq3, x_seq4, x_nil, x_brk, x_cnt, x_if, x_if1, x_if2, x_set, x_set1, x_ret, x_ret1, x_retN, x_drop, x_drop1, x_ev, x_ev1, x_et, x_et1, x_ec, x_gn, x_ge, x_ge1, x_ge2, x_gv, x_gv1, x_gv2, x_gv3, x_op, x_op1, x_hop, x_hop1, x_hop2, x_tru, x_tru1, x_not, x_not1, x_and, x_and1, x_and2, x_or, x_or1, x_or2, x_yes, x_tup, x_tup1, x_lst, x_lst1, x_eif, x_eif1, x_eif2, x_notE, x_notE1, x_eand, x_eand1, x_eand2, x_eor, x_eor1, x_eor2, x_call, x_call1, x_call2, x_put1, x_put2, x_put3, x_body, x_body1, x_body2, x_app, x_app1, x_app2, x_app3, x_pt, x_pt1, x_pt2, x_pt3, x_pt4, x_pt5, x_ie, x_ie1, x_items1, x_items2, x_rg1, x_rg11, x_rg2, x_rg21, x_zip, x_zip1, x_zip2, x_gs, x_gt, x_gc, x_gl, x_asg, x_asg1, x_for, x_for1, x_turn, x_next1, x_next2, x_next3, x_next4, x_tn, x_tn1, x_tn2, x_tn3, x_tn4, x_lc, x_lc1, x_lc2, x_ld, x_ld1, x_w1, x_w2, x_tg, x_tg1, x_tg2, x_sm, x_sm1, x_sm2, x_al, x_al1, x_ay, x_ay1, x_bl, x_bk1, x_bk2, x_jn, x_pr1, x_pr2, Option.bind_some, Option.bind_none, Option.map_some, Option.map_none, List.map_cons, List.map_nil, List.replicate_succ, List.replicate_zero, List.cons_append, List.nil_append, List.append_nil, List.getElem?_cons_zero, List.getElem?_cons_succ, List.set_cons_zero, List.set_cons_succ, List.length_cons, List.length_nil, Nat.zero_add, Nat.reduceAdd, Nat.reduceLeDiff, Nat.reduceLT]
  rfl
theorem c_end1 (self : Fn) (s1 s2 rg dic : D) (ln mi ni k : Int) (us : List D) (i1 : ixA [s1, .int 1] = some (.int mi)) (i2 : ixA [s2, .int 1] = some (.int ni)) (il : lenI [rg] = some (.int ln)) (hne : decide (ln = mi) = false) (er : f_rows_by_name [s2] = some (dic, [s2])) (ok : ok62 ni = true) (hu : upTo 0 ni = us)
    (e : sumL (Tc self) us [none, some s1, some s2, some rg, some dic] = some k) : fBody M_count_from 1 false (b_count_from self) [s1, s2, rg] = some (.int k, [s1, s2, rg]) := by
  subst hu
  simp only [b_count_from, i1, i2, il, eq_ii, hne, er, x_rg11 ok, e, x_seq, x_seq1, x_seq2, x_seq3, x_seq4, x_nil, x_brk, x_cnt, x_if, x_if1, x_if2, x_set, x_set1, x_ret, x_ret1, x_retN, x_drop, x_drop1, x_ev, x_ev1, x_et, x_et1, x_ec, x_gn, x_ge, x_ge1, x_ge2, x_gv, x_gv1, x_gv2, x_gv3, x_op, x_op1, x_hop, x_hop1, x_hop2, x_tru, x_tru1, x_not, x_not1, x_and, x_and1, x_and2, x_or, x_or1, x_or2, x_yes, x_tup, x_tup1, x_lst, x_lst1, x_eif, x_eif1, x_eif2, x_notE, x_notE1, x_eand, x_eand1, x_eand2, x_eor, x_eor1, x_eor2, x_call, x_call1, x_call2, x_put1, x_put2, x_put3, x_body, x_body1, x_body2, x_app, x_app1, x_app2, x_app3, x_pt, x_pt1, x_pt2, x_pt3, x_pt4, x_pt5, x_ie, x_ie1, x_items1, x_items2, x_rg1, x_rg11, x_rg2, x_rg21, x_zip, x_zip1, x_zip2, x_gs, x_gt, x_gc, x_gl, x_asg, x_asg1, x_for, x_for1, x_turn, x_next1, x_next2, x_next3, x_next4, x_tn, x_tn1, x_tn2, x_tn3, x_tn4, x_lc, x_lc1, x_lc2, x_ld, x_ld1, x_w1, x_w2, x_tg, x_tg1, x_tg2, x_sm, x_sm1, x_sm2, x_al, x_al1, x_ay, x_ay1, x_bl, x_bk1, x_bk2, x_jn, x_pr1, x_pr2, Option.bind_some, Option.bind_none, Option.map_some, Option.map_none, List.map_cons, List.map_nil, List.replicate_succ, List.replicate_zero, List.cons_append, List.nil_append, List.append_nil, List.getElem?_cons_zero, List.getElem?_cons_succ, List.set_cons_zero, List.set_cons_succ, List.length_cons, List.length_nil, Nat.zero_add, Nat.reduceAdd, Nat.reduceLeDiff, Nat.reduceLT]
  rfl
theorem add_row {g : List Nat} {x : Nat} (hg : g.length ≤ 1000) : addI [rowD g, .tuple [.int (x : Int)]] = some (rowD (g ++ [x])) := by
  rw [rowD_def, add_tt (by rw [List.length_map, List.length_singleton]; omega), rowD_def, List.map_append]
  rfl
theorem count_ok (m n : Nat) (s1 s2 : D) (mi ni : Int) (hmi : mi = (m : Int)) (hni : ni = (n : Int)) (hm : m ≤ 1000) (hn : n ≤ 1000) (ps : List (Rel × Rel)) (du : Duo m ps)
    (i1 : ixA [s1, .int 2] = some (.tuple (ps.map fun p => relD p.1))) (i2 : ixA [s2, .int 2] = some (.tuple ((ps.map (·.2)).map relD))) (j1 : ixA [s1, .int 1] = some (.int mi)) (j2 : ixA [s2, .int 1] = some (.int ni)) :
    ∀ (p fu : Nat) (g : List Nat), p < fu → g.length + p = m → f_count_from fu [s1, s2, rowD g] = some (.int (cnt ps n p g : Int), [s1, s2, rowD g])
  | 0, fu + 1, g, _, hg => by
    have e := c_end0 (f_count_from fu) s1 s2 (rowD g) mi j1 (lenI_row (by rw [hmi, ← hg]; rfl))
    exact e
  | p + 1, fu + 1, g, hp, hg => by
    have er := rb_ok s2 (ps.map (·.2)) i2 du.nod (by rw [List.length_map]; have := du.len; omega)
    have key := sumL_map (t := Tc (f_count_from fu)) (enc := fun (x : Nat) => (.int (x : Int) : D)) (p := fun x => kOk ps (g ++ [x])) (f := fun x => cnt ps n p (g ++ [x])) (P := fun ρ => ∃ o, ρ = [o, some s1, some s2, some (rowD g), some (dicD (ps.map (·.2)))]) (l := List.range n) (ρ := [none, some s1, some s2, some (rowD g), some (dicD (ps.map (·.2)))]) ⟨_, rfl⟩ fun x hx ρ hρ => by
      obtain ⟨o, rfl⟩ := hρ
      have ek := keeps_ok m s1 ps du i1 (g ++ [x]) (by rw [List.length_append, List.length_singleton]; omega)
      have es := count_ok m n s1 s2 mi ni hmi hni hm hn ps du i1 i2 j1 j2 p fu (g ++ [x]) (by omega) (by rw [List.length_append, List.length_singleton]; omega)
      exact ⟨_, c_turn (f_count_from fu) s1 s2 (rowD g) (dicD (ps.map (·.2))) (rowD (g ++ [x])) (x : Int) _ (kOk ps (g ++ [x])) o (add_row (by omega)) ek (fun _ => es), _, rfl⟩
    have hu : upTo 0 ni = (List.range n).map fun (x : Nat) => (.int (x : Int) : D) := by rw [hni]; exact upTo_nat n
    exact c_end1 (f_count_from fu) s1 s2 (rowD g) (dicD (ps.map (·.2))) (g.length : Int) mi ni _ _ j1 j2 (lenI_row rfl) (decide_eq_false (by omega)) er (by rw [hni]; exact okN (by omega)) hu key
theorem cm_end (s1 s2 : D) (k : Int) (e : f_count_from 8 [s1, s2, .tuple []] = some (.int k, [s1, s2, .tuple []])) : f_count_maps [s1, s2] = some (.int k, [s1, s2]) := by
  simp only [f_count_maps, b_count_maps, e, x_seq, x_seq1, x_seq2, x_seq3, x_seq4, x_nil, x_brk, x_cnt, x_if, x_if1, x_if2, x_set, x_set1, x_ret, x_ret1, x_retN, x_drop, x_drop1, x_ev, x_ev1, x_et, x_et1, x_ec, x_gn, x_ge, x_ge1, x_ge2, x_gv, x_gv1, x_gv2, x_gv3, x_op, x_op1, x_hop, x_hop1, x_hop2, x_tru, x_tru1, x_not, x_not1, x_and, x_and1, x_and2, x_or, x_or1, x_or2, x_yes, x_tup, x_tup1, x_lst, x_lst1, x_eif, x_eif1, x_eif2, x_notE, x_notE1, x_eand, x_eand1, x_eand2, x_eor, x_eor1, x_eor2, x_call, x_call1, x_call2, x_put1, x_put2, x_put3, x_body, x_body1, x_body2, x_app, x_app1, x_app2, x_app3, x_pt, x_pt1, x_pt2, x_pt3, x_pt4, x_pt5, x_ie, x_ie1, x_items1, x_items2, x_rg1, x_rg11, x_rg2, x_rg21, x_zip, x_zip1, x_zip2, x_gs, x_gt, x_gc, x_gl, x_asg, x_asg1, x_for, x_for1, x_turn, x_next1, x_next2, x_next3, x_next4, x_tn, x_tn1, x_tn2, x_tn3, x_tn4, x_lc, x_lc1, x_lc2, x_ld, x_ld1, x_w1, x_w2, x_tg, x_tg1, x_tg2, x_sm, x_sm1, x_sm2, x_al, x_al1, x_ay, x_ay1, x_bl, x_bk1, x_bk2, x_jn, x_pr1, x_pr2, Option.bind_some, Option.bind_none, Option.map_some, Option.map_none, List.map_cons, List.map_nil, List.replicate_succ, List.replicate_zero, List.cons_append, List.nil_append, List.append_nil, List.getElem?_cons_zero, List.getElem?_cons_succ, List.set_cons_zero, List.set_cons_succ, List.length_cons, List.length_nil, Nat.zero_add, Nat.reduceAdd, Nat.reduceLeDiff, Nat.reduceLT]
  rfl
theorem count_maps_ok (m n : Nat) (s1 s2 : D) (mi ni : Int) (hmi : mi = (m : Int)) (hni : ni = (n : Int)) (hm : m ≤ 7) (hn : n ≤ 1000) (ps : List (Rel × Rel)) (du : Duo m ps)
    (i1 : ixA [s1, .int 2] = some (.tuple (ps.map fun p => relD p.1))) (i2 : ixA [s2, .int 2] = some (.tuple ((ps.map (·.2)).map relD))) (j1 : ixA [s1, .int 1] = some (.int mi)) (j2 : ixA [s2, .int 1] = some (.int ni)) :
    f_count_maps [s1, s2] = some (.int (cnt ps n m [] : Int), [s1, s2]) :=
  cm_end s1 s2 _ (count_ok m n s1 s2 mi ni hmi hni (by omega) hn ps du i1 i2 j1 j2 m 8 [] (by omega) (by rw [List.length_nil]; omega))
end FH
namespace FH
open Sx PySem PySem.Spec PyProof.Rows L2
/-! products -/
theorem mulRow_dm (b : Nat) : ∀ u v : List Nat, u.length = v.length → (∀ x ∈ v, x < b) → (mulRow b u v).map (· / b) = u ∧ (mulRow b u v).map (· % b) = v
  | [], [], _, _ => ⟨rfl, rfl⟩
  | [], _ :: _, h, _ => by simp at h
  | _ :: _, [], h, _ => by simp at h
  | x :: u, y :: v, h, hv => by
    have hy := hv y List.mem_cons_self
    have hb : 0 < b := by omega
    obtain ⟨h1, h2⟩ := mulRow_dm b u v (by simpa using h) fun z hz => hv z (List.mem_cons_of_mem _ hz)
    have e : mulRow b (x :: u) (y :: v) = (x * b + y) :: mulRow b u v := rfl
    rw [e, List.map_cons, List.map_cons, h1, h2, Nat.mul_comm x b, Nat.mul_add_div hb, Nat.div_eq_of_lt hy, Nat.add_zero, Nat.mul_add_mod, Nat.mod_eq_of_lt hy]
    exact ⟨rfl, rfl⟩
theorem mulRow_md (b : Nat) : ∀ w : List Nat, mulRow b (w.map (· / b)) (w.map (· % b)) = w
  | [] => rfl
  | x :: w => by
    have ih := mulRow_md b w
    have e : mulRow b ((x :: w).map (· / b)) ((x :: w).map (· % b)) = (x / b * b + x % b) :: mulRow b (w.map (· / b)) (w.map (· % b)) := rfl
    rw [e, ih, Nat.mul_comm, Nat.div_add_mod]
theorem mem_mul {b : Nat} {x y : Rel} {w : List Nat} (hx : ∀ r ∈ x.rows, r.length = x.k) (hy : ∀ r ∈ y.rows, r.length = x.k ∧ ∀ z ∈ r, z < b) : w ∈ (mulR b (x, y)).rows ↔ w.map (· / b) ∈ x.rows ∧ w.map (· % b) ∈ y.rows := by
  show w ∈ (mulRows b x.rows y.rows).mergeSort nLe ↔ _
  rw [(List.mergeSort_perm _ _).mem_iff]
  unfold mulRows
  rw [List.mem_flatMap]
  constructor
  · rintro ⟨u, hu, h⟩
    obtain ⟨v, hv, rfl⟩ := List.mem_map.mp h
    obtain ⟨h1, h2⟩ := mulRow_dm b u v (by rw [hx u hu, (hy v hv).1]) (hy v hv).2
    rw [h1, h2]
    exact ⟨hu, hv⟩
  · rintro ⟨h1, h2⟩
    exact ⟨_, h1, List.mem_map.mpr ⟨_, h2, mulRow_md b w⟩⟩
theorem app_map (f : Nat → Nat) (f0 : f 0 = 0) (h r : List Nat) : app (h.map f) r = (app h r).map f := by
  unfold app
  rw [List.map_map]
  refine List.map_congr_left fun x _ => ?_
  show (h.map f).getD x 0 = f (h.getD x 0)
  rw [List.getD_eq_getElem?_getD, List.getD_eq_getElem?_getD, List.getElem?_map]
  cases h[x]? with
  | none => exact f0.symm
  | some y => rfl
theorem relOk_mul {b : Nat} {x y z : Rel} (hx : ∀ r ∈ x.rows, r.length = x.k) (hy : ∀ r ∈ y.rows, r.length = x.k ∧ ∀ z ∈ r, z < b) (h : List Nat) : relOk h (z, mulR b (x, y)) = (relOk (h.map (· / b)) (z, x) && relOk (h.map (· % b)) (z, y)) := by
  unfold relOk
  rw [Bool.eq_iff_iff, Bool.and_eq_true, List.all_eq_true, List.all_eq_true, List.all_eq_true]
  constructor
  · intro q
    constructor
    · intro r hr
      have := of_decide_eq_true (q r hr)
      rw [app_map _ (Nat.zero_div b)]
      exact decide_eq_true ((mem_mul hx hy).mp this).1
    · intro r hr
      have := of_decide_eq_true (q r hr)
      rw [app_map _ (Nat.zero_mod b)]
      exact decide_eq_true ((mem_mul hx hy).mp this).2
  · rintro ⟨q1, q2⟩ r hr
    have h1 := of_decide_eq_true (q1 r hr)
    have h2 := of_decide_eq_true (q2 r hr)
    rw [app_map _ (Nat.zero_div b)] at h1
    rw [app_map _ (Nat.zero_mod b)] at h2
    exact decide_eq_true ((mem_mul hx hy).mpr ⟨h1, h2⟩)
theorem all_and {α : Type} (p q : α → Bool) : ∀ l : List α, (l.all fun a => p a && q a) = (l.all p && l.all q)
  | [] => rfl
  | a :: l => by
    rw [List.all_cons, List.all_cons, List.all_cons, all_and p q l]
    cases p a <;> cases q a <;> cases l.all p <;> rfl
theorem all_cong {α : Type} {p q : α → Bool} : ∀ {l : List α}, (∀ a ∈ l, p a = q a) → l.all p = l.all q
  | [], _ => rfl
  | a :: l, h => by rw [List.all_cons, List.all_cons, h a List.mem_cons_self, all_cong fun a ha => h a (List.mem_cons_of_mem _ ha)]
abbrev Tri := Rel × Rel × Rel
theorem isMap_map (f : Tri → Rel × Rel) (ts : List Tri) (h : List Nat) : isMap (ts.map f) h = ts.all fun t => relOk h (f t) := by
  unfold isMap
  rw [List.all_map]
  rfl
theorem prod_len (a b m : Nat) (hb : 0 < b) (ts : List Tri) (h1 : ∀ t ∈ ts, (∀ r ∈ t.1.rows, r.length = t.1.k) ∧ ∀ r ∈ t.2.1.rows, r.length = t.1.k ∧ ∀ z ∈ r, z < b) :
    ((tups (a * b) m).filter (isMap (ts.map fun t => (t.2.2, mulR b (t.1, t.2.1))))).length = ((tups a m).filter (isMap (ts.map fun t => (t.2.2, t.1)))).length * ((tups b m).filter (isMap (ts.map fun t => (t.2.2, t.2.1)))).length := by
  rw [filter_len, filter_len, filter_len, ← sm_prod, ← tups_mul a b hb m fun u v => Sx.one (isMap (ts.map fun t => (t.2.2, t.1)) u) * Sx.one (isMap (ts.map fun t => (t.2.2, t.2.1)) v)]
  refine sm_congr fun h _ => ?_
  rw [← one_and, isMap_map, isMap_map, isMap_map, ← all_and]
  congr 1
  exact all_cong fun t ht => relOk_mul (h1 t ht).1 (h1 t ht).2 h
/-! sums -/
theorem app_left {u v r : List Nat} (hr : ∀ x ∈ r, x < u.length) : app (u ++ v) r = app u r := by
  unfold app
  refine List.map_congr_left fun x hx => ?_
  rw [List.getD_eq_getElem?_getD, List.getD_eq_getElem?_getD, List.getElem?_append_left (hr x hx)]
theorem app_right (u v r : List Nat) : app (u ++ v) (shift u.length r) = app v r := by
  unfold app shift
  rw [List.map_map]
  refine List.map_congr_left fun x hx => ?_
  show (u ++ v).getD (u.length + x) 0 = _
  rw [List.getD_eq_getElem?_getD, List.getD_eq_getElem?_getD, List.getElem?_append_right (Nat.le_add_right _ _), Nat.add_sub_cancel_left]
theorem relOk_add {a : Nat} {x y z : Rel} (hx : ∀ r ∈ x.rows, ∀ i ∈ r, i < a) (u v : List Nat) (hu : u.length = a) : relOk (u ++ v) (addR a (x, y), z) = (relOk u (x, z) && relOk v (y, z)) := by
  subst hu
  unfold relOk addR
  rw [List.all_append, List.all_map]
  congr 1
  · exact all_cong fun r hr => by rw [app_left (hx r hr)]
  · exact all_cong fun r _ => by show decide (app (u ++ v) (shift u.length r) ∈ z.rows) = _; rw [app_right]
theorem sum_len (a b c : Nat) (ts : List Tri) (h1 : ∀ t ∈ ts, ∀ r ∈ t.1.rows, ∀ i ∈ r, i < a) :
    ((tups c (a + b)).filter (isMap (ts.map fun t => (addR a (t.1, t.2.1), t.2.2)))).length = ((tups c a).filter (isMap (ts.map fun t => (t.1, t.2.2)))).length * ((tups c b).filter (isMap (ts.map fun t => (t.2.1, t.2.2)))).length := by
  rw [filter_len, filter_len, filter_len, ← sm_prod, tups_add, sm_flatMap]
  refine sm_congr fun u hu => ?_
  rw [sm_map]
  refine sm_congr fun v _ => ?_
  rw [← one_and, isMap_map, isMap_map, isMap_map, ← all_and]
  congr 1
  exact all_cong fun t ht => relOk_add (h1 t ht) u v (tups_mem hu).1
/-! maps that are counted place by place -/
def good (ps : List (Rel × Rel)) : List Nat → List Nat → Bool
  | _, [] => true
  | g, x :: t => kOk ps (g ++ [x]) && good ps (g ++ [x]) t
theorem cnt_good (ps : List (Rel × Rel)) (c : Nat) : ∀ (p : Nat) (g : List Nat), cnt ps c p g = sm (tups c p) fun t => Sx.one (good ps g t)
  | 0, g => rfl
  | p + 1, g => by
    unfold cnt
    rw [sum_filter, tups_front, sm_flatMap]
    refine sm_congr fun x _ => ?_
    rw [cnt_good ps c p (g ++ [x]), sm_map, ← sm_mul']
    refine sm_congr fun t _ => ?_
    show _ = Sx.one (kOk ps (g ++ [x]) && good ps (g ++ [x]) t)
    rw [one_and]
theorem maxN_le (r : List Nat) : ∀ x ∈ r, x ≤ maxN r := (foldl_max_le r 0).2
theorem good_iff (ps : List (Rel × Rel)) : ∀ (t g : List Nat), good ps g t = true ↔ ∀ p ∈ ps, ∀ r ∈ p.1.rows, g.length < maxN r + 1 → maxN r + 1 ≤ g.length + t.length → app (g ++ t) r ∈ p.2.rows
  | [], g => by
    constructor
    · intro _ p _ r _ h1 h2
      rw [List.length_nil] at h2
      omega
    · intro _
      rfl
  | x :: t, g => by
    have ih := good_iff ps t (g ++ [x])
    rw [List.append_assoc, List.length_append, List.length_singleton] at ih
    show (kOk ps (g ++ [x]) && good ps (g ++ [x]) t) = true ↔ _
    rw [Bool.and_eq_true, ih, List.length_cons]
    unfold kOk
    rw [List.all_eq_true]
    constructor
    · rintro ⟨h1, h2⟩ p hp r hr h3 h4
      by_cases h5 : maxN r + 1 = g.length + 1
      · have := List.all_eq_true.mp (h1 p hp) r hr
        unfold kRow at this
        rw [List.length_append, List.length_singleton, if_pos h5] at this
        have := of_decide_eq_true this
        have e : app (g ++ x :: t) r = app (g ++ [x]) r := by
          have : g ++ x :: t = (g ++ [x]) ++ t := by rw [List.append_assoc]; rfl
          rw [this]
          exact app_left fun y hy => by have := maxN_le r y hy; rw [List.length_append, List.length_singleton]; omega
        rw [e]
        exact this
      · exact h2 p hp r hr (by omega) (by omega)
    · intro h
      refine ⟨fun p hp => ?_, fun p hp r hr h3 h4 => h p hp r hr (by omega) (by omega)⟩
      rw [List.all_eq_true]
      intro r hr
      unfold kRow
      rw [List.length_append, List.length_singleton]
      by_cases h5 : maxN r + 1 = g.length + 1
      · rw [if_pos h5]
        have := h p hp r hr (by omega) (by omega)
        have e : app (g ++ x :: t) r = app (g ++ [x]) r := by
          have : g ++ x :: t = (g ++ [x]) ++ t := by rw [List.append_assoc]; rfl
          rw [this]
          exact app_left fun y hy => by have := maxN_le r y hy; rw [List.length_append, List.length_singleton]; omega
        rw [e] at this
        exact decide_eq_true this
      · rw [if_neg h5]
theorem cnt_len (ps : List (Rel × Rel)) (c m : Nat) (h1 : ∀ p ∈ ps, Fit m p.1) : cnt ps c m [] = ((tups c m).filter (isMap ps)).length := by
  rw [cnt_good, filter_len]
  refine sm_congr fun h hh => ?_
  congr 1
  rw [Bool.eq_iff_iff, good_iff]
  unfold isMap relOk
  rw [List.all_eq_true]
  constructor
  · intro q p hp
    rw [List.all_eq_true]
    intro r hr
    have hk := (h1 p hp).k1
    have h0 := ((h1 p hp).row r hr)
    have hm : 0 < m := by
      match r, h0 with
      | [], h0 => have : 0 = p.1.k := h0.1; omega
      | x :: r, h0 => have := h0.2 x List.mem_cons_self; omega
    have := foldl_max_lt r 0 m hm h0.2
    exact decide_eq_true (q p hp r hr (by rw [List.length_nil]; omega) (by rw [List.length_nil, (tups_mem hh).1]; unfold maxN; omega))
  · intro q p hp r hr _ _
    exact of_decide_eq_true (List.all_eq_true.mp (q p hp) r hr)
end FH
namespace FH
open Sx PySem PySem.Spec PyProof.Rows L2
abbrev Tlaw : Sv := (aSeq (aSet 3 (eCall [some 1] f_law_kinds (gV 1 gN)))
    (aSeq (aSet 4 (eCall [some 1, none, none] f_law_structure (gV 1 (gE (eV 3) (gE (fOp addI ((gE (eC (.int 1))) ((gE (eCall [some 1, none] f_law_draw (gV 1 (gE (eC (.int 3)) gN)))) gN))) gN)))))
    (aSeq (aSet 5 (eCall [some 1, none, none] f_law_structure (gV 1 (gE (eV 3) (gE (fOp addI ((gE (eC (.int 1))) ((gE (eCall [some 1, none] f_law_draw (gV 1 (gE (eC (.int 2)) gN)))) gN))) gN)))))
    (aSeq (aSet 6 (eCall [some 1, none, none] f_law_structure (gV 1 (gE (eV 3) (gE (fOp addI ((gE (eC (.int 1))) ((gE (eCall [some 1, none] f_law_draw (gV 1 (gE (eC (.int 2)) gN)))) gN))) gN)))))
    (aSeq (aIf (hOr (hNot (hTru ((gE (eCall [none, none] (f_law_same 8) (gE (eCall [none, none] f_product (gE (eV 4) (gE (eV 5) gN))) (gE (eCall [none, none] f_law_product (gE (eV 4) (gE (eV 5) gN))) gN)))) gN))) (hNot (hTru ((gE (eCall [none, none] (f_law_same 8) (gE (eCall [none, none] f_sum_of (gE (eV 4) (gE (eV 5) gN))) (gE (eCall [none, none] f_law_sum (gE (eV 4) (gE (eV 5) gN))) gN)))) gN)))) (aSeq (aRet (eC (.bool false)))
    aNil) aNil)
    (aSeq (aSet 7 (fOp mulI ((gE (fOp lenI ((gE (eCall [none, none] f_law_maps (gE (eV 6) (gE (eV 4) gN)))) gN))) ((gE (fOp lenI ((gE (eCall [none, none] f_law_maps (gE (eV 6) (gE (eV 5) gN)))) gN))) gN))))
    (aSeq (aSet 8 (fOp mulI ((gE (fOp lenI ((gE (eCall [none, none] f_law_maps (gE (eV 4) (gE (eV 6) gN)))) gN))) ((gE (fOp lenI ((gE (eCall [none, none] f_law_maps (gE (eV 5) (gE (eV 6) gN)))) gN))) gN))))
    (aSeq (aIf (hOr (hOp neI ((gE (fOp lenI ((gE (eCall [none, none] f_law_maps (gE (eV 6) (gE (eCall [none, none] f_law_product (gE (eV 4) (gE (eV 5) gN))) gN)))) gN))) ((gV 7) gN))) (hOp neI ((gE (fOp lenI ((gE (eCall [none, none] f_law_maps (gE (eCall [none, none] f_law_sum (gE (eV 4) (gE (eV 5) gN))) (gE (eV 6) gN)))) gN))) ((gV 8) gN)))) (aSeq (aRet (eC (.bool false)))
    aNil) aNil)
    (aSeq (aIf (hNot (hTru ((gE (eCall [none, none] (f_law_same 8) (gE (eCall [none, none] f_count_maps (gE (eCall [none, none] f_law_sum (gE (eV 4) (gE (eV 5) gN))) (gE (eV 6) gN))) (gE (eV 8) gN)))) gN))) (aSeq (aRet (eC (.bool false)))
    aNil) aNil)
    aNil)))))))))
theorem e_same : f_law_same = Fsame := by
  have : ∀ n, f_law_same n = Fsame n := by
    intro n
    induction n with
    | zero => rfl
    | succ n ih =>
      show fBody M_law_same 1 false (b_law_same (f_law_same n)) = fBody (fun _ => .fz) 1 false (Bsame (Fsame n))
      rw [ih]
      rfl
  exact funext this
theorem turn_run (scr b b1 b2 b3 b4 b5 b6 b7 kk one two thi pr su : D) (v1 v2 v3 into out k1 k2 k3 k4 : Int) (l1 l2 l3 l4 l5 l6 : List D) (o2 o3 o4 o5 o6 o7 o8 : Option D)
    (e0 : f_law_kinds [b] = some (kk, [b1])) (d1 : Fdraw [b1, .int 3] = some (.int v1, [b2, .int 3])) (s1 : f_law_structure [b2, kk, .int (1 + v1)] = some (one, [b3, kk, .int (1 + v1)]))
    (d2 : Fdraw [b3, .int 2] = some (.int v2, [b4, .int 2])) (s2 : f_law_structure [b4, kk, .int (1 + v2)] = some (two, [b5, kk, .int (1 + v2)]))
    (d3 : Fdraw [b5, .int 2] = some (.int v3, [b6, .int 2])) (s3 : f_law_structure [b6, kk, .int (1 + v3)] = some (thi, [b7, kk, .int (1 + v3)]))
    (p1 : f_product [one, two] = some (pr, [one, two])) (p2 : f_law_product [one, two] = some (pr, [one, two])) (p3 : Fsame 8 [pr, pr] = some (.bool true, [pr, pr]))
    (q1 : f_sum_of [one, two] = some (su, [one, two])) (q2 : f_law_sum [one, two] = some (su, [one, two])) (q3 : Fsame 8 [su, su] = some (.bool true, [su, su]))
    (m1 : f_law_maps [thi, one] = some (.list l1, [thi, one])) (m2 : f_law_maps [thi, two] = some (.list l2, [thi, two])) (m3 : f_law_maps [one, thi] = some (.list l3, [one, thi])) (m4 : f_law_maps [two, thi] = some (.list l4, [two, thi]))
    (m5 : f_law_maps [thi, pr] = some (.list l5, [thi, pr])) (m6 : f_law_maps [su, thi] = some (.list l6, [su, thi]))
    (n1 : lenI [.list l1] = some (.int k1)) (n2 : lenI [.list l2] = some (.int k2)) (n3 : lenI [.list l3] = some (.int k3)) (n4 : lenI [.list l4] = some (.int k4)) (n5 : lenI [.list l5] = some (.int into)) (n6 : lenI [.list l6] = some (.int out))
    (x1 : mulI [.int k1, .int k2] = some (.int into)) (x2 : mulI [.int k3, .int k4] = some (.int out)) (c1 : f_count_maps [su, thi] = some (.int out, [su, thi])) (c2 : Fsame 8 [.int out, .int out] = some (.bool true, [.int out, .int out])) :
    Tlaw [some scr, some b, o2, o3, o4, o5, o6, o7, o8] = some (.nx [some scr, some b7, o2, some kk, some one, some two, some thi, some (.int into), some (.int out)]) := by
  simp only [Tlaw, e_draw, e_same, e0, d1, s1, d2, s2, d3, s3, p1, p2, p3, q1, q2, q3, m1, m2, m3, m4, m5, m6, n1, n2, n3, n4, n5, n6, x1, x2, c1, c2, add_ii, ne_ii, decide_true, tru_b, Bool.not_true, Bool.not_false, x_seq, x_seq1, x_seq2, x_seq3, x_seq4, x_nil, x_brk, x_cnt, x_if, x_if1, x_if2, x_set, x_set1, x_ret, x_ret1, x_retN, x_drop, x_drop1, x_ev, x_ev1, x_et, x_et1, x_ec, x_gn, x_ge, x_ge1, x_ge2, x_gv, x_gv1, x_gv2, x_gv3, x_op, x_op1, x_hop, x_hop1, x_hop2, x_tru, x_tru1, x_not, x_not1, x_and, x_and1, x_and2, x_or, x_or1, x_or2, x_yes, x_tup, x_tup1, x_lst, x_lst1, x_eif, x_eif1, x_eif2, x_notE, x_notE1, x_eand, x_eand1, x_eand2, x_eor, x_eor1, x_eor2, x_call, x_call1, x_call2, x_put1, x_put2, x_put3, x_body, x_body1, x_body2, x_app, x_app1, x_app2, x_app3, x_pt, x_pt1, x_pt2, x_pt3, x_pt4, x_pt5, x_ie, x_ie1, x_items1, x_items2, x_rg1, x_rg11, x_rg2, x_rg21, x_zip, x_zip1, x_zip2, x_gs, x_gt, x_gc, x_gl, x_asg, x_asg1, x_for, x_for1, x_turn, x_next1, x_next2, x_next3, x_next4, x_tn, x_tn1, x_tn2, x_tn3, x_tn4, x_lc, x_lc1, x_lc2, x_ld, x_ld1, x_w1, x_w2, x_tg, x_tg1, x_tg2, x_sm, x_sm1, x_sm2, x_al, x_al1, x_ay, x_ay1, x_bl, x_bk1, x_bk2, x_jn, x_pr1, x_pr2, Option.bind_some, Option.bind_none, Option.map_some, Option.map_none, List.map_cons, List.map_nil, List.replicate_succ, List.replicate_zero, List.cons_append, List.nil_append, List.append_nil, List.getElem?_cons_zero, List.getElem?_cons_succ, List.set_cons_zero, List.set_cons_succ, List.length_cons, List.length_nil, Nat.zero_add, Nat.reduceAdd, Nat.reduceLeDiff, Nat.reduceLT]
theorem law_end (scr b b' : D) (us : List D) (e0 : Fbox [scr, .int 0, .int 63] = some (b, [scr, .int 0, .int 63])) (hu : upTo 0 3 = us) (q2 q3 q4 q5 q6 q7 q8 : Option D)
    (e : forL (gSet 2) Tlaw us [some scr, some b, none, none, none, none, none, none, none] = some (.nx [some scr, some b', q2, q3, q4, q5, q6, q7, q8])) : f_law [scr] = some (.bool true, [scr]) := by
  subst hu
  have ok : ok62 3 = true := by decide
  simp only [f_law, b_law, e_box, e0, x_rg11 ok, e, x_seq, x_seq1, x_seq2, x_seq3, x_seq4, x_nil, x_brk, x_cnt, x_if, x_if1, x_if2, x_set, x_set1, x_ret, x_ret1, x_retN, x_drop, x_drop1, x_ev, x_ev1, x_et, x_et1, x_ec, x_gn, x_ge, x_ge1, x_ge2, x_gv, x_gv1, x_gv2, x_gv3, x_op, x_op1, x_hop, x_hop1, x_hop2, x_tru, x_tru1, x_not, x_not1, x_and, x_and1, x_and2, x_or, x_or1, x_or2, x_yes, x_tup, x_tup1, x_lst, x_lst1, x_eif, x_eif1, x_eif2, x_notE, x_notE1, x_eand, x_eand1, x_eand2, x_eor, x_eor1, x_eor2, x_call, x_call1, x_call2, x_put1, x_put2, x_put3, x_body, x_body1, x_body2, x_app, x_app1, x_app2, x_app3, x_pt, x_pt1, x_pt2, x_pt3, x_pt4, x_pt5, x_ie, x_ie1, x_items1, x_items2, x_rg1, x_rg11, x_rg2, x_rg21, x_zip, x_zip1, x_zip2, x_gs, x_gt, x_gc, x_gl, x_asg, x_asg1, x_for, x_for1, x_turn, x_next1, x_next2, x_next3, x_next4, x_tn, x_tn1, x_tn2, x_tn3, x_tn4, x_lc, x_lc1, x_lc2, x_ld, x_ld1, x_w1, x_w2, x_tg, x_tg1, x_tg2, x_sm, x_sm1, x_sm2, x_al, x_al1, x_ay, x_ay1, x_bl, x_bk1, x_bk2, x_jn, x_pr1, x_pr2, Option.bind_some, Option.bind_none, Option.map_some, Option.map_none, List.map_cons, List.map_nil, List.replicate_succ, List.replicate_zero, List.cons_append, List.nil_append, List.append_nil, List.getElem?_cons_zero, List.getElem?_cons_succ, List.set_cons_zero, List.set_cons_succ, List.length_cons, List.length_nil, Nat.zero_add, Nat.reduceAdd, Nat.reduceLeDiff, Nat.reduceLT]
  rfl
end FH
namespace FH
open Sx PySem PySem.Spec PyProof.Rows L2
theorem kinds_facts {ks : Kind} (h : ks ∈ allKinds) : ks.length ≤ 3 ∧ (∀ k ∈ ks, 1 ≤ k.2 ∧ k.2 ≤ 2) ∧ (ks.map Prod.fst).Nodup := by
  simp only [allKinds, List.mem_cons, List.not_mem_nil, or_false] at h
  rcases h with rfl | rfl | rfl | rfl | rfl | rfl
  all_goals exact ⟨by decide, by decide, by decide⟩
theorem pow_small {n m : Nat} (hn : n ≤ 6) (hm : m ≤ 5) : n ^ m ≤ 7776 :=
  Nat.le_trans (Nat.pow_le_pow_left hn m) (Nat.le_trans (Nat.pow_le_pow_right (by decide) hm) (by decide))
structure Good (m : Nat) (r : Rel) : Prop extends Fit m r where
  few : r.rows.length ≤ 9
  sub : r.rows.Sublist (tups m r.k)
theorem good_of {ks : Kind} {m : Nat} {rs : List Rel} (h : ks ∈ allKinds) (hm : m ≤ 3) (hd : Drawn ks m rs) : ∀ r ∈ rs, Good m r := by
  intro r hr
  have hk : (r.name, r.k) ∈ ks := by rw [← hd.1]; exact List.mem_map_of_mem (f := fun r : Rel => (r.name, r.k)) hr
  obtain ⟨k1, k2⟩ := (kinds_facts h).2.1 _ hk
  have hs := hd.2 r hr
  have hp : m ^ r.k ≤ 9 := Nat.le_trans (Nat.pow_le_pow_left hm _) (Nat.le_trans (Nat.pow_le_pow_right (by decide) k2) (by decide))
  have hf : r.rows.length ≤ 9 := Nat.le_trans hs.length_le (by rw [tups_len]; exact hp)
  exact ⟨⟨k1, k2, fun q hq => tups_mem (hs.subset hq), by omega⟩, hf, hs⟩
theorem nLt_shift (a : Nat) : ∀ u v : List Nat, nLt (shift a u) (shift a v) = nLt u v
  | [], [] => rfl
  | [], _ :: _ => rfl
  | _ :: _, [] => rfl
  | x :: u, y :: v => by
    show (if a + x = a + y then nLt (shift a u) (shift a v) else decide (a + x < a + y)) = (if x = y then nLt u v else decide (x < y))
    rw [nLt_shift a u v]
    by_cases h : x = y
    · rw [if_pos h, if_pos (by omega)]
    · rw [if_neg h, if_neg (by omega)]
      exact decide_eq_decide.mpr (by omega)
theorem nLt_cross {a k : Nat} {u v : List Nat} (hk : 1 ≤ k) (hu : u.length = k) (hx : ∀ x ∈ u, x < a) (hv : v.length = k) : nLt u (shift a v) = true := by
  match u, v with
  | [], _ => rw [List.length_nil] at hu; omega
  | _ :: _, [] => rw [List.length_nil] at hv; omega
  | x :: u, y :: v =>
    have := hx x List.mem_cons_self
    show (if x = a + y then nLt u (shift a v) else decide (x < a + y)) = true
    rw [if_neg (by omega)]
    exact decide_eq_true (by omega)
theorem add_asc {a b : Nat} {x y : Rel} (gx : Good a x) (gy : Good b y) (hk : x.k = y.k) : (addR a (x, y)).rows.Pairwise fun u v => nLe u v = true := by
  show (x.rows ++ y.rows.map (shift a)).Pairwise _
  rw [List.pairwise_append]
  refine ⟨((tups_asc a x.k).sublist gx.sub).imp nLt_le, ?_, ?_⟩
  · rw [List.pairwise_map]
    exact ((tups_asc b y.k).sublist gy.sub).imp fun {u v} h => nLt_le (by rw [nLt_shift]; exact h)
  · intro u hu v hv
    obtain ⟨w, hw, rfl⟩ := List.mem_map.mp hv
    exact nLt_le (nLt_cross gx.k1 (gx.row u hu).1 (gx.row u hu).2 (by rw [(gy.row w hw).1, hk]))
theorem add_fit {a b : Nat} {x y : Rel} (gx : Good a x) (gy : Good b y) (hk : x.k = y.k) : Fit (a + b) (addR a (x, y)) := by
  refine ⟨gx.k1, gx.k2, fun q hq => ?_, ?_⟩
  · rcases List.mem_append.mp (show q ∈ x.rows ++ y.rows.map (shift a) from hq) with hq | hq
    · exact ⟨(gx.row q hq).1, fun i hi => by have := (gx.row q hq).2 i hi; omega⟩
    · obtain ⟨w, hw, rfl⟩ := List.mem_map.mp hq
      refine ⟨?_, fun i hi => ?_⟩
      · show (w.map (a + ·)).length = x.k
        rw [List.length_map, (gy.row w hw).1, hk]
      · obtain ⟨j, hj, rfl⟩ := List.mem_map.mp (show i ∈ w.map (a + ·) from hi)
        have := (gy.row w hw).2 j hj
        omega
  · show (x.rows ++ y.rows.map (shift a)).length ≤ 1000
    rw [List.length_append, List.length_map]
    have := gx.few
    have := gy.few
    omega
/-! structures as data that are the same as themselves -/
theorem same_row {r : List Nat} (h : r.length ≤ 1000000) : ∀ n, SameD (n + 2) (rowD r) := by
  intro n
  refine ⟨by rw [List.length_map]; exact h, fun d hd => ?_⟩
  obtain ⟨x, _, rfl⟩ := List.mem_map.mp hd
  trivial
theorem same_str (mi : Int) {rs : List Rel} (h0 : rs.length ≤ 1000) (h1 : ∀ r ∈ rs, r.rows.length ≤ 1000000 ∧ ∀ q ∈ r.rows, q.length ≤ 1000000) : SameD 8 (strI mi rs) := by
  refine ⟨by show 3 ≤ 1000000; decide, fun d hd => ?_⟩
  simp only [List.mem_cons, List.not_mem_nil, or_false] at hd
  rcases hd with rfl | rfl | rfl
  · trivial
  · trivial
  · refine ⟨by rw [List.length_map]; omega, fun d hd => ?_⟩
    obtain ⟨r, hr, rfl⟩ := List.mem_map.mp hd
    refine ⟨by show 3 ≤ 1000000; decide, fun d hd => ?_⟩
    simp only [List.mem_cons, List.not_mem_nil, or_false] at hd
    rcases hd with rfl | rfl | rfl
    · trivial
    · trivial
    · refine ⟨by rw [rowsD_len]; exact (h1 r hr).1, fun d hd => ?_⟩
      obtain ⟨q, hq, rfl⟩ := List.mem_map.mp hd
      exact same_row ((h1 r hr).2 q hq) _
/-! three structures of one kind -/
theorem zip3 : ∀ {A B C : List Rel}, A.length = B.length → A.length = C.length → ∃ ts : List Tri, A = ts.map (fun t => t.1) ∧ B = ts.map (fun t => t.2.1) ∧ C = ts.map (fun t => t.2.2)
  | [], [], [], _, _ => ⟨[], rfl, rfl, rfl⟩
  | a :: A, b :: B, c :: C, h1, h2 => by
    obtain ⟨ts, e1, e2, e3⟩ := zip3 (A := A) (B := B) (C := C) (by simpa using h1) (by simpa using h2)
    exact ⟨(a, b, c) :: ts, by rw [e1]; rfl, by rw [e2]; rfl, by rw [e3]; rfl⟩
  | [], _ :: _, _, h, _ => by simp at h
  | _ :: _, [], _, h, _ => by simp at h
  | [], [], _ :: _, _, h => by simp at h
  | _ :: _, _ :: _, [], _, h => by simp at h
/-- three that fit -/
structure Trio (a b c : Nat) (ts : List Tri) : Prop where
  len : ts.length ≤ 3
  g1 : ∀ t ∈ ts, Good a t.1
  g2 : ∀ t ∈ ts, Good b t.2.1
  g3 : ∀ t ∈ ts, Good c t.2.2
  n2 : ∀ t ∈ ts, t.1.name = t.2.1.name ∧ t.1.k = t.2.1.k
  n3 : ∀ t ∈ ts, t.1.name = t.2.2.name ∧ t.1.k = t.2.2.k
  nod : (ts.map fun t => t.2.2.name).Nodup
theorem trio_of {ks : Kind} (h : ks ∈ allKinds) {a b c : Nat} {A B C : List Rel} (ha : a ≤ 3) (hb : b ≤ 3) (hc : c ≤ 3) (dA : Drawn ks a A) (dB : Drawn ks b B) (dC : Drawn ks c C) :
    ∃ ts : List Tri, A = ts.map (fun t => t.1) ∧ B = ts.map (fun t => t.2.1) ∧ C = ts.map (fun t => t.2.2) ∧ Trio a b c ts := by
  have lA : A.length = ks.length := by rw [← dA.1, List.length_map]
  have lB : B.length = ks.length := by rw [← dB.1, List.length_map]
  have lC : C.length = ks.length := by rw [← dC.1, List.length_map]
  obtain ⟨ts, e1, e2, e3⟩ := zip3 (A := A) (B := B) (C := C) (by omega) (by omega)
  refine ⟨ts, e1, e2, e3, ?_⟩
  have gA := good_of h ha dA
  have gB := good_of h hb dB
  have gC := good_of h hc dC
  subst e1 e2 e3
  have hA := dA.1
  have hB := dB.1
  have hC := dC.1
  rw [List.map_map] at hA hB hC
  have e12 := List.map_inj_left.mp (hA.trans hB.symm)
  have e13 := List.map_inj_left.mp (hA.trans hC.symm)
  refine ⟨by have := (kinds_facts h).1; rw [List.length_map] at lA; omega, fun t ht => gA _ (List.mem_map_of_mem ht), fun t ht => gB _ (List.mem_map_of_mem (f := fun t : Tri => t.2.1) ht), fun t ht => gC _ (List.mem_map_of_mem (f := fun t : Tri => t.2.2) ht), fun t ht => ?_, fun t ht => ?_, ?_⟩
  · have := e12 t ht
    exact ⟨congrArg Prod.fst this, congrArg Prod.snd this⟩
  · have := e13 t ht
    exact ⟨congrArg Prod.fst this, congrArg Prod.snd this⟩
  · have := (kinds_facts h).2.2
    rw [← hC, List.map_map] at this
    exact this
end FH
namespace FH
open Sx PySem PySem.Spec PyProof.Rows L2
section
variable {a b c : Nat} {ts : List Tri} (T : Trio a b c ts) (ai bi ci : Int) (ha : ai = (a : Int)) (hb : bi = (b : Int)) (hc : ci = (c : Int)) (la : a ≤ 3) (lb : b ≤ 2) (lc : c ≤ 2) (pb : 0 < b)
abbrev oneD (ai : Int) (ts : List Tri) : D := strI ai (ts.map fun t => t.1)
abbrev twoD (ai : Int) (ts : List Tri) : D := strI ai (ts.map fun t => t.2.1)
abbrev thiD (ai : Int) (ts : List Tri) : D := strI ai (ts.map fun t => t.2.2)
abbrev prD (pi : Int) (b : Nat) (ts : List Tri) : D := strI pi (ts.map fun t => mulR b (t.1, t.2.1))
abbrev suD (si : Int) (a : Nat) (ts : List Tri) : D := strI si (ts.map fun t => addR a (t.1, t.2.1))
include T ha hb hc la lb lc
theorem pr1 (pi : Int) (hp : mulI [.int ai, .int bi] = some (.int pi)) : f_product [oneD ai ts, twoD bi ts] = some (prD pi b ts, [oneD ai ts, twoD bi ts]) := by
  have e := product_ok a b ai bi pi hb (by omega) hp (ts.map fun t => (t.1, t.2.1)) (by rw [List.length_map]; exact T.len) fun p hp => by
    obtain ⟨t, ht, rfl⟩ := List.mem_map.mp hp
    exact ⟨(T.g1 t ht).toFit, (T.g2 t ht).toFit⟩
  simp only [List.map_map, Function.comp_def] at e
  exact e
theorem pr2 (pi : Int) (hp : mulI [.int ai, .int bi] = some (.int pi)) : f_law_product [oneD ai ts, twoD bi ts] = some (prD pi b ts, [oneD ai ts, twoD bi ts]) := by
  have e := law_product_ok a b ai bi pi hb (by omega) hp (ts.map fun t => (t.1, t.2.1)) (by rw [List.length_map]; exact T.len) fun p hp => by
    obtain ⟨t, ht, rfl⟩ := List.mem_map.mp hp
    exact ⟨(T.g1 t ht).toFit, (T.g2 t ht).toFit, (T.n2 t ht).1, (T.n2 t ht).2⟩
  simp only [List.map_map, Function.comp_def] at e
  exact e
theorem pr3 (pi : Int) : Fsame 8 [prD pi b ts, prD pi b ts] = some (.bool true, [prD pi b ts, prD pi b ts]) := by
  refine same_ok 8 _ (same_str pi (by rw [List.length_map]; have := T.len; omega) fun r hr => ?_)
  obtain ⟨t, ht, rfl⟩ := List.mem_map.mp hr
  have f1 := (T.g1 t ht).few
  have f2 := (T.g2 t ht).few
  constructor
  · show ((mulRows b t.1.rows t.2.1.rows).mergeSort nLe).length ≤ 1000000
    rw [List.length_mergeSort, mulRows_len]
    exact Nat.le_trans (Nat.mul_le_mul f1 f2) (by decide)
  · intro q hq
    have hq := (List.mergeSort_perm _ _).mem_iff.mp (show q ∈ (mulRows b t.1.rows t.2.1.rows).mergeSort nLe from hq)
    obtain ⟨u, hu, h⟩ := List.mem_flatMap.mp hq
    obtain ⟨v, hv, rfl⟩ := List.mem_map.mp h
    unfold mulRow
    rw [List.length_map, List.length_zip]
    have := (T.g1 t ht).toFit.short u hu
    omega
theorem su1 (si : Int) (hs : si = ai + bi) : f_sum_of [oneD ai ts, twoD bi ts] = some (suD si a ts, [oneD ai ts, twoD bi ts]) := by
  have e := sum_of_ok a b ai bi si ha hs (ts.map fun t => (t.1, t.2.1)) (by rw [List.length_map]; exact T.len) fun p hp => by
    obtain ⟨t, ht, rfl⟩ := List.mem_map.mp hp
    exact ⟨(T.g1 t ht).toFit, (T.g2 t ht).toFit⟩
  simp only [List.map_map, Function.comp_def] at e
  exact e
theorem su2 (si : Int) (hs : si = ai + bi) : f_law_sum [oneD ai ts, twoD bi ts] = some (suD si a ts, [oneD ai ts, twoD bi ts]) := by
  have e := law_sum_ok a b ai bi si ha hs (ts.map fun t => (t.1, t.2.1)) (by rw [List.length_map]; exact T.len) (fun p hp => by
    obtain ⟨t, ht, rfl⟩ := List.mem_map.mp hp
    exact ⟨(T.g1 t ht).toFit, (T.g2 t ht).toFit⟩) (fun p hp => by
    obtain ⟨t, ht, rfl⟩ := List.mem_map.mp hp
    exact (T.n2 t ht).1) fun p hp => by
    obtain ⟨t, ht, rfl⟩ := List.mem_map.mp hp
    exact add_asc (T.g1 t ht) (T.g2 t ht) (T.n2 t ht).2
  simp only [List.map_map, Function.comp_def] at e
  exact e
theorem su3 (si : Int) : Fsame 8 [suD si a ts, suD si a ts] = some (.bool true, [suD si a ts, suD si a ts]) := by
  refine same_ok 8 _ (same_str si (by rw [List.length_map]; have := T.len; omega) fun r hr => ?_)
  obtain ⟨t, ht, rfl⟩ := List.mem_map.mp hr
  have f := add_fit (T.g1 t ht) (T.g2 t ht) (T.n2 t ht).2
  exact ⟨by have := f.many; omega, fun q hq => by have := f.short q hq; omega⟩
/-- the maps between two of them -/
theorem mpG (m n : Nat) (mi ni : Int) (hm : mi = (m : Int)) (hn : ni = (n : Int)) (lm : m ≤ 5) (ln : n ≤ 6) (f : Tri → Rel × Rel) (h1 : ∀ t ∈ ts, Fit m (f t).1) : f_law_maps [strI mi (ts.map fun t => (f t).1), strI ni (ts.map fun t => (f t).2)] = some (.list (rowsD ((tups n m).filter (isMap (ts.map f)))), [strI mi (ts.map fun t => (f t).1), strI ni (ts.map fun t => (f t).2)]) := by
  have e := maps_ok m n mi ni hm hn (by omega) (by omega) (Nat.le_trans (pow_small ln lm) (by decide)) (ts.map f) (by rw [List.length_map]; exact T.len) fun p hp => by
    obtain ⟨t, ht, rfl⟩ := List.mem_map.mp hp
    exact h1 t ht
  simp only [List.map_map, Function.comp_def] at e
  exact e
end
theorem len_rows {l : List (List Nat)} : lenI [.list (rowsD l)] = some (.int (l.length : Int)) := by
  rw [len_l, rowsD_len]
theorem mul_len {a b c : Nat} (h : c = a * b) (ha : a ≤ 100000) : mulI [.int (a : Int), .int (b : Int)] = some (.int (c : Int)) := by
  rw [mul_ii (.inl (by omega)), h]
  simp
theorem tups_few {n m : Nat} (p : List Nat → Bool) (hn : n ≤ 6) (hm : m ≤ 5) : ((tups n m).filter p).length ≤ 100000 :=
  Nat.le_trans (List.length_filter_le _ _) (by rw [tups_len]; exact Nat.le_trans (pow_small hn hm) (by decide))
theorem law_turn (scr : D) (b : D) (hb : IsBox b) (o2 o3 o4 o5 o6 o7 o8 : Option D) : ∃ b' q3 q4 q5 q6 q7 q8, Tlaw [some scr, some b, o2, o3, o4, o5, o6, o7, o8] = some (.nx [some scr, some b', o2, q3, q4, q5, q6, q7, q8]) ∧ IsBox b' := by
  obtain ⟨ks, b1, e0, hb1, hks⟩ := kinds_ok hb
  obtain ⟨v1, b2, d1, lo1, hi1, hb2⟩ := draw_ok (m := 3) hb1 (by decide)
  obtain ⟨m1, hm1⟩ : ∃ m1 : Nat, 1 + v1 = (m1 : Int) := ⟨(1 + v1).toNat, by omega⟩
  obtain ⟨b3, A, s1, hb3, dA⟩ := structure_ok ks hks m1 (1 + v1) hm1 (by omega) b2 hb2
  obtain ⟨v2, b4, d2, lo2, hi2, hb4⟩ := draw_ok (m := 2) hb3 (by decide)
  obtain ⟨m2, hm2⟩ : ∃ m2 : Nat, 1 + v2 = (m2 : Int) := ⟨(1 + v2).toNat, by omega⟩
  obtain ⟨b5, B, s2, hb5, dB⟩ := structure_ok ks hks m2 (1 + v2) hm2 (by omega) b4 hb4
  obtain ⟨v3, b6, d3, lo3, hi3, hb6⟩ := draw_ok (m := 2) hb5 (by decide)
  obtain ⟨m3, hm3⟩ : ∃ m3 : Nat, 1 + v3 = (m3 : Int) := ⟨(1 + v3).toNat, by omega⟩
  obtain ⟨b7, C, s3, hb7, dC⟩ := structure_ok ks hks m3 (1 + v3) hm3 (by omega) b6 hb6
  obtain ⟨ts, rfl, rfl, rfl, T⟩ := trio_of hks (a := m1) (b := m2) (c := m3) (by omega) (by omega) (by omega) dA dB dC
  have l1 : m1 ≤ 3 := by omega
  have l2 : m2 ≤ 2 := by omega
  have l3 : m3 ≤ 2 := by omega
  have p2 : 0 < m2 := by omega
  obtain ⟨pi, hpi⟩ : ∃ pi : Int, pi = ((m1 * m2 : Nat) : Int) := ⟨_, rfl⟩
  obtain ⟨si, hsi⟩ : ∃ si : Int, si = (1 + v1) + (1 + v2) := ⟨_, rfl⟩
  have hp : mulI [.int (1 + v1), .int (1 + v2)] = some (.int pi) := by rw [hm1, hm2, hpi]; exact mul_len rfl (by omega)
  have l12 : m1 * m2 ≤ 6 := Nat.le_trans (Nat.mul_le_mul l1 l2) (by decide)
  have P1 := pr1 T (1 + v1) (1 + v2) (1 + v3) hm1 hm2 hm3 l1 l2 l3 pi hp
  have P2 := pr2 T (1 + v1) (1 + v2) (1 + v3) hm1 hm2 hm3 l1 l2 l3 pi hp
  have P3 := pr3 T (1 + v1) (1 + v2) (1 + v3) hm1 hm2 hm3 l1 l2 l3 pi
  have S1 := su1 T (1 + v1) (1 + v2) (1 + v3) hm1 hm2 hm3 l1 l2 l3 si hsi
  have S2 := su2 T (1 + v1) (1 + v2) (1 + v3) hm1 hm2 hm3 l1 l2 l3 si hsi
  have S3 := su3 T (1 + v1) (1 + v2) (1 + v3) hm1 hm2 hm3 l1 l2 l3 si
  have G := fun m n mi ni => mpG T (1 + v1) (1 + v2) (1 + v3) hm1 hm2 hm3 l1 l2 l3 m n mi ni
  have hs12 : si = ((m1 + m2 : Nat) : Int) := by omega
  have M1 := G m3 m1 (1 + v3) (1 + v1) hm3 hm1 (by omega) (by omega) (fun t => (t.2.2, t.1)) fun t ht => (T.g3 t ht).toFit
  have M2 := G m3 m2 (1 + v3) (1 + v2) hm3 hm2 (by omega) (by omega) (fun t => (t.2.2, t.2.1)) fun t ht => (T.g3 t ht).toFit
  have M3 := G m1 m3 (1 + v1) (1 + v3) hm1 hm3 (by omega) (by omega) (fun t => (t.1, t.2.2)) fun t ht => (T.g1 t ht).toFit
  have M4 := G m2 m3 (1 + v2) (1 + v3) hm2 hm3 (by omega) (by omega) (fun t => (t.2.1, t.2.2)) fun t ht => (T.g2 t ht).toFit
  have M5 := G m3 (m1 * m2) (1 + v3) pi hm3 hpi (by omega) l12 (fun t => (t.2.2, mulR m2 (t.1, t.2.1))) fun t ht => (T.g3 t ht).toFit
  have M6 := G (m1 + m2) m3 si (1 + v3) hs12 hm3 (by omega) (by omega) (fun t => (addR m1 (t.1, t.2.1), t.2.2)) fun t ht => add_fit (T.g1 t ht) (T.g2 t ht) (T.n2 t ht).2
  have X1 := mul_len (prod_len m1 m2 m3 p2 ts fun t ht => ⟨fun r hr => ((T.g1 t ht).row r hr).1, fun r hr => by rw [(T.n2 t ht).2]; exact (T.g2 t ht).row r hr⟩) (tups_few _ (by omega) (by omega))
  have X2 := mul_len (sum_len m1 m2 m3 ts fun t ht r hr => ((T.g1 t ht).row r hr).2) (tups_few _ (by omega) (by omega))
  have du : Duo (m1 + m2) (ts.map fun t => (addR m1 (t.1, t.2.1), t.2.2)) := by
    refine ⟨by rw [List.length_map]; exact T.len, fun p hp => ?_, fun p hp => ?_, ?_⟩
    · obtain ⟨t, ht, rfl⟩ := List.mem_map.mp hp
      exact add_fit (T.g1 t ht) (T.g2 t ht) (T.n2 t ht).2
    · obtain ⟨t, ht, rfl⟩ := List.mem_map.mp hp
      exact (T.n3 t ht).1
    · rw [List.map_map, List.map_map]
      exact T.nod
  have C1 := count_maps_ok (m1 + m2) m3 (suD si m1 ts) (thiD (1 + v3) ts) si (1 + v3) hs12 hm3 (by omega) (by omega) (ts.map fun t => (addR m1 (t.1, t.2.1), t.2.2)) du (by rw [ix_str2]; simp only [List.map_map, Function.comp_def]) (by rw [ix_str2]; simp only [List.map_map, Function.comp_def]) ix_str1 ix_str1
  rw [cnt_len _ _ _ du.fit] at C1
  have C2 := fun i : Int => same_ok 8 (.int i) trivial
  exact ⟨b7, _, _, _, _, _, _, turn_run scr b b1 b2 b3 b4 b5 b6 b7 (kindD ks) _ _ _ _ _ v1 v2 v3 _ _ _ _ _ _ _ _ _ _ _ _ o2 o3 o4 o5 o6 o7 o8 e0 d1 s1 d2 s2 d3 s3 P1 P2 P3 S1 S2 S3 M1 M2 M3 M4 M5 M6 len_rows len_rows len_rows len_rows len_rows len_rows X1 X2 C1 (C2 _), hb7⟩
theorem law_true : ∀ ns : List Int, ns.length ≤ 63 → ∃ r, f_law [scrD ns] = some (.bool true, [r]) := by
  intro ns _
  obtain ⟨b, e0, hb⟩ := box_ok ns 0 63 (by decide) (by decide) (by decide) (by decide)
  have lp : ∀ (us : List D) (b : D) (_ : IsBox b) (o2 o3 o4 o5 o6 o7 o8 : Option D), ∃ b' q2 q3 q4 q5 q6 q7 q8, forL (gSet 2) Tlaw us [some (scrD ns), some b, o2, o3, o4, o5, o6, o7, o8] = some (.nx [some (scrD ns), some b', q2, q3, q4, q5, q6, q7, q8]) := by
    intro us
    induction us with
    | nil => intro b _ o2 o3 o4 o5 o6 o7 o8; exact ⟨b, o2, o3, o4, o5, o6, o7, o8, rfl⟩
    | cons u us ih =>
      intro b hb o2 o3 o4 o5 o6 o7 o8
      obtain ⟨b1, q3, q4, q5, q6, q7, q8, e1, hb1⟩ := law_turn (scrD ns) b hb (some u) o3 o4 o5 o6 o7 o8
      obtain ⟨b', r2, r3, r4, r5, r6, r7, r8, e2⟩ := ih b1 hb1 (some u) q3 q4 q5 q6 q7 q8
      refine ⟨b', r2, r3, r4, r5, r6, r7, r8, ?_⟩
      rw [forL_cons]
      show kTurn _ _ us [some (scrD ns), some b, some u, o3, o4, o5, o6, o7, o8] = _
      rw [x_turn, e1, Option.bind_some, x_next1]
      exact e2
  obtain ⟨b', q2, q3, q4, q5, q6, q7, q8, e⟩ := lp (upTo 0 3) b hb none none none none none none none
  exact ⟨_, law_end (scrD ns) b b' _ e0 rfl q2 q3 q4 q5 q6 q7 q8 e⟩
end FH
namespace FG
open Sx PySem PySem.Spec PyProof.Rows L2
def M_rows_by_name : Kds := fun _ => .fz
def b_rows_by_name : Sv := (aSeq (aRet (eDc (iE (fOp ixA ((gV 0) ((gE (eC (.int 2))) gN)))) (gTurn2 (gTupT 3 (gsCons (gSet 1) (gsCons (gSet 2) (gsCons (gSet 3) gsNil)))) hYes (eV 1) (eV 3)) [1, 2, 3]))
    aNil)
def f_rows_by_name : Fn := fBody M_rows_by_name 3 true b_rows_by_name
def M_tuples : Kds := fun _ => .fz
def b_tuples : Sv := (aSeq (aSet 2 (eLst (gE (eTup gN) gN)))
    (aSeq (aFor (iRg1 ((gV 1) gN)) (gSet 3) (aSeq (aSet 2 (eLc2 (iE (eV 2)) (gSet 4) hYes (iRg1 ((gV 0) gN)) (gTurn (gSet 5) hYes (fOp addI ((gV 4) ((gE (eTup (gE (eV 5) gN))) gN)))) [4, 5] [5]))
    aNil))
    (aSeq (aRet (eV 2))
    aNil)))
def f_tuples : Fn := fBody M_tuples 4 false b_tuples
def M_keeps_rows : Kds := fun _ => .fz
def b_keeps_rows : Sv := (aSeq (aSet 3 (fOp subI ((gE (fOp lenI ((gV 2) gN))) ((gE (eC (.int 1))) gN))))
    (aSeq (aFor (iE (fOp ixA ((gV 0) ((gE (eC (.int 2))) gN)))) (gTupT 3 (gsCons (gSet 4) (gsCons (gSet 5) (gsCons (gSet 6) gsNil)))) (aSeq (aFor (iE (eV 6)) (gSet 7) (aSeq (aIf (hAnd (hOp eqI ((gE (fOp (extI true) ((gV 7) gN))) ((gV 3) gN))) (hOp niA ((gE (eTupG (iE (eV 7)) (gTurn (gSet 0) hYes (fOp ixA ((gV 1) ((gV 0) gN)))) [none, some 2])) ((gE (fOp ixA ((gV 1) ((gV 4) gN)))) gN)))) (aSeq (aRet (eC (.bool false)))
    aNil) aNil)
    aNil))
    aNil))
    (aSeq (aRet (eC (.bool true)))
    aNil)))
def f_keeps_rows : Fn := fBody M_keeps_rows 5 false b_keeps_rows
def M_count_from : Kds := fun _ => .fz
def b_count_from (self : Fn) : Sv := (aSeq (aIf (hOp eqI ((gE (fOp lenI ((gV 2) gN))) ((gE (fOp ixA ((gV 0) ((gE (eC (.int 1))) gN)))) gN))) (aSeq (aRet (eC (.int 1)))
    aNil) aNil)
    (aSeq (aSet 3 (eCall [none] f_rows_by_name (gE (eV 1) gN)))
    (aSeq (aRet (eSum (iRg1 ((gE (fOp ixA ((gV 1) ((gE (eC (.int 1))) gN)))) gN)) (gTurn (gSet 0) (hTru ((gE (eCall [none, none, none] f_keeps_rows (gE (eV 1) (gE (eV 4) (gE (fOp addI ((gV 3) ((gE (eTup (gE (eV 0) gN))) gN))) gN))))) gN)) (eCall [none, none, none] self (gE (eV 1) (gE (eV 2) (gE (fOp addI ((gV 3) ((gE (eTup (gE (eV 0) gN))) gN))) gN))))) [none, some 0, some 1, some 2, some 3]))
    aNil)))
def f_count_from : Nat → Fn
  | 0 => fun _ => none
  | n + 1 => fBody M_count_from 1 false (b_count_from (f_count_from n))
def M_count_maps : Kds := fun _ => .fz
def b_count_maps : Sv := (aSeq (aRet (eCall [none, none, none] (f_count_from 8) (gE (eV 0) (gE (eV 1) (gE (eTup gN) gN)))))
    aNil)
def f_count_maps : Fn := fBody M_count_maps 0 false b_count_maps
def M_product : Kds := fun i => match i with | 3 => .ow | _ => .fz
def b_product : Sv := (aSeq (aSet 2 (fOp ixA ((gV 1) ((gE (eC (.int 1))) gN))))
    (aSeq (aSet 3 (eLst gN))
    (aSeq (aFor (iZip (gE (fOp ixA ((gV 0) ((gE (eC (.int 2))) gN))) (gE (fOp ixA ((gV 1) ((gE (eC (.int 2))) gN))) gN))) (gTupT 2 (gsCons (gTupT 3 (gsCons (gSet 4) (gsCons (gSet 5) (gsCons (gSet 6) gsNil)))) (gsCons (gTupT 3 (gsCons (gSet 7) (gsCons (gSet 7) (gsCons (gSet 8) gsNil)))) gsNil))) (aSeq (aSet 11 (eLc2 (iE (eV 6)) (gSet 9) hYes (iE (eV 8)) (gTurn (gSet 10) hYes (eTupG (iZip (gE (eV 9) (gE (eV 10) gN))) (gTurn (gTupT 2 (gsCons (gSet 0) (gsCons (gSet 1) gsNil))) hYes (fOp addI ((gE (fOp mulI ((gV 0) ((gV 2) gN)))) ((gV 1) gN)))) [none, none, some 2])) [9, 10] [10]))
    (aSeq (aApp 3 (eTup (gE (eV 4) (gE (eV 5) (gE (fOp tupI ((gE (fOp sortI ((gV 11) gN))) gN)) gN)))))
    aNil)))
    (aSeq (aRet (eTup (gE (eC (.str "structure")) (gE (fOp mulI ((gE (fOp ixA ((gV 0) ((gE (eC (.int 1))) gN)))) ((gV 2) gN))) (gE (fOp tupI ((gV 3) gN)) gN)))))
    aNil))))
def f_product : Fn := fBody M_product 10 false b_product
def M_sum_of : Kds := fun i => match i with | 3 => .ow | _ => .fz
def b_sum_of : Sv := (aSeq (aSet 2 (fOp ixA ((gV 0) ((gE (eC (.int 1))) gN))))
    (aSeq (aSet 3 (eLst gN))
    (aSeq (aFor (iZip (gE (fOp ixA ((gV 0) ((gE (eC (.int 2))) gN))) (gE (fOp ixA ((gV 1) ((gE (eC (.int 2))) gN))) gN))) (gTupT 2 (gsCons (gTupT 3 (gsCons (gSet 4) (gsCons (gSet 5) (gsCons (gSet 6) gsNil)))) (gsCons (gTupT 3 (gsCons (gSet 7) (gsCons (gSet 7) (gsCons (gSet 8) gsNil)))) gsNil))) (aSeq (aApp 3 (eTup (gE (eV 4) (gE (eV 5) (gE (fOp addI ((gV 6) ((gE (eTupG (iE (eV 8)) (gTurn (gSet 0) hYes (eTupG (iE (eV 0)) (gTurn (gSet 0) hYes (fOp addI ((gV 1) ((gV 0) gN)))) [none, some 1])) [none, some 2])) gN))) gN)))))
    aNil))
    (aSeq (aRet (eTup (gE (eC (.str "structure")) (gE (fOp addI ((gV 2) ((gE (fOp ixA ((gV 1) ((gE (eC (.int 1))) gN)))) gN))) (gE (fOp tupI ((gV 3) gN)) gN)))))
    aNil))))
def f_sum_of : Fn := fBody M_sum_of 7 false b_sum_of
def M_functions : Kds := fun i => match i with | 3 => .ow | _ => .fz
def b_functions : Sv := (aSeq (aSet 2 (eCall [none, none] f_tuples (gE (fOp ixA ((gV 1) ((gE (eC (.int 1))) gN))) (gE (fOp ixA ((gV 0) ((gE (eC (.int 1))) gN))) gN))))
    (aSeq (aSet 3 (eLst gN))
    (aSeq (aFor (iZip (gE (fOp ixA ((gV 0) ((gE (eC (.int 2))) gN))) (gE (fOp ixA ((gV 1) ((gE (eC (.int 2))) gN))) gN))) (gTupT 2 (gsCons (gTupT 3 (gsCons (gSet 4) (gsCons (gSet 5) (gsCons (gSet 6) gsNil)))) (gsCons (gTupT 3 (gsCons (gSet 7) (gsCons (gSet 7) (gsCons (gSet 8) gsNil)))) gsNil))) (aSeq (aIf (hOp eqI ((gV 5) ((gE (eC (.int 1))) gN))) (aSeq (aSet 11 (eLc (iEnu (gE (eV 2) gN)) (gTurn (gTupT 2 (gsCons (gSet 9) (gsCons (gSet 10) gsNil))) (hTru ((gE (eAll (iE (eV 6)) (gTurn (gSet 0) hYes (fOp inA ((gE (eTup (gE (fOp ixA ((gV 2) ((gE (fOp ixA ((gV 0) ((gE (eC (.int 0))) gN)))) gN))) gN))) ((gV 1) gN)))) [none, some 8, some 10])) gN)) (eTup (gE (eV 9) gN))) [9, 10]))
    aNil) (aSeq (aSet 11 (eLc2 (iEnu (gE (eV 2) gN)) (gTupT 2 (gsCons (gSet 9) (gsCons (gSet 10) gsNil))) hYes (iEnu (gE (eV 2) gN)) (gTurn (gTupT 2 (gsCons (gSet 12) (gsCons (gSet 13) gsNil))) (hTru ((gE (eAll (iE (eV 6)) (gTurn (gSet 0) hYes (fOp inA ((gE (eTup (gE (fOp ixA ((gV 2) ((gE (fOp ixA ((gV 0) ((gE (eC (.int 0))) gN)))) gN))) (gE (fOp ixA ((gV 3) ((gE (fOp ixA ((gV 0) ((gE (eC (.int 1))) gN)))) gN))) gN)))) ((gV 1) gN)))) [none, some 8, some 10, some 13])) gN)) (eTup (gE (eV 9) (gE (eV 12) gN)))) [9, 10, 12, 13] [12, 13]))
    aNil))
    (aSeq (aApp 3 (eTup (gE (eV 4) (gE (eV 5) (gE (fOp tupI ((gV 11) gN)) gN)))))
    aNil)))
    (aSeq (aRet (eTup (gE (eC (.str "structure")) (gE (fOp lenI ((gV 2) gN)) (gE (fOp tupI ((gV 3) gN)) gN)))))
    aNil))))
def f_functions : Fn := fBody M_functions 12 false b_functions
def M_law_tuples : Kds := fun _ => .fz
def b_law_tuples : Sv := (aSeq (aSet 2 (eLst (gE (eTup gN) gN)))
    (aSeq (aFor (iRg1 ((gV 1) gN)) (gSet 3) (aSeq (aSet 4 (eLst gN))
    (aSeq (aFor (iE (eV 2)) (gSet 5) (aSeq (aSet 4 (fOp addI ((gV 4) ((gE (eLc (iRg1 ((gV 0) gN)) (gTurn (gSet 6) hYes (fOp addI ((gV 5) ((gE (eTup (gE (eV 6) gN))) gN)))) [6])) gN))))
    aNil))
    (aSeq (aSet 2 (eV 4))
    aNil))))
    (aSeq (aRet (eV 2))
    aNil)))
def f_law_tuples : Fn := fBody M_law_tuples 5 false b_law_tuples
def M_law_cell : Kds := fun _ => .fz
def b_law_cell : Sv := (aSeq (aIf (hOp ltI ((gV 1) ((gE (fOp lenI ((gV 0) gN))) gN))) (aSeq (aRet (fOp ixA ((gV 0) ((gV 1) gN))))
    aNil) aNil)
    (aSeq (aRet (eC (.int 0)))
    aNil))
def f_law_cell : Fn := fBody M_law_cell 0 false b_law_cell
def M_law_digits : Kds := fun i => match i with | 3 => .ow | _ => .fz
def b_law_digits : Sv := (aSeq (aSet 3 (eLst gN))
    (aSeq (aFor (iRg2 ((gV 1) ((gV 2) gN))) (gSet 4) (aSeq (aSet 5 (eCall [none, none] f_law_cell (gE (eV 0) (gE (eV 4) gN))))
    (aSeq (aIf (hOp ltI ((gV 5) ((gE (eC (.int 0))) gN))) (aSeq (aSet 5 (fOp subI ((gE (eC (.int 1))) ((gE (fOp mulI ((gE (eC (.int 2))) ((gV 5) gN)))) gN))))
    aNil) aNil)
    (aSeq (aIf (hOp geI ((gV 5) ((gE (fOp powI ((gE (eC (.int 10))) ((gE (eC (.int 18))) gN)))) gN))) (aSeq (aFor (iRg1 ((gE (eC (.int 60))) gN)) (gSet 6) (aSeq (aIf (hOp gtI ((gV 5) ((gE (eC (.int 0))) gN))) (aSeq (aApp 3 (fOp modI ((gE (fOp intI ((gV 5) gN))) ((gE (eC (.int 1000))) gN))))
    (aSeq (aSet 5 (fOp fdivI ((gV 5) ((gE (eC (.int 1000))) gN))))
    aNil)) aNil)
    aNil))
    aNil) (aSeq (aSet 7 (fOp modI ((gE (fOp intI ((gE (fOp addI ((gE (fOp addI ((gE (fOp mulI ((gV 5) ((gE (eC (.int 48271))) gN)))) ((gE (fOp mulI ((gV 4) ((gE (eC (.int 69621))) gN)))) gN)))) ((gE (eC (.int 11))) gN)))) gN))) ((gE (eC (.int 2147483647))) gN))))
    (aSeq (aFor (iRg1 ((gE (eC (.int 12))) gN)) (gSet 6) (aSeq (aSet 7 (fOp modI ((gE (fOp intI ((gE (fOp addI ((gE (fOp addI ((gE (fOp mulI ((gV 7) ((gE (eC (.int 16807))) gN)))) ((gE (fOp mulI ((gE (eC (.int 7))) ((gV 6) gN)))) gN)))) ((gE (eC (.int 1))) gN)))) gN))) ((gE (eC (.int 2147483647))) gN))))
    (aSeq (aApp 3 (fOp modI ((gE (fOp intI ((gE (fOp fdivI ((gV 7) ((gE (eC (.int 997))) gN)))) gN))) ((gE (eC (.int 1000))) gN))))
    aNil)))
    aNil)))
    aNil))))
    (aSeq (aRet (eT 3))
    aNil)))
def f_law_digits : Fn := fBody M_law_digits 5 true b_law_digits
def M_law_box : Kds := fun _ => .fz
def b_law_box : Sv := (aSeq (aRet (eLst (gE (eCall [none, none, none] f_law_digits (gE (eV 0) (gE (eV 1) (gE (eV 2) gN)))) (gE (eC (.int 0)) gN))))
    aNil)
def f_law_box : Fn := fBody M_law_box 0 true b_law_box
def M_law_draw : Kds := fun i => match i with | 0 => .le | _ => .fz
def b_law_draw : Sv := (aSeq (aSet 2 (fOp ixA ((gV 0) ((gE (eC (.int 1))) gN))))
    (aSeq (aPut 0 (fOp addI ((gV 2) ((gE (eC (.int 1))) gN))) (eC (.int 1)))
    (aSeq (aIf (hOp ltI ((gV 2) ((gE (fOp lenI ((gE (fOp ixA ((gV 0) ((gE (eC (.int 0))) gN)))) gN))) gN))) (aSeq (aRet (fOp modI ((gE (fOp intI ((gE (fOp ixA ((gE (fOp ixA ((gV 0) ((gE (eC (.int 0))) gN)))) ((gV 2) gN)))) gN))) ((gV 1) gN))))
    aNil) aNil)
    (aSeq (aRet (eC (.int 0)))
    aNil))))
def f_law_draw : Fn := fBody M_law_draw 1 false b_law_draw
def M_law_kinds : Kds := fun i => match i with | 0 => .le | _ => .fz
def b_law_kinds : Sv := (aSeq (aRet (fOp ixA ((gE (eLst (gE (eTup (gE (eTup (gE (eC (.str "E")) (gE (eC (.int 2)) gN))) gN)) (gE (eTup (gE (eTup (gE (eC (.str "E")) (gE (eC (.int 2)) gN))) (gE (eTup (gE (eC (.str "P")) (gE (eC (.int 1)) gN))) gN))) (gE (eTup (gE (eTup (gE (eC (.str "P")) (gE (eC (.int 1)) gN))) (gE (eTup (gE (eC (.str "Q")) (gE (eC (.int 1)) gN))) gN))) (gE (eTup (gE (eTup (gE (eC (.str "E")) (gE (eC (.int 2)) gN))) (gE (eTup (gE (eC (.str "F")) (gE (eC (.int 2)) gN))) gN))) (gE (eTup gN) (gE (eTup (gE (eTup (gE (eC (.str "E")) (gE (eC (.int 2)) gN))) (gE (eTup (gE (eC (.str "F")) (gE (eC (.int 2)) gN))) (gE (eTup (gE (eC (.str "P")) (gE (eC (.int 1)) gN))) gN)))) gN)))))))) ((gE (eCall [some 0, none] f_law_draw (gV 0 (gE (eC (.int 6)) gN)))) gN))))
    aNil)
def f_law_kinds : Fn := fBody M_law_kinds 0 false b_law_kinds
def M_law_structure : Kds := fun i => match i with | 0 => .le | 3 => .ow | _ => .fz
def b_law_structure : Sv := (aSeq (aSet 3 (eLst gN))
    (aSeq (aFor (iE (eV 1)) (gTupT 2 (gsCons (gSet 4) (gsCons (gSet 5) gsNil))) (aSeq (aSet 6 (fOp addI ((gE (eC (.int 1))) ((gE (eCall [some 0, none] f_law_draw (gV 0 (gE (eC (.int 4)) gN)))) gN))))
    (aSeq (aSet 8 (fOp tupI ((gE (eLc (iE (eCall [none, none] f_law_tuples (gE (eV 2) (gE (eV 5) gN)))) (gTurn (gSet 7) (hOp ltI ((gE (eCall [some 0, none] f_law_draw (gV 0 (gE (eC (.int 5)) gN)))) ((gV 6) gN))) (eV 7)) [7])) gN)))
    (aSeq (aApp 3 (eTup (gE (eV 4) (gE (eV 5) (gE (eV 8) gN)))))
    aNil))))
    (aSeq (aRet (eTup (gE (eC (.str "structure")) (gE (eV 2) (gE (fOp tupI ((gV 3) gN)) gN)))))
    aNil)))
def f_law_structure : Fn := fBody M_law_structure 6 false b_law_structure
def M_law_same : Kds := fun _ => .fz
def b_law_same (self : Fn) : Sv := (aSeq (aIf (hTru ((gE (fOp (isiI isT) ((gV 1) gN))) gN)) (aSeq (aIf (hOr (hNot (hTru ((gE (fOp (isiI isT) ((gV 0) gN))) gN))) (hOp neI ((gE (fOp lenI ((gV 0) gN))) ((gE (fOp lenI ((gV 1) gN))) gN)))) (aSeq (aRet (eC (.bool false)))
    aNil) aNil)
    (aSeq (aFor (iRg1 ((gE (fOp lenI ((gV 1) gN))) gN)) (gSet 2) (aSeq (aIf (hNot (hTru ((gE (eCall [none, none] self (gE (fOp ixA ((gV 0) ((gV 2) gN))) (gE (fOp ixA ((gV 1) ((gV 2) gN))) gN)))) gN))) (aSeq (aRet (eC (.bool false)))
    aNil) aNil)
    aNil))
    (aSeq (aRet (eC (.bool true)))
    aNil))) aNil)
    (aSeq (aIf (hOp isI ((gV 1) ((gE (eC .none)) gN))) (aSeq (aRet (fOp isI ((gV 0) ((gE (eC .none)) gN))))
    aNil) aNil)
    (aSeq (aIf (hTru ((gE (fOp (isiI isB) ((gV 1) gN))) gN)) (aSeq (aRet (eAnd (fOp (isiI isB) ((gV 0) gN)) (fOp eqI ((gV 0) ((gV 1) gN)))))
    aNil) aNil)
    (aSeq (aIf (hTru ((gE (fOp (isiI isNu) ((gV 1) gN))) gN)) (aSeq (aRet (eAnd (fOp (isiI isNu) ((gV 0) gN)) (eAnd (eNot ((gE (fOp (isiI isB) ((gV 0) gN))) gN)) (fOp eqI ((gV 0) ((gV 1) gN))))))
    aNil) aNil)
    (aSeq (aRet (eAnd (fOp (isiI isS) ((gV 0) gN)) (fOp eqI ((gV 0) ((gV 1) gN)))))
    aNil)))))
def f_law_same : Nat → Fn
  | 0 => fun _ => none
  | n + 1 => fBody M_law_same 1 false (b_law_same (f_law_same n))
def M_law_is_map : Kds := fun _ => .fz
def b_law_is_map : Sv := (aSeq (aFor (iRg1 ((gE (fOp lenI ((gE (fOp ixA ((gV 0) ((gE (eC (.int 2))) gN)))) gN))) gN)) (gSet 3) (aSeq (aFor (iE (fOp ixA ((gE (fOp ixA ((gE (fOp ixA ((gV 0) ((gE (eC (.int 2))) gN)))) ((gV 3) gN)))) ((gE (eC (.int 2))) gN)))) (gSet 4) (aSeq (aIf (hOp niA ((gE (fOp tupI ((gE (eLc (iE (eV 4)) (gTurn (gSet 5) hYes (fOp ixA ((gV 2) ((gV 5) gN)))) [5])) gN))) ((gE (fOp ixA ((gE (fOp ixA ((gE (fOp ixA ((gV 1) ((gE (eC (.int 2))) gN)))) ((gV 3) gN)))) ((gE (eC (.int 2))) gN)))) gN))) (aSeq (aRet (eC (.bool false)))
    aNil) aNil)
    aNil))
    aNil))
    (aSeq (aRet (eC (.bool true)))
    aNil))
def f_law_is_map : Fn := fBody M_law_is_map 3 false b_law_is_map
def M_law_maps : Kds := fun _ => .fz
def b_law_maps : Sv := (aSeq (aRet (eLc (iE (eCall [none, none] f_law_tuples (gE (fOp ixA ((gV 1) ((gE (eC (.int 1))) gN))) (gE (fOp ixA ((gV 0) ((gE (eC (.int 1))) gN))) gN)))) (gTurn (gSet 2) (hTru ((gE (eCall [none, none, none] f_law_is_map (gE (eV 0) (gE (eV 1) (gE (eV 2) gN))))) gN)) (eV 2)) [2]))
    aNil)
def f_law_maps : Fn := fBody M_law_maps 1 true b_law_maps
def M_law_functions : Kds := fun i => match i with | 3 => .ow | 8 => .ow | _ => .fz
def b_law_functions : Sv := (aSeq (aSet 2 (eCall [none, none] f_law_tuples (gE (fOp ixA ((gV 1) ((gE (eC (.int 1))) gN))) (gE (fOp ixA ((gV 0) ((gE (eC (.int 1))) gN))) gN))))
    (aSeq (aSet 3 (eLst gN))
    (aSeq (aFor (iRg1 ((gE (fOp lenI ((gE (fOp ixA ((gV 0) ((gE (eC (.int 2))) gN)))) gN))) gN)) (gSet 4) (aSeq (aAsg (fOp ixA ((gE (fOp ixA ((gV 0) ((gE (eC (.int 2))) gN)))) ((gV 4) gN))) (gTupT 3 (gsCons (gSet 5) (gsCons (gSet 6) (gsCons (gSet 7) gsNil)))))
    (aSeq (aSet 8 (eLst gN))
    (aSeq (aFor (iE (eCall [none, none] f_law_tuples (gE (fOp lenI ((gV 2) gN)) (gE (eV 6) gN)))) (gSet 9) (aSeq (aSet 10 (eC (.bool true)))
    (aSeq (aFor (iE (eV 7)) (gSet 11) (aSeq (aIf (hOp niA ((gE (fOp tupI ((gE (eLc (iRg1 ((gV 6) gN)) (gTurn (gSet 12) hYes (fOp ixA ((gE (fOp ixA ((gV 2) ((gE (fOp ixA ((gV 9) ((gV 12) gN)))) gN)))) ((gE (fOp ixA ((gV 11) ((gV 12) gN)))) gN)))) [12])) gN))) ((gE (fOp ixA ((gE (fOp ixA ((gE (fOp ixA ((gV 1) ((gE (eC (.int 2))) gN)))) ((gV 4) gN)))) ((gE (eC (.int 2))) gN)))) gN))) (aSeq (aSet 10 (eC (.bool false)))
    aNil) aNil)
    aNil))
    (aSeq (aIf (hTru ((gV 10) gN)) (aSeq (aApp 8 (eV 9))
    aNil) aNil)
    aNil))))
    (aSeq (aApp 3 (eTup (gE (eV 5) (gE (eV 6) (gE (fOp tupI ((gV 8) gN)) gN)))))
    aNil)))))
    (aSeq (aRet (eTup (gE (eC (.str "structure")) (gE (fOp lenI ((gV 2) gN)) (gE (fOp tupI ((gV 3) gN)) gN)))))
    aNil))))
def f_law_functions : Fn := fBody M_law_functions 11 false b_law_functions
def M_law : Kds := fun i => match i with | 1 => .ow | _ => .fz
def b_law : Sv := (aSeq (aSet 1 (eCall [none, none, none] f_law_box (gE (eV 0) (gE (eC (.int 0)) (gE (eC (.int 62)) gN)))))
    (aSeq (aSet 2 (eCall [some 1] f_law_kinds (gV 1 gN)))
    (aSeq (aSet 3 (eCall [some 1, none, none] f_law_structure (gV 1 (gE (eV 2) (gE (fOp addI ((gE (eC (.int 1))) ((gE (eCall [some 1, none] f_law_draw (gV 1 (gE (eC (.int 2)) gN)))) gN))) gN)))))
    (aSeq (aSet 4 (eCall [some 1, none, none] f_law_structure (gV 1 (gE (eV 2) (gE (eC (.int 1)) gN)))))
    (aSeq (aIf (hOp eqI ((gE (eCall [some 1, none] f_law_draw (gV 1 (gE (eC (.int 2)) gN)))) ((gE (eC (.int 0))) gN))) (aSeq (aPar 3 4 (gE (eV 4) (gE (eV 3) gN)))
    aNil) aNil)
    (aSeq (aSet 5 (eCall [some 1, none, none] f_law_structure (gV 1 (gE (eV 2) (gE (fOp addI ((gE (eC (.int 1))) ((gE (eCall [some 1, none] f_law_draw (gV 1 (gE (eC (.int 2)) gN)))) gN))) gN)))))
    (aSeq (aSet 6 (eCall [none, none] f_law_functions (gE (eV 3) (gE (eV 5) gN))))
    (aSeq (aSet 7 (eCall [none, none] f_law_functions (gE (eV 4) (gE (eV 5) gN))))
    (aSeq (aIf (hOr (hNot (hTru ((gE (eCall [none, none] (f_law_same 8) (gE (eCall [none, none] f_functions (gE (eV 3) (gE (eV 5) gN))) (gE (eV 6) gN)))) gN))) (hNot (hTru ((gE (eCall [none, none] (f_law_same 8) (gE (eCall [none, none] f_functions (gE (eV 4) (gE (eV 5) gN))) (gE (eV 7) gN)))) gN)))) (aSeq (aRet (eC (.bool false)))
    aNil) aNil)
    (aSeq (aIf (hNot (hTru ((gE (eCall [none, none] (f_law_same 8) (gE (eCall [none, none] f_functions (gE (eCall [none, none] f_sum_of (gE (eV 3) (gE (eV 4) gN))) (gE (eV 5) gN))) (gE (eCall [none, none] f_product (gE (eV 6) (gE (eV 7) gN))) gN)))) gN))) (aSeq (aRet (eC (.bool false)))
    aNil) aNil)
    (aSeq (aSet 8 (fOp mulI ((gE (fOp lenI ((gE (eCall [none, none] f_law_maps (gE (eV 3) (gE (eV 5) gN)))) gN))) ((gE (fOp lenI ((gE (eCall [none, none] f_law_maps (gE (eV 4) (gE (eV 5) gN)))) gN))) gN))))
    (aSeq (aRet (eCall [none, none] (f_law_same 8) (gE (eCall [none, none] f_count_maps (gE (eCall [none, none] f_sum_of (gE (eV 3) (gE (eV 4) gN))) (gE (eV 5) gN))) (gE (eV 8) gN))))
    aNil))))))))))))
def f_law : Fn := fBody M_law 8 false b_law
end FG
namespace FG
open Sx PySem PySem.Spec PyProof.Rows L2 FH
theorem g_draw : f_law_draw = Fdraw := rfl
theorem g_box : f_law_box = Fbox := rfl
theorem g_tup : f_law_tuples = Ftup := rfl
theorem g_kinds : f_law_kinds = FH.f_law_kinds := rfl
theorem g_struct : f_law_structure = FH.f_law_structure := rfl
theorem g_prod : f_product = FH.f_product := rfl
theorem g_sum : f_sum_of = FH.f_sum_of := rfl
theorem g_maps : f_law_maps = FH.f_law_maps := rfl
theorem g_same : f_law_same = Fsame := by
  have : ∀ n, f_law_same n = Fsame n := by
    intro n
    induction n with
    | zero => rfl
    | succ n ih =>
      show fBody M_law_same 1 false (b_law_same (f_law_same n)) = fBody (fun _ => .fz) 1 false (Bsame (Fsame n))
      rw [ih]
      rfl
  exact funext this
theorem g_cnt : f_count_from = FH.f_count_from := by
  have : ∀ n, f_count_from n = FH.f_count_from n := by
    intro n
    induction n with
    | zero => rfl
    | succ n ih =>
      show fBody M_count_from 1 false (b_count_from (f_count_from n)) = fBody FH.M_count_from 1 false (FH.b_count_from (FH.f_count_from n))
      rw [ih]
      rfl
  exact funext this
theorem g_cmaps : f_count_maps = FH.f_count_maps := by
  unfold f_count_maps FH.f_count_maps b_count_maps FH.b_count_maps
  rw [g_cnt]
  rfl
/-! all rows, as the program makes them -/
abbrev Tt1 : Gt := (gTurn (gSet 5) hYes (fOp addI ((gV 4) ((gE (eTup (gE (eV 5) gN))) gN))))
abbrev Tt2 : Ev := (eLc2 (iE (eV 2)) (gSet 4) hYes (iRg1 ((gV 0) gN)) Tt1 [4, 5] [5])
theorem t1_turn (rd rx : D) (x : Int) (o0 o1 o2 o3 : Option D) (e : addI [rd, .tuple [.int x]] = some rx) : Tt1 (.int x) [o0, o1, o2, o3, some rd, none] = some ([o0, o1, o2, o3, some rd, some (.int x)], some rx) := by
  simp only [Tt1, e, x_seq, x_seq1, x_seq2, x_seq3, x_seq4, x_nil, x_brk, x_cnt, x_if, x_if1, x_if2, x_set, x_set1, x_ret, x_ret1, x_retN, x_drop, x_drop1, x_ev, x_ev1, x_et, x_et1, x_ec, x_gn, x_ge, x_ge1, x_ge2, x_gv, x_gv1, x_gv2, x_gv3, x_op, x_op1, x_hop, x_hop1, x_hop2, x_tru, x_tru1, x_not, x_not1, x_and, x_and1, x_and2, x_or, x_or1, x_or2, x_yes, x_tup, x_tup1, x_lst, x_lst1, x_eif, x_eif1, x_eif2, x_notE, x_notE1, x_eand, x_eand1, x_eand2, x_eor, x_eor1, x_eor2, x_call, x_call1, x_call2, x_put1, x_put2, x_put3, x_body, x_body1, x_body2, x_app, x_app1, x_app2, x_app3, x_pt, x_pt1, x_pt2, x_pt3, x_pt4, x_pt5, x_ie, x_ie1, x_items1, x_items2, x_rg1, x_rg11, x_rg2, x_rg21, x_zip, x_zip1, x_zip2, x_gs, x_gt, x_gc, x_gl, x_asg, x_asg1, x_for, x_for1, x_turn, x_next1, x_next2, x_next3, x_next4, x_tn, x_tn1, x_tn2, x_tn3, x_tn4, x_lc, x_lc1, x_lc2, x_ld, x_ld1, x_w1, x_w2, x_tg, x_tg1, x_tg2, x_sm, x_sm1, x_sm2, x_al, x_al1, x_ay, x_ay1, x_bl, x_bk1, x_bk2, x_jn, x_pr1, x_pr2, Option.bind_some, Option.bind_none, Option.map_some, Option.map_none, List.map_cons, List.map_nil, List.replicate_succ, List.replicate_zero, List.cons_append, List.nil_append, List.append_nil, List.getElem?_cons_zero, List.getElem?_cons_succ, List.set_cons_zero, List.set_cons_succ, List.length_cons, List.length_nil, Nat.zero_add, Nat.reduceAdd, Nat.reduceLeDiff, Nat.reduceLT]
theorem t2_rg (mi : Int) (us : List D) (o1 o2 o3 o4 : Option D) (ok : ok62 mi = true) (hu : upTo 0 mi = us) : iRg1 ((gV 0) gN) [some (.int mi), o1, o2, o3, o4, none] = some ([some (.int mi), o1, o2, o3, o4, none], us) := by
  subst hu
  simp only [x_rg11 ok, x_seq, x_seq1, x_seq2, x_seq3, x_seq4, x_nil, x_brk, x_cnt, x_if, x_if1, x_if2, x_set, x_set1, x_ret, x_ret1, x_retN, x_drop, x_drop1, x_ev, x_ev1, x_et, x_et1, x_ec, x_gn, x_ge, x_ge1, x_ge2, x_gv, x_gv1, x_gv2, x_gv3, x_op, x_op1, x_hop, x_hop1, x_hop2, x_tru, x_tru1, x_not, x_not1, x_and, x_and1, x_and2, x_or, x_or1, x_or2, x_yes, x_tup, x_tup1, x_lst, x_lst1, x_eif, x_eif1, x_eif2, x_notE, x_notE1, x_eand, x_eand1, x_eand2, x_eor, x_eor1, x_eor2, x_call, x_call1, x_call2, x_put1, x_put2, x_put3, x_body, x_body1, x_body2, x_app, x_app1, x_app2, x_app3, x_pt, x_pt1, x_pt2, x_pt3, x_pt4, x_pt5, x_ie, x_ie1, x_items1, x_items2, x_rg1, x_rg11, x_rg2, x_rg21, x_zip, x_zip1, x_zip2, x_gs, x_gt, x_gc, x_gl, x_asg, x_asg1, x_for, x_for1, x_turn, x_next1, x_next2, x_next3, x_next4, x_tn, x_tn1, x_tn2, x_tn3, x_tn4, x_lc, x_lc1, x_lc2, x_ld, x_ld1, x_w1, x_w2, x_tg, x_tg1, x_tg2, x_sm, x_sm1, x_sm2, x_al, x_al1, x_ay, x_ay1, x_bl, x_bk1, x_bk2, x_jn, x_pr1, x_pr2, Option.bind_some, Option.bind_none, Option.map_some, Option.map_none, List.map_cons, List.map_nil, List.replicate_succ, List.replicate_zero, List.cons_append, List.nil_append, List.append_nil, List.getElem?_cons_zero, List.getElem?_cons_succ, List.set_cons_zero, List.set_cons_succ, List.length_cons, List.length_nil, Nat.zero_add, Nat.reduceAdd, Nat.reduceLeDiff, Nat.reduceLT]
theorem t2_run (mi : Int) (inp out : List D) (o1 o3 o4 o5 : Option D) (hl : out.length ≤ 16777216) (key : lcL2 [4, 5] [5] (gSet 4) hYes (iRg1 ((gV 0) gN)) Tt1 inp [some (.int mi), o1, some (.list inp), o3, none, none] = some ([some (.int mi), o1, some (.list inp), o3, none, none], out)) :
    (aSeq (aSet 2 Tt2) aNil) [some (.int mi), o1, some (.list inp), o3, o4, o5] = some (.nx [some (.int mi), o1, some (.list out), o3, o4, o5]) := by
  simp only [key, x_lc2 hl, x_seq, x_seq1, x_seq2, x_seq3, x_seq4, x_nil, x_brk, x_cnt, x_if, x_if1, x_if2, x_set, x_set1, x_ret, x_ret1, x_retN, x_drop, x_drop1, x_ev, x_ev1, x_et, x_et1, x_ec, x_gn, x_ge, x_ge1, x_ge2, x_gv, x_gv1, x_gv2, x_gv3, x_op, x_op1, x_hop, x_hop1, x_hop2, x_tru, x_tru1, x_not, x_not1, x_and, x_and1, x_and2, x_or, x_or1, x_or2, x_yes, x_tup, x_tup1, x_lst, x_lst1, x_eif, x_eif1, x_eif2, x_notE, x_notE1, x_eand, x_eand1, x_eand2, x_eor, x_eor1, x_eor2, x_call, x_call1, x_call2, x_put1, x_put2, x_put3, x_body, x_body1, x_body2, x_app, x_app1, x_app2, x_app3, x_pt, x_pt1, x_pt2, x_pt3, x_pt4, x_pt5, x_ie, x_ie1, x_items1, x_items2, x_rg1, x_rg11, x_rg2, x_rg21, x_zip, x_zip1, x_zip2, x_gs, x_gt, x_gc, x_gl, x_asg, x_asg1, x_for, x_for1, x_turn, x_next1, x_next2, x_next3, x_next4, x_tn, x_tn1, x_tn2, x_tn3, x_tn4, x_lc, x_lc1, x_lc2, x_ld, x_ld1, x_w1, x_w2, x_tg, x_tg1, x_tg2, x_sm, x_sm1, x_sm2, x_al, x_al1, x_ay, x_ay1, x_bl, x_bk1, x_bk2, x_jn, x_pr1, x_pr2, Option.bind_some, Option.bind_none, Option.map_some, Option.map_none, List.map_cons, List.map_nil, List.replicate_succ, List.replicate_zero, List.cons_append, List.nil_append, List.append_nil, List.getElem?_cons_zero, List.getElem?_cons_succ, List.set_cons_zero, List.set_cons_succ, List.length_cons, List.length_nil, Nat.zero_add, Nat.reduceAdd, Nat.reduceLeDiff, Nat.reduceLT]
theorem t_end (mi pi : Int) (out us : List D) (ok : ok62 pi = true) (hu : upTo 0 pi = us) (o3 o4 o5 : Option D) (e : forL (gSet 3) (aSeq (aSet 2 Tt2) aNil) us [some (.int mi), some (.int pi), some (.list [.tuple []]), none, none, none] = some (.nx [some (.int mi), some (.int pi), some (.list out), o3, o4, o5])) :
    f_tuples [.int mi, .int pi] = some (.list out, [.int mi, .int pi]) := by
  subst hu
  simp only [f_tuples, b_tuples, x_rg11 ok, e, x_seq, x_seq1, x_seq2, x_seq3, x_seq4, x_nil, x_brk, x_cnt, x_if, x_if1, x_if2, x_set, x_set1, x_ret, x_ret1, x_retN, x_drop, x_drop1, x_ev, x_ev1, x_et, x_et1, x_ec, x_gn, x_ge, x_ge1, x_ge2, x_gv, x_gv1, x_gv2, x_gv3, x_op, x_op1, x_hop, x_hop1, x_hop2, x_tru, x_tru1, x_not, x_not1, x_and, x_and1, x_and2, x_or, x_or1, x_or2, x_yes, x_tup, x_tup1, x_lst, x_lst1, x_eif, x_eif1, x_eif2, x_notE, x_notE1, x_eand, x_eand1, x_eand2, x_eor, x_eor1, x_eor2, x_call, x_call1, x_call2, x_put1, x_put2, x_put3, x_body, x_body1, x_body2, x_app, x_app1, x_app2, x_app3, x_pt, x_pt1, x_pt2, x_pt3, x_pt4, x_pt5, x_ie, x_ie1, x_items1, x_items2, x_rg1, x_rg11, x_rg2, x_rg21, x_zip, x_zip1, x_zip2, x_gs, x_gt, x_gc, x_gl, x_asg, x_asg1, x_for, x_for1, x_turn, x_next1, x_next2, x_next3, x_next4, x_tn, x_tn1, x_tn2, x_tn3, x_tn4, x_lc, x_lc1, x_lc2, x_ld, x_ld1, x_w1, x_w2, x_tg, x_tg1, x_tg2, x_sm, x_sm1, x_sm2, x_al, x_al1, x_ay, x_ay1, x_bl, x_bk1, x_bk2, x_jn, x_pr1, x_pr2, Option.bind_some, Option.bind_none, Option.map_some, Option.map_none, List.map_cons, List.map_nil, List.replicate_succ, List.replicate_zero, List.cons_append, List.nil_append, List.append_nil, List.getElem?_cons_zero, List.getElem?_cons_succ, List.set_cons_zero, List.set_cons_succ, List.length_cons, List.length_nil, Nat.zero_add, Nat.reduceAdd, Nat.reduceLeDiff, Nat.reduceLT]
  rfl
theorem tuples_ok (m p : Nat) (mi pi : Int) (hmi : mi = (m : Int)) (hpi : pi = (p : Int)) (hm : m ≤ 1000000) (hp : p ≤ 900) (hl : m ^ p ≤ 16777216) : f_tuples [.int mi, .int pi] = some (.list (rowsD (tups m p)), [.int mi, .int pi]) := by
  have okm : ok62 mi = true := by rw [hmi]; exact okN hm
  have hu : upTo 0 mi = (List.range m).map fun (k : Nat) => (.int (k : Int) : D) := by rw [hmi]; exact upTo_nat m
  have lp := forL_list (G := gSet 3) (fb := (aSeq (aSet 2 Tt2) aNil)) (enc := fun (k : Nat) => (.int (k : Int) : D)) (l := List.range p) (pre := []) (Q := fun q ρ => ∃ o3 o4 o5, ρ = [some (.int mi), some (.int pi), some (.list (rowsD (tups m q.length))), o3, o4, o5]) (ρ := [some (.int mi), some (.int pi), some (.list [.tuple []]), none, none, none]) ⟨_, _, _, rfl⟩ fun q x s es ρ hρ => by
    obtain ⟨o3, o4, o5, rfl⟩ := hρ
    have hq : q.length + 1 ≤ p := by
      have := congrArg List.length es
      simp at this
      omega
    have hle : (tups m (q.length + 1)).length ≤ 16777216 := by rw [tups_len]; exact tups_pow_le hq hl
    have key := lcL2_map (G := gSet 4) (h := hYes) (gi1 := iRg1 ((gV 0) gN)) (t := Tt1) (vs := [4, 5]) (vs1 := [5]) (enc := rowD) (out := fun r => (List.range m).map fun x => rowD (r ++ [x])) (l := tups m q.length) (ρ := [some (.int mi), some (.int pi), some (.list (rowsD (tups m q.length))), some (.int (x : Int)), none, none]) fun r hr => by
      refine ⟨[some (.int mi), some (.int pi), some (.list (rowsD (tups m q.length))), some (.int (x : Int)), some (rowD r), none], [some (.int mi), some (.int pi), some (.list (rowsD (tups m q.length))), some (.int (x : Int)), some (rowD r), none], [some (.int mi), some (.int pi), some (.list (rowsD (tups m q.length))), some (.int (x : Int)), some (rowD r), none], [some (.int mi), some (.int pi), some (.list (rowsD (tups m q.length))), some (.int (x : Int)), some (rowD r), none], _, rfl, rfl, t2_rg mi _ _ _ _ _ okm hu, ?_, rfl⟩
      exact lcL_map (t := Tt1) (vs := [5]) (enc := fun (k : Nat) => (.int (k : Int) : D)) (out := fun x => rowD (r ++ [x])) (l := List.range m) (ρ := [some (.int mi), some (.int pi), some (.list (rowsD (tups m q.length))), some (.int (x : Int)), some (rowD r), none]) fun y _ => ⟨_, t1_turn (rowD r) _ (y : Int) _ _ _ _ (add_row (by rw [(tups_mem hr).1]; omega)), rfl⟩
    have e1 : (tups m q.length).flatMap (fun r => (List.range m).map fun x => rowD (r ++ [x])) = rowsD (tups m (q.length + 1)) := by
      rw [tups]
      unfold rowsD
      rw [List.map_flatMap]
      congr 1
      funext r
      rw [List.map_map]
      rfl
    rw [e1] at key
    have ht := t2_run mi _ _ (some (.int pi)) (some (.int (x : Int))) o4 o5 (by rw [rowsD_len]; exact hle) key
    refine ⟨_, _, rfl, ht, ?_⟩
    rw [List.length_append, List.length_singleton]
    exact ⟨_, _, _, rfl⟩
  obtain ⟨ρ', e, o3, o4, o5, rfl⟩ := lp
  rw [List.nil_append, List.length_range] at e
  exact t_end mi pi _ _ (by rw [hpi]; exact okN (by omega)) (by rw [hpi]; exact upTo_nat p) o3 o4 o5 e
end FG
namespace FG
open Sx PySem PySem.Spec PyProof.Rows L2 FH
theorem allL_map {α : Type} {enc : α → D} {t : Gt} {p : α → Bool} {P : Sx.Env → Prop} : ∀ {l : List α} {ρ : Sx.Env}, P ρ → (∀ a ∈ l, ∀ ρ, P ρ → ∃ ρ', t (enc a) ρ = some (ρ', some (.bool (p a))) ∧ P ρ') → allL t (l.map enc) ρ = some (l.all p)
  | [], ρ, _, _ => rfl
  | a :: l, ρ, hp, hs => by
    obtain ⟨ρ', h1, h2⟩ := hs a List.mem_cons_self ρ hp
    have ih := allL_map (l := l) h2 fun d hd => hs d (List.mem_cons_of_mem _ hd)
    rw [List.map_cons, List.all_cons]
    show ((t (enc a) ρ).bind _) = _
    rw [h1, Option.bind_some]
    cases p a with
    | false => rfl
    | true => exact ih
theorem in_row (l : List (List Nat)) (r : List Nat) : inA [rowD r, .tuple (rowsD l)] = some (.bool (decide (r ∈ l))) := by
  have h : inOk (rowD r) (rowsD l) = true := by
    unfold inOk
    rw [plain_row, plain_rows, Bool.true_and, Bool.true_and]
    exact decide_eq_true (by have := depth_row r; omega)
  have : inI [rowD r, .tuple (rowsD l)] = some (.bool (decide (r ∈ l))) := by
    rw [← any_row]
    exact if_pos h
  unfold inA
  rw [this]
  rfl
theorem enum_range : ∀ (K : List (List Nat)) (i : Nat), enumD i (rowsD K) = (List.range K.length).map fun j => (.tuple [.int ((i + j : Nat) : Int), rowD (K.getD j [])] : D)
  | [], _ => rfl
  | r :: K, i => by
    show (.tuple [.int (i : Int), rowD r] : D) :: enumD (i + 1) (rowsD K) = _
    rw [enum_range K (i + 1), List.length_cons, List.range_succ_eq_map, List.map_cons, List.map_map]
    congr 1
    refine List.map_congr_left fun j _ => ?_
    show (.tuple [.int ((i + 1 + j : Nat) : Int), rowD (K.getD j [])] : D) = .tuple [.int ((i + (j + 1) : Nat) : Int), rowD ((r :: K).getD (j + 1) [])]
    have : i + 1 + j = i + (j + 1) := by omega
    rw [this]
    rfl
def pick (K : List (List Nat)) (line row : List Nat) : List Nat := (line.zip row).map fun q => (K.getD q.1 []).getD q.2 0
def fair (K rows more : List (List Nat)) (line : List Nat) : Bool := rows.all fun row => decide (pick K line row ∈ more)
def fnRows (K : List (List Nat)) (k : Nat) (rows more : List (List Nat)) : List (List Nat) := (tups K.length k).filter (fair K rows more)
def fnR (K : List (List Nat)) (p : Rel × Rel) : Rel := ⟨p.1.name, p.1.k, fnRows K p.1.k p.1.rows p.2.rows⟩
/-! one place -/
abbrev A1 : Gt := (gTurn (gSet 0) hYes (fOp inA ((gE (eTup (gE (fOp ixA ((gV 2) ((gE (fOp ixA ((gV 0) ((gE (eC (.int 0))) gN)))) gN))) gN))) ((gV 1) gN))))
theorem a1_turn (rr mo fi : D) (i v : Int) (c : Bool) (o : Option D) (e1 : ixA [rr, .int 0] = some (.int i)) (e2 : ixA [fi, .int i] = some (.int v)) (e3 : inA [.tuple [.int v], mo] = some (.bool c)) : A1 rr [o, some mo, some fi] = some ([some rr, some mo, some fi], some (.bool c)) := by
  simp only [A1, e1, e2, e3, x_seq, x_seq1, x_seq2, x_seq3, x_seq4, x_nil, x_brk, x_cnt, x_if, x_if1, x_if2, x_set, x_set1, x_ret, x_ret1, x_retN, x_drop, x_drop1, x_ev, x_ev1, x_et, x_et1, x_ec, x_gn, x_ge, x_ge1, x_ge2, x_gv, x_gv1, x_gv2, x_gv3, x_op, x_op1, x_hop, x_hop1, x_hop2, x_tru, x_tru1, x_not, x_not1, x_and, x_and1, x_and2, x_or, x_or1, x_or2, x_yes, x_tup, x_tup1, x_lst, x_lst1, x_eif, x_eif1, x_eif2, x_notE, x_notE1, x_eand, x_eand1, x_eand2, x_eor, x_eor1, x_eor2, x_call, x_call1, x_call2, x_put1, x_put2, x_put3, x_body, x_body1, x_body2, x_app, x_app1, x_app2, x_app3, x_pt, x_pt1, x_pt2, x_pt3, x_pt4, x_pt5, x_ie, x_ie1, x_items1, x_items2, x_rg1, x_rg11, x_rg2, x_rg21, x_zip, x_zip1, x_zip2, x_gs, x_gt, x_gc, x_gl, x_asg, x_asg1, x_for, x_for1, x_turn, x_next1, x_next2, x_next3, x_next4, x_tn, x_tn1, x_tn2, x_tn3, x_tn4, x_lc, x_lc1, x_lc2, x_ld, x_ld1, x_w1, x_w2, x_tg, x_tg1, x_tg2, x_sm, x_sm1, x_sm2, x_al, x_al1, x_ay, x_ay1, x_bl, x_bk1, x_bk2, x_jn, x_pr1, x_pr2, Option.bind_some, Option.bind_none, Option.map_some, Option.map_none, List.map_cons, List.map_nil, List.replicate_succ, List.replicate_zero, List.cons_append, List.nil_append, List.append_nil, List.getElem?_cons_zero, List.getElem?_cons_succ, List.set_cons_zero, List.set_cons_succ, List.length_cons, List.length_nil, Nat.zero_add, Nat.reduceAdd, Nat.reduceLeDiff, Nat.reduceLT]
theorem a1_loop (K rows more : List (List Nat)) (i m : Nat) (hK : ∀ u ∈ K, u.length = m) (hi : i < K.length) (hr : ∀ r ∈ rows, r.length = 1 ∧ ∀ x ∈ r, x < m) : allL A1 (rowsD rows) [none, some (.tuple (rowsD more)), some (rowD (K.getD i []))] = some (fair K rows more [i]) := by
  refine allL_map (t := A1) (enc := rowD) (p := fun row => decide (pick K [i] row ∈ more)) (P := fun ρ => ∃ o, ρ = [o, some (.tuple (rowsD more)), some (rowD (K.getD i []))]) (l := rows) (ρ := [none, some (.tuple (rowsD more)), some (rowD (K.getD i []))]) ⟨_, rfl⟩ fun r hr' ρ hρ => ?_
  obtain ⟨o, rfl⟩ := hρ
  obtain ⟨h1, h2⟩ := hr r hr'
  have hu : (K.getD i []).length = m := by
    rw [List.getD_eq_getElem?_getD, List.getElem?_eq_getElem hi]
    exact hK _ (List.getElem_mem hi)
  match r, h1, h2 with
  | [x], _, h2 =>
    have hx := h2 x List.mem_cons_self
    have e3 := in_row more (pick K [i] [x])
    exact ⟨_, a1_turn (rowD [x]) _ _ (x : Int) _ _ o (ix_row (a := [x]) (k := 0) rfl) (ix_app (h := K.getD i []) (by omega)) e3, _, rfl⟩
abbrev C1g : Gv := (gTupT 2 (gsCons (gSet 9) (gsCons (gSet 10) gsNil)))
abbrev C1t : Gt := (gTurn C1g (hTru ((gE (eAll (iE (eV 6)) A1 [none, some 8, some 10])) gN)) (eTup (gE (eV 9) gN)))
theorem c1_turn (i : Int) (fi mo : D) (rws : List D) (c : Bool) (o0 o1 o2 o3 o4 o5 o7 o11 o12 o13 : Option D) (e : allL A1 rws [none, some mo, some fi] = some c) :
    C1t (.tuple [.int i, fi]) [o0, o1, o2, o3, o4, o5, some (.tuple rws), o7, some mo, none, none, o11, o12, o13] = some ([o0, o1, o2, o3, o4, o5, some (.tuple rws), o7, some mo, some (.int i), some fi, o11, o12, o13], if c = true then some (.tuple [.int i]) else none) := by
  have g0 : ∀ a9 a10 : Option D, C1g (.tuple [.int i, fi]) [o0, o1, o2, o3, o4, o5, some (.tuple rws), o7, some mo, a9, a10, o11, o12, o13] = some [o0, o1, o2, o3, o4, o5, some (.tuple rws), o7, some mo, some (.int i), some fi, o11, o12, o13] := fun _ _ => rfl
  cases c with
  | true => simp only [C1t, g0, e, tru_b, x_seq, x_seq1, x_seq2, x_seq3, x_seq4, x_nil, x_brk, x_cnt, x_if, x_if1, x_if2, x_set, x_set1, x_ret, x_ret1, x_retN, x_drop, x_drop1, x_ev, x_ev1, x_et, x_et1, x_ec, x_gn, x_ge, x_ge1, x_ge2, x_gv, x_gv1, x_gv2, x_gv3, x_op, x_op1, x_hop, x_hop1, x_hop2, x_tru, x_tru1, x_not, x_not1, x_and, x_and1, x_and2, x_or, x_or1, x_or2, x_yes, x_tup, x_tup1, x_lst, x_lst1, x_eif, x_eif1, x_eif2, x_notE, x_notE1, x_eand, x_eand1, x_eand2, x_eor, x_eor1, x_eor2, x_call, x_call1, x_call2, x_put1, x_put2, x_put3, x_body, x_body1, x_body2, x_app, x_app1, x_app2, x_app3, x_pt, x_pt1, x_pt2, x_pt3, x_pt4, x_pt5, x_ie, x_ie1, x_items1, x_items2, x_rg1, x_rg11, x_rg2, x_rg21, x_zip, x_zip1, x_zip2, x_gs, x_gt, x_gc, x_gl, x_asg, x_asg1, x_for, x_for1, x_turn, x_next1, x_next2, x_next3, x_next4, x_tn, x_tn1, x_tn2, x_tn3, x_tn4, x_lc, x_lc1, x_lc2, x_ld, x_ld1, x_w1, x_w2, x_tg, x_tg1, x_tg2, x_sm, x_sm1, x_sm2, x_al, x_al1, x_ay, x_ay1, x_bl, x_bk1, x_bk2, x_jn, x_pr1, x_pr2, Option.bind_some, Option.bind_none, Option.map_some, Option.map_none, List.map_cons, List.map_nil, List.replicate_succ, List.replicate_zero, List.cons_append, List.nil_append, List.append_nil, List.getElem?_cons_zero, List.getElem?_cons_succ, List.set_cons_zero, List.set_cons_succ, List.length_cons, List.length_nil, Nat.zero_add, Nat.reduceAdd, Nat.reduceLeDiff, Nat.reduceLT]; rfl
  | false => simp only [C1t, g0, e, tru_b, x_seq, x_seq1, x_seq2, x_seq3, x_seq4, x_nil, x_brk, x_cnt, x_if, x_if1, x_if2, x_set, x_set1, x_ret, x_ret1, x_retN, x_drop, x_drop1, x_ev, x_ev1, x_et, x_et1, x_ec, x_gn, x_ge, x_ge1, x_ge2, x_gv, x_gv1, x_gv2, x_gv3, x_op, x_op1, x_hop, x_hop1, x_hop2, x_tru, x_tru1, x_not, x_not1, x_and, x_and1, x_and2, x_or, x_or1, x_or2, x_yes, x_tup, x_tup1, x_lst, x_lst1, x_eif, x_eif1, x_eif2, x_notE, x_notE1, x_eand, x_eand1, x_eand2, x_eor, x_eor1, x_eor2, x_call, x_call1, x_call2, x_put1, x_put2, x_put3, x_body, x_body1, x_body2, x_app, x_app1, x_app2, x_app3, x_pt, x_pt1, x_pt2, x_pt3, x_pt4, x_pt5, x_ie, x_ie1, x_items1, x_items2, x_rg1, x_rg11, x_rg2, x_rg21, x_zip, x_zip1, x_zip2, x_gs, x_gt, x_gc, x_gl, x_asg, x_asg1, x_for, x_for1, x_turn, x_next1, x_next2, x_next3, x_next4, x_tn, x_tn1, x_tn2, x_tn3, x_tn4, x_lc, x_lc1, x_lc2, x_ld, x_ld1, x_w1, x_w2, x_tg, x_tg1, x_tg2, x_sm, x_sm1, x_sm2, x_al, x_al1, x_ay, x_ay1, x_bl, x_bk1, x_bk2, x_jn, x_pr1, x_pr2, Option.bind_some, Option.bind_none, Option.map_some, Option.map_none, List.map_cons, List.map_nil, List.replicate_succ, List.replicate_zero, List.cons_append, List.nil_append, List.append_nil, List.getElem?_cons_zero, List.getElem?_cons_succ, List.set_cons_zero, List.set_cons_succ, List.length_cons, List.length_nil, Nat.zero_add, Nat.reduceAdd, Nat.reduceLeDiff, Nat.reduceLT]; rfl
theorem c1_loop (K rows more : List (List Nat)) (m : Nat) (hK : ∀ u ∈ K, u.length = m) (hr : ∀ r ∈ rows, r.length = 1 ∧ ∀ x ∈ r, x < m) (o0 o1 o2 o3 o4 o5 o7 o11 o12 o13 : Option D) :
    lcL [9, 10] C1t (enumD 0 (rowsD K)) [o0, o1, o2, o3, o4, o5, some (.tuple (rowsD rows)), o7, some (.tuple (rowsD more)), none, none, o11, o12, o13] = some ([o0, o1, o2, o3, o4, o5, some (.tuple (rowsD rows)), o7, some (.tuple (rowsD more)), none, none, o11, o12, o13], rowsD (fnRows K 1 rows more)) := by
  have key := lcL_filter (t := C1t) (vs := [9, 10]) (enc := fun (j : Nat) => (.tuple [.int ((0 + j : Nat) : Int), rowD (K.getD j [])] : D)) (out := fun j => rowD [j]) (p := fun j => fair K rows more [j]) (l := List.range K.length) (ρ := [o0, o1, o2, o3, o4, o5, some (.tuple (rowsD rows)), o7, some (.tuple (rowsD more)), none, none, o11, o12, o13]) fun j hj => by
    have e := a1_loop K rows more j m hK (List.mem_range.mp hj) hr
    refine ⟨[o0, o1, o2, o3, o4, o5, some (.tuple (rowsD rows)), o7, some (.tuple (rowsD more)), some (.int (j : Int)), some (rowD (K.getD j [])), o11, o12, o13], ?_, rfl⟩
    rw [Nat.zero_add]
    exact c1_turn (j : Int) _ _ _ _ o0 o1 o2 o3 o4 o5 o7 o11 o12 o13 e
  rw [enum_range, key]
  unfold fnRows rowsD
  rw [tups_one, List.filter_map, List.map_map]
  rfl
/-! two places -/
abbrev A2 : Gt := (gTurn (gSet 0) hYes (fOp inA ((gE (eTup (gE (fOp ixA ((gV 2) ((gE (fOp ixA ((gV 0) ((gE (eC (.int 0))) gN)))) gN))) (gE (fOp ixA ((gV 3) ((gE (fOp ixA ((gV 0) ((gE (eC (.int 1))) gN)))) gN))) gN)))) ((gV 1) gN))))
theorem a2_turn (rr mo fi se : D) (i j v w : Int) (c : Bool) (o : Option D) (e1 : ixA [rr, .int 0] = some (.int i)) (f1 : ixA [rr, .int 1] = some (.int j)) (e2 : ixA [fi, .int i] = some (.int v)) (f2 : ixA [se, .int j] = some (.int w)) (e3 : inA [.tuple [.int v, .int w], mo] = some (.bool c)) : A2 rr [o, some mo, some fi, some se] = some ([some rr, some mo, some fi, some se], some (.bool c)) := by
  simp only [A2, e1, f1, e2, f2, e3, x_seq, x_seq1, x_seq2, x_seq3, x_seq4, x_nil, x_brk, x_cnt, x_if, x_if1, x_if2, x_set, x_set1, x_ret, x_ret1, x_retN, x_drop, x_drop1, x_ev, x_ev1, x_et, x_et1, x_ec, x_gn, x_ge, x_ge1, x_ge2, x_gv, x_gv1, x_gv2, x_gv3, x_op, x_op1, x_hop, x_hop1, x_hop2, x_tru, x_tru1, x_not, x_not1, x_and, x_and1, x_and2, x_or, x_or1, x_or2, x_yes, x_tup, x_tup1, x_lst, x_lst1, x_eif, x_eif1, x_eif2, x_notE, x_notE1, x_eand, x_eand1, x_eand2, x_eor, x_eor1, x_eor2, x_call, x_call1, x_call2, x_put1, x_put2, x_put3, x_body, x_body1, x_body2, x_app, x_app1, x_app2, x_app3, x_pt, x_pt1, x_pt2, x_pt3, x_pt4, x_pt5, x_ie, x_ie1, x_items1, x_items2, x_rg1, x_rg11, x_rg2, x_rg21, x_zip, x_zip1, x_zip2, x_gs, x_gt, x_gc, x_gl, x_asg, x_asg1, x_for, x_for1, x_turn, x_next1, x_next2, x_next3, x_next4, x_tn, x_tn1, x_tn2, x_tn3, x_tn4, x_lc, x_lc1, x_lc2, x_ld, x_ld1, x_w1, x_w2, x_tg, x_tg1, x_tg2, x_sm, x_sm1, x_sm2, x_al, x_al1, x_ay, x_ay1, x_bl, x_bk1, x_bk2, x_jn, x_pr1, x_pr2, Option.bind_some, Option.bind_none, Option.map_some, Option.map_none, List.map_cons, List.map_nil, List.replicate_succ, List.replicate_zero, List.cons_append, List.nil_append, List.append_nil, List.getElem?_cons_zero, List.getElem?_cons_succ, List.set_cons_zero, List.set_cons_succ, List.length_cons, List.length_nil, Nat.zero_add, Nat.reduceAdd, Nat.reduceLeDiff, Nat.reduceLT]
theorem a2_loop (K rows more : List (List Nat)) (i j m : Nat) (hK : ∀ u ∈ K, u.length = m) (hi : i < K.length) (hj : j < K.length) (hr : ∀ r ∈ rows, r.length = 2 ∧ ∀ x ∈ r, x < m) : allL A2 (rowsD rows) [none, some (.tuple (rowsD more)), some (rowD (K.getD i [])), some (rowD (K.getD j []))] = some (fair K rows more [i, j]) := by
  refine allL_map (t := A2) (enc := rowD) (p := fun row => decide (pick K [i, j] row ∈ more)) (P := fun ρ => ∃ o, ρ = [o, some (.tuple (rowsD more)), some (rowD (K.getD i [])), some (rowD (K.getD j []))]) (l := rows) (ρ := [none, some (.tuple (rowsD more)), some (rowD (K.getD i [])), some (rowD (K.getD j []))]) ⟨_, rfl⟩ fun r hr' ρ hρ => ?_
  obtain ⟨o, rfl⟩ := hρ
  obtain ⟨h1, h2⟩ := hr r hr'
  have hu : ∀ i, i < K.length → (K.getD i []).length = m := fun i hi => by
    rw [List.getD_eq_getElem?_getD, List.getElem?_eq_getElem hi]
    exact hK _ (List.getElem_mem hi)
  match r, h1, h2 with
  | [x, y], _, h2 =>
    have hx := h2 x List.mem_cons_self
    have hy := h2 y (List.mem_cons_of_mem _ List.mem_cons_self)
    have e3 := in_row more (pick K [i, j] [x, y])
    exact ⟨_, a2_turn (rowD [x, y]) _ _ _ (x : Int) (y : Int) _ _ _ o (ix_row (a := [x, y]) (k := 0) rfl) (ix_row (a := [x, y]) (k := 1) rfl) (ix_app (h := K.getD i []) (by rw [hu i hi]; exact hx)) (ix_app (h := K.getD j []) (by rw [hu j hj]; exact hy)) e3, _, rfl⟩
abbrev C2g : Gv := (gTupT 2 (gsCons (gSet 12) (gsCons (gSet 13) gsNil)))
abbrev C2t : Gt := (gTurn C2g (hTru ((gE (eAll (iE (eV 6)) A2 [none, some 8, some 10, some 13])) gN)) (eTup (gE (eV 9) (gE (eV 12) gN))))
theorem c2_turn (i j : Int) (fi se mo : D) (rws : List D) (c : Bool) (o0 o1 o2 o3 o4 o5 o7 o11 : Option D) (e : allL A2 rws [none, some mo, some fi, some se] = some c) :
    C2t (.tuple [.int j, se]) [o0, o1, o2, o3, o4, o5, some (.tuple rws), o7, some mo, some (.int i), some fi, o11, none, none] = some ([o0, o1, o2, o3, o4, o5, some (.tuple rws), o7, some mo, some (.int i), some fi, o11, some (.int j), some se], if c = true then some (.tuple [.int i, .int j]) else none) := by
  have g0 : ∀ a9 a10 : Option D, C2g (.tuple [.int j, se]) [o0, o1, o2, o3, o4, o5, some (.tuple rws), o7, some mo, some (.int i), some fi, o11, a9, a10] = some [o0, o1, o2, o3, o4, o5, some (.tuple rws), o7, some mo, some (.int i), some fi, o11, some (.int j), some se] := fun _ _ => rfl
  cases c with
  | true => simp only [C2t, g0, e, tru_b, x_seq, x_seq1, x_seq2, x_seq3, x_seq4, x_nil, x_brk, x_cnt, x_if, x_if1, x_if2, x_set, x_set1, x_ret, x_ret1, x_retN, x_drop, x_drop1, x_ev, x_ev1, x_et, x_et1, x_ec, x_gn, x_ge, x_ge1, x_ge2, x_gv, x_gv1, x_gv2, x_gv3, x_op, x_op1, x_hop, x_hop1, x_hop2, x_tru, x_tru1, x_not, x_not1, x_and, x_and1, x_and2, x_or, x_or1, x_or2, x_yes, x_tup, x_tup1, x_lst, x_lst1, x_eif, x_eif1, x_eif2, x_notE, x_notE1, x_eand, x_eand1, x_eand2, x_eor, x_eor1, x_eor2, x_call, x_call1, x_call2, x_put1, x_put2, x_put3, x_body, x_body1, x_body2, x_app, x_app1, x_app2, x_app3, x_pt, x_pt1, x_pt2, x_pt3, x_pt4, x_pt5, x_ie, x_ie1, x_items1, x_items2, x_rg1, x_rg11, x_rg2, x_rg21, x_zip, x_zip1, x_zip2, x_gs, x_gt, x_gc, x_gl, x_asg, x_asg1, x_for, x_for1, x_turn, x_next1, x_next2, x_next3, x_next4, x_tn, x_tn1, x_tn2, x_tn3, x_tn4, x_lc, x_lc1, x_lc2, x_ld, x_ld1, x_w1, x_w2, x_tg, x_tg1, x_tg2, x_sm, x_sm1, x_sm2, x_al, x_al1, x_ay, x_ay1, x_bl, x_bk1, x_bk2, x_jn, x_pr1, x_pr2, Option.bind_some, Option.bind_none, Option.map_some, Option.map_none, List.map_cons, List.map_nil, List.replicate_succ, List.replicate_zero, List.cons_append, List.nil_append, List.append_nil, List.getElem?_cons_zero, List.getElem?_cons_succ, List.set_cons_zero, List.set_cons_succ, List.length_cons, List.length_nil, Nat.zero_add, Nat.reduceAdd, Nat.reduceLeDiff, Nat.reduceLT]; rfl
  | false => simp only [C2t, g0, e, tru_b, x_seq, x_seq1, x_seq2, x_seq3, x_seq4, x_nil, x_brk, x_cnt, x_if, x_if1, x_if2, x_set, x_set1, x_ret, x_ret1, x_retN, x_drop, x_drop1, x_ev, x_ev1, x_et, x_et1, x_ec, x_gn, x_ge, x_ge1, x_ge2, x_gv, x_gv1, x_gv2, x_gv3, x_op, x_op1, x_hop, x_hop1, x_hop2, x_tru, x_tru1, x_not, x_not1, x_and, x_and1, x_and2, x_or, x_or1, x_or2, x_yes, x_tup, x_tup1, x_lst, x_lst1, x_eif, x_eif1, x_eif2, x_notE, x_notE1, x_eand, x_eand1, x_eand2, x_eor, x_eor1, x_eor2, x_call, x_call1, x_call2, x_put1, x_put2, x_put3, x_body, x_body1, x_body2, x_app, x_app1, x_app2, x_app3, x_pt, x_pt1, x_pt2, x_pt3, x_pt4, x_pt5, x_ie, x_ie1, x_items1, x_items2, x_rg1, x_rg11, x_rg2, x_rg21, x_zip, x_zip1, x_zip2, x_gs, x_gt, x_gc, x_gl, x_asg, x_asg1, x_for, x_for1, x_turn, x_next1, x_next2, x_next3, x_next4, x_tn, x_tn1, x_tn2, x_tn3, x_tn4, x_lc, x_lc1, x_lc2, x_ld, x_ld1, x_w1, x_w2, x_tg, x_tg1, x_tg2, x_sm, x_sm1, x_sm2, x_al, x_al1, x_ay, x_ay1, x_bl, x_bk1, x_bk2, x_jn, x_pr1, x_pr2, Option.bind_some, Option.bind_none, Option.map_some, Option.map_none, List.map_cons, List.map_nil, List.replicate_succ, List.replicate_zero, List.cons_append, List.nil_append, List.append_nil, List.getElem?_cons_zero, List.getElem?_cons_succ, List.set_cons_zero, List.set_cons_succ, List.length_cons, List.length_nil, Nat.zero_add, Nat.reduceAdd, Nat.reduceLeDiff, Nat.reduceLT]; rfl
theorem enu_2 (kn : List D) (o0 o1 o3 o4 o5 o6 o7 o8 o9 o10 o11 o12 o13 : Option D) : iEnu (gE (eV 2) gN) [o0, o1, some (.list kn), o3, o4, o5, o6, o7, o8, o9, o10, o11, o12, o13] = some ([o0, o1, some (.list kn), o3, o4, o5, o6, o7, o8, o9, o10, o11, o12, o13], enumD 0 kn) := by
  simp only [x_seq, x_seq1, x_seq2, x_seq3, x_seq4, x_nil, x_brk, x_cnt, x_if, x_if1, x_if2, x_set, x_set1, x_ret, x_ret1, x_retN, x_drop, x_drop1, x_ev, x_ev1, x_et, x_et1, x_ec, x_gn, x_ge, x_ge1, x_ge2, x_gv, x_gv1, x_gv2, x_gv3, x_op, x_op1, x_hop, x_hop1, x_hop2, x_tru, x_tru1, x_not, x_not1, x_and, x_and1, x_and2, x_or, x_or1, x_or2, x_yes, x_tup, x_tup1, x_lst, x_lst1, x_eif, x_eif1, x_eif2, x_notE, x_notE1, x_eand, x_eand1, x_eand2, x_eor, x_eor1, x_eor2, x_call, x_call1, x_call2, x_put1, x_put2, x_put3, x_body, x_body1, x_body2, x_app, x_app1, x_app2, x_app3, x_pt, x_pt1, x_pt2, x_pt3, x_pt4, x_pt5, x_ie, x_ie1, x_items1, x_items2, x_rg1, x_rg11, x_rg2, x_rg21, x_zip, x_zip1, x_zip2, x_gs, x_gt, x_gc, x_gl, x_asg, x_asg1, x_for, x_for1, x_turn, x_next1, x_next2, x_next3, x_next4, x_tn, x_tn1, x_tn2, x_tn3, x_tn4, x_lc, x_lc1, x_lc2, x_ld, x_ld1, x_w1, x_w2, x_tg, x_tg1, x_tg2, x_sm, x_sm1, x_sm2, x_al, x_al1, x_ay, x_ay1, x_bl, x_bk1, x_bk2, x_jn, x_pr1, x_pr2, x_enu, x_enu1, x_par, x_par1, Option.bind_some, Option.bind_none, Option.map_some, Option.map_none, List.map_cons, List.map_nil, List.replicate_succ, List.replicate_zero, List.cons_append, List.nil_append, List.append_nil, List.getElem?_cons_zero, List.getElem?_cons_succ, List.set_cons_zero, List.set_cons_succ, List.length_cons, List.length_nil, Nat.zero_add, Nat.reduceAdd, Nat.reduceLeDiff, Nat.reduceLT]
theorem c2_loop (K rows more : List (List Nat)) (m : Nat) (hK : ∀ u ∈ K, u.length = m) (hr : ∀ r ∈ rows, r.length = 2 ∧ ∀ x ∈ r, x < m) (o0 o1 o3 o4 o5 o7 o11 : Option D) :
    lcL2 [9, 10, 12, 13] [12, 13] C1g hYes (iEnu (gE (eV 2) gN)) C2t (enumD 0 (rowsD K)) [o0, o1, some (.list (rowsD K)), o3, o4, o5, some (.tuple (rowsD rows)), o7, some (.tuple (rowsD more)), none, none, o11, none, none] = some ([o0, o1, some (.list (rowsD K)), o3, o4, o5, some (.tuple (rowsD rows)), o7, some (.tuple (rowsD more)), none, none, o11, none, none], rowsD (fnRows K 2 rows more)) := by
  have key := lcL2_map (G := C1g) (h := hYes) (gi1 := iEnu (gE (eV 2) gN)) (t := C2t) (vs := [9, 10, 12, 13]) (vs1 := [12, 13]) (enc := fun (j : Nat) => (.tuple [.int ((0 + j : Nat) : Int), rowD (K.getD j [])] : D)) (out := fun i => ((List.range K.length).filter fun j => fair K rows more [i, j]).map fun j => rowD [i, j]) (l := List.range K.length) (ρ := [o0, o1, some (.list (rowsD K)), o3, o4, o5, some (.tuple (rowsD rows)), o7, some (.tuple (rowsD more)), none, none, o11, none, none]) fun i hi => by
    rw [Nat.zero_add]
    have env := [o0, o1, some (.list (rowsD K)), o3, o4, o5, some (.tuple (rowsD rows)), o7, some (.tuple (rowsD more)), some (.int (i : Int)), some (rowD (K.getD i [])), o11, none, none]
    refine ⟨[o0, o1, some (.list (rowsD K)), o3, o4, o5, some (.tuple (rowsD rows)), o7, some (.tuple (rowsD more)), some (.int (i : Int)), some (rowD (K.getD i [])), o11, none, none], [o0, o1, some (.list (rowsD K)), o3, o4, o5, some (.tuple (rowsD rows)), o7, some (.tuple (rowsD more)), some (.int (i : Int)), some (rowD (K.getD i [])), o11, none, none], [o0, o1, some (.list (rowsD K)), o3, o4, o5, some (.tuple (rowsD rows)), o7, some (.tuple (rowsD more)), some (.int (i : Int)), some (rowD (K.getD i [])), o11, none, none], [o0, o1, some (.list (rowsD K)), o3, o4, o5, some (.tuple (rowsD rows)), o7, some (.tuple (rowsD more)), some (.int (i : Int)), some (rowD (K.getD i [])), o11, none, none], _, rfl, rfl, enu_2 _ _ _ _ _ _ _ _ _ _ _ _ _ _, ?_, rfl⟩
    rw [enum_range]
    exact lcL_filter (t := C2t) (vs := [12, 13]) (enc := fun (j : Nat) => (.tuple [.int ((0 + j : Nat) : Int), rowD (K.getD j [])] : D)) (out := fun j => rowD [i, j]) (p := fun j => fair K rows more [i, j]) (l := List.range K.length) (ρ := [o0, o1, some (.list (rowsD K)), o3, o4, o5, some (.tuple (rowsD rows)), o7, some (.tuple (rowsD more)), some (.int (i : Int)), some (rowD (K.getD i [])), o11, none, none]) fun j hj => by
      have e := a2_loop K rows more i j m hK (List.mem_range.mp hi) (List.mem_range.mp hj) hr
      refine ⟨[o0, o1, some (.list (rowsD K)), o3, o4, o5, some (.tuple (rowsD rows)), o7, some (.tuple (rowsD more)), some (.int (i : Int)), some (rowD (K.getD i [])), o11, some (.int (j : Int)), some (rowD (K.getD j []))], ?_, rfl⟩
      rw [Nat.zero_add]
      exact c2_turn (i : Int) (j : Int) _ _ _ _ _ o0 o1 _ o3 o4 o5 o7 o11 e
  rw [← enum_range] at key
  rw [key]
  have e2 : tups K.length 2 = (List.range K.length).flatMap fun i => (List.range K.length).map fun j => [i, j] := by
    rw [show (2 : Nat) = 1 + 1 from rfl, tups, tups_one, List.flatMap_map]
    rfl
  have e3 : rowsD (fnRows K 2 rows more) = (List.range K.length).flatMap fun i => ((List.range K.length).filter fun j => fair K rows more [i, j]).map fun j => rowD [i, j] := by
    unfold fnRows rowsD
    rw [e2, List.filter_flatMap, List.map_flatMap]
    congr 1
    funext i
    rw [List.filter_map, List.map_map]
    rfl
  rw [e3]
end FG
namespace FG
open Sx PySem PySem.Spec PyProof.Rows L2 FH
abbrev Tf0 : Sv := (aSeq (aIf (hOp eqI ((gV 5) ((gE (eC (.int 1))) gN))) (aSeq (aSet 11 (eLc (iEnu (gE (eV 2) gN)) C1t [9, 10]))
    aNil) (aSeq (aSet 11 (eLc2 (iEnu (gE (eV 2) gN)) C1g hYes (iEnu (gE (eV 2) gN)) C2t [9, 10, 12, 13] [12, 13]))
    aNil))
    (aSeq (aApp 3 (eTup (gE (eV 4) (gE (eV 5) (gE (fOp tupI ((gV 11) gN)) gN)))))
    aNil))
theorem f_run1 (kn en out acc : List D) (nm mo ro : D) (o0 o1 o7 o9 o10 o11 o12 o13 : Option D) (he : enumD 0 kn = en) (hl : out.length ≤ 16777216) (hs : acc.length < 16777216)
    (e : lcL [9, 10] C1t en [o0, o1, some (.list kn), some (.list acc), some nm, some (.int 1), some ro, o7, some mo, none, none, o11, o12, o13] = some ([o0, o1, some (.list kn), some (.list acc), some nm, some (.int 1), some ro, o7, some mo, none, none, o11, o12, o13], out)) :
    Tf0 [o0, o1, some (.list kn), some (.list acc), some nm, some (.int 1), some ro, o7, some mo, o9, o10, o11, o12, o13] = some (.nx [o0, o1, some (.list kn), some (.list (acc ++ [.tuple [nm, .int 1, .tuple out]])), some nm, some (.int 1), some ro, o7, some mo, o9, o10, some (.list out), o12, o13]) := by
  subst he
  simp only [Tf0, eq_ii, decide_true, e, tup_i, x_lc2 hl, x_app3 hs, x_seq, x_seq1, x_seq2, x_seq3, x_seq4, x_nil, x_brk, x_cnt, x_if, x_if1, x_if2, x_set, x_set1, x_ret, x_ret1, x_retN, x_drop, x_drop1, x_ev, x_ev1, x_et, x_et1, x_ec, x_gn, x_ge, x_ge1, x_ge2, x_gv, x_gv1, x_gv2, x_gv3, x_op, x_op1, x_hop, x_hop1, x_hop2, x_tru, x_tru1, x_not, x_not1, x_and, x_and1, x_and2, x_or, x_or1, x_or2, x_yes, x_tup, x_tup1, x_lst, x_lst1, x_eif, x_eif1, x_eif2, x_notE, x_notE1, x_eand, x_eand1, x_eand2, x_eor, x_eor1, x_eor2, x_call, x_call1, x_call2, x_put1, x_put2, x_put3, x_body, x_body1, x_body2, x_app, x_app1, x_app2, x_app3, x_pt, x_pt1, x_pt2, x_pt3, x_pt4, x_pt5, x_ie, x_ie1, x_items1, x_items2, x_rg1, x_rg11, x_rg2, x_rg21, x_zip, x_zip1, x_zip2, x_gs, x_gt, x_gc, x_gl, x_asg, x_asg1, x_for, x_for1, x_turn, x_next1, x_next2, x_next3, x_next4, x_tn, x_tn1, x_tn2, x_tn3, x_tn4, x_lc, x_lc1, x_lc2, x_ld, x_ld1, x_w1, x_w2, x_tg, x_tg1, x_tg2, x_sm, x_sm1, x_sm2, x_al, x_al1, x_ay, x_ay1, x_bl, x_bk1, x_bk2, x_jn, x_pr1, x_pr2, x_enu, x_enu1, x_par, x_par1, Option.bind_some, Option.bind_none, Option.map_some, Option.map_none, List.map_cons, List.map_nil, List.replicate_succ, List.replicate_zero, List.cons_append, List.nil_append, List.append_nil, List.getElem?_cons_zero, List.getElem?_cons_succ, List.set_cons_zero, List.set_cons_succ, List.length_cons, List.length_nil, Nat.zero_add, Nat.reduceAdd, Nat.reduceLeDiff, Nat.reduceLT]
theorem f_run2 (kn en out acc : List D) (nm mo ro : D) (ki : Int) (hne : decide (ki = 1) = false) (o0 o1 o7 o9 o10 o11 o12 o13 : Option D) (he : enumD 0 kn = en) (hl : out.length ≤ 16777216) (hs : acc.length < 16777216)
    (e : lcL2 [9, 10, 12, 13] [12, 13] C1g hYes (iEnu (gE (eV 2) gN)) C2t en [o0, o1, some (.list kn), some (.list acc), some nm, some (.int ki), some ro, o7, some mo, none, none, o11, none, none] = some ([o0, o1, some (.list kn), some (.list acc), some nm, some (.int ki), some ro, o7, some mo, none, none, o11, none, none], out)) :
    Tf0 [o0, o1, some (.list kn), some (.list acc), some nm, some (.int ki), some ro, o7, some mo, o9, o10, o11, o12, o13] = some (.nx [o0, o1, some (.list kn), some (.list (acc ++ [.tuple [nm, .int ki, .tuple out]])), some nm, some (.int ki), some ro, o7, some mo, o9, o10, some (.list out), o12, o13]) := by
  subst he
  simp only [Tf0, eq_ii, hne, e, tup_i, x_lc2 hl, x_app3 hs, x_seq, x_seq1, x_seq2, x_seq3, x_seq4, x_nil, x_brk, x_cnt, x_if, x_if1, x_if2, x_set, x_set1, x_ret, x_ret1, x_retN, x_drop, x_drop1, x_ev, x_ev1, x_et, x_et1, x_ec, x_gn, x_ge, x_ge1, x_ge2, x_gv, x_gv1, x_gv2, x_gv3, x_op, x_op1, x_hop, x_hop1, x_hop2, x_tru, x_tru1, x_not, x_not1, x_and, x_and1, x_and2, x_or, x_or1, x_or2, x_yes, x_tup, x_tup1, x_lst, x_lst1, x_eif, x_eif1, x_eif2, x_notE, x_notE1, x_eand, x_eand1, x_eand2, x_eor, x_eor1, x_eor2, x_call, x_call1, x_call2, x_put1, x_put2, x_put3, x_body, x_body1, x_body2, x_app, x_app1, x_app2, x_app3, x_pt, x_pt1, x_pt2, x_pt3, x_pt4, x_pt5, x_ie, x_ie1, x_items1, x_items2, x_rg1, x_rg11, x_rg2, x_rg21, x_zip, x_zip1, x_zip2, x_gs, x_gt, x_gc, x_gl, x_asg, x_asg1, x_for, x_for1, x_turn, x_next1, x_next2, x_next3, x_next4, x_tn, x_tn1, x_tn2, x_tn3, x_tn4, x_lc, x_lc1, x_lc2, x_ld, x_ld1, x_w1, x_w2, x_tg, x_tg1, x_tg2, x_sm, x_sm1, x_sm2, x_al, x_al1, x_ay, x_ay1, x_bl, x_bk1, x_bk2, x_jn, x_pr1, x_pr2, x_enu, x_enu1, x_par, x_par1, Option.bind_some, Option.bind_none, Option.map_some, Option.map_none, List.map_cons, List.map_nil, List.replicate_succ, List.replicate_zero, List.cons_append, List.nil_append, List.append_nil, List.getElem?_cons_zero, List.getElem?_cons_succ, List.set_cons_zero, List.set_cons_succ, List.length_cons, List.length_nil, Nat.zero_add, Nat.reduceAdd, Nat.reduceLeDiff, Nat.reduceLT]
theorem fn_len (K : List (List Nat)) (k : Nat) (rows more : List (List Nat)) (hK : K.length ≤ 1000) (hk : k ≤ 2) : (rowsD (fnRows K k rows more)).length ≤ 16777216 := by
  rw [rowsD_len]
  refine Nat.le_trans (List.length_filter_le _ _) ?_
  rw [tups_len]
  exact Nat.le_trans (Nat.pow_le_pow_left hK k) (Nat.le_trans (Nat.pow_le_pow_right (by decide) hk) (by decide))
theorem f_turn (K : List (List Nat)) (m : Nat) (hK : ∀ u ∈ K, u.length = m) (hKl : K.length ≤ 1000) (p : Rel × Rel) (f1 : Fit m p.1) (acc : List D) (hs : acc.length < 16777216) (o0 o1 o7 o9 o10 o11 o12 o13 : Option D) :
    Tf0 [o0, o1, some (.list (rowsD K)), some (.list acc), some (.str p.1.name), some (.int (p.1.k : Int)), some (.tuple (rowsD p.1.rows)), o7, some (.tuple (rowsD p.2.rows)), o9, o10, o11, o12, o13] = some (.nx [o0, o1, some (.list (rowsD K)), some (.list (acc ++ [relD (fnR K p)])), some (.str p.1.name), some (.int (p.1.k : Int)), some (.tuple (rowsD p.1.rows)), o7, some (.tuple (rowsD p.2.rows)), o9, o10, some (.list (rowsD (fnRows K p.1.k p.1.rows p.2.rows))), o12, o13]) := by
  have hl := fn_len K p.1.k p.1.rows p.2.rows hKl f1.k2
  have hk : p.1.k = 1 ∨ p.1.k = 2 := by have := f1.k1; have := f1.k2; omega
  show _ = some (Out.nx [o0, o1, some (.list (rowsD K)), some (.list (acc ++ [.tuple [.str p.1.name, .int (p.1.k : Int), .tuple (rowsD (fnRows K p.1.k p.1.rows p.2.rows))]])), some (.str p.1.name), some (.int (p.1.k : Int)), some (.tuple (rowsD p.1.rows)), o7, some (.tuple (rowsD p.2.rows)), o9, o10, some (.list (rowsD (fnRows K p.1.k p.1.rows p.2.rows))), o12, o13])
  have hrow := f1.row
  rcases hk with hk | hk
  · rw [hk] at hl hrow ⊢
    have e := c1_loop K p.1.rows p.2.rows m hK hrow o0 o1 (some (.list (rowsD K))) (some (.list acc)) (some (.str p.1.name)) (some (.int 1)) o7 o11 o12 o13
    exact f_run1 (rowsD K) _ _ acc _ _ _ o0 o1 o7 o9 o10 o11 o12 o13 rfl hl hs e
  · rw [hk] at hl hrow ⊢
    have e := c2_loop K p.1.rows p.2.rows m hK hrow o0 o1 (some (.list acc)) (some (.str p.1.name)) (some (.int 2)) o7 o11
    exact f_run2 (rowsD K) _ _ acc _ _ _ 2 rfl o0 o1 o7 o9 o10 o11 o12 o13 rfl hl hs e
theorem f_end (s1 s2 : D) (q1 q2 q3 kn : List D) (mi ni li : Int) (i1 : ixA [s1, .int 2] = some (.tuple q1)) (i2 : ixA [s2, .int 2] = some (.tuple q2)) (i3 : ixA [s1, .int 1] = some (.int mi)) (i4 : ixA [s2, .int 1] = some (.int ni)) (et : f_tuples [.int ni, .int mi] = some (.list kn, [.int ni, .int mi])) (il : lenI [.list kn] = some (.int li)) (o4 o5 o6 o7 o8 o9 o10 o11 o12 o13 : Option D)
    (e : forL Gzip Tf0 (pairsD q1 q2) [some s1, some s2, some (.list kn), some (.list []), none, none, none, none, none, none, none, none, none, none] = some (.nx [some s1, some s2, some (.list kn), some (.list q3), o4, o5, o6, o7, o8, o9, o10, o11, o12, o13])) :
    f_functions [s1, s2] = some (.tuple [.str "structure", .int li, .tuple q3], [s1, s2]) := by
  have z : ∀ ρ : Sx.Env, kLs0 (ρ, []) = some (ρ, .list []) := fun _ => rfl
  simp only [f_functions, b_functions, i1, i2, i3, i4, et, il, z, e, tup_i, x_seq, x_seq1, x_seq2, x_seq3, x_seq4, x_nil, x_brk, x_cnt, x_if, x_if1, x_if2, x_set, x_set1, x_ret, x_ret1, x_retN, x_drop, x_drop1, x_ev, x_ev1, x_et, x_et1, x_ec, x_gn, x_ge, x_ge1, x_ge2, x_gv, x_gv1, x_gv2, x_gv3, x_op, x_op1, x_hop, x_hop1, x_hop2, x_tru, x_tru1, x_not, x_not1, x_and, x_and1, x_and2, x_or, x_or1, x_or2, x_yes, x_tup, x_tup1, x_lst, x_lst1, x_eif, x_eif1, x_eif2, x_notE, x_notE1, x_eand, x_eand1, x_eand2, x_eor, x_eor1, x_eor2, x_call, x_call1, x_call2, x_put1, x_put2, x_put3, x_body, x_body1, x_body2, x_app, x_app1, x_app2, x_app3, x_pt, x_pt1, x_pt2, x_pt3, x_pt4, x_pt5, x_ie, x_ie1, x_items1, x_items2, x_rg1, x_rg11, x_rg2, x_rg21, x_zip, x_zip1, x_zip2, x_gs, x_gt, x_gc, x_gl, x_asg, x_asg1, x_for, x_for1, x_turn, x_next1, x_next2, x_next3, x_next4, x_tn, x_tn1, x_tn2, x_tn3, x_tn4, x_lc, x_lc1, x_lc2, x_ld, x_ld1, x_w1, x_w2, x_tg, x_tg1, x_tg2, x_sm, x_sm1, x_sm2, x_al, x_al1, x_ay, x_ay1, x_bl, x_bk1, x_bk2, x_jn, x_pr1, x_pr2, Option.bind_some, Option.bind_none, Option.map_some, Option.map_none, List.map_cons, List.map_nil, List.replicate_succ, List.replicate_zero, List.cons_append, List.nil_append, List.append_nil, List.getElem?_cons_zero, List.getElem?_cons_succ, List.set_cons_zero, List.set_cons_succ, List.length_cons, List.length_nil, Nat.zero_add, Nat.reduceAdd, Nat.reduceLeDiff, Nat.reduceLT]
  rfl
/-- the structure of functions -/
theorem functions_ok (m n : Nat) (mi ni li : Int) (hmi : mi = (m : Int)) (hni : ni = (n : Int)) (hm : m ≤ 5) (hn : n ≤ 3) (hli : li = ((n ^ m : Nat) : Int)) (ps : List (Rel × Rel)) (hps : ps.length ≤ 3) (h1 : ∀ p ∈ ps, Fit m p.1) :
    f_functions [strI mi (ps.map (·.1)), strI ni (ps.map (·.2))] = some (strI li (ps.map (fnR (tups n m))), [strI mi (ps.map (·.1)), strI ni (ps.map (·.2))]) := by
  have hpow : n ^ m ≤ 243 := Nat.le_trans (Nat.pow_le_pow_left hn m) (Nat.le_trans (Nat.pow_le_pow_right (by decide) hm) (by decide))
  have et := tuples_ok n m ni mi hni hmi (by omega) (by omega) (by omega)
  have i1 : ixA [strI mi (ps.map (·.1)), .int 2] = some (.tuple (ps.map fun p => relD p.1)) := by rw [ix_str2, List.map_map]; rfl
  have i2 : ixA [strI ni (ps.map (·.2)), .int 2] = some (.tuple (ps.map fun p => relD p.2)) := by rw [ix_str2, List.map_map]; rfl
  have i3 := @ix_str1 mi (ps.map (·.1))
  have i4 := @ix_str1 ni (ps.map (·.2))
  have hout : strI li (ps.map (fnR (tups n m))) = .tuple [.str "structure", .int li, .tuple (ps.map fun p => relD (fnR (tups n m) p))] := by unfold strI; rw [List.map_map]; rfl
  have il : lenI [.list (rowsD (tups n m))] = some (.int li) := by rw [len_l, rowsD_len, tups_len, hli]
  rw [hout]
  generalize strI mi (ps.map (·.1)) = s1 at i1 i3 ⊢
  generalize strI ni (ps.map (·.2)) = s2 at i2 i4 ⊢
  have lp := forL_list (G := Gzip) (fb := Tf0) (enc := fun p : Rel × Rel => .tuple [relD p.1, relD p.2]) (l := ps) (pre := []) (Q := fun p ρ => ∃ o4 o5 o6 o7 o8 o9 o10 o11 o12 o13, ρ = [some s1, some s2, some (.list (rowsD (tups n m))), some (.list (p.map fun p => relD (fnR (tups n m) p))), o4, o5, o6, o7, o8, o9, o10, o11, o12, o13]) (ρ := [some s1, some s2, some (.list (rowsD (tups n m))), some (.list []), none, none, none, none, none, none, none, none, none, none]) ⟨_, _, _, _, _, _, _, _, _, _, rfl⟩ fun p a s es ρ hρ => by
    obtain ⟨o4, o5, o6, o7, o8, o9, o10, o11, o12, o13, rfl⟩ := hρ
    rw [List.nil_append] at es
    have ha : a ∈ ps := by rw [es]; simp
    have hp : p.length ≤ 3 := by
      have := congrArg List.length es
      rw [List.length_append] at this
      omega
    have ht := f_turn (tups n m) m (fun u hu => (tups_mem hu).1) (by rw [tups_len]; omega) a (h1 a ha) (p.map fun p => relD (fnR (tups n m) p)) (by rw [List.length_map]; omega) (some s1) (some s2) (some (.int (a.2.k : Int))) o9 o10 o11 o12 o13
    refine ⟨_, _, rfl, ht, ?_⟩
    rw [List.map_append]
    exact ⟨_, _, _, _, _, _, _, _, _, _, rfl⟩
  obtain ⟨ρ', e, o4, o5, o6, o7, o8, o9, o10, o11, o12, o13, rfl⟩ := lp
  rw [← pairs_map (fun p : Rel × Rel => relD p.1) (fun p => relD p.2), List.nil_append] at e
  exact f_end s1 s2 _ _ _ _ mi ni li i1 i2 i3 i4 et il _ _ _ _ _ _ _ _ _ _ e
/-! the law's own -/
abbrev L0t : Gt := (gTurn (gSet 12) hYes (fOp ixA ((gE (fOp ixA ((gV 2) ((gE (fOp ixA ((gV 9) ((gV 12) gN)))) gN)))) ((gE (fOp ixA ((gV 11) ((gV 12) gN)))) gN))))
theorem l0_turn (kn ra ln rr : D) (k i j v : Int) (o0 o1 o3 o4 o5 o6 o7 o8 o10 : Option D) (e1 : ixA [ln, .int k] = some (.int i)) (e2 : ixA [kn, .int i] = some ra) (e3 : ixA [rr, .int k] = some (.int j)) (e4 : ixA [ra, .int j] = some (.int v)) :
    L0t (.int k) [o0, o1, some kn, o3, o4, o5, o6, o7, o8, some ln, o10, some rr, none] = some ([o0, o1, some kn, o3, o4, o5, o6, o7, o8, some ln, o10, some rr, some (.int k)], some (.int v)) := by
  simp only [L0t, e1, e2, e3, e4, x_seq, x_seq1, x_seq2, x_seq3, x_seq4, x_nil, x_brk, x_cnt, x_if, x_if1, x_if2, x_set, x_set1, x_ret, x_ret1, x_retN, x_drop, x_drop1, x_ev, x_ev1, x_et, x_et1, x_ec, x_gn, x_ge, x_ge1, x_ge2, x_gv, x_gv1, x_gv2, x_gv3, x_op, x_op1, x_hop, x_hop1, x_hop2, x_tru, x_tru1, x_not, x_not1, x_and, x_and1, x_and2, x_or, x_or1, x_or2, x_yes, x_tup, x_tup1, x_lst, x_lst1, x_eif, x_eif1, x_eif2, x_notE, x_notE1, x_eand, x_eand1, x_eand2, x_eor, x_eor1, x_eor2, x_call, x_call1, x_call2, x_put1, x_put2, x_put3, x_body, x_body1, x_body2, x_app, x_app1, x_app2, x_app3, x_pt, x_pt1, x_pt2, x_pt3, x_pt4, x_pt5, x_ie, x_ie1, x_items1, x_items2, x_rg1, x_rg11, x_rg2, x_rg21, x_zip, x_zip1, x_zip2, x_gs, x_gt, x_gc, x_gl, x_asg, x_asg1, x_for, x_for1, x_turn, x_next1, x_next2, x_next3, x_next4, x_tn, x_tn1, x_tn2, x_tn3, x_tn4, x_lc, x_lc1, x_lc2, x_ld, x_ld1, x_w1, x_w2, x_tg, x_tg1, x_tg2, x_sm, x_sm1, x_sm2, x_al, x_al1, x_ay, x_ay1, x_bl, x_bk1, x_bk2, x_jn, x_pr1, x_pr2, Option.bind_some, Option.bind_none, Option.map_some, Option.map_none, List.map_cons, List.map_nil, List.replicate_succ, List.replicate_zero, List.cons_append, List.nil_append, List.append_nil, List.getElem?_cons_zero, List.getElem?_cons_succ, List.set_cons_zero, List.set_cons_succ, List.length_cons, List.length_nil, Nat.zero_add, Nat.reduceAdd, Nat.reduceLeDiff, Nat.reduceLT]
theorem ix_rows {K : List (List Nat)} {i : Nat} (h : i < K.length) : ixA [.list (rowsD K), .int (i : Int)] = some (rowD (K.getD i [])) := by
  refine ixA_list ?_
  unfold rowsD
  rw [List.getElem?_map, List.getElem?_eq_getElem h, List.getD_eq_getElem?_getD, List.getElem?_eq_getElem h]
  rfl
theorem l0_loop (K : List (List Nat)) (m : Nat) (hK : ∀ u ∈ K, u.length = m) (line row : List Nat) (ki : Int) (hki : ki = ((line.zip row).length : Int)) (hl : ∀ i ∈ line, i < K.length) (hr : ∀ x ∈ row, x < m) (o0 o1 o3 o4 o5 o6 o7 o8 o10 : Option D) :
    lcL [12] L0t (upTo 0 ki) [o0, o1, some (.list (rowsD K)), o3, o4, o5, o6, o7, o8, some (rowD line), o10, some (rowD row), none] = some ([o0, o1, some (.list (rowsD K)), o3, o4, o5, o6, o7, o8, some (rowD line), o10, some (rowD row), none], (pick K line row).map fun (n : Nat) => (.int (n : Int) : D)) := by
  have key := lcL_map (t := L0t) (vs := [12]) (enc := fun q : (Nat × Nat) × Nat => (.int (q.2 : Int) : D)) (out := fun q => (.int (((K.getD q.1.1 []).getD q.1.2 0 : Nat) : Int) : D)) (l := (line.zip row).zipIdx) (ρ := [o0, o1, some (.list (rowsD K)), o3, o4, o5, o6, o7, o8, some (rowD line), o10, some (rowD row), none]) fun q hq => by
    have hq := List.mk_mem_zipIdx_iff_getElem?.mp (show (q.1, q.2) ∈ (line.zip row).zipIdx from hq)
    obtain ⟨h3, h4⟩ := List.getElem?_zip_eq_some.mp hq
    have hi := hl _ (List.mem_of_getElem? h3)
    have hj := hr _ (List.mem_of_getElem? h4)
    have hu : (K.getD q.1.1 []).length = m := by
      rw [List.getD_eq_getElem?_getD, List.getElem?_eq_getElem hi]
      exact hK _ (List.getElem_mem hi)
    exact ⟨_, l0_turn _ _ _ _ (q.2 : Int) _ _ _ o0 o1 o3 o4 o5 o6 o7 o8 o10 (ix_row h3) (ix_rows hi) (ix_row h4) (ix_app (by rw [hu]; exact hj)), rfl⟩
  rw [← upTo_zip hki] at key
  rw [key]
  unfold pick
  rw [List.map_map]
  have : (fun q : (Nat × Nat) × Nat => (.int (((K.getD q.1.1 []).getD q.1.2 0 : Nat) : Int) : D)) = ((fun (n : Nat) => (.int (n : Int) : D)) ∘ fun p : Nat × Nat => (K.getD p.1 []).getD p.2 0) ∘ Prod.fst := rfl
  rw [this, ← List.map_map, List.zipIdx_map_fst]
end FG
namespace FG
open Sx PySem PySem.Spec PyProof.Rows L2 FH
abbrev Tl1 : Sv := (aSeq (aIf (hOp niA ((gE (fOp tupI ((gE (eLc (iRg1 ((gV 6) gN)) L0t [12])) gN))) ((gE (fOp ixA ((gE (fOp ixA ((gE (fOp ixA ((gV 1) ((gE (eC (.int 2))) gN)))) ((gV 4) gN)))) ((gE (eC (.int 2))) gN)))) gN))) (aSeq (aSet 10 (eC (.bool false)))
    aNil) aNil)
    aNil)
theorem l1_run (two kn ln rr : D) (q2 out rws : List D) (k ki kj : Int) (nm : D) (b c : Bool) (o0 o3 o5 o7 o8 o12 : Option D) (ok : ok62 ki = true) (hl : out.length ≤ 16777216) (i2 : ixA [two, .int 2] = some (.tuple q2)) (hk : ixA [.tuple q2, .int k] = some (.tuple [nm, .int kj, .tuple rws]))
    (key : lcL [12] L0t (upTo 0 ki) [o0, some two, some kn, o3, some (.int k), o5, some (.int ki), o7, o8, some ln, some (.bool b), some rr, none] = some ([o0, some two, some kn, o3, some (.int k), o5, some (.int ki), o7, o8, some ln, some (.bool b), some rr, none], out)) (hn : niA [.tuple out, .tuple rws] = some (.bool (!c))) :
    Tl1 [o0, some two, some kn, o3, some (.int k), o5, some (.int ki), o7, o8, some ln, some (.bool b), some rr, o12] = some (.nx [o0, some two, some kn, o3, some (.int k), o5, some (.int ki), o7, o8, some ln, some (.bool (b && c)), some rr, o12]) := by
  have i3 : ixA [.tuple [nm, .int kj, .tuple rws], .int 2] = some (.tuple rws) := rfl
  cases c with
  | true => simp only [Tl1, i2, hk, i3, x_rg11 ok, key, tup_i, x_lc2 hl, hn, Bool.not_true, Bool.and_true, x_seq, x_seq1, x_seq2, x_seq3, x_seq4, x_nil, x_brk, x_cnt, x_if, x_if1, x_if2, x_set, x_set1, x_ret, x_ret1, x_retN, x_drop, x_drop1, x_ev, x_ev1, x_et, x_et1, x_ec, x_gn, x_ge, x_ge1, x_ge2, x_gv, x_gv1, x_gv2, x_gv3, x_op, x_op1, x_hop, x_hop1, x_hop2, x_tru, x_tru1, x_not, x_not1, x_and, x_and1, x_and2, x_or, x_or1, x_or2, x_yes, x_tup, x_tup1, x_lst, x_lst1, x_eif, x_eif1, x_eif2, x_notE, x_notE1, x_eand, x_eand1, x_eand2, x_eor, x_eor1, x_eor2, x_call, x_call1, x_call2, x_put1, x_put2, x_put3, x_body, x_body1, x_body2, x_app, x_app1, x_app2, x_app3, x_pt, x_pt1, x_pt2, x_pt3, x_pt4, x_pt5, x_ie, x_ie1, x_items1, x_items2, x_rg1, x_rg11, x_rg2, x_rg21, x_zip, x_zip1, x_zip2, x_gs, x_gt, x_gc, x_gl, x_asg, x_asg1, x_for, x_for1, x_turn, x_next1, x_next2, x_next3, x_next4, x_tn, x_tn1, x_tn2, x_tn3, x_tn4, x_lc, x_lc1, x_lc2, x_ld, x_ld1, x_w1, x_w2, x_tg, x_tg1, x_tg2, x_sm, x_sm1, x_sm2, x_al, x_al1, x_ay, x_ay1, x_bl, x_bk1, x_bk2, x_jn, x_pr1, x_pr2, Option.bind_some, Option.bind_none, Option.map_some, Option.map_none, List.map_cons, List.map_nil, List.replicate_succ, List.replicate_zero, List.cons_append, List.nil_append, List.append_nil, List.getElem?_cons_zero, List.getElem?_cons_succ, List.set_cons_zero, List.set_cons_succ, List.length_cons, List.length_nil, Nat.zero_add, Nat.reduceAdd, Nat.reduceLeDiff, Nat.reduceLT]
  | false => simp only [Tl1, i2, hk, i3, x_rg11 ok, key, tup_i, x_lc2 hl, hn, Bool.not_false, Bool.and_false, x_seq, x_seq1, x_seq2, x_seq3, x_seq4, x_nil, x_brk, x_cnt, x_if, x_if1, x_if2, x_set, x_set1, x_ret, x_ret1, x_retN, x_drop, x_drop1, x_ev, x_ev1, x_et, x_et1, x_ec, x_gn, x_ge, x_ge1, x_ge2, x_gv, x_gv1, x_gv2, x_gv3, x_op, x_op1, x_hop, x_hop1, x_hop2, x_tru, x_tru1, x_not, x_not1, x_and, x_and1, x_and2, x_or, x_or1, x_or2, x_yes, x_tup, x_tup1, x_lst, x_lst1, x_eif, x_eif1, x_eif2, x_notE, x_notE1, x_eand, x_eand1, x_eand2, x_eor, x_eor1, x_eor2, x_call, x_call1, x_call2, x_put1, x_put2, x_put3, x_body, x_body1, x_body2, x_app, x_app1, x_app2, x_app3, x_pt, x_pt1, x_pt2, x_pt3, x_pt4, x_pt5, x_ie, x_ie1, x_items1, x_items2, x_rg1, x_rg11, x_rg2, x_rg21, x_zip, x_zip1, x_zip2, x_gs, x_gt, x_gc, x_gl, x_asg, x_asg1, x_for, x_for1, x_turn, x_next1, x_next2, x_next3, x_next4, x_tn, x_tn1, x_tn2, x_tn3, x_tn4, x_lc, x_lc1, x_lc2, x_ld, x_ld1, x_w1, x_w2, x_tg, x_tg1, x_tg2, x_sm, x_sm1, x_sm2, x_al, x_al1, x_ay, x_ay1, x_bl, x_bk1, x_bk2, x_jn, x_pr1, x_pr2, Option.bind_some, Option.bind_none, Option.map_some, Option.map_none, List.map_cons, List.map_nil, List.replicate_succ, List.replicate_zero, List.cons_append, List.nil_append, List.append_nil, List.getElem?_cons_zero, List.getElem?_cons_succ, List.set_cons_zero, List.set_cons_succ, List.length_cons, List.length_nil, Nat.zero_add, Nat.reduceAdd, Nat.reduceLeDiff, Nat.reduceLT]
abbrev Tl2 : Sv := (aSeq (aSet 10 (eC (.bool true)))
    (aSeq (aFor (iE (eV 7)) (gSet 11) Tl1)
    (aSeq (aIf (hTru ((gV 10) gN)) (aSeq (aApp 8 (eV 9))
    aNil) aNil)
    aNil)))
theorem l2_run (ln : D) (rws acc : List D) (c : Bool) (o0 o1 o2 o3 o4 o5 o6 o10 o11 q11 o12 : Option D) (hs : acc.length < 16777216)
    (e : forL (gSet 11) Tl1 rws [o0, o1, o2, o3, o4, o5, o6, some (.tuple rws), some (.list acc), some ln, some (.bool true), o11, o12] = some (.nx [o0, o1, o2, o3, o4, o5, o6, some (.tuple rws), some (.list acc), some ln, some (.bool c), q11, o12])) :
    Tl2 [o0, o1, o2, o3, o4, o5, o6, some (.tuple rws), some (.list acc), some ln, o10, o11, o12] = some (.nx [o0, o1, o2, o3, o4, o5, o6, some (.tuple rws), some (.list (if c = true then acc ++ [ln] else acc)), some ln, some (.bool c), q11, o12]) := by
  cases c with
  | true =>
    simp only [Tl2, e, tru_b, x_app3 hs, x_seq, x_seq1, x_seq2, x_seq3, x_seq4, x_nil, x_brk, x_cnt, x_if, x_if1, x_if2, x_set, x_set1, x_ret, x_ret1, x_retN, x_drop, x_drop1, x_ev, x_ev1, x_et, x_et1, x_ec, x_gn, x_ge, x_ge1, x_ge2, x_gv, x_gv1, x_gv2, x_gv3, x_op, x_op1, x_hop, x_hop1, x_hop2, x_tru, x_tru1, x_not, x_not1, x_and, x_and1, x_and2, x_or, x_or1, x_or2, x_yes, x_tup, x_tup1, x_lst, x_lst1, x_eif, x_eif1, x_eif2, x_notE, x_notE1, x_eand, x_eand1, x_eand2, x_eor, x_eor1, x_eor2, x_call, x_call1, x_call2, x_put1, x_put2, x_put3, x_body, x_body1, x_body2, x_app, x_app1, x_app2, x_app3, x_pt, x_pt1, x_pt2, x_pt3, x_pt4, x_pt5, x_ie, x_ie1, x_items1, x_items2, x_rg1, x_rg11, x_rg2, x_rg21, x_zip, x_zip1, x_zip2, x_gs, x_gt, x_gc, x_gl, x_asg, x_asg1, x_for, x_for1, x_turn, x_next1, x_next2, x_next3, x_next4, x_tn, x_tn1, x_tn2, x_tn3, x_tn4, x_lc, x_lc1, x_lc2, x_ld, x_ld1, x_w1, x_w2, x_tg, x_tg1, x_tg2, x_sm, x_sm1, x_sm2, x_al, x_al1, x_ay, x_ay1, x_bl, x_bk1, x_bk2, x_jn, x_pr1, x_pr2, Option.bind_some, Option.bind_none, Option.map_some, Option.map_none, List.map_cons, List.map_nil, List.replicate_succ, List.replicate_zero, List.cons_append, List.nil_append, List.append_nil, List.getElem?_cons_zero, List.getElem?_cons_succ, List.set_cons_zero, List.set_cons_succ, List.length_cons, List.length_nil, Nat.zero_add, Nat.reduceAdd, Nat.reduceLeDiff, Nat.reduceLT]
    rfl
  | false =>
    simp only [Tl2, e, tru_b, x_seq, x_seq1, x_seq2, x_seq3, x_seq4, x_nil, x_brk, x_cnt, x_if, x_if1, x_if2, x_set, x_set1, x_ret, x_ret1, x_retN, x_drop, x_drop1, x_ev, x_ev1, x_et, x_et1, x_ec, x_gn, x_ge, x_ge1, x_ge2, x_gv, x_gv1, x_gv2, x_gv3, x_op, x_op1, x_hop, x_hop1, x_hop2, x_tru, x_tru1, x_not, x_not1, x_and, x_and1, x_and2, x_or, x_or1, x_or2, x_yes, x_tup, x_tup1, x_lst, x_lst1, x_eif, x_eif1, x_eif2, x_notE, x_notE1, x_eand, x_eand1, x_eand2, x_eor, x_eor1, x_eor2, x_call, x_call1, x_call2, x_put1, x_put2, x_put3, x_body, x_body1, x_body2, x_app, x_app1, x_app2, x_app3, x_pt, x_pt1, x_pt2, x_pt3, x_pt4, x_pt5, x_ie, x_ie1, x_items1, x_items2, x_rg1, x_rg11, x_rg2, x_rg21, x_zip, x_zip1, x_zip2, x_gs, x_gt, x_gc, x_gl, x_asg, x_asg1, x_for, x_for1, x_turn, x_next1, x_next2, x_next3, x_next4, x_tn, x_tn1, x_tn2, x_tn3, x_tn4, x_lc, x_lc1, x_lc2, x_ld, x_ld1, x_w1, x_w2, x_tg, x_tg1, x_tg2, x_sm, x_sm1, x_sm2, x_al, x_al1, x_ay, x_ay1, x_bl, x_bk1, x_bk2, x_jn, x_pr1, x_pr2, Option.bind_some, Option.bind_none, Option.map_some, Option.map_none, List.map_cons, List.map_nil, List.replicate_succ, List.replicate_zero, List.cons_append, List.nil_append, List.append_nil, List.getElem?_cons_zero, List.getElem?_cons_succ, List.set_cons_zero, List.set_cons_succ, List.length_cons, List.length_nil, Nat.zero_add, Nat.reduceAdd, Nat.reduceLeDiff, Nat.reduceLT]
    rfl
section
variable (K : List (List Nat)) (m : Nat) (hK : ∀ u ∈ K, u.length = m) (hKl : K.length ≤ 1000) (p : Rel × Rel) (f1 : Fit m p.1) (two : D) (q2 : List D) (k kj : Int) (nm : D) (i2 : ixA [two, .int 2] = some (.tuple q2)) (hk : ixA [.tuple q2, .int k] = some (.tuple [nm, .int kj, .tuple (rowsD p.2.rows)]))
include hK hKl f1 i2 hk
theorem l2_turn (line : List Nat) (hline : line ∈ tups K.length p.1.k) (acc : List D) (hs : acc.length < 16777216) (o0 o3 o5 o10 o11 o12 : Option D) :
    ∃ q10 q11, Tl2 [o0, some two, some (.list (rowsD K)), o3, some (.int k), o5, some (.int (p.1.k : Int)), some (.tuple (rowsD p.1.rows)), some (.list acc), some (rowD line), o10, o11, o12] = some (.nx [o0, some two, some (.list (rowsD K)), o3, some (.int k), o5, some (.int (p.1.k : Int)), some (.tuple (rowsD p.1.rows)), some (.list (if fair K p.1.rows p.2.rows line = true then acc ++ [rowD line] else acc)), some (rowD line), q10, q11, o12]) := by
  obtain ⟨hl1, hl2⟩ := tups_mem hline
  have hk1000 : p.1.k ≤ 1000 := by have := f1.k2; omega
  have lp := forL_list (G := gSet 11) (fb := Tl1) (enc := rowD) (l := p.1.rows) (pre := []) (Q := fun pre ρ => ∃ o11, ρ = [o0, some two, some (.list (rowsD K)), o3, some (.int k), o5, some (.int (p.1.k : Int)), some (.tuple (rowsD p.1.rows)), some (.list acc), some (rowD line), some (.bool (pre.all fun row => decide (pick K line row ∈ p.2.rows))), o11, o12]) (ρ := [o0, some two, some (.list (rowsD K)), o3, some (.int k), o5, some (.int (p.1.k : Int)), some (.tuple (rowsD p.1.rows)), some (.list acc), some (rowD line), some (.bool true), o11, o12]) ⟨_, rfl⟩ fun pre row s es ρ hρ => by
    obtain ⟨o11, rfl⟩ := hρ
    rw [List.nil_append] at es
    have hrow := f1.row row (by rw [es]; simp)
    have key := l0_loop K m hK line row (p.1.k : Int) (by rw [List.length_zip, hl1, hrow.1]; omega) hl2 hrow.2 o0 (some two) o3 (some (.int k)) o5 (some (.int (p.1.k : Int))) (some (.tuple (rowsD p.1.rows))) (some (.list acc)) (some (.bool (pre.all fun row => decide (pick K line row ∈ p.2.rows))))
    have hlen : ((pick K line row).map fun (n : Nat) => (.int (n : Int) : D)).length ≤ 16777216 := by
      unfold pick
      rw [List.length_map, List.length_map, List.length_zip]
      omega
    have ht := l1_run two (.list (rowsD K)) (rowD line) (rowD row) q2 _ (rowsD p.2.rows) k (p.1.k : Int) kj nm (pre.all fun row => decide (pick K line row ∈ p.2.rows)) (decide (pick K line row ∈ p.2.rows)) o0 o3 o5 (some (.tuple (rowsD p.1.rows))) (some (.list acc)) o12 (okN (by omega)) hlen i2 hk key (ni_row p.2.rows (pick K line row))
    refine ⟨_, _, rfl, ht, ?_⟩
    rw [List.all_append]
    exact ⟨some (rowD row), by rw [List.all_cons, List.all_nil, Bool.and_true]⟩
  obtain ⟨ρ', e, q11, rfl⟩ := lp
  have ht := l2_run (rowD line) (rowsD p.1.rows) acc (fair K p.1.rows p.2.rows line) o0 (some two) (some (.list (rowsD K))) o3 (some (.int k)) o5 (some (.int (p.1.k : Int))) o10 o11 q11 o12 hs e
  exact ⟨_, _, ht⟩
theorem l3_loop (o0 o3 o5 o9 o10 o11 o12 : Option D) :
    ∃ q9 q10 q11, forL (gSet 9) Tl2 (rowsD (tups K.length p.1.k)) [o0, some two, some (.list (rowsD K)), o3, some (.int k), o5, some (.int (p.1.k : Int)), some (.tuple (rowsD p.1.rows)), some (.list []), o9, o10, o11, o12] = some (.nx [o0, some two, some (.list (rowsD K)), o3, some (.int k), o5, some (.int (p.1.k : Int)), some (.tuple (rowsD p.1.rows)), some (.list (rowsD (fnRows K p.1.k p.1.rows p.2.rows))), q9, q10, q11, o12]) := by
  have hcount : (tups K.length p.1.k).length ≤ 1000000 := by
    rw [tups_len]
    exact Nat.le_trans (Nat.pow_le_pow_left hKl _) (Nat.le_trans (Nat.pow_le_pow_right (by decide) f1.k2) (by decide))
  have lp := forL_list (G := gSet 9) (fb := Tl2) (enc := rowD) (l := tups K.length p.1.k) (pre := []) (Q := fun pre ρ => ∃ o9 o10 o11, ρ = [o0, some two, some (.list (rowsD K)), o3, some (.int k), o5, some (.int (p.1.k : Int)), some (.tuple (rowsD p.1.rows)), some (.list (rowsD (pre.filter (fair K p.1.rows p.2.rows)))), o9, o10, o11, o12]) (ρ := [o0, some two, some (.list (rowsD K)), o3, some (.int k), o5, some (.int (p.1.k : Int)), some (.tuple (rowsD p.1.rows)), some (.list []), o9, o10, o11, o12]) ⟨_, _, _, rfl⟩ fun pre line s es ρ hρ => by
    obtain ⟨o9, o10, o11, rfl⟩ := hρ
    rw [List.nil_append] at es
    have hlen : (rowsD (pre.filter (fair K p.1.rows p.2.rows))).length < 16777216 := by
      rw [rowsD_len]
      have h1 := List.length_filter_le (fair K p.1.rows p.2.rows) pre
      have := congrArg List.length es
      rw [List.length_append] at this
      omega
    obtain ⟨q10, q11, ht⟩ := l2_turn K m hK hKl p f1 two q2 k kj nm i2 hk line (by rw [es]; simp) _ hlen o0 o3 o5 o10 o11 o12
    refine ⟨_, _, rfl, ht, some (rowD line), q10, q11, ?_⟩
    have : (if fair K p.1.rows p.2.rows line = true then rowsD (pre.filter (fair K p.1.rows p.2.rows)) ++ [rowD line] else rowsD (pre.filter (fair K p.1.rows p.2.rows))) = rowsD ((pre ++ [line]).filter (fair K p.1.rows p.2.rows)) := by
      rw [List.filter_append, List.filter_cons]
      cases fair K p.1.rows p.2.rows line with
      | true => rw [if_pos rfl, if_pos rfl, rowsD_app]; rfl
      | false => rw [if_neg (by decide), if_neg (by decide), List.filter_nil, List.append_nil]
    rw [this]
  obtain ⟨ρ', e, q9, q10, q11, rfl⟩ := lp
  exact ⟨q9, q10, q11, e⟩
end
abbrev Tl4 : Sv := (aSeq (aAsg (fOp ixA ((gE (fOp ixA ((gV 0) ((gE (eC (.int 2))) gN)))) ((gV 4) gN))) (gTupT 3 (gsCons (gSet 5) (gsCons (gSet 6) (gsCons (gSet 7) gsNil)))))
    (aSeq (aSet 8 (eLst gN))
    (aSeq (aFor (iE (eCall [none, none] f_law_tuples (gE (fOp lenI ((gV 2) gN)) (gE (eV 6) gN)))) (gSet 9) Tl2)
    (aSeq (aApp 3 (eTup (gE (eV 5) (gE (eV 6) (gE (fOp tupI ((gV 8) gN)) gN)))))
    aNil))))
theorem l4_run (one two kn : D) (q1 rws lines out acc : List D) (k ki li : Int) (nm : D) (o5 o6 o7 o8 o9 o10 o11 o12 q9 q10 q11 : Option D) (hs : acc.length < 16777216) (i1 : ixA [one, .int 2] = some (.tuple q1)) (hk : ixA [.tuple q1, .int k] = some (.tuple [nm, .int ki, .tuple rws])) (il : lenI [kn] = some (.int li)) (et : f_law_tuples [.int li, .int ki] = some (.list lines, [.int li, .int ki]))
    (e : forL (gSet 9) Tl2 lines [some one, some two, some kn, some (.list acc), some (.int k), some nm, some (.int ki), some (.tuple rws), some (.list []), o9, o10, o11, o12] = some (.nx [some one, some two, some kn, some (.list acc), some (.int k), some nm, some (.int ki), some (.tuple rws), some (.list out), q9, q10, q11, o12])) :
    Tl4 [some one, some two, some kn, some (.list acc), some (.int k), o5, o6, o7, o8, o9, o10, o11, o12] = some (.nx [some one, some two, some kn, some (.list (acc ++ [.tuple [nm, .int ki, .tuple out]])), some (.int k), some nm, some (.int ki), some (.tuple rws), some (.list out), q9, q10, q11, o12]) := by
  have z : ∀ ρ : Sx.Env, kLs0 (ρ, []) = some (ρ, .list []) := fun _ => rfl
  simp only [Tl4, i1, hk, il, et, z, e, tup_i, x_app3 hs, x_seq, x_seq1, x_seq2, x_seq3, x_seq4, x_nil, x_brk, x_cnt, x_if, x_if1, x_if2, x_set, x_set1, x_ret, x_ret1, x_retN, x_drop, x_drop1, x_ev, x_ev1, x_et, x_et1, x_ec, x_gn, x_ge, x_ge1, x_ge2, x_gv, x_gv1, x_gv2, x_gv3, x_op, x_op1, x_hop, x_hop1, x_hop2, x_tru, x_tru1, x_not, x_not1, x_and, x_and1, x_and2, x_or, x_or1, x_or2, x_yes, x_tup, x_tup1, x_lst, x_lst1, x_eif, x_eif1, x_eif2, x_notE, x_notE1, x_eand, x_eand1, x_eand2, x_eor, x_eor1, x_eor2, x_call, x_call1, x_call2, x_put1, x_put2, x_put3, x_body, x_body1, x_body2, x_app, x_app1, x_app2, x_app3, x_pt, x_pt1, x_pt2, x_pt3, x_pt4, x_pt5, x_ie, x_ie1, x_items1, x_items2, x_rg1, x_rg11, x_rg2, x_rg21, x_zip, x_zip1, x_zip2, x_gs, x_gt, x_gc, x_gl, x_asg, x_asg1, x_for, x_for1, x_turn, x_next1, x_next2, x_next3, x_next4, x_tn, x_tn1, x_tn2, x_tn3, x_tn4, x_lc, x_lc1, x_lc2, x_ld, x_ld1, x_w1, x_w2, x_tg, x_tg1, x_tg2, x_sm, x_sm1, x_sm2, x_al, x_al1, x_ay, x_ay1, x_bl, x_bk1, x_bk2, x_jn, x_pr1, x_pr2, Option.bind_some, Option.bind_none, Option.map_some, Option.map_none, List.map_cons, List.map_nil, List.replicate_succ, List.replicate_zero, List.cons_append, List.nil_append, List.append_nil, List.getElem?_cons_zero, List.getElem?_cons_succ, List.set_cons_zero, List.set_cons_succ, List.length_cons, List.length_nil, Nat.zero_add, Nat.reduceAdd, Nat.reduceLeDiff, Nat.reduceLT]
theorem lf_end (s1 s2 : D) (q1 q3 kn : List D) (mi ni li ln : Int) (i1 : ixA [s1, .int 2] = some (.tuple q1)) (i3 : ixA [s1, .int 1] = some (.int mi)) (i4 : ixA [s2, .int 1] = some (.int ni)) (et : f_law_tuples [.int ni, .int mi] = some (.list kn, [.int ni, .int mi])) (il : lenI [.tuple q1] = some (.int li)) (ok : ok62 li = true) (il2 : lenI [.list kn] = some (.int ln)) (o4 o5 o6 o7 o8 o9 o10 o11 o12 : Option D)
    (e : forL (gSet 4) Tl4 (upTo 0 li) [some s1, some s2, some (.list kn), some (.list []), none, none, none, none, none, none, none, none, none] = some (.nx [some s1, some s2, some (.list kn), some (.list q3), o4, o5, o6, o7, o8, o9, o10, o11, o12])) :
    f_law_functions [s1, s2] = some (.tuple [.str "structure", .int ln, .tuple q3], [s1, s2]) := by
  have z : ∀ ρ : Sx.Env, kLs0 (ρ, []) = some (ρ, .list []) := fun _ => rfl
  simp only [f_law_functions, b_law_functions, i1, i3, i4, et, il, il2, x_rg11 ok, z, e, tup_i, x_seq, x_seq1, x_seq2, x_seq3, x_seq4, x_nil, x_brk, x_cnt, x_if, x_if1, x_if2, x_set, x_set1, x_ret, x_ret1, x_retN, x_drop, x_drop1, x_ev, x_ev1, x_et, x_et1, x_ec, x_gn, x_ge, x_ge1, x_ge2, x_gv, x_gv1, x_gv2, x_gv3, x_op, x_op1, x_hop, x_hop1, x_hop2, x_tru, x_tru1, x_not, x_not1, x_and, x_and1, x_and2, x_or, x_or1, x_or2, x_yes, x_tup, x_tup1, x_lst, x_lst1, x_eif, x_eif1, x_eif2, x_notE, x_notE1, x_eand, x_eand1, x_eand2, x_eor, x_eor1, x_eor2, x_call, x_call1, x_call2, x_put1, x_put2, x_put3, x_body, x_body1, x_body2, x_app, x_app1, x_app2, x_app3, x_pt, x_pt1, x_pt2, x_pt3, x_pt4, x_pt5, x_ie, x_ie1, x_items1, x_items2, x_rg1, x_rg11, x_rg2, x_rg21, x_zip, x_zip1, x_zip2, x_gs, x_gt, x_gc, x_gl, x_asg, x_asg1, x_for, x_for1, x_turn, x_next1, x_next2, x_next3, x_next4, x_tn, x_tn1, x_tn2, x_tn3, x_tn4, x_lc, x_lc1, x_lc2, x_ld, x_ld1, x_w1, x_w2, x_tg, x_tg1, x_tg2, x_sm, x_sm1, x_sm2, x_al, x_al1, x_ay, x_ay1, x_bl, x_bk1, x_bk2, x_jn, x_pr1, x_pr2, Option.bind_some, Option.bind_none, Option.map_some, Option.map_none, List.map_cons, List.map_nil, List.replicate_succ, List.replicate_zero, List.cons_append, List.nil_append, List.append_nil, List.getElem?_cons_zero, List.getElem?_cons_succ, List.set_cons_zero, List.set_cons_succ, List.length_cons, List.length_nil, Nat.zero_add, Nat.reduceAdd, Nat.reduceLeDiff, Nat.reduceLT]
  rfl
theorem law_functions_ok (m n : Nat) (mi ni ln : Int) (hmi : mi = (m : Int)) (hni : ni = (n : Int)) (hm : m ≤ 5) (hn : n ≤ 3) (hln : ln = ((n ^ m : Nat) : Int)) (ps : List (Rel × Rel)) (hps : ps.length ≤ 3) (h1 : ∀ p ∈ ps, Fit m p.1) :
    f_law_functions [strI mi (ps.map (·.1)), strI ni (ps.map (·.2))] = some (strI ln (ps.map (fnR (tups n m))), [strI mi (ps.map (·.1)), strI ni (ps.map (·.2))]) := by
  have hpow : n ^ m ≤ 243 := Nat.le_trans (Nat.pow_le_pow_left hn m) (Nat.le_trans (Nat.pow_le_pow_right (by decide) hm) (by decide))
  have et := tup_ok n m ni mi hni hmi (by omega) (by omega) (by omega)
  obtain ⟨li, hli⟩ : ∃ li : Int, li = (ps.length : Int) := ⟨_, rfl⟩
  have hx1 := @ix_str1 mi (ps.map (·.1))
  have hx2 := @ix_str2 mi (ps.map (·.1))
  have hx3 := @ix_str2 ni (ps.map (·.2))
  have hx4 := @ix_str1 ni (ps.map (·.2))
  have hout : strI ln (ps.map (fnR (tups n m))) = .tuple [.str "structure", .int ln, .tuple (ps.map fun p => relD (fnR (tups n m) p))] := by unfold strI; rw [List.map_map]; rfl
  rw [hout]
  have il : lenI [.tuple ((ps.map (·.1)).map relD)] = some (.int li) := lenI_t (by rw [hli, List.length_map, List.length_map])
  have il2 : lenI [.list (rowsD (tups n m))] = some (.int ln) := by rw [len_l, rowsD_len, tups_len, hln]
  have ok : ok62 li = true := by rw [hli]; exact okN (by omega)
  generalize strI mi (ps.map (·.1)) = s1 at hx1 hx2 ⊢
  generalize strI ni (ps.map (·.2)) = s2 at hx3 hx4 ⊢
  have hK : ∀ u ∈ tups n m, u.length = m := fun u hu => (tups_mem hu).1
  have hKl : (tups n m).length ≤ 1000 := by rw [tups_len]; omega
  have hKn : ln = ((tups n m).length : Int) := by rw [tups_len, hln]
  clear hln
  generalize tups n m = K at *
  have lp := forL_idx (G := gSet 4) (fb := Tl4) (l := ps) (n := li) hli (Q := fun p ρ => ∃ o4 o5 o6 o7 o8 o9 o10 o11 o12, ρ = [some s1, some s2, some (.list (rowsD K)), some (.list (p.map fun p => relD (fnR K p))), o4, o5, o6, o7, o8, o9, o10, o11, o12]) (ρ := [some s1, some s2, some (.list (rowsD K)), some (.list []), none, none, none, none, none, none, none, none, none]) ⟨_, _, _, _, _, _, _, _, _, rfl⟩ fun i ii a hii hia ρ hρ => by
    obtain ⟨o4, o5, o6, o7, o8, o9, o10, o11, o12, rfl⟩ := hρ
    have ha : a ∈ ps := List.mem_of_getElem? hia
    have f1 := h1 a ha
    have hk1 : ixA [.tuple ((ps.map (·.1)).map relD), .int ii] = some (.tuple [.str a.1.name, .int (a.1.k : Int), .tuple (rowsD a.1.rows)]) := by
      rw [hii]
      refine ixA_tup ?_
      rw [List.map_map, List.getElem?_map, hia]
      rfl
    have hk2 : ixA [.tuple ((ps.map (·.2)).map relD), .int ii] = some (.tuple [.str a.2.name, .int (a.2.k : Int), .tuple (rowsD a.2.rows)]) := by
      rw [hii]
      refine ixA_tup ?_
      rw [List.map_map, List.getElem?_map, hia]
      rfl
    have hl3 : ((ps.take i).map fun p => relD (fnR K p)).length < 16777216 := by rw [List.length_map, List.length_take]; omega
    have e2 := tup_ok K.length a.1.k ln (a.1.k : Int) hKn rfl (by omega) (by have := f1.k2; omega) (Nat.le_trans (Nat.pow_le_pow_left hKl _) (Nat.le_trans (Nat.pow_le_pow_right (by decide) f1.k2) (by decide)))
    generalize (ps.map (·.1)).map relD = q1 at *
    generalize (ps.map (·.2)).map relD = q2 at *
    obtain ⟨q9, q10, q11, e3⟩ := l3_loop K m hK hKl a f1 s2 q2 ii _ _ hx3 hk2 (some s1) (some (.list ((ps.take i).map fun p => relD (fnR K p)))) (some (.str a.1.name)) o9 o10 o11 o12
    have ht := l4_run s1 s2 (.list (rowsD K)) q1 (rowsD a.1.rows) _ _ _ ii (a.1.k : Int) ln _ o5 o6 o7 o8 o9 o10 o11 o12 q9 q10 q11 hl3 hx2 hk1 il2 e2 e3
    refine ⟨_, _, rfl, ht, ?_⟩
    rw [List.map_append]
    exact ⟨_, _, _, _, _, _, _, _, _, rfl⟩
  obtain ⟨ρ', e, o4, o5, o6, o7, o8, o9, o10, o11, o12, rfl⟩ := lp
  exact lf_end s1 s2 _ _ _ mi ni li ln hx2 hx1 hx4 et il ok il2 o4 o5 o6 o7 o8 o9 o10 o11 o12 e
end FG
namespace FG
open Sx PySem PySem.Spec PyProof.Rows L2 FH
theorem nLt_irrefl : ∀ a : List Nat, nLt a a = false
  | [] => rfl
  | x :: a => by
    unfold nLt
    rw [if_pos rfl]
    exact nLt_irrefl a
theorem nLt_trans : ∀ {a b c : List Nat}, nLt a b = true → nLt b c = true → nLt a c = true
  | [], [], _, h, _ => by cases h
  | [], _ :: _, [], _, h => by cases h
  | [], _ :: _, _ :: _, _, _ => rfl
  | _ :: _, [], _, h, _ => by cases h
  | _ :: _, _ :: _, [], _, h => by cases h
  | x :: a, y :: b, z :: c, h1, h2 => by
    unfold nLt at h1 h2 ⊢
    by_cases e1 : x = y
    · rw [if_pos e1] at h1
      subst e1
      by_cases e2 : x = z
      · rw [if_pos e2] at h2 ⊢
        exact nLt_trans h1 h2
      · rw [if_neg e2] at h2 ⊢
        exact h2
    · rw [if_neg e1] at h1
      have h1 := of_decide_eq_true h1
      by_cases e2 : y = z
      · subst e2
        rw [if_neg e1]
        exact decide_eq_true h1
      · rw [if_neg e2] at h2
        have h2 := of_decide_eq_true h2
        rw [if_neg (by omega)]
        exact decide_eq_true (by omega)
theorem nLt_tri : ∀ a b : List Nat, nLt a b = true ∨ a = b ∨ nLt b a = true
  | [], [] => .inr (.inl rfl)
  | [], _ :: _ => .inl rfl
  | _ :: _, [] => .inr (.inr rfl)
  | x :: a, y :: b => by
    unfold nLt
    by_cases e : x = y
    · subst e
      rw [if_pos rfl, if_pos rfl]
      rcases nLt_tri a b with h | h | h
      · exact .inl h
      · exact .inr (.inl (by rw [h]))
      · exact .inr (.inr h)
    · rw [if_neg e, if_neg fun q => e q.symm]
      by_cases h : x < y
      · exact .inl (decide_eq_true h)
      · exact .inr (.inr (decide_eq_true (by omega)))
theorem nLe_iff {a b : List Nat} : nLe a b = true ↔ nLt a b = true ∨ a = b := by
  unfold nLe
  rcases nLt_tri a b with h | h | h
  · rw [nLt_asym h]; simp [h]
  · subst h; rw [nLt_irrefl]; simp
  · rw [h]
    constructor
    · intro q; cases q
    · rintro (q | q)
      · rw [nLt_asym q] at h; cases h
      · subst q; rw [nLt_irrefl] at h; cases h
theorem nLe_trans (a b c : List Nat) (h1 : nLe a b = true) (h2 : nLe b c = true) : nLe a c = true := by
  rw [nLe_iff] at h1 h2 ⊢
  rcases h1 with h1 | rfl
  · rcases h2 with h2 | rfl
    · exact .inl (nLt_trans h1 h2)
    · exact .inl h1
  · exact h2
theorem nLe_total (a b : List Nat) : (nLe a b || nLe b a) = true := by
  rw [Bool.or_eq_true, nLe_iff, nLe_iff]
  rcases nLt_tri a b with h | h | h
  · exact .inl (.inl h)
  · exact .inl (.inr h)
  · exact .inr (.inl h)
/-- a rising list and a list without doubles of the same members, sorted -/
theorem sort_same {l m : List (List Nat)} (h1 : l.Pairwise fun a b => nLt a b = true) (h2 : m.Nodup) (h : ∀ a, a ∈ l ↔ a ∈ m) : m.mergeSort nLe = l := by
  have n1 : l.Nodup := h1.imp fun {a b} h e => by subst e; rw [nLt_irrefl] at h; cases h
  have p : (m.mergeSort nLe).Perm l := (List.mergeSort_perm m nLe).trans ((List.perm_ext_iff_of_nodup h2 n1).mpr fun a => (h a).symm)
  refine List.Perm.eq_of_pairwise (le := fun a b => nLe a b = true) ?_ (List.pairwise_mergeSort nLe_trans nLe_total m) (h1.imp nLt_le) p
  intro a b _ _ h3 h4
  rw [nLe_iff] at h3 h4
  rcases h3 with h3 | h3
  · rcases h4 with h4 | h4
    · rw [nLt_asym h3] at h4; cases h4
    · exact h4.symm
  · exact h3
/-- rows of joined rows -/
theorem flat_get (K2 : List (List Nat)) (hB : 0 < K2.length) : ∀ (K1 : List (List Nat)) (i : Nat), i < K1.length * K2.length → (K1.flatMap fun u => K2.map fun v => u ++ v).getD i [] = K1.getD (i / K2.length) [] ++ K2.getD (i % K2.length) []
  | [], i, h => by rw [List.length_nil, Nat.zero_mul] at h; omega
  | u :: K1, i, h => by
    rw [List.length_cons, Nat.succ_mul] at h
    rw [List.flatMap_cons, List.getD_eq_getElem?_getD]
    by_cases hi : i < K2.length
    · rw [List.getElem?_append_left (by rw [List.length_map]; exact hi), List.getElem?_map, List.getElem?_eq_getElem hi, Nat.div_eq_of_lt hi, Nat.mod_eq_of_lt hi, List.getD_eq_getElem?_getD, List.getD_eq_getElem?_getD, List.getElem?_eq_getElem hi]
      rfl
    · rw [List.getElem?_append_right (by rw [List.length_map]; omega), List.length_map, ← List.getD_eq_getElem?_getD, flat_get K2 hB K1 (i - K2.length) (by omega)]
      have e1 : i / K2.length = (i - K2.length) / K2.length + 1 := by
        rw [← Nat.add_div_right _ hB, Nat.sub_add_cancel (by omega)]
      have e2 : i % K2.length = (i - K2.length) % K2.length := by
        rw [← Nat.add_mod_right (i - K2.length), Nat.sub_add_cancel (by omega)]
      rw [e1, e2]
      rfl
theorem gl {u v : List Nat} {x : Nat} (h : x < u.length) : (u ++ v).getD x 0 = u.getD x 0 := by
  rw [List.getD_eq_getElem?_getD, List.getD_eq_getElem?_getD, List.getElem?_append_left h]
theorem gr {u v : List Nat} {a x : Nat} (h : u.length = a) : (u ++ v).getD (a + x) 0 = v.getD x 0 := by
  subst h
  rw [List.getD_eq_getElem?_getD, List.getD_eq_getElem?_getD, List.getElem?_append_right (Nat.le_add_right _ _), Nat.add_sub_cancel_left]
section
variable (a b c : Nat) (hc : 0 < c)
include hc
theorem pos_pow (n : Nat) : 0 < (tups c n).length := by rw [tups_len]; exact Nat.pow_pos hc
theorem getD_len {n i : Nat} (h : i < (tups c n).length) : ((tups c n).getD i []).length = n := by
  rw [List.getD_eq_getElem?_getD, List.getElem?_eq_getElem h]
  exact (tups_mem (List.getElem_mem h)).1
theorem pick_left {w r : List Nat} (hw : ∀ i ∈ w, i < (tups c a).length * (tups c b).length) (hr : ∀ x ∈ r, x < a) : pick (tups c (a + b)) w r = pick (tups c a) (w.map (· / (tups c b).length)) r := by
  have hB := pos_pow c hc b
  unfold pick
  rw [List.zip_map_left, List.map_map]
  refine List.map_congr_left fun q hq => ?_
  obtain ⟨h1, h2⟩ := List.of_mem_zip (show (q.1, q.2) ∈ w.zip r from hq)
  have hi : q.1 / (tups c b).length < (tups c a).length := Nat.div_lt_of_lt_mul (by rw [Nat.mul_comm]; exact hw _ h1)
  show ((tups c (a + b)).getD q.1 []).getD q.2 0 = ((tups c a).getD (q.1 / (tups c b).length) []).getD q.2 0
  rw [tups_add, flat_get (tups c b) hB (tups c a) q.1 (hw _ h1), gl (by rw [getD_len c hc hi]; exact hr _ h2)]
theorem pick_right {w r : List Nat} (hw : ∀ i ∈ w, i < (tups c a).length * (tups c b).length) : pick (tups c (a + b)) w (shift a r) = pick (tups c b) (w.map (· % (tups c b).length)) r := by
  have hB := pos_pow c hc b
  unfold pick shift
  rw [List.zip_map_left, List.zip_map_right, List.map_map, List.map_map]
  refine List.map_congr_left fun q hq => ?_
  obtain ⟨h1, h2⟩ := List.of_mem_zip (show (q.1, q.2) ∈ w.zip r from hq)
  have hi : q.1 / (tups c b).length < (tups c a).length := Nat.div_lt_of_lt_mul (by rw [Nat.mul_comm]; exact hw _ h1)
  show ((tups c (a + b)).getD q.1 []).getD (a + q.2) 0 = ((tups c b).getD (q.1 % (tups c b).length) []).getD q.2 0
  rw [tups_add, flat_get (tups c b) hB (tups c a) q.1 (hw _ h1), gr (getD_len c hc hi)]
theorem fair_add {x y : Rel} {more : List (List Nat)} {w : List Nat} (hw : ∀ i ∈ w, i < (tups c a).length * (tups c b).length) (hx : ∀ r ∈ x.rows, ∀ i ∈ r, i < a) : fair (tups c (a + b)) (addR a (x, y)).rows more w = (fair (tups c a) x.rows more (w.map (· / (tups c b).length)) && fair (tups c b) y.rows more (w.map (· % (tups c b).length))) := by
  show fair _ (x.rows ++ y.rows.map (shift a)) more w = _
  unfold fair
  rw [List.all_append, List.all_map]
  congr 1
  · exact all_cong fun r hr => by rw [pick_left a b c hc hw (hx r hr)]
  · exact all_cong fun r _ => by show decide (pick (tups c (a + b)) w (shift a r) ∈ more) = _; rw [pick_right a b c hc hw]
theorem mulRows_nodup (B : Nat) (k : Nat) {l1 l2 : List (List Nat)} (n1 : l1.Nodup) (n2 : l2.Nodup) (h1 : ∀ r ∈ l1, r.length = k) (h2 : ∀ r ∈ l2, r.length = k ∧ ∀ x ∈ r, x < B) : (mulRows B l1 l2).Nodup := by
  unfold mulRows
  unfold List.Nodup
  rw [List.pairwise_flatMap]
  constructor
  · intro u hu
    rw [List.pairwise_map]
    refine n2.imp_of_mem fun {v w} hv hw hne e => hne ?_
    have q1 := (mulRow_dm B u v (by rw [h1 u hu, (h2 v hv).1]) (h2 v hv).2).2
    have q2 := (mulRow_dm B u w (by rw [h1 u hu, (h2 w hw).1]) (h2 w hw).2).2
    rw [← q1, ← q2, e]
  · refine n1.imp_of_mem fun {u u'} hu hu' hne => ?_
    intro x hx y hy e
    obtain ⟨v, hv, rfl⟩ := List.mem_map.mp hx
    obtain ⟨w, hw, rfl⟩ := List.mem_map.mp hy
    have q1 := (mulRow_dm B u v (by rw [h1 u hu, (h2 v hv).1]) (h2 v hv).2).1
    have q2 := (mulRow_dm B u' w (by rw [h1 u' hu', (h2 w hw).1]) (h2 w hw).2).1
    exact hne (by rw [← q1, ← q2, e])
theorem nodup_of {l : List (List Nat)} (h : l.Pairwise fun a b => nLt a b = true) : l.Nodup := h.imp fun {a b} h e => by subst e; rw [nLt_irrefl] at h; cases h
/-- functions from a sum are pairs of functions -/
theorem fn_sum {x y z : Rel} (hx : ∀ r ∈ x.rows, ∀ i ∈ r, i < a) (hk : x.k = y.k) : fnR (tups c (a + b)) (addR a (x, y), z) = mulR (tups c b).length (fnR (tups c a) (x, z), fnR (tups c b) (y, z)) := by
  have hB := pos_pow c hc b
  have hlen : (tups c (a + b)).length = (tups c a).length * (tups c b).length := by rw [tups_len, tups_len, tups_len, Nat.pow_add]
  have asc : ∀ (K : List (List Nat)) (k : Nat) (rows more : List (List Nat)), (fnRows K k rows more).Pairwise fun a b => nLt a b = true := fun K k rows more => (tups_asc K.length k).sublist List.filter_sublist
  have m1 : ∀ r ∈ fnRows (tups c a) x.k x.rows z.rows, r.length = x.k ∧ ∀ i ∈ r, i < (tups c a).length := fun r hr => tups_mem (List.mem_filter.mp hr).1
  have m2 : ∀ r ∈ fnRows (tups c b) y.k y.rows z.rows, r.length = x.k ∧ ∀ i ∈ r, i < (tups c b).length := fun r hr => by rw [hk]; exact tups_mem (List.mem_filter.mp hr).1
  show (⟨x.name, x.k, fnRows (tups c (a + b)) x.k (addR a (x, y)).rows z.rows⟩ : Rel) = ⟨x.name, x.k, (mulRows (tups c b).length (fnRows (tups c a) x.k x.rows z.rows) (fnRows (tups c b) y.k y.rows z.rows)).mergeSort nLe⟩
  rw [sort_same (asc _ _ _ _) (mulRows_nodup c hc (tups c b).length x.k (nodup_of c hc (asc _ _ _ _)) (nodup_of c hc (asc _ _ _ _)) (fun r hr => (m1 r hr).1) m2)]
  intro w
  have e := @mem_mul (tups c b).length (fnR (tups c a) (x, z)) (fnR (tups c b) (y, z)) w (fun r hr => (m1 r hr).1) (fun r hr => m2 r hr)
  rw [show w ∈ mulRows (tups c b).length (fnRows (tups c a) x.k x.rows z.rows) (fnRows (tups c b) y.k y.rows z.rows) ↔ w ∈ (mulR (tups c b).length (fnR (tups c a) (x, z), fnR (tups c b) (y, z))).rows from (List.mergeSort_perm _ _).mem_iff.symm, e]
  show w ∈ fnRows (tups c (a + b)) x.k (addR a (x, y)).rows z.rows ↔ w.map (· / (tups c b).length) ∈ fnRows (tups c a) x.k x.rows z.rows ∧ w.map (· % (tups c b).length) ∈ fnRows (tups c b) y.k y.rows z.rows
  unfold fnRows
  rw [List.mem_filter, List.mem_filter, List.mem_filter, hlen, ← hk]
  constructor
  · rintro ⟨h1, h2⟩
    obtain ⟨q1, q2⟩ := tups_mem h1
    rw [fair_add a b c hc q2 hx, Bool.and_eq_true] at h2
    refine ⟨⟨mem_tups (by rw [List.length_map, q1]) fun i hi => ?_, h2.1⟩, mem_tups (by rw [List.length_map, q1]) fun i hi => ?_, h2.2⟩
    · obtain ⟨j, hj, rfl⟩ := List.mem_map.mp hi
      exact Nat.div_lt_of_lt_mul (by rw [Nat.mul_comm]; exact q2 j hj)
    · obtain ⟨j, hj, rfl⟩ := List.mem_map.mp hi
      exact Nat.mod_lt _ hB
  · rintro ⟨⟨h1, h2⟩, h3, h4⟩
    obtain ⟨q1, q2⟩ := tups_mem h1
    rw [List.length_map] at q1
    have q : ∀ i ∈ w, i < (tups c a).length * (tups c b).length := fun i hi => by
      have := q2 _ (List.mem_map_of_mem (f := (· / (tups c b).length)) hi)
      have h5 := (Nat.div_lt_iff_lt_mul hB).mp this
      exact h5
    exact ⟨mem_tups q1 q, by rw [fair_add a b c hc q hx, h2, h4]; rfl⟩
end
end FG
namespace FG
open Sx PySem PySem.Spec PyProof.Rows L2 FH
def Trest : Sv := (aSeq (aSet 5 (eCall [some 1, none, none] f_law_structure (gV 1 (gE (eV 2) (gE (fOp addI ((gE (eC (.int 1))) ((gE (eCall [some 1, none] f_law_draw (gV 1 (gE (eC (.int 2)) gN)))) gN))) gN)))))
    (aSeq (aSet 6 (eCall [none, none] f_law_functions (gE (eV 3) (gE (eV 5) gN))))
    (aSeq (aSet 7 (eCall [none, none] f_law_functions (gE (eV 4) (gE (eV 5) gN))))
    (aSeq (aIf (hOr (hNot (hTru ((gE (eCall [none, none] (f_law_same 8) (gE (eCall [none, none] f_functions (gE (eV 3) (gE (eV 5) gN))) (gE (eV 6) gN)))) gN))) (hNot (hTru ((gE (eCall [none, none] (f_law_same 8) (gE (eCall [none, none] f_functions (gE (eV 4) (gE (eV 5) gN))) (gE (eV 7) gN)))) gN)))) (aSeq (aRet (eC (.bool false)))
    aNil) aNil)
    (aSeq (aIf (hNot (hTru ((gE (eCall [none, none] (f_law_same 8) (gE (eCall [none, none] f_functions (gE (eCall [none, none] f_sum_of (gE (eV 3) (gE (eV 4) gN))) (gE (eV 5) gN))) (gE (eCall [none, none] f_product (gE (eV 6) (gE (eV 7) gN))) gN)))) gN))) (aSeq (aRet (eC (.bool false)))
    aNil) aNil)
    (aSeq (aSet 8 (fOp mulI ((gE (fOp lenI ((gE (eCall [none, none] f_law_maps (gE (eV 3) (gE (eV 5) gN)))) gN))) ((gE (fOp lenI ((gE (eCall [none, none] f_law_maps (gE (eV 4) (gE (eV 5) gN)))) gN))) gN))))
    (aSeq (aRet (eCall [none, none] (f_law_same 8) (gE (eCall [none, none] f_count_maps (gE (eCall [none, none] f_sum_of (gE (eV 3) (gE (eV 4) gN))) (gE (eV 5) gN))) (gE (eV 8) gN))))
    aNil)))))))
theorem rest_run (scr b b1 b2 kk one two thr fa fb fs su : D) (v3 out k1 k2 : Int) (l1 l2 : List D) (o5 o6 o7 o8 : Option D)
    (d3 : Fdraw [b, .int 2] = some (.int v3, [b1, .int 2])) (s3 : FH.f_law_structure [b1, kk, .int (1 + v3)] = some (thr, [b2, kk, .int (1 + v3)]))
    (p1 : f_law_functions [one, thr] = some (fa, [one, thr])) (p2 : f_law_functions [two, thr] = some (fb, [two, thr])) (q1 : f_functions [one, thr] = some (fa, [one, thr])) (q2 : f_functions [two, thr] = some (fb, [two, thr]))
    (t1 : Fsame 8 [fa, fa] = some (.bool true, [fa, fa])) (t2 : Fsame 8 [fb, fb] = some (.bool true, [fb, fb])) (t3 : Fsame 8 [fs, fs] = some (.bool true, [fs, fs]))
    (u1 : FH.f_sum_of [one, two] = some (su, [one, two])) (u2 : f_functions [su, thr] = some (fs, [su, thr])) (u3 : FH.f_product [fa, fb] = some (fs, [fa, fb]))
    (m1 : FH.f_law_maps [one, thr] = some (.list l1, [one, thr])) (m2 : FH.f_law_maps [two, thr] = some (.list l2, [two, thr])) (n1 : lenI [.list l1] = some (.int k1)) (n2 : lenI [.list l2] = some (.int k2)) (x1 : mulI [.int k1, .int k2] = some (.int out))
    (c1 : FH.f_count_maps [su, thr] = some (.int out, [su, thr])) (c2 : Fsame 8 [.int out, .int out] = some (.bool true, [.int out, .int out])) :
    Trest [some scr, some b, some kk, some one, some two, o5, o6, o7, o8] = some (.rt [some scr, some b2, some kk, some one, some two, some thr, some fa, some fb, some (.int out)] (.bool true)) := by
  simp only [Trest, g_draw, g_struct, g_sum, g_prod, g_maps, g_cmaps, g_same, d3, s3, p1, p2, q1, q2, t1, t2, t3, u1, u2, u3, m1, m2, n1, n2, x1, c1, c2, add_ii, tru_b, Bool.not_true, Bool.not_false, x_seq, x_seq1, x_seq2, x_seq3, x_seq4, x_nil, x_brk, x_cnt, x_if, x_if1, x_if2, x_set, x_set1, x_ret, x_ret1, x_retN, x_drop, x_drop1, x_ev, x_ev1, x_et, x_et1, x_ec, x_gn, x_ge, x_ge1, x_ge2, x_gv, x_gv1, x_gv2, x_gv3, x_op, x_op1, x_hop, x_hop1, x_hop2, x_tru, x_tru1, x_not, x_not1, x_and, x_and1, x_and2, x_or, x_or1, x_or2, x_yes, x_tup, x_tup1, x_lst, x_lst1, x_eif, x_eif1, x_eif2, x_notE, x_notE1, x_eand, x_eand1, x_eand2, x_eor, x_eor1, x_eor2, x_call, x_call1, x_call2, x_put1, x_put2, x_put3, x_body, x_body1, x_body2, x_app, x_app1, x_app2, x_app3, x_pt, x_pt1, x_pt2, x_pt3, x_pt4, x_pt5, x_ie, x_ie1, x_items1, x_items2, x_rg1, x_rg11, x_rg2, x_rg21, x_zip, x_zip1, x_zip2, x_gs, x_gt, x_gc, x_gl, x_asg, x_asg1, x_for, x_for1, x_turn, x_next1, x_next2, x_next3, x_next4, x_tn, x_tn1, x_tn2, x_tn3, x_tn4, x_lc, x_lc1, x_lc2, x_ld, x_ld1, x_w1, x_w2, x_tg, x_tg1, x_tg2, x_sm, x_sm1, x_sm2, x_al, x_al1, x_ay, x_ay1, x_bl, x_bk1, x_bk2, x_jn, x_pr1, x_pr2, Option.bind_some, Option.bind_none, Option.map_some, Option.map_none, List.map_cons, List.map_nil, List.replicate_succ, List.replicate_zero, List.cons_append, List.nil_append, List.append_nil, List.getElem?_cons_zero, List.getElem?_cons_succ, List.set_cons_zero, List.set_cons_succ, List.length_cons, List.length_nil, Nat.zero_add, Nat.reduceAdd, Nat.reduceLeDiff, Nat.reduceLT]
def Tlaw0 : Sv := (aSeq (aSet 1 (eCall [none, none, none] f_law_box (gE (eV 0) (gE (eC (.int 0)) (gE (eC (.int 62)) gN)))))
    (aSeq (aSet 2 (eCall [some 1] f_law_kinds (gV 1 gN)))
    (aSeq (aSet 3 (eCall [some 1, none, none] f_law_structure (gV 1 (gE (eV 2) (gE (fOp addI ((gE (eC (.int 1))) ((gE (eCall [some 1, none] f_law_draw (gV 1 (gE (eC (.int 2)) gN)))) gN))) gN)))))
    (aSeq (aSet 4 (eCall [some 1, none, none] f_law_structure (gV 1 (gE (eV 2) (gE (eC (.int 1)) gN)))))
    (aSeq (aIf (hOp eqI ((gE (eCall [some 1, none] f_law_draw (gV 1 (gE (eC (.int 2)) gN)))) ((gE (eC (.int 0))) gN))) (aSeq (aPar 3 4 (gE (eV 4) (gE (eV 3) gN)))
    aNil) aNil)
    Trest)))))
theorem e_law : f_law = fBody M_law 8 false Tlaw0 := rfl
theorem law_run0 (scr b b1 b2 b3 b4 b5 kk one two : D) (v1 v2 : Int) (o1 o2 o3 o4 o5 o6 o7 o8 : Option D) (e0 : Fbox [scr, .int 0, .int 62] = some (b, [scr, .int 0, .int 62])) (e1 : FH.f_law_kinds [b] = some (kk, [b1])) (d1 : Fdraw [b1, .int 2] = some (.int v1, [b2, .int 2])) (s1 : FH.f_law_structure [b2, kk, .int (1 + v1)] = some (one, [b3, kk, .int (1 + v1)]))
    (s2 : FH.f_law_structure [b3, kk, .int 1] = some (two, [b4, kk, .int 1])) (d2 : Fdraw [b4, .int 2] = some (.int v2, [b5, .int 2])) (hv : decide (v2 = 0) = false)
    (e : Trest [some scr, some b5, some kk, some one, some two, none, none, none, none] = some (.rt [some scr, o1, o2, o3, o4, o5, o6, o7, o8] (.bool true))) : f_law [scr] = some (.bool true, [scr]) := by
  simp only [e_law, Tlaw0, g_box, g_kinds, g_draw, g_struct, e0, e1, d1, s1, s2, d2, add_ii, eq_ii, hv, e, x_seq, x_seq1, x_seq2, x_seq3, x_seq4, x_nil, x_brk, x_cnt, x_if, x_if1, x_if2, x_set, x_set1, x_ret, x_ret1, x_retN, x_drop, x_drop1, x_ev, x_ev1, x_et, x_et1, x_ec, x_gn, x_ge, x_ge1, x_ge2, x_gv, x_gv1, x_gv2, x_gv3, x_op, x_op1, x_hop, x_hop1, x_hop2, x_tru, x_tru1, x_not, x_not1, x_and, x_and1, x_and2, x_or, x_or1, x_or2, x_yes, x_tup, x_tup1, x_lst, x_lst1, x_eif, x_eif1, x_eif2, x_notE, x_notE1, x_eand, x_eand1, x_eand2, x_eor, x_eor1, x_eor2, x_call, x_call1, x_call2, x_put1, x_put2, x_put3, x_body, x_body1, x_body2, x_app, x_app1, x_app2, x_app3, x_pt, x_pt1, x_pt2, x_pt3, x_pt4, x_pt5, x_ie, x_ie1, x_items1, x_items2, x_rg1, x_rg11, x_rg2, x_rg21, x_zip, x_zip1, x_zip2, x_gs, x_gt, x_gc, x_gl, x_asg, x_asg1, x_for, x_for1, x_turn, x_next1, x_next2, x_next3, x_next4, x_tn, x_tn1, x_tn2, x_tn3, x_tn4, x_lc, x_lc1, x_lc2, x_ld, x_ld1, x_w1, x_w2, x_tg, x_tg1, x_tg2, x_sm, x_sm1, x_sm2, x_al, x_al1, x_ay, x_ay1, x_bl, x_bk1, x_bk2, x_jn, x_pr1, x_pr2, Option.bind_some, Option.bind_none, Option.map_some, Option.map_none, List.map_cons, List.map_nil, List.replicate_succ, List.replicate_zero, List.cons_append, List.nil_append, List.append_nil, List.getElem?_cons_zero, List.getElem?_cons_succ, List.set_cons_zero, List.set_cons_succ, List.length_cons, List.length_nil, Nat.zero_add, Nat.reduceAdd, Nat.reduceLeDiff, Nat.reduceLT]
  rfl
theorem law_run1 (scr b b1 b2 b3 b4 b5 kk one two : D) (v1 v2 : Int) (o1 o2 o3 o4 o5 o6 o7 o8 : Option D) (e0 : Fbox [scr, .int 0, .int 62] = some (b, [scr, .int 0, .int 62])) (e1 : FH.f_law_kinds [b] = some (kk, [b1])) (d1 : Fdraw [b1, .int 2] = some (.int v1, [b2, .int 2])) (s1 : FH.f_law_structure [b2, kk, .int (1 + v1)] = some (one, [b3, kk, .int (1 + v1)]))
    (s2 : FH.f_law_structure [b3, kk, .int 1] = some (two, [b4, kk, .int 1])) (d2 : Fdraw [b4, .int 2] = some (.int v2, [b5, .int 2])) (hv : decide (v2 = 0) = true)
    (e : Trest [some scr, some b5, some kk, some two, some one, none, none, none, none] = some (.rt [some scr, o1, o2, o3, o4, o5, o6, o7, o8] (.bool true))) : f_law [scr] = some (.bool true, [scr]) := by
  simp only [e_law, Tlaw0, g_box, g_kinds, g_draw, g_struct, e0, e1, d1, s1, s2, d2, add_ii, eq_ii, hv, e, x_seq, x_seq1, x_seq2, x_seq3, x_seq4, x_nil, x_brk, x_cnt, x_if, x_if1, x_if2, x_set, x_set1, x_ret, x_ret1, x_retN, x_drop, x_drop1, x_ev, x_ev1, x_et, x_et1, x_ec, x_gn, x_ge, x_ge1, x_ge2, x_gv, x_gv1, x_gv2, x_gv3, x_op, x_op1, x_hop, x_hop1, x_hop2, x_tru, x_tru1, x_not, x_not1, x_and, x_and1, x_and2, x_or, x_or1, x_or2, x_yes, x_tup, x_tup1, x_lst, x_lst1, x_eif, x_eif1, x_eif2, x_notE, x_notE1, x_eand, x_eand1, x_eand2, x_eor, x_eor1, x_eor2, x_call, x_call1, x_call2, x_put1, x_put2, x_put3, x_body, x_body1, x_body2, x_app, x_app1, x_app2, x_app3, x_pt, x_pt1, x_pt2, x_pt3, x_pt4, x_pt5, x_ie, x_ie1, x_items1, x_items2, x_rg1, x_rg11, x_rg2, x_rg21, x_zip, x_zip1, x_zip2, x_gs, x_gt, x_gc, x_gl, x_asg, x_asg1, x_for, x_for1, x_turn, x_next1, x_next2, x_next3, x_next4, x_tn, x_tn1, x_tn2, x_tn3, x_tn4, x_lc, x_lc1, x_lc2, x_ld, x_ld1, x_w1, x_w2, x_tg, x_tg1, x_tg2, x_sm, x_sm1, x_sm2, x_al, x_al1, x_ay, x_ay1, x_bl, x_bk1, x_bk2, x_jn, x_pr1, x_pr2, x_enu, x_enu1, x_par, x_par1, Option.bind_some, Option.bind_none, Option.map_some, Option.map_none, List.map_cons, List.map_nil, List.replicate_succ, List.replicate_zero, List.cons_append, List.nil_append, List.append_nil, List.getElem?_cons_zero, List.getElem?_cons_succ, List.set_cons_zero, List.set_cons_succ, List.length_cons, List.length_nil, Nat.zero_add, Nat.reduceAdd, Nat.reduceLeDiff, Nat.reduceLT]
  rfl
theorem same_fn {K : List (List Nat)} (hKl : K.length ≤ 100) {a : Nat} {ps : List (Rel × Rel)} (hl : ps.length ≤ 3) (h : ∀ p ∈ ps, Fit a p.1) (li : Int) : SameD 8 (strI li (ps.map (fnR K))) := by
  refine same_str li (by rw [List.length_map]; omega) fun r hr => ?_
  obtain ⟨p, hp, rfl⟩ := List.mem_map.mp hr
  have k2 := (h p hp).k2
  constructor
  · refine Nat.le_trans (List.length_filter_le _ _) ?_
    rw [tups_len]
    exact Nat.le_trans (Nat.pow_le_pow_left hKl _) (Nat.le_trans (Nat.pow_le_pow_right (by decide) k2) (by decide))
  · intro q hq
    rw [(tups_mem (List.mem_filter.mp hq).1).1]
    omega
theorem fn_fit {K : List (List Nat)} (hKl : K.length ≤ 30) {a : Nat} {p : Rel × Rel} (f : Fit a p.1) : Fit K.length (fnR K p) := by
  refine ⟨f.k1, f.k2, fun q hq => tups_mem (List.mem_filter.mp hq).1, ?_⟩
  refine Nat.le_trans (List.length_filter_le _ _) ?_
  rw [tups_len]
  exact Nat.le_trans (Nat.pow_le_pow_left hKl _) (Nat.le_trans (Nat.pow_le_pow_right (by decide) f.k2) (by decide))
/-- the rest of the law, whichever way about the two stand -/
theorem rest_ok (scr : D) (ks : FH.Kind) (hks : ks ∈ allKinds) (a b : Nat) (ai bi : Int) (ha : ai = (a : Int)) (hb : bi = (b : Int)) (la : a ≤ 2) (lb : b ≤ 2) (pb : 0 < b) (A B : List Rel) (dA : Drawn ks a A) (dB : Drawn ks b B) (bx : D) (hbx : IsBox bx) :
    ∃ o1 o2 o3 o4 o5 o6 o7 o8, Trest [some scr, some bx, some (kindD ks), some (strI ai A), some (strI bi B), none, none, none, none] = some (.rt [some scr, o1, o2, o3, o4, o5, o6, o7, o8] (.bool true)) := by
  obtain ⟨v3, b1, d3, lo3, hi3, hb1⟩ := draw_ok (m := 2) hbx (by decide)
  obtain ⟨c, hc⟩ : ∃ c : Nat, 1 + v3 = (c : Int) := ⟨(1 + v3).toNat, by omega⟩
  obtain ⟨b2, C, s3, hb2, dC⟩ := structure_ok ks hks c (1 + v3) hc (by omega) b1 hb1
  obtain ⟨ts, rfl, rfl, rfl, T⟩ := trio_of hks (a := a) (b := b) (c := c) (by omega) (by omega) (by omega) dA dB dC
  have lc : c ≤ 2 := by omega
  have pc : 0 < c := by omega
  obtain ⟨si, hsi⟩ : ∃ si : Int, si = ai + bi := ⟨_, rfl⟩
  have hs12 : si = ((a + b : Nat) : Int) := by omega
  have po : ∀ n, n ≤ 4 → c ^ n ≤ 16 := fun n hn => Nat.le_trans (Nat.pow_le_pow_left lc n) (Nat.le_trans (Nat.pow_le_pow_right (by decide) hn) (by decide))
  obtain ⟨fai, hfa⟩ : ∃ i : Int, i = ((c ^ a : Nat) : Int) := ⟨_, rfl⟩
  obtain ⟨fbi, hfb⟩ : ∃ i : Int, i = ((c ^ b : Nat) : Int) := ⟨_, rfl⟩
  obtain ⟨fsi, hfs⟩ : ∃ i : Int, i = ((c ^ (a + b) : Nat) : Int) := ⟨_, rfl⟩
  have S1 := su1 T ai bi (1 + v3) ha hb hc (by omega) lb lc si hsi
  have lts : (ts.map fun t : Tri => (t.1, t.2.2)).length ≤ 3 := by rw [List.length_map]; exact T.len
  have lts2 : (ts.map fun t : Tri => (t.2.1, t.2.2)).length ≤ 3 := by rw [List.length_map]; exact T.len
  have lts3 : (ts.map fun t : Tri => (addR a (t.1, t.2.1), t.2.2)).length ≤ 3 := by rw [List.length_map]; exact T.len
  have fA : ∀ p ∈ ts.map fun t : Tri => (t.1, t.2.2), Fit a p.1 := fun p hp => by obtain ⟨t, ht, rfl⟩ := List.mem_map.mp hp; exact (T.g1 t ht).toFit
  have fB : ∀ p ∈ ts.map fun t : Tri => (t.2.1, t.2.2), Fit b p.1 := fun p hp => by obtain ⟨t, ht, rfl⟩ := List.mem_map.mp hp; exact (T.g2 t ht).toFit
  have fS : ∀ p ∈ ts.map fun t : Tri => (addR a (t.1, t.2.1), t.2.2), Fit (a + b) p.1 := fun p hp => by obtain ⟨t, ht, rfl⟩ := List.mem_map.mp hp; exact add_fit (T.g1 t ht) (T.g2 t ht) (T.n2 t ht).2
  have P1 := law_functions_ok a c ai (1 + v3) fai ha hc (by omega) (by omega) hfa _ lts fA
  have P2 := law_functions_ok b c bi (1 + v3) fbi hb hc (by omega) (by omega) hfb _ lts2 fB
  have Q1 := functions_ok a c ai (1 + v3) fai ha hc (by omega) (by omega) hfa _ lts fA
  have Q2 := functions_ok b c bi (1 + v3) fbi hb hc (by omega) (by omega) hfb _ lts2 fB
  have U2 := functions_ok (a + b) c si (1 + v3) fsi hs12 hc (by omega) (by omega) hfs _ lts3 fS
  have hKa : (tups c a).length ≤ 30 := by rw [tups_len]; have := po a (by omega); omega
  have hKb : (tups c b).length ≤ 30 := by rw [tups_len]; have := po b (by omega); omega
  have hKs : (tups c (a + b)).length ≤ 30 := by rw [tups_len]; have := po (a + b) (by omega); omega
  have t1 := same_ok 8 _ (same_fn (K := tups c a) (by omega) lts fA fai)
  have t2 := same_ok 8 _ (same_fn (K := tups c b) (by omega) lts2 fB fbi)
  have t3 := same_ok 8 _ (same_fn (K := tups c (a + b)) (by omega) lts3 fS fsi)
  have hmul : mulI [.int fai, .int fbi] = some (.int fsi) := by
    rw [hfa, hfb, hfs]
    exact mul_len (Nat.pow_add c a b) (by have := po a (by omega); omega)
  have U3 := product_ok (tups c a).length (tups c b).length fai fbi fsi (by rw [hfb, tups_len]) (by omega) hmul (ts.map fun t : Tri => (fnR (tups c a) (t.1, t.2.2), fnR (tups c b) (t.2.1, t.2.2))) (by rw [List.length_map]; exact T.len) fun p hp => by
    obtain ⟨t, ht, rfl⟩ := List.mem_map.mp hp
    exact ⟨fn_fit hKa (p := (t.1, t.2.2)) (T.g1 t ht).toFit, fn_fit hKb (p := (t.2.1, t.2.2)) (T.g2 t ht).toFit⟩
  have eF : (ts.map fun t : Tri => fnR (tups c (a + b)) (addR a (t.1, t.2.1), t.2.2)) = ts.map fun t : Tri => mulR (tups c b).length (fnR (tups c a) (t.1, t.2.2), fnR (tups c b) (t.2.1, t.2.2)) :=
    List.map_congr_left fun t ht => fn_sum a b c pc (fun r hr => ((T.g1 t ht).row r hr).2) (T.n2 t ht).2
  have G := fun m n mi ni => mpG T ai bi (1 + v3) ha hb hc (by omega) lb lc m n mi ni
  have M1 := G a c ai (1 + v3) ha hc (by omega) (by omega) (fun t => (t.1, t.2.2)) fun t ht => (T.g1 t ht).toFit
  have M2 := G b c bi (1 + v3) hb hc (by omega) (by omega) (fun t => (t.2.1, t.2.2)) fun t ht => (T.g2 t ht).toFit
  have X2 := mul_len (sum_len a b c ts fun t ht r hr => ((T.g1 t ht).row r hr).2) (tups_few _ (by omega) (by omega))
  have du : Duo (a + b) (ts.map fun t => (addR a (t.1, t.2.1), t.2.2)) := by
    refine ⟨lts3, fS, fun p hp => ?_, ?_⟩
    · obtain ⟨t, ht, rfl⟩ := List.mem_map.mp hp
      exact (T.n3 t ht).1
    · rw [List.map_map, List.map_map]
      exact T.nod
  have C1 := count_maps_ok (a + b) c (suD si a ts) (thiD (1 + v3) ts) si (1 + v3) hs12 hc (by omega) (by omega) (ts.map fun t => (addR a (t.1, t.2.1), t.2.2)) du (by rw [ix_str2]; simp only [List.map_map, Function.comp_def]) (by rw [ix_str2]; simp only [List.map_map, Function.comp_def]) ix_str1 ix_str1
  rw [cnt_len _ _ _ du.fit] at C1
  simp only [List.map_map, Function.comp_def] at P1 P2 Q1 Q2 U2 U3 t1 t2 t3
  rw [← eF] at U3
  exact ⟨_, _, _, _, _, _, _, _, rest_run scr bx b1 b2 (kindD ks) _ _ _ _ _ _ _ v3 _ _ _ _ _ none none none none d3 s3 P1 P2 Q1 Q2 t1 t2 t3 S1 U2 U3 M1 M2 len_rows len_rows X2 C1 (same_ok 8 (.int _) trivial)⟩
theorem law_true : ∀ ns : List Int, ns.length ≤ 63 → ∃ r, f_law [scrD ns] = some (.bool true, [r]) := by
  intro ns _
  obtain ⟨b, e0, hb⟩ := box_ok ns 0 62 (by decide) (by decide) (by decide) (by decide)
  obtain ⟨ks, b1, e1, hb1, hks⟩ := kinds_ok hb
  obtain ⟨v1, b2, d1, lo1, hi1, hb2⟩ := draw_ok (m := 2) hb1 (by decide)
  obtain ⟨m1, hm1⟩ : ∃ m1 : Nat, 1 + v1 = (m1 : Int) := ⟨(1 + v1).toNat, by omega⟩
  obtain ⟨b3, A, s1, hb3, dA⟩ := structure_ok ks hks m1 (1 + v1) hm1 (by omega) b2 hb2
  obtain ⟨b4, B, s2, hb4, dB⟩ := structure_ok ks hks 1 1 rfl (by omega) b3 hb3
  obtain ⟨v2, b5, d2, lo2, hi2, hb5⟩ := draw_ok (m := 2) hb4 (by decide)
  by_cases hv : v2 = 0
  · obtain ⟨o1, o2, o3, o4, o5, o6, o7, o8, e⟩ := rest_ok (scrD ns) ks hks 1 m1 1 (1 + v1) rfl hm1 (by omega) (by omega) (by omega) B A dB dA b5 hb5
    exact ⟨_, law_run1 (scrD ns) b b1 b2 b3 b4 b5 (kindD ks) _ _ v1 v2 o1 o2 o3 o4 o5 o6 o7 o8 e0 e1 d1 s1 s2 d2 (decide_eq_true hv) e⟩
  · obtain ⟨o1, o2, o3, o4, o5, o6, o7, o8, e⟩ := rest_ok (scrD ns) ks hks m1 1 (1 + v1) 1 hm1 rfl (by omega) (by omega) (by omega) A B dA dB b5 hb5
    exact ⟨_, law_run0 (scrD ns) b b1 b2 b3 b4 b5 (kindD ks) _ _ v1 v2 o1 o2 o3 o4 o5 o6 o7 o8 e0 e1 d1 s1 s2 d2 (decide_eq_false hv) e⟩
end FG
namespace K89
open Sx PySem PySem.Spec PyProof.Rows L2
def top (i : Nat) : Stmt := PySem.Challenge.pw_finitehouse_k89_functions_from_sums.main.body.getD i (.Pass ⟨0, 0, 0, 0⟩)
/-! rows_by_name -/
abbrev s_rows_by_name : Stmt := top 1
abbrev N_rows_by_name : List Str := ["structure", "name", "_", "rows"]
abbrev P_rows_by_name : List Str := ["structure"]
def M_rows_by_name : Kds := fun _ => .fz
def b_rows_by_name : Sv := (aSeq (aRet (eDc (iE (fOp ixA ((gV 0) ((gE (eC (.int 2))) gN)))) (gTurn2 (gTupT 3 (gsCons (gSet 1) (gsCons (gSet 2) (gsCons (gSet 3) gsNil)))) hYes (eV 1) (eV 3)) [1, 2, 3]))
    aNil)
def f_rows_by_name : Fn := fBody M_rows_by_name 3 true b_rows_by_name
theorem sc_rows_by_name : FnScope N_rows_by_name P_rows_by_name (defScope s_rows_by_name) := ⟨rfl, rfl, rfl, by decide +kernel, rfl, by decide +kernel, by decide +kernel⟩
theorem ok_rows_by_name {g : Gb} {T0 : Tabs} (F : FunT g T0 "rows_by_name" s_rows_by_name) (bm : BmG g) : DOk g T0 "rows_by_name" 1 M_rows_by_name 1 true f_rows_by_name := DOk.of (ps := P_rows_by_name) F sc_rows_by_name rfl (fun _ _ _ _ _ _ us hl => match us, hl with | [_], _ => rfl) fun T X sub h hc =>
    (ss_cons (ss_retF (c_dc h hc [("name", 1), ("_", 2), ("rows", 3)] (si_e (c_ix h (c_o h 0) (so_e c_int))) fun Xb3 h1 hc2 => ⟨g_up (g_t h1 (g_c (g_n h1 1) (g_c (g_n h1 2) (g_c (g_n h1 3) sgs_nil)))), p_n, (c_v h1 1), (c_v h1 3)⟩))
    ss_nil)
/-! tuples -/
abbrev s_tuples : Stmt := top 2
abbrev N_tuples : List Str := ["many", "size", "found", "_", "row", "own"]
abbrev P_tuples : List Str := ["many", "size"]
def M_tuples : Kds := fun _ => .fz
def b_tuples : Sv := (aSeq (aSet 2 (eLst (gE (eTup gN) gN)))
    (aSeq (aFor (iRg1 ((gV 1) gN)) (gSet 3) (aSeq (aSet 2 (eLc2 (iE (eV 2)) (gSet 4) hYes (iRg1 ((gV 0) gN)) (gTurn (gSet 5) hYes (fOp addI ((gV 4) ((gE (eTup (gE (eV 5) gN))) gN)))) [4, 5] [5]))
    aNil))
    (aSeq (aRet (eV 2))
    aNil)))
def f_tuples : Fn := fBody M_tuples 4 false b_tuples
theorem sc_tuples : FnScope N_tuples P_tuples (defScope s_tuples) := ⟨rfl, rfl, rfl, by decide +kernel, rfl, by decide +kernel, by decide +kernel⟩
theorem ok_tuples {g : Gb} {T0 : Tabs} (F : FunT g T0 "tuples" s_tuples) (bm : BmG g) (b_range : g.mg "range" = none) : DOk g T0 "tuples" 1 M_tuples 2 false f_tuples := DOk.of (ps := P_tuples) F sc_tuples rfl (fun _ _ _ _ _ _ us hl => match us, hl with | [_, _], _ => rfl) fun T X sub h hc =>
    (ss_cons (t_set h 2 (SF.fz (s_lst (a_c (s_tup sa_nil) sa_nil))))
    (ss_cons (t_for h (i_rg1 h b_range (o_c (c_o h 1) sos_nil)) (g_n h 3) (ss_cons (t_lc2F h 2 (c_lex2 h hc [("row", 4), ("own", 5)] [5] (si_e (c_v h 2)) fun Xb6 h4 hc5 => ⟨g_up (g_n h4 4), p_n, (i_rg1 h4 b_range (o_c (c_o h4 0) sos_nil)), g_up (g_n h4 5), p_n, (c_add (c_o h4 4) (so_e (s_tup (a_c (c_v h4 5) sa_nil))))⟩))
    ss_nil))
    (ss_cons (ss_ret (c_v h 2))
    ss_nil)))
/-! keeps_rows -/
abbrev s_keeps_rows : Stmt := top 4
abbrev N_keeps_rows : List Str := ["structure", "relations", "found", "last", "name", "_", "rows", "row"]
abbrev P_keeps_rows : List Str := ["structure", "relations", "found"]
def M_keeps_rows : Kds := fun _ => .fz
def b_keeps_rows : Sv := (aSeq (aSet 3 (fOp subI ((gE (fOp lenI ((gV 2) gN))) ((gE (eC (.int 1))) gN))))
    (aSeq (aFor (iE (fOp ixA ((gV 0) ((gE (eC (.int 2))) gN)))) (gTupT 3 (gsCons (gSet 4) (gsCons (gSet 5) (gsCons (gSet 6) gsNil)))) (aSeq (aFor (iE (eV 6)) (gSet 7) (aSeq (aIf (hAnd (hOp eqI ((gE (fOp (extI true) ((gV 7) gN))) ((gV 3) gN))) (hOp niA ((gE (eTupG (iE (eV 7)) (gTurn (gSet 0) hYes (fOp ixA ((gV 1) ((gV 0) gN)))) [none, some 2])) ((gE (fOp ixA ((gV 1) ((gV 4) gN)))) gN)))) (aSeq (aRet (eC (.bool false)))
    aNil) aNil)
    aNil))
    aNil))
    (aSeq (aRet (eC (.bool true)))
    aNil)))
def f_keeps_rows : Fn := fBody M_keeps_rows 5 false b_keeps_rows
theorem sc_keeps_rows : FnScope N_keeps_rows P_keeps_rows (defScope s_keeps_rows) := ⟨rfl, rfl, rfl, by decide +kernel, rfl, by decide +kernel, by decide +kernel⟩
theorem ok_keeps_rows {g : Gb} {T0 : Tabs} (F : FunT g T0 "keeps_rows" s_keeps_rows) (bm : BmG g) (b_len : g.mg "len" = none) (b_max : g.mg "max" = none) (b_tuple : g.mg "tuple" = none) : DOk g T0 "keeps_rows" 7 M_keeps_rows 3 false f_keeps_rows := DOk.of (ps := P_keeps_rows) F sc_keeps_rows rfl (fun _ _ _ _ _ _ us hl => match us, hl with | [_, _, _], _ => rfl) fun T X sub h hc =>
    (ss_cons (t_set h 3 (c_sub (so_e (c_len h b_len (o_c (c_o h 2) sos_nil))) (so_e c_int)))
    (ss_cons (t_for h (si_e (c_ix h (c_o h 0) (so_e c_int))) (g_t h (g_c (g_n h 4) (g_c (g_n h 5) (g_c (g_n h 6) sgs_nil)))) (ss_cons (t_for h (si_e (c_v h 6)) (g_n h 7) (ss_cons (ss_if (st_w (sw_and (d_eq h (so_e (c_max1 h b_max (o_c (c_o h 7) sos_nil))) (c_o h 3)) (sw_and1 (d_ni h (so_e (c_tupG h b_tuple (g_ex h hc bm (0) ["own", "found"] [none, some 2] (by omega) (si_e (c_v h 7)) fun T10 Xg11 hT9 h7 hc8 => ⟨⟨_, (g_n h7 0)⟩, p_n, (c_ix h7 (c_o h7 1) (c_o h7 0))⟩))) (so_e (c_ix h (c_o h 1) (c_o h 4))))))) (ss_cons (ss_ret c_bl)
    ss_nil) ss_nil)
    ss_nil))
    ss_nil))
    (ss_cons (ss_ret c_bl)
    ss_nil)))
/-! count_from -/
abbrev s_count_from : Stmt := top 5
abbrev N_count_from : List Str := ["structure", "other", "found", "relations"]
abbrev P_count_from : List Str := ["structure", "other", "found"]
def M_count_from : Kds := fun _ => .fz
def b_count_from (self : Fn) : Sv := (aSeq (aIf (hOp eqI ((gE (fOp lenI ((gV 2) gN))) ((gE (fOp ixA ((gV 0) ((gE (eC (.int 1))) gN)))) gN))) (aSeq (aRet (eC (.int 1)))
    aNil) aNil)
    (aSeq (aSet 3 (eCall [none] f_rows_by_name (gE (eV 1) gN)))
    (aSeq (aRet (eSum (iRg1 ((gE (fOp ixA ((gV 1) ((gE (eC (.int 1))) gN)))) gN)) (gTurn (gSet 0) (hTru ((gE (eCall [none, none, none] f_keeps_rows (gE (eV 1) (gE (eV 4) (gE (fOp addI ((gV 3) ((gE (eTup (gE (eV 0) gN))) gN))) gN))))) gN)) (eCall [none, none, none] self (gE (eV 1) (gE (eV 2) (gE (fOp addI ((gV 3) ((gE (eTup (gE (eV 0) gN))) gN))) gN))))) [none, some 0, some 1, some 2, some 3]))
    aNil)))
def f_count_from : Nat → Fn
  | 0 => fun _ => none
  | n + 1 => fBody M_count_from 1 false (b_count_from (f_count_from n))
theorem sc_count_from : FnScope N_count_from P_count_from (defScope s_count_from) := ⟨rfl, rfl, rfl, by decide +kernel, rfl, by decide +kernel, by decide +kernel⟩
theorem ok_count_from {g : Gb} {T0 : Tabs} (F : FunT g T0 "count_from" s_count_from) (bm : BmG g) (b_len : g.mg "len" = none) (b_range : g.mg "range" = none) (b_sum : g.mg "sum" = none) (d_rows_by_name : DOk g T0 "rows_by_name" 1 M_rows_by_name 1 true f_rows_by_name) (d_keeps_rows : DOk g T0 "keeps_rows" 7 M_keeps_rows 3 false f_keeps_rows) : ∀ n k, k = 14 + 7 * n → DOk g T0 "count_from" k M_count_from 3 false (f_count_from n)
  | 0, k, _ => DOk.zero (ps := P_count_from) F (fun _ _ _ _ _ _ us hl => match us, hl with | [_, _, _], _ => rfl)
  | n + 1, k, hk => by
    have self := ok_count_from F bm b_len b_range b_sum d_rows_by_name d_keeps_rows n _ rfl
    obtain rfl : k = 14 + 7 * n + 6 + 1 := by omega
    exact DOk.of (ps := P_count_from) F sc_count_from rfl (fun _ _ _ _ _ _ us hl => match us, hl with | [_, _, _], _ => rfl) fun T X sub h hc =>
    (ss_cons (ss_if (d_eq h (so_e (c_len h b_len (o_c (c_o h 2) sos_nil))) (so_e (c_ix h (c_o h 0) (so_e c_int)))) (ss_cons (ss_ret c_int)
    ss_nil) ss_nil)
    (ss_cons (t_set h 3 (SF.fz (c_callF h d_rows_by_name (by omega) sub (l_c (c_v h 1) ca_nil))))
    (ss_cons (ss_ret (c_sum h b_sum (g_ex h hc bm (14 + 7 * n + 0) ["own", "structure", "other", "found", "relations"] [none, some 0, some 1, some 2, some 3] (by omega) (i_rg1 h b_range (o_c (so_e (c_ix h (c_o h 1) (so_e c_int))) sos_nil)) fun T15 Xg16 hT14 h12 hc13 => ⟨⟨_, (g_n h12 0)⟩, (p_1 (d_tru (so_e (c_call h12 d_keeps_rows (by omega) (fun q hq => hT14 q (sub q hq)) (l_c (c_v h12 1) (l_c (c_v h12 4) (l_c (c_add (c_o h12 3) (so_e (s_tup (a_c (c_v h12 0) sa_nil)))) ca_nil))))))), (c_call h12 self (by omega) (fun q hq => hT14 q (sub q hq)) (l_c (c_v h12 1) (l_c (c_v h12 2) (l_c (c_add (c_o h12 3) (so_e (s_tup (a_c (c_v h12 0) sa_nil)))) ca_nil))))⟩)))
    ss_nil)))
/-! count_maps -/
abbrev s_count_maps : Stmt := top 6
abbrev N_count_maps : List Str := ["structure", "other"]
abbrev P_count_maps : List Str := ["structure", "other"]
def M_count_maps : Kds := fun _ => .fz
def b_count_maps : Sv := (aSeq (aRet (eCall [none, none, none] (f_count_from 8) (gE (eV 0) (gE (eV 1) (gE (eTup gN) gN)))))
    aNil)
def f_count_maps : Fn := fBody M_count_maps 0 false b_count_maps
theorem sc_count_maps : FnScope N_count_maps P_count_maps (defScope s_count_maps) := ⟨rfl, rfl, rfl, by decide +kernel, rfl, by decide +kernel, by decide +kernel⟩
theorem ok_count_maps {g : Gb} {T0 : Tabs} (F : FunT g T0 "count_maps" s_count_maps) (bm : BmG g) (d_count_from : ∀ n k, k = 14 + 7 * n → DOk g T0 "count_from" k M_count_from 3 false (f_count_from n)) : DOk g T0 "count_maps" 71 M_count_maps 2 false f_count_maps := DOk.of (ps := P_count_maps) F sc_count_maps rfl (fun _ _ _ _ _ _ us hl => match us, hl with | [_, _], _ => rfl) fun T X sub h hc =>
    (ss_cons (ss_ret (c_call h (d_count_from 8 _ rfl) (by omega) sub (l_c (c_v h 0) (l_c (c_v h 1) (l_c (s_tup sa_nil) ca_nil)))))
    ss_nil)
/-! product -/
abbrev s_product : Stmt := top 8
abbrev N_product : List Str := ["structure", "other", "wide", "relations", "name", "places", "rows", "_", "more", "one", "two", "found"]
abbrev P_product : List Str := ["structure", "other"]
def M_product : Kds := fun i => match i with | 3 => .ow | _ => .fz
def b_product : Sv := (aSeq (aSet 2 (fOp ixA ((gV 1) ((gE (eC (.int 1))) gN))))
    (aSeq (aSet 3 (eLst gN))
    (aSeq (aFor (iZip (gE (fOp ixA ((gV 0) ((gE (eC (.int 2))) gN))) (gE (fOp ixA ((gV 1) ((gE (eC (.int 2))) gN))) gN))) (gTupT 2 (gsCons (gTupT 3 (gsCons (gSet 4) (gsCons (gSet 5) (gsCons (gSet 6) gsNil)))) (gsCons (gTupT 3 (gsCons (gSet 7) (gsCons (gSet 7) (gsCons (gSet 8) gsNil)))) gsNil))) (aSeq (aSet 11 (eLc2 (iE (eV 6)) (gSet 9) hYes (iE (eV 8)) (gTurn (gSet 10) hYes (eTupG (iZip (gE (eV 9) (gE (eV 10) gN))) (gTurn (gTupT 2 (gsCons (gSet 0) (gsCons (gSet 1) gsNil))) hYes (fOp addI ((gE (fOp mulI ((gV 0) ((gV 2) gN)))) ((gV 1) gN)))) [none, none, some 2])) [9, 10] [10]))
    (aSeq (aApp 3 (eTup (gE (eV 4) (gE (eV 5) (gE (fOp tupI ((gE (fOp sortI ((gV 11) gN))) gN)) gN)))))
    aNil)))
    (aSeq (aRet (eTup (gE (eC (.str "structure")) (gE (fOp mulI ((gE (fOp ixA ((gV 0) ((gE (eC (.int 1))) gN)))) ((gV 2) gN))) (gE (fOp tupI ((gV 3) gN)) gN)))))
    aNil))))
def f_product : Fn := fBody M_product 10 false b_product
theorem sc_product : FnScope N_product P_product (defScope s_product) := ⟨rfl, rfl, rfl, by decide +kernel, rfl, by decide +kernel, by decide +kernel⟩
theorem ok_product {g : Gb} {T0 : Tabs} (F : FunT g T0 "product" s_product) (bm : BmG g) (b_sorted : g.mg "sorted" = none) (b_tuple : g.mg "tuple" = none) (b_zip : g.mg "zip" = none) : DOk g T0 "product" 7 M_product 2 false f_product := DOk.of (ps := P_product) F sc_product rfl (fun _ _ _ _ _ _ us hl => match us, hl with | [_, _], _ => rfl) fun T X sub h hc =>
    (ss_cons (t_set h 2 (c_ix h (c_o h 1) (so_e c_int)))
    (ss_cons (t_setO h 3 (s_lst sa_nil))
    (ss_cons (t_for h (i_zip h b_zip (a_c (c_ix h (c_o h 0) (so_e c_int)) (a_c (c_ix h (c_o h 1) (so_e c_int)) sa_nil))) (g_t h (g_c (g_t h (g_c (g_n h 4) (g_c (g_n h 5) (g_c (g_n h 6) sgs_nil)))) (g_c (g_t h (g_c (g_n h 7) (g_c (g_n h 7) (g_c (g_n h 8) sgs_nil)))) sgs_nil))) (ss_cons (t_lc2F h 11 (c_lex2 h hc [("one", 9), ("two", 10)] [10] (si_e (c_v h 6)) fun Xb19 h17 hc18 => ⟨g_up (g_n h17 9), p_n, (si_e (c_v h17 8)), g_up (g_n h17 10), p_n, (c_tupG h17 b_tuple (g_ex h17 hc18 bm (0) ["x", "y", "wide"] [none, none, some 2] (by omega) (i_zip h17 b_zip (a_c (c_v h17 9) (a_c (c_v h17 10) sa_nil))) fun T23 Xg24 hT22 h20 hc21 => ⟨⟨_, (g_t h20 (g_c (g_n h20 0) (g_c (g_n h20 1) sgs_nil)))⟩, p_n, (c_add (so_e (c_mul (c_o h20 0) (c_o h20 2))) (c_o h20 1))⟩))⟩))
    (ss_cons (t_app h 3 (s_tup (a_c (c_v h 4) (a_c (c_v h 5) (a_c (c_tupc h b_tuple (o_c (so_e (SF.fz (c_sorted h b_sorted (o_c (c_o h 11) sos_nil)))) sos_nil)) sa_nil)))))
    ss_nil)))
    (ss_cons (ss_ret (s_tup (a_c c_str (a_c (c_mul (so_e (c_ix h (c_o h 0) (so_e c_int))) (c_o h 2)) (a_c (c_tupc h b_tuple (o_c (c_o h 3) sos_nil)) sa_nil)))))
    ss_nil))))
/-! sum_of -/
abbrev s_sum_of : Stmt := top 9
abbrev N_sum_of : List Str := ["structure", "other", "many", "relations", "name", "places", "rows", "_", "more"]
abbrev P_sum_of : List Str := ["structure", "other"]
def M_sum_of : Kds := fun i => match i with | 3 => .ow | _ => .fz
def b_sum_of : Sv := (aSeq (aSet 2 (fOp ixA ((gV 0) ((gE (eC (.int 1))) gN))))
    (aSeq (aSet 3 (eLst gN))
    (aSeq (aFor (iZip (gE (fOp ixA ((gV 0) ((gE (eC (.int 2))) gN))) (gE (fOp ixA ((gV 1) ((gE (eC (.int 2))) gN))) gN))) (gTupT 2 (gsCons (gTupT 3 (gsCons (gSet 4) (gsCons (gSet 5) (gsCons (gSet 6) gsNil)))) (gsCons (gTupT 3 (gsCons (gSet 7) (gsCons (gSet 7) (gsCons (gSet 8) gsNil)))) gsNil))) (aSeq (aApp 3 (eTup (gE (eV 4) (gE (eV 5) (gE (fOp addI ((gV 6) ((gE (eTupG (iE (eV 8)) (gTurn (gSet 0) hYes (eTupG (iE (eV 0)) (gTurn (gSet 0) hYes (fOp addI ((gV 1) ((gV 0) gN)))) [none, some 1])) [none, some 2])) gN))) gN)))))
    aNil))
    (aSeq (aRet (eTup (gE (eC (.str "structure")) (gE (fOp addI ((gV 2) ((gE (fOp ixA ((gV 1) ((gE (eC (.int 1))) gN)))) gN))) (gE (fOp tupI ((gV 3) gN)) gN)))))
    aNil))))
def f_sum_of : Fn := fBody M_sum_of 7 false b_sum_of
theorem sc_sum_of : FnScope N_sum_of P_sum_of (defScope s_sum_of) := ⟨rfl, rfl, rfl, by decide +kernel, rfl, by decide +kernel, by decide +kernel⟩
theorem ok_sum_of {g : Gb} {T0 : Tabs} (F : FunT g T0 "sum_of" s_sum_of) (bm : BmG g) (b_tuple : g.mg "tuple" = none) (b_zip : g.mg "zip" = none) : DOk g T0 "sum_of" 13 M_sum_of 2 false f_sum_of := DOk.of (ps := P_sum_of) F sc_sum_of rfl (fun _ _ _ _ _ _ us hl => match us, hl with | [_, _], _ => rfl) fun T X sub h hc =>
    (ss_cons (t_set h 2 (c_ix h (c_o h 0) (so_e c_int)))
    (ss_cons (t_setO h 3 (s_lst sa_nil))
    (ss_cons (t_for h (i_zip h b_zip (a_c (c_ix h (c_o h 0) (so_e c_int)) (a_c (c_ix h (c_o h 1) (so_e c_int)) sa_nil))) (g_t h (g_c (g_t h (g_c (g_n h 4) (g_c (g_n h 5) (g_c (g_n h 6) sgs_nil)))) (g_c (g_t h (g_c (g_n h 7) (g_c (g_n h 7) (g_c (g_n h 8) sgs_nil)))) sgs_nil))) (ss_cons (t_app h 3 (s_tup (a_c (c_v h 4) (a_c (c_v h 5) (a_c (c_add (c_o h 6) (so_e (c_tupG h b_tuple (g_ex h hc bm (6) ["row", "many"] [none, some 2] (by omega) (si_e (c_v h 8)) fun T33 Xg34 hT27 h25 hc26 => ⟨⟨_, (g_n h25 0)⟩, p_n, (c_tupG h25 b_tuple (g_ex h25 hc26 bm (0) ["own", "many"] [none, some 1] (by omega) (si_e (c_v h25 0)) fun T31 Xg32 hT30 h28 hc29 => ⟨⟨_, (g_n h28 0)⟩, p_n, (c_add (c_o h28 1) (c_o h28 0))⟩))⟩)))) sa_nil)))))
    ss_nil))
    (ss_cons (ss_ret (s_tup (a_c c_str (a_c (c_add (c_o h 2) (so_e (c_ix h (c_o h 1) (so_e c_int)))) (a_c (c_tupc h b_tuple (o_c (c_o h 3) sos_nil)) sa_nil)))))
    ss_nil))))
/-! functions -/
abbrev s_functions : Stmt := top 11
abbrev N_functions : List Str := ["structure", "other", "known", "relations", "name", "places", "rows", "_", "more", "one", "first", "found", "two", "second"]
abbrev P_functions : List Str := ["structure", "other"]
def M_functions : Kds := fun i => match i with | 3 => .ow | _ => .fz
def b_functions : Sv := (aSeq (aSet 2 (eCall [none, none] f_tuples (gE (fOp ixA ((gV 1) ((gE (eC (.int 1))) gN))) (gE (fOp ixA ((gV 0) ((gE (eC (.int 1))) gN))) gN))))
    (aSeq (aSet 3 (eLst gN))
    (aSeq (aFor (iZip (gE (fOp ixA ((gV 0) ((gE (eC (.int 2))) gN))) (gE (fOp ixA ((gV 1) ((gE (eC (.int 2))) gN))) gN))) (gTupT 2 (gsCons (gTupT 3 (gsCons (gSet 4) (gsCons (gSet 5) (gsCons (gSet 6) gsNil)))) (gsCons (gTupT 3 (gsCons (gSet 7) (gsCons (gSet 7) (gsCons (gSet 8) gsNil)))) gsNil))) (aSeq (aIf (hOp eqI ((gV 5) ((gE (eC (.int 1))) gN))) (aSeq (aSet 11 (eLc (iEnu (gE (eV 2) gN)) (gTurn (gTupT 2 (gsCons (gSet 9) (gsCons (gSet 10) gsNil))) (hTru ((gE (eAll (iE (eV 6)) (gTurn (gSet 0) hYes (fOp inA ((gE (eTup (gE (fOp ixA ((gV 2) ((gE (fOp ixA ((gV 0) ((gE (eC (.int 0))) gN)))) gN))) gN))) ((gV 1) gN)))) [none, some 8, some 10])) gN)) (eTup (gE (eV 9) gN))) [9, 10]))
    aNil) (aSeq (aSet 11 (eLc2 (iEnu (gE (eV 2) gN)) (gTupT 2 (gsCons (gSet 9) (gsCons (gSet 10) gsNil))) hYes (iEnu (gE (eV 2) gN)) (gTurn (gTupT 2 (gsCons (gSet 12) (gsCons (gSet 13) gsNil))) (hTru ((gE (eAll (iE (eV 6)) (gTurn (gSet 0) hYes (fOp inA ((gE (eTup (gE (fOp ixA ((gV 2) ((gE (fOp ixA ((gV 0) ((gE (eC (.int 0))) gN)))) gN))) (gE (fOp ixA ((gV 3) ((gE (fOp ixA ((gV 0) ((gE (eC (.int 1))) gN)))) gN))) gN)))) ((gV 1) gN)))) [none, some 8, some 10, some 13])) gN)) (eTup (gE (eV 9) (gE (eV 12) gN)))) [9, 10, 12, 13] [12, 13]))
    aNil))
    (aSeq (aApp 3 (eTup (gE (eV 4) (gE (eV 5) (gE (fOp tupI ((gV 11) gN)) gN)))))
    aNil)))
    (aSeq (aRet (eTup (gE (eC (.str "structure")) (gE (fOp lenI ((gV 2) gN)) (gE (fOp tupI ((gV 3) gN)) gN)))))
    aNil))))
def f_functions : Fn := fBody M_functions 12 false b_functions
theorem sc_functions : FnScope N_functions P_functions (defScope s_functions) := ⟨rfl, rfl, rfl, by decide +kernel, rfl, by decide +kernel, by decide +kernel⟩
theorem ok_functions {g : Gb} {T0 : Tabs} (F : FunT g T0 "functions" s_functions) (bm : BmG g) (b_all : g.mg "all" = none) (b_enumerate : g.mg "enumerate" = none) (b_len : g.mg "len" = none) (b_tuple : g.mg "tuple" = none) (b_zip : g.mg "zip" = none) (d_tuples : DOk g T0 "tuples" 1 M_tuples 2 false f_tuples) : DOk g T0 "functions" 7 M_functions 2 false f_functions := DOk.of (ps := P_functions) F sc_functions rfl (fun _ _ _ _ _ _ us hl => match us, hl with | [_, _], _ => rfl) fun T X sub h hc =>
    (ss_cons (t_set h 2 (c_call h d_tuples (by omega) sub (l_c (c_ix h (c_o h 1) (so_e c_int)) (l_c (c_ix h (c_o h 0) (so_e c_int)) ca_nil))))
    (ss_cons (t_setO h 3 (s_lst sa_nil))
    (ss_cons (t_for h (i_zip h b_zip (a_c (c_ix h (c_o h 0) (so_e c_int)) (a_c (c_ix h (c_o h 1) (so_e c_int)) sa_nil))) (g_t h (g_c (g_t h (g_c (g_n h 4) (g_c (g_n h 5) (g_c (g_n h 6) sgs_nil)))) (g_c (g_t h (g_c (g_n h 7) (g_c (g_n h 7) (g_c (g_n h 8) sgs_nil)))) sgs_nil))) (ss_cons (ss_if (d_eq h (c_o h 5) (so_e c_int)) (ss_cons (t_lcF h 11 (c_lex h hc [("one", 9), ("first", 10)] (i_enu h b_enumerate (a_c (c_v h 2) sa_nil)) fun Xb37 h35 hc36 => ⟨g_up (g_t h35 (g_c (g_n h35 9) (g_c (g_n h35 10) sgs_nil))), (p_1 (d_tru (so_e (c_all h35 b_all (g_ex h35 hc36 bm (0) ["row", "more", "first"] [none, some 8, some 10] (by omega) (si_e (c_v h35 6)) fun T41 Xg42 hT40 h38 hc39 => ⟨⟨_, (g_n h38 0)⟩, p_n, (c_in h38 (so_e (s_tup (a_c (c_ix h38 (c_o h38 2) (so_e (c_ix h38 (c_o h38 0) (so_e c_int)))) sa_nil))) (c_o h38 1))⟩))))), (s_tup (a_c (c_v h35 9) sa_nil))⟩))
    ss_nil) (ss_cons (t_lc2F h 11 (c_lex2 h hc [("one", 9), ("first", 10), ("two", 12), ("second", 13)] [12, 13] (i_enu h b_enumerate (a_c (c_v h 2) sa_nil)) fun Xb45 h43 hc44 => ⟨g_up (g_t h43 (g_c (g_n h43 9) (g_c (g_n h43 10) sgs_nil))), p_n, (i_enu h43 b_enumerate (a_c (c_v h43 2) sa_nil)), g_up (g_t h43 (g_c (g_n h43 12) (g_c (g_n h43 13) sgs_nil))), (p_1 (d_tru (so_e (c_all h43 b_all (g_ex h43 hc44 bm (0) ["row", "more", "first", "second"] [none, some 8, some 10, some 13] (by omega) (si_e (c_v h43 6)) fun T49 Xg50 hT48 h46 hc47 => ⟨⟨_, (g_n h46 0)⟩, p_n, (c_in h46 (so_e (s_tup (a_c (c_ix h46 (c_o h46 2) (so_e (c_ix h46 (c_o h46 0) (so_e c_int)))) (a_c (c_ix h46 (c_o h46 3) (so_e (c_ix h46 (c_o h46 0) (so_e c_int)))) sa_nil)))) (c_o h46 1))⟩))))), (s_tup (a_c (c_v h43 9) (a_c (c_v h43 12) sa_nil)))⟩))
    ss_nil))
    (ss_cons (t_app h 3 (s_tup (a_c (c_v h 4) (a_c (c_v h 5) (a_c (c_tupc h b_tuple (o_c (c_o h 11) sos_nil)) sa_nil)))))
    ss_nil)))
    (ss_cons (ss_ret (s_tup (a_c c_str (a_c (c_len h b_len (o_c (c_o h 2) sos_nil)) (a_c (c_tupc h b_tuple (o_c (c_o h 3) sos_nil)) sa_nil)))))
    ss_nil))))
/-! _law_tuples -/
abbrev s_law_tuples : Stmt := top 13
abbrev N_law_tuples : List Str := ["many", "places", "rows", "k", "longer", "row", "x"]
abbrev P_law_tuples : List Str := ["many", "places"]
def M_law_tuples : Kds := fun _ => .fz
def b_law_tuples : Sv := (aSeq (aSet 2 (eLst (gE (eTup gN) gN)))
    (aSeq (aFor (iRg1 ((gV 1) gN)) (gSet 3) (aSeq (aSet 4 (eLst gN))
    (aSeq (aFor (iE (eV 2)) (gSet 5) (aSeq (aSet 4 (fOp addI ((gV 4) ((gE (eLc (iRg1 ((gV 0) gN)) (gTurn (gSet 6) hYes (fOp addI ((gV 5) ((gE (eTup (gE (eV 6) gN))) gN)))) [6])) gN))))
    aNil))
    (aSeq (aSet 2 (eV 4))
    aNil))))
    (aSeq (aRet (eV 2))
    aNil)))
def f_law_tuples : Fn := fBody M_law_tuples 5 false b_law_tuples
theorem sc_law_tuples : FnScope N_law_tuples P_law_tuples (defScope s_law_tuples) := ⟨rfl, rfl, rfl, by decide +kernel, rfl, by decide +kernel, by decide +kernel⟩
theorem ok_law_tuples {g : Gb} {T0 : Tabs} (F : FunT g T0 "_law_tuples" s_law_tuples) (bm : BmG g) (b_range : g.mg "range" = none) : DOk g T0 "_law_tuples" 1 M_law_tuples 2 false f_law_tuples := DOk.of (ps := P_law_tuples) F sc_law_tuples rfl (fun _ _ _ _ _ _ us hl => match us, hl with | [_, _], _ => rfl) fun T X sub h hc =>
    (ss_cons (t_set h 2 (SF.fz (s_lst (a_c (s_tup sa_nil) sa_nil))))
    (ss_cons (t_for h (i_rg1 h b_range (o_c (c_o h 1) sos_nil)) (g_n h 3) (ss_cons (t_set h 4 (SF.fz (s_lst sa_nil)))
    (ss_cons (t_for h (si_e (c_v h 2)) (g_n h 5) (ss_cons (t_set h 4 (c_add (c_o h 4) (so_e (SF.fz (c_lc (c_lex h hc [("x", 6)] (i_rg1 h b_range (o_c (c_o h 0) sos_nil)) fun Xb53 h51 hc52 => ⟨g_up (g_n h51 6), p_n, (c_add (c_o h51 5) (so_e (s_tup (a_c (c_v h51 6) sa_nil))))⟩))))))
    ss_nil))
    (ss_cons (t_set h 2 (c_v h 4))
    ss_nil))))
    (ss_cons (ss_ret (c_v h 2))
    ss_nil)))
/-! _law_cell -/
abbrev s_law_cell : Stmt := top 16
abbrev N_law_cell : List Str := ["script", "k"]
abbrev P_law_cell : List Str := ["script", "k"]
def M_law_cell : Kds := fun _ => .fz
def b_law_cell : Sv := (aSeq (aIf (hOp ltI ((gV 1) ((gE (fOp lenI ((gV 0) gN))) gN))) (aSeq (aRet (fOp ixA ((gV 0) ((gV 1) gN))))
    aNil) aNil)
    (aSeq (aRet (eC (.int 0)))
    aNil))
def f_law_cell : Fn := fBody M_law_cell 0 false b_law_cell
theorem sc_law_cell : FnScope N_law_cell P_law_cell (defScope s_law_cell) := ⟨rfl, rfl, rfl, by decide +kernel, rfl, by decide +kernel, by decide +kernel⟩
theorem ok_law_cell {g : Gb} {T0 : Tabs} (F : FunT g T0 "_law_cell" s_law_cell) (bm : BmG g) (b_len : g.mg "len" = none) : DOk g T0 "_law_cell" 1 M_law_cell 2 false f_law_cell := DOk.of (ps := P_law_cell) F sc_law_cell rfl (fun _ _ _ _ _ _ us hl => match us, hl with | [_, _], _ => rfl) fun T X sub h hc =>
    (ss_cons (ss_if (d_lt h (c_o h 1) (so_e (c_len h b_len (o_c (c_o h 0) sos_nil)))) (ss_cons (ss_ret (c_ix h (c_o h 0) (c_o h 1)))
    ss_nil) ss_nil)
    (ss_cons (ss_ret c_int)
    ss_nil))
/-! _law_digits -/
abbrev s_law_digits : Stmt := top 15
abbrev N_law_digits : List Str := ["script", "first", "last", "digits", "k", "cell", "turn", "seed"]
abbrev P_law_digits : List Str := ["script", "first", "last"]
def M_law_digits : Kds := fun i => match i with | 3 => .ow | _ => .fz
def b_law_digits : Sv := (aSeq (aSet 3 (eLst gN))
    (aSeq (aFor (iRg2 ((gV 1) ((gV 2) gN))) (gSet 4) (aSeq (aSet 5 (eCall [none, none] f_law_cell (gE (eV 0) (gE (eV 4) gN))))
    (aSeq (aIf (hOp ltI ((gV 5) ((gE (eC (.int 0))) gN))) (aSeq (aSet 5 (fOp subI ((gE (eC (.int 1))) ((gE (fOp mulI ((gE (eC (.int 2))) ((gV 5) gN)))) gN))))
    aNil) aNil)
    (aSeq (aIf (hOp geI ((gV 5) ((gE (fOp powI ((gE (eC (.int 10))) ((gE (eC (.int 18))) gN)))) gN))) (aSeq (aFor (iRg1 ((gE (eC (.int 60))) gN)) (gSet 6) (aSeq (aIf (hOp gtI ((gV 5) ((gE (eC (.int 0))) gN))) (aSeq (aApp 3 (fOp modI ((gE (fOp intI ((gV 5) gN))) ((gE (eC (.int 1000))) gN))))
    (aSeq (aSet 5 (fOp fdivI ((gV 5) ((gE (eC (.int 1000))) gN))))
    aNil)) aNil)
    aNil))
    aNil) (aSeq (aSet 7 (fOp modI ((gE (fOp intI ((gE (fOp addI ((gE (fOp addI ((gE (fOp mulI ((gV 5) ((gE (eC (.int 48271))) gN)))) ((gE (fOp mulI ((gV 4) ((gE (eC (.int 69621))) gN)))) gN)))) ((gE (eC (.int 11))) gN)))) gN))) ((gE (eC (.int 2147483647))) gN))))
    (aSeq (aFor (iRg1 ((gE (eC (.int 12))) gN)) (gSet 6) (aSeq (aSet 7 (fOp modI ((gE (fOp intI ((gE (fOp addI ((gE (fOp addI ((gE (fOp mulI ((gV 7) ((gE (eC (.int 16807))) gN)))) ((gE (fOp mulI ((gE (eC (.int 7))) ((gV 6) gN)))) gN)))) ((gE (eC (.int 1))) gN)))) gN))) ((gE (eC (.int 2147483647))) gN))))
    (aSeq (aApp 3 (fOp modI ((gE (fOp intI ((gE (fOp fdivI ((gV 7) ((gE (eC (.int 997))) gN)))) gN))) ((gE (eC (.int 1000))) gN))))
    aNil)))
    aNil)))
    aNil))))
    (aSeq (aRet (eT 3))
    aNil)))
def f_law_digits : Fn := fBody M_law_digits 5 true b_law_digits
theorem sc_law_digits : FnScope N_law_digits P_law_digits (defScope s_law_digits) := ⟨rfl, rfl, rfl, by decide +kernel, rfl, by decide +kernel, by decide +kernel⟩
theorem ok_law_digits {g : Gb} {T0 : Tabs} (F : FunT g T0 "_law_digits" s_law_digits) (bm : BmG g) (b_int : g.mg "int" = none) (b_range : g.mg "range" = none) (d_law_cell : DOk g T0 "_law_cell" 1 M_law_cell 2 false f_law_cell) : DOk g T0 "_law_digits" 2 M_law_digits 3 true f_law_digits := DOk.of (ps := P_law_digits) F sc_law_digits rfl (fun _ _ _ _ _ _ us hl => match us, hl with | [_, _, _], _ => rfl) fun T X sub h hc =>
    (ss_cons (t_setO h 3 (s_lst sa_nil))
    (ss_cons (t_for h (i_rg2 h b_range (o_c (c_o h 1) (o_c (c_o h 2) sos_nil))) (g_n h 4) (ss_cons (t_set h 5 (c_call h d_law_cell (by omega) sub (l_c (c_v h 0) (l_c (c_v h 4) ca_nil))))
    (ss_cons (ss_if (d_lt h (c_o h 5) (so_e c_int)) (ss_cons (t_set h 5 (c_sub (so_e c_int) (so_e (c_mul (so_e c_int) (c_o h 5)))))
    ss_nil) ss_nil)
    (ss_cons (ss_if (d_ge h (c_o h 5) (so_e (c_pow (so_e c_int) (so_e c_int)))) (ss_cons (t_for h (i_rg1 h b_range (o_c (so_e c_int) sos_nil)) (g_n h 6) (ss_cons (ss_if (d_gt h (c_o h 5) (so_e c_int)) (ss_cons (t_app h 3 (c_mod (so_e (c_intc h b_int (o_c (c_o h 5) sos_nil))) (so_e c_int)))
    (ss_cons (t_set h 5 (c_fdiv (c_o h 5) (so_e c_int)))
    ss_nil)) ss_nil)
    ss_nil))
    ss_nil) (ss_cons (t_set h 7 (c_mod (so_e (c_intc h b_int (o_c (so_e (c_add (so_e (c_add (so_e (c_mul (c_o h 5) (so_e c_int))) (so_e (c_mul (c_o h 4) (so_e c_int))))) (so_e c_int))) sos_nil))) (so_e c_int)))
    (ss_cons (t_for h (i_rg1 h b_range (o_c (so_e c_int) sos_nil)) (g_n h 6) (ss_cons (t_set h 7 (c_mod (so_e (c_intc h b_int (o_c (so_e (c_add (so_e (c_add (so_e (c_mul (c_o h 7) (so_e c_int))) (so_e (c_mul (so_e c_int) (c_o h 6))))) (so_e c_int))) sos_nil))) (so_e c_int)))
    (ss_cons (t_app h 3 (c_mod (so_e (c_intc h b_int (o_c (so_e (c_fdiv (c_o h 7) (so_e c_int))) sos_nil))) (so_e c_int)))
    ss_nil)))
    ss_nil)))
    ss_nil))))
    (ss_cons (ss_retF (c_t h 3))
    ss_nil)))
/-! _law_box -/
abbrev s_law_box : Stmt := top 14
abbrev N_law_box : List Str := ["script", "first", "last"]
abbrev P_law_box : List Str := ["script", "first", "last"]
def M_law_box : Kds := fun _ => .fz
def b_law_box : Sv := (aSeq (aRet (eLst (gE (eCall [none, none, none] f_law_digits (gE (eV 0) (gE (eV 1) (gE (eV 2) gN)))) (gE (eC (.int 0)) gN))))
    aNil)
def f_law_box : Fn := fBody M_law_box 0 true b_law_box
theorem sc_law_box : FnScope N_law_box P_law_box (defScope s_law_box) := ⟨rfl, rfl, rfl, by decide +kernel, rfl, by decide +kernel, by decide +kernel⟩
theorem ok_law_box {g : Gb} {T0 : Tabs} (F : FunT g T0 "_law_box" s_law_box) (bm : BmG g) (d_law_digits : DOk g T0 "_law_digits" 2 M_law_digits 3 true f_law_digits) : DOk g T0 "_law_box" 3 M_law_box 3 true f_law_box := DOk.of (ps := P_law_box) F sc_law_box rfl (fun _ _ _ _ _ _ us hl => match us, hl with | [_, _, _], _ => rfl) fun T X sub h hc =>
    (ss_cons (ss_retF (s_lst (a_c (SF.fz (c_callF h d_law_digits (by omega) sub (l_c (c_v h 0) (l_c (c_v h 1) (l_c (c_v h 2) ca_nil))))) (a_c c_int sa_nil))))
    ss_nil)
/-! _law_draw -/
abbrev s_law_draw : Stmt := top 18
abbrev N_law_draw : List Str := ["box", "many", "at"]
abbrev P_law_draw : List Str := ["box", "many"]
def M_law_draw : Kds := fun i => match i with | 0 => .le | _ => .fz
def b_law_draw : Sv := (aSeq (aSet 2 (fOp ixA ((gV 0) ((gE (eC (.int 1))) gN))))
    (aSeq (aPut 0 (fOp addI ((gV 2) ((gE (eC (.int 1))) gN))) (eC (.int 1)))
    (aSeq (aIf (hOp ltI ((gV 2) ((gE (fOp lenI ((gE (fOp ixA ((gV 0) ((gE (eC (.int 0))) gN)))) gN))) gN))) (aSeq (aRet (fOp modI ((gE (fOp intI ((gE (fOp ixA ((gE (fOp ixA ((gV 0) ((gE (eC (.int 0))) gN)))) ((gV 2) gN)))) gN))) ((gV 1) gN))))
    aNil) aNil)
    (aSeq (aRet (eC (.int 0)))
    aNil))))
def f_law_draw : Fn := fBody M_law_draw 1 false b_law_draw
theorem sc_law_draw : FnScope N_law_draw P_law_draw (defScope s_law_draw) := ⟨rfl, rfl, rfl, by decide +kernel, rfl, by decide +kernel, by decide +kernel⟩
theorem ok_law_draw {g : Gb} {T0 : Tabs} (F : FunT g T0 "_law_draw" s_law_draw) (bm : BmG g) (b_int : g.mg "int" = none) (b_len : g.mg "len" = none) : DOk g T0 "_law_draw" 1 M_law_draw 2 false f_law_draw := DOk.of (ps := P_law_draw) F sc_law_draw rfl (fun _ _ _ _ _ _ us hl => match us, hl with | [_, _], _ => rfl) fun T X sub h hc =>
    (ss_cons (t_set h 2 (c_ix h (c_o h 0) (so_e c_int)))
    (ss_cons (t_put h 0 c_int (c_add (c_o h 2) (so_e c_int)))
    (ss_cons (ss_if (d_lt h (c_o h 2) (so_e (c_len h b_len (o_c (so_e (c_ix h (c_o h 0) (so_e c_int))) sos_nil)))) (ss_cons (ss_ret (c_mod (so_e (c_intc h b_int (o_c (so_e (c_ix h (so_e (c_ix h (c_o h 0) (so_e c_int))) (c_o h 2))) sos_nil))) (c_o h 1)))
    ss_nil) ss_nil)
    (ss_cons (ss_ret c_int)
    ss_nil))))
/-! _law_kinds -/
abbrev s_law_kinds : Stmt := top 17
abbrev N_law_kinds : List Str := ["box"]
abbrev P_law_kinds : List Str := ["box"]
def M_law_kinds : Kds := fun i => match i with | 0 => .le | _ => .fz
def b_law_kinds : Sv := (aSeq (aRet (fOp ixA ((gE (eLst (gE (eTup (gE (eTup (gE (eC (.str "E")) (gE (eC (.int 2)) gN))) gN)) (gE (eTup (gE (eTup (gE (eC (.str "E")) (gE (eC (.int 2)) gN))) (gE (eTup (gE (eC (.str "P")) (gE (eC (.int 1)) gN))) gN))) (gE (eTup (gE (eTup (gE (eC (.str "P")) (gE (eC (.int 1)) gN))) (gE (eTup (gE (eC (.str "Q")) (gE (eC (.int 1)) gN))) gN))) (gE (eTup (gE (eTup (gE (eC (.str "E")) (gE (eC (.int 2)) gN))) (gE (eTup (gE (eC (.str "F")) (gE (eC (.int 2)) gN))) gN))) (gE (eTup gN) (gE (eTup (gE (eTup (gE (eC (.str "E")) (gE (eC (.int 2)) gN))) (gE (eTup (gE (eC (.str "F")) (gE (eC (.int 2)) gN))) (gE (eTup (gE (eC (.str "P")) (gE (eC (.int 1)) gN))) gN)))) gN)))))))) ((gE (eCall [some 0, none] f_law_draw (gV 0 (gE (eC (.int 6)) gN)))) gN))))
    aNil)
def f_law_kinds : Fn := fBody M_law_kinds 0 false b_law_kinds
theorem sc_law_kinds : FnScope N_law_kinds P_law_kinds (defScope s_law_kinds) := ⟨rfl, rfl, rfl, by decide +kernel, rfl, by decide +kernel, by decide +kernel⟩
theorem ok_law_kinds {g : Gb} {T0 : Tabs} (F : FunT g T0 "_law_kinds" s_law_kinds) (bm : BmG g) (d_law_draw : DOk g T0 "_law_draw" 1 M_law_draw 2 false f_law_draw) : DOk g T0 "_law_kinds" 2 M_law_kinds 1 false f_law_kinds := DOk.of (ps := P_law_kinds) F sc_law_kinds rfl (fun _ _ _ _ _ _ us hl => match us, hl with | [_], _ => rfl) fun T X sub h hc =>
    (ss_cons (ss_ret (c_ix h (so_e (SF.fz (s_lst (a_c (s_tup (a_c (s_tup (a_c c_str (a_c c_int sa_nil))) sa_nil)) (a_c (s_tup (a_c (s_tup (a_c c_str (a_c c_int sa_nil))) (a_c (s_tup (a_c c_str (a_c c_int sa_nil))) sa_nil))) (a_c (s_tup (a_c (s_tup (a_c c_str (a_c c_int sa_nil))) (a_c (s_tup (a_c c_str (a_c c_int sa_nil))) sa_nil))) (a_c (s_tup (a_c (s_tup (a_c c_str (a_c c_int sa_nil))) (a_c (s_tup (a_c c_str (a_c c_int sa_nil))) sa_nil))) (a_c (s_tup sa_nil) (a_c (s_tup (a_c (s_tup (a_c c_str (a_c c_int sa_nil))) (a_c (s_tup (a_c c_str (a_c c_int sa_nil))) (a_c (s_tup (a_c c_str (a_c c_int sa_nil))) sa_nil)))) sa_nil))))))))) (so_e (c_call h d_law_draw (by omega) sub (c_l h 0 (l_c c_int ca_nil))))))
    ss_nil)
/-! _law_structure -/
abbrev s_law_structure : Stmt := top 19
abbrev N_law_structure : List Str := ["box", "kinds", "many", "relations", "name", "places", "often", "row", "rows"]
abbrev P_law_structure : List Str := ["box", "kinds", "many"]
def M_law_structure : Kds := fun i => match i with | 0 => .le | 3 => .ow | _ => .fz
def b_law_structure : Sv := (aSeq (aSet 3 (eLst gN))
    (aSeq (aFor (iE (eV 1)) (gTupT 2 (gsCons (gSet 4) (gsCons (gSet 5) gsNil))) (aSeq (aSet 6 (fOp addI ((gE (eC (.int 1))) ((gE (eCall [some 0, none] f_law_draw (gV 0 (gE (eC (.int 4)) gN)))) gN))))
    (aSeq (aSet 8 (fOp tupI ((gE (eLc (iE (eCall [none, none] f_law_tuples (gE (eV 2) (gE (eV 5) gN)))) (gTurn (gSet 7) (hOp ltI ((gE (eCall [some 0, none] f_law_draw (gV 0 (gE (eC (.int 5)) gN)))) ((gV 6) gN))) (eV 7)) [7])) gN)))
    (aSeq (aApp 3 (eTup (gE (eV 4) (gE (eV 5) (gE (eV 8) gN)))))
    aNil))))
    (aSeq (aRet (eTup (gE (eC (.str "structure")) (gE (eV 2) (gE (fOp tupI ((gV 3) gN)) gN)))))
    aNil)))
def f_law_structure : Fn := fBody M_law_structure 6 false b_law_structure
theorem sc_law_structure : FnScope N_law_structure P_law_structure (defScope s_law_structure) := ⟨rfl, rfl, rfl, by decide +kernel, rfl, by decide +kernel, by decide +kernel⟩
theorem ok_law_structure {g : Gb} {T0 : Tabs} (F : FunT g T0 "_law_structure" s_law_structure) (bm : BmG g) (b_tuple : g.mg "tuple" = none) (d_law_draw : DOk g T0 "_law_draw" 1 M_law_draw 2 false f_law_draw) (d_law_tuples : DOk g T0 "_law_tuples" 1 M_law_tuples 2 false f_law_tuples) : DOk g T0 "_law_structure" 2 M_law_structure 3 false f_law_structure := DOk.of (ps := P_law_structure) F sc_law_structure rfl (fun _ _ _ _ _ _ us hl => match us, hl with | [_, _, _], _ => rfl) fun T X sub h hc =>
    (ss_cons (t_setO h 3 (s_lst sa_nil))
    (ss_cons (t_for h (si_e (c_v h 1)) (g_t h (g_c (g_n h 4) (g_c (g_n h 5) sgs_nil))) (ss_cons (t_set h 6 (c_add (so_e c_int) (so_e (c_call h d_law_draw (by omega) sub (c_l h 0 (l_c c_int ca_nil))))))
    (ss_cons (t_set h 8 (c_tupc h b_tuple (o_c (so_e (SF.fz (c_lc (c_lex h hc [("row", 7)] (si_e (c_call h d_law_tuples (by omega) sub (l_c (c_v h 2) (l_c (c_v h 5) ca_nil)))) fun Xb56 h54 hc55 => ⟨g_up (g_n h54 7), (p_1 (d_lt h54 (so_e (c_call h54 d_law_draw (by omega) sub (c_l h54 0 (l_c c_int ca_nil)))) (c_o h54 6))), (c_v h54 7)⟩)))) sos_nil)))
    (ss_cons (t_app h 3 (s_tup (a_c (c_v h 4) (a_c (c_v h 5) (a_c (c_v h 8) sa_nil)))))
    ss_nil))))
    (ss_cons (ss_ret (s_tup (a_c c_str (a_c (c_v h 2) (a_c (c_tupc h b_tuple (o_c (c_o h 3) sos_nil)) sa_nil)))))
    ss_nil)))
/-! _law_same -/
abbrev s_law_same : Stmt := top 20
abbrev N_law_same : List Str := ["actual", "expected", "k"]
abbrev P_law_same : List Str := ["actual", "expected"]
def M_law_same : Kds := fun _ => .fz
def b_law_same (self : Fn) : Sv := (aSeq (aIf (hTru ((gE (fOp (isiI isT) ((gV 1) gN))) gN)) (aSeq (aIf (hOr (hNot (hTru ((gE (fOp (isiI isT) ((gV 0) gN))) gN))) (hOp neI ((gE (fOp lenI ((gV 0) gN))) ((gE (fOp lenI ((gV 1) gN))) gN)))) (aSeq (aRet (eC (.bool false)))
    aNil) aNil)
    (aSeq (aFor (iRg1 ((gE (fOp lenI ((gV 1) gN))) gN)) (gSet 2) (aSeq (aIf (hNot (hTru ((gE (eCall [none, none] self (gE (fOp ixA ((gV 0) ((gV 2) gN))) (gE (fOp ixA ((gV 1) ((gV 2) gN))) gN)))) gN))) (aSeq (aRet (eC (.bool false)))
    aNil) aNil)
    aNil))
    (aSeq (aRet (eC (.bool true)))
    aNil))) aNil)
    (aSeq (aIf (hOp isI ((gV 1) ((gE (eC .none)) gN))) (aSeq (aRet (fOp isI ((gV 0) ((gE (eC .none)) gN))))
    aNil) aNil)
    (aSeq (aIf (hTru ((gE (fOp (isiI isB) ((gV 1) gN))) gN)) (aSeq (aRet (eAnd (fOp (isiI isB) ((gV 0) gN)) (fOp eqI ((gV 0) ((gV 1) gN)))))
    aNil) aNil)
    (aSeq (aIf (hTru ((gE (fOp (isiI isNu) ((gV 1) gN))) gN)) (aSeq (aRet (eAnd (fOp (isiI isNu) ((gV 0) gN)) (eAnd (eNot ((gE (fOp (isiI isB) ((gV 0) gN))) gN)) (fOp eqI ((gV 0) ((gV 1) gN))))))
    aNil) aNil)
    (aSeq (aRet (eAnd (fOp (isiI isS) ((gV 0) gN)) (fOp eqI ((gV 0) ((gV 1) gN)))))
    aNil)))))
def f_law_same : Nat → Fn
  | 0 => fun _ => none
  | n + 1 => fBody M_law_same 1 false (b_law_same (f_law_same n))
theorem sc_law_same : FnScope N_law_same P_law_same (defScope s_law_same) := ⟨rfl, rfl, rfl, by decide +kernel, rfl, by decide +kernel, by decide +kernel⟩
theorem ok_law_same {g : Gb} {T0 : Tabs} (F : FunT g T0 "_law_same" s_law_same) (bm : BmG g) (b_bool : g.mg "bool" = none) (b_int : g.mg "int" = none) (b_isinstance : g.mg "isinstance" = none) (b_len : g.mg "len" = none) (b_range : g.mg "range" = none) (b_str : g.mg "str" = none) (b_tuple : g.mg "tuple" = none) : ∀ n k, k = 1 + 1 * n → DOk g T0 "_law_same" k M_law_same 2 false (f_law_same n)
  | 0, k, _ => DOk.zero (ps := P_law_same) F (fun _ _ _ _ _ _ us hl => match us, hl with | [_, _], _ => rfl)
  | n + 1, k, hk => by
    have self := ok_law_same F bm b_bool b_int b_isinstance b_len b_range b_str b_tuple n _ rfl
    obtain rfl : k = 1 + 1 * n + 0 + 1 := by omega
    exact DOk.of (ps := P_law_same) F sc_law_same rfl (fun _ _ _ _ _ _ us hl => match us, hl with | [_, _], _ => rfl) fun T X sub h hc =>
    (ss_cons (ss_if (d_tru (so_e (c_isi isi_T h b_isinstance b_tuple (c_o h 1)))) (ss_cons (ss_if (st_w (sw_or (st_not (d_tru (so_e (c_isi isi_T h b_isinstance b_tuple (c_o h 0))))) (sw_or1 (d_ne h (so_e (c_len h b_len (o_c (c_o h 0) sos_nil))) (so_e (c_len h b_len (o_c (c_o h 1) sos_nil))))))) (ss_cons (ss_ret c_bl)
    ss_nil) ss_nil)
    (ss_cons (t_for h (i_rg1 h b_range (o_c (so_e (c_len h b_len (o_c (c_o h 1) sos_nil))) sos_nil)) (g_n h 2) (ss_cons (ss_if (st_not (d_tru (so_e (c_call h self (by omega) sub (l_c (c_ix h (c_o h 0) (c_o h 2)) (l_c (c_ix h (c_o h 1) (c_o h 2)) ca_nil)))))) (ss_cons (ss_ret c_bl)
    ss_nil) ss_nil)
    ss_nil))
    (ss_cons (ss_ret c_bl)
    ss_nil))) ss_nil)
    (ss_cons (ss_if (d_is h (c_o h 1) (so_e c_non)) (ss_cons (ss_ret (c_is h (c_o h 0) (so_e c_non)))
    ss_nil) ss_nil)
    (ss_cons (ss_if (d_tru (so_e (c_isi isi_B h b_isinstance b_bool (c_o h 1)))) (ss_cons (ss_ret (s_and (c_isi isi_B h b_isinstance b_bool (c_o h 0)) (s_one (c_eq h (c_o h 0) (c_o h 1)))))
    ss_nil) ss_nil)
    (ss_cons (ss_if (d_tru (so_e (c_isi isi_I h b_isinstance b_int (c_o h 1)))) (ss_cons (ss_ret (s_and (c_isi isi_I h b_isinstance b_int (c_o h 0)) (s_and (s_not (so_e (c_isi isi_B h b_isinstance b_bool (c_o h 0)))) (s_one (c_eq h (c_o h 0) (c_o h 1))))))
    ss_nil) ss_nil)
    (ss_cons (ss_ret (s_and (c_isi isi_S h b_isinstance b_str (c_o h 0)) (s_one (c_eq h (c_o h 0) (c_o h 1)))))
    ss_nil)))))
/-! _law_is_map -/
abbrev s_law_is_map : Stmt := top 22
abbrev N_law_is_map : List Str := ["structure", "other", "found", "k", "row", "x"]
abbrev P_law_is_map : List Str := ["structure", "other", "found"]
def M_law_is_map : Kds := fun _ => .fz
def b_law_is_map : Sv := (aSeq (aFor (iRg1 ((gE (fOp lenI ((gE (fOp ixA ((gV 0) ((gE (eC (.int 2))) gN)))) gN))) gN)) (gSet 3) (aSeq (aFor (iE (fOp ixA ((gE (fOp ixA ((gE (fOp ixA ((gV 0) ((gE (eC (.int 2))) gN)))) ((gV 3) gN)))) ((gE (eC (.int 2))) gN)))) (gSet 4) (aSeq (aIf (hOp niA ((gE (fOp tupI ((gE (eLc (iE (eV 4)) (gTurn (gSet 5) hYes (fOp ixA ((gV 2) ((gV 5) gN)))) [5])) gN))) ((gE (fOp ixA ((gE (fOp ixA ((gE (fOp ixA ((gV 1) ((gE (eC (.int 2))) gN)))) ((gV 3) gN)))) ((gE (eC (.int 2))) gN)))) gN))) (aSeq (aRet (eC (.bool false)))
    aNil) aNil)
    aNil))
    aNil))
    (aSeq (aRet (eC (.bool true)))
    aNil))
def f_law_is_map : Fn := fBody M_law_is_map 3 false b_law_is_map
theorem sc_law_is_map : FnScope N_law_is_map P_law_is_map (defScope s_law_is_map) := ⟨rfl, rfl, rfl, by decide +kernel, rfl, by decide +kernel, by decide +kernel⟩
theorem ok_law_is_map {g : Gb} {T0 : Tabs} (F : FunT g T0 "_law_is_map" s_law_is_map) (bm : BmG g) (b_len : g.mg "len" = none) (b_range : g.mg "range" = none) (b_tuple : g.mg "tuple" = none) : DOk g T0 "_law_is_map" 1 M_law_is_map 3 false f_law_is_map := DOk.of (ps := P_law_is_map) F sc_law_is_map rfl (fun _ _ _ _ _ _ us hl => match us, hl with | [_, _, _], _ => rfl) fun T X sub h hc =>
    (ss_cons (t_for h (i_rg1 h b_range (o_c (so_e (c_len h b_len (o_c (so_e (c_ix h (c_o h 0) (so_e c_int))) sos_nil))) sos_nil)) (g_n h 3) (ss_cons (t_for h (si_e (c_ix h (so_e (c_ix h (so_e (c_ix h (c_o h 0) (so_e c_int))) (c_o h 3))) (so_e c_int))) (g_n h 4) (ss_cons (ss_if (d_ni h (so_e (c_tupc h b_tuple (o_c (so_e (SF.fz (c_lc (c_lex h hc [("x", 5)] (si_e (c_v h 4)) fun Xb59 h57 hc58 => ⟨g_up (g_n h57 5), p_n, (c_ix h57 (c_o h57 2) (c_o h57 5))⟩)))) sos_nil))) (so_e (c_ix h (so_e (c_ix h (so_e (c_ix h (c_o h 1) (so_e c_int))) (c_o h 3))) (so_e c_int)))) (ss_cons (ss_ret c_bl)
    ss_nil) ss_nil)
    ss_nil))
    ss_nil))
    (ss_cons (ss_ret c_bl)
    ss_nil))
/-! _law_maps -/
abbrev s_law_maps : Stmt := top 21
abbrev N_law_maps : List Str := ["structure", "other", "row"]
abbrev P_law_maps : List Str := ["structure", "other"]
def M_law_maps : Kds := fun _ => .fz
def b_law_maps : Sv := (aSeq (aRet (eLc (iE (eCall [none, none] f_law_tuples (gE (fOp ixA ((gV 1) ((gE (eC (.int 1))) gN))) (gE (fOp ixA ((gV 0) ((gE (eC (.int 1))) gN))) gN)))) (gTurn (gSet 2) (hTru ((gE (eCall [none, none, none] f_law_is_map (gE (eV 0) (gE (eV 1) (gE (eV 2) gN))))) gN)) (eV 2)) [2]))
    aNil)
def f_law_maps : Fn := fBody M_law_maps 1 true b_law_maps
theorem sc_law_maps : FnScope N_law_maps P_law_maps (defScope s_law_maps) := ⟨rfl, rfl, rfl, by decide +kernel, rfl, by decide +kernel, by decide +kernel⟩
theorem ok_law_maps {g : Gb} {T0 : Tabs} (F : FunT g T0 "_law_maps" s_law_maps) (bm : BmG g) (d_law_tuples : DOk g T0 "_law_tuples" 1 M_law_tuples 2 false f_law_tuples) (d_law_is_map : DOk g T0 "_law_is_map" 1 M_law_is_map 3 false f_law_is_map) : DOk g T0 "_law_maps" 2 M_law_maps 2 true f_law_maps := DOk.of (ps := P_law_maps) F sc_law_maps rfl (fun _ _ _ _ _ _ us hl => match us, hl with | [_, _], _ => rfl) fun T X sub h hc =>
    (ss_cons (ss_retF (c_lc (c_lex h hc [("row", 2)] (si_e (c_call h d_law_tuples (by omega) sub (l_c (c_ix h (c_o h 1) (so_e c_int)) (l_c (c_ix h (c_o h 0) (so_e c_int)) ca_nil)))) fun Xb62 h60 hc61 => ⟨g_up (g_n h60 2), (p_1 (d_tru (so_e (c_call h60 d_law_is_map (by omega) sub (l_c (c_v h60 0) (l_c (c_v h60 1) (l_c (c_v h60 2) ca_nil))))))), (c_v h60 2)⟩)))
    ss_nil)
/-! _law_functions -/
abbrev s_law_functions : Stmt := top 23
abbrev N_law_functions : List Str := ["one", "two", "known", "relations", "k", "name", "places", "rows", "found", "line", "fair", "row", "j"]
abbrev P_law_functions : List Str := ["one", "two"]
def M_law_functions : Kds := fun i => match i with | 3 => .ow | 8 => .ow | _ => .fz
def b_law_functions : Sv := (aSeq (aSet 2 (eCall [none, none] f_law_tuples (gE (fOp ixA ((gV 1) ((gE (eC (.int 1))) gN))) (gE (fOp ixA ((gV 0) ((gE (eC (.int 1))) gN))) gN))))
    (aSeq (aSet 3 (eLst gN))
    (aSeq (aFor (iRg1 ((gE (fOp lenI ((gE (fOp ixA ((gV 0) ((gE (eC (.int 2))) gN)))) gN))) gN)) (gSet 4) (aSeq (aAsg (fOp ixA ((gE (fOp ixA ((gV 0) ((gE (eC (.int 2))) gN)))) ((gV 4) gN))) (gTupT 3 (gsCons (gSet 5) (gsCons (gSet 6) (gsCons (gSet 7) gsNil)))))
    (aSeq (aSet 8 (eLst gN))
    (aSeq (aFor (iE (eCall [none, none] f_law_tuples (gE (fOp lenI ((gV 2) gN)) (gE (eV 6) gN)))) (gSet 9) (aSeq (aSet 10 (eC (.bool true)))
    (aSeq (aFor (iE (eV 7)) (gSet 11) (aSeq (aIf (hOp niA ((gE (fOp tupI ((gE (eLc (iRg1 ((gV 6) gN)) (gTurn (gSet 12) hYes (fOp ixA ((gE (fOp ixA ((gV 2) ((gE (fOp ixA ((gV 9) ((gV 12) gN)))) gN)))) ((gE (fOp ixA ((gV 11) ((gV 12) gN)))) gN)))) [12])) gN))) ((gE (fOp ixA ((gE (fOp ixA ((gE (fOp ixA ((gV 1) ((gE (eC (.int 2))) gN)))) ((gV 4) gN)))) ((gE (eC (.int 2))) gN)))) gN))) (aSeq (aSet 10 (eC (.bool false)))
    aNil) aNil)
    aNil))
    (aSeq (aIf (hTru ((gV 10) gN)) (aSeq (aApp 8 (eV 9))
    aNil) aNil)
    aNil))))
    (aSeq (aApp 3 (eTup (gE (eV 5) (gE (eV 6) (gE (fOp tupI ((gV 8) gN)) gN)))))
    aNil)))))
    (aSeq (aRet (eTup (gE (eC (.str "structure")) (gE (fOp lenI ((gV 2) gN)) (gE (fOp tupI ((gV 3) gN)) gN)))))
    aNil))))
def f_law_functions : Fn := fBody M_law_functions 11 false b_law_functions
theorem sc_law_functions : FnScope N_law_functions P_law_functions (defScope s_law_functions) := ⟨rfl, rfl, rfl, by decide +kernel, rfl, by decide +kernel, by decide +kernel⟩
theorem ok_law_functions {g : Gb} {T0 : Tabs} (F : FunT g T0 "_law_functions" s_law_functions) (bm : BmG g) (b_len : g.mg "len" = none) (b_range : g.mg "range" = none) (b_tuple : g.mg "tuple" = none) (d_law_tuples : DOk g T0 "_law_tuples" 1 M_law_tuples 2 false f_law_tuples) : DOk g T0 "_law_functions" 2 M_law_functions 2 false f_law_functions := DOk.of (ps := P_law_functions) F sc_law_functions rfl (fun _ _ _ _ _ _ us hl => match us, hl with | [_, _], _ => rfl) fun T X sub h hc =>
    (ss_cons (t_set h 2 (c_call h d_law_tuples (by omega) sub (l_c (c_ix h (c_o h 1) (so_e c_int)) (l_c (c_ix h (c_o h 0) (so_e c_int)) ca_nil))))
    (ss_cons (t_setO h 3 (s_lst sa_nil))
    (ss_cons (t_for h (i_rg1 h b_range (o_c (so_e (c_len h b_len (o_c (so_e (c_ix h (c_o h 0) (so_e c_int))) sos_nil))) sos_nil)) (g_n h 4) (ss_cons (t_asg (c_ix h (so_e (c_ix h (c_o h 0) (so_e c_int))) (c_o h 4)) (g_t h (g_c (g_n h 5) (g_c (g_n h 6) (g_c (g_n h 7) sgs_nil)))))
    (ss_cons (t_setO h 8 (s_lst sa_nil))
    (ss_cons (t_for h (si_e (c_call h d_law_tuples (by omega) sub (l_c (c_len h b_len (o_c (c_o h 2) sos_nil)) (l_c (c_v h 6) ca_nil)))) (g_n h 9) (ss_cons (t_set h 10 c_bl)
    (ss_cons (t_for h (si_e (c_v h 7)) (g_n h 11) (ss_cons (ss_if (d_ni h (so_e (c_tupc h b_tuple (o_c (so_e (SF.fz (c_lc (c_lex h hc [("j", 12)] (i_rg1 h b_range (o_c (c_o h 6) sos_nil)) fun Xb65 h63 hc64 => ⟨g_up (g_n h63 12), p_n, (c_ix h63 (so_e (c_ix h63 (c_o h63 2) (so_e (c_ix h63 (c_o h63 9) (c_o h63 12))))) (so_e (c_ix h63 (c_o h63 11) (c_o h63 12))))⟩)))) sos_nil))) (so_e (c_ix h (so_e (c_ix h (so_e (c_ix h (c_o h 1) (so_e c_int))) (c_o h 4))) (so_e c_int)))) (ss_cons (t_set h 10 c_bl)
    ss_nil) ss_nil)
    ss_nil))
    (ss_cons (ss_if (d_tru (c_o h 10)) (ss_cons (t_app h 8 (c_v h 9))
    ss_nil) ss_nil)
    ss_nil))))
    (ss_cons (t_app h 3 (s_tup (a_c (c_v h 5) (a_c (c_v h 6) (a_c (c_tupc h b_tuple (o_c (c_o h 8) sos_nil)) sa_nil)))))
    ss_nil)))))
    (ss_cons (ss_ret (s_tup (a_c c_str (a_c (c_len h b_len (o_c (c_o h 2) sos_nil)) (a_c (c_tupc h b_tuple (o_c (c_o h 3) sos_nil)) sa_nil)))))
    ss_nil))))
/-! law -/
abbrev s_law : Stmt := top 24
abbrev N_law : List Str := ["script", "box", "kinds", "one", "two", "three", "first", "second", "maps"]
abbrev P_law : List Str := ["script"]
def M_law : Kds := fun i => match i with | 1 => .ow | _ => .fz
def b_law : Sv := (aSeq (aSet 1 (eCall [none, none, none] f_law_box (gE (eV 0) (gE (eC (.int 0)) (gE (eC (.int 62)) gN)))))
    (aSeq (aSet 2 (eCall [some 1] f_law_kinds (gV 1 gN)))
    (aSeq (aSet 3 (eCall [some 1, none, none] f_law_structure (gV 1 (gE (eV 2) (gE (fOp addI ((gE (eC (.int 1))) ((gE (eCall [some 1, none] f_law_draw (gV 1 (gE (eC (.int 2)) gN)))) gN))) gN)))))
    (aSeq (aSet 4 (eCall [some 1, none, none] f_law_structure (gV 1 (gE (eV 2) (gE (eC (.int 1)) gN)))))
    (aSeq (aIf (hOp eqI ((gE (eCall [some 1, none] f_law_draw (gV 1 (gE (eC (.int 2)) gN)))) ((gE (eC (.int 0))) gN))) (aSeq (aPar 3 4 (gE (eV 4) (gE (eV 3) gN)))
    aNil) aNil)
    (aSeq (aSet 5 (eCall [some 1, none, none] f_law_structure (gV 1 (gE (eV 2) (gE (fOp addI ((gE (eC (.int 1))) ((gE (eCall [some 1, none] f_law_draw (gV 1 (gE (eC (.int 2)) gN)))) gN))) gN)))))
    (aSeq (aSet 6 (eCall [none, none] f_law_functions (gE (eV 3) (gE (eV 5) gN))))
    (aSeq (aSet 7 (eCall [none, none] f_law_functions (gE (eV 4) (gE (eV 5) gN))))
    (aSeq (aIf (hOr (hNot (hTru ((gE (eCall [none, none] (f_law_same 8) (gE (eCall [none, none] f_functions (gE (eV 3) (gE (eV 5) gN))) (gE (eV 6) gN)))) gN))) (hNot (hTru ((gE (eCall [none, none] (f_law_same 8) (gE (eCall [none, none] f_functions (gE (eV 4) (gE (eV 5) gN))) (gE (eV 7) gN)))) gN)))) (aSeq (aRet (eC (.bool false)))
    aNil) aNil)
    (aSeq (aIf (hNot (hTru ((gE (eCall [none, none] (f_law_same 8) (gE (eCall [none, none] f_functions (gE (eCall [none, none] f_sum_of (gE (eV 3) (gE (eV 4) gN))) (gE (eV 5) gN))) (gE (eCall [none, none] f_product (gE (eV 6) (gE (eV 7) gN))) gN)))) gN))) (aSeq (aRet (eC (.bool false)))
    aNil) aNil)
    (aSeq (aSet 8 (fOp mulI ((gE (fOp lenI ((gE (eCall [none, none] f_law_maps (gE (eV 3) (gE (eV 5) gN)))) gN))) ((gE (fOp lenI ((gE (eCall [none, none] f_law_maps (gE (eV 4) (gE (eV 5) gN)))) gN))) gN))))
    (aSeq (aRet (eCall [none, none] (f_law_same 8) (gE (eCall [none, none] f_count_maps (gE (eCall [none, none] f_sum_of (gE (eV 3) (gE (eV 4) gN))) (gE (eV 5) gN))) (gE (eV 8) gN))))
    aNil))))))))))))
def f_law : Fn := fBody M_law 8 false b_law
theorem sc_law : FnScope N_law P_law (defScope s_law) := ⟨rfl, rfl, rfl, by decide +kernel, rfl, by decide +kernel, by decide +kernel⟩
theorem ok_law {g : Gb} {T0 : Tabs} {fa c P : Addr} {oc : Value} {od an : Option Addr} {kV doc pm ct : Value} {osl : Array (Option Value)} (l : g.K.lookup fa = some ⟨oc, od, .func (PySem.W.fnOf "law" "law" (defArgs s_law) (defBody s_law) (defScope s_law) .none kV doc pm an (.ref c) ct), osl⟩) (hcd : PySem.W.codeIn g.K (.ref c) "law" = true) (hmem : (c, P, false) ∈ T0) (hhd : PySem.W.CodeHd g.base c P) (bm : BmG g) (b_len : g.mg "len" = none) (d_law_box : DOk g T0 "_law_box" 3 M_law_box 3 true f_law_box) (d_law_kinds : DOk g T0 "_law_kinds" 2 M_law_kinds 1 false f_law_kinds) (d_law_structure : DOk g T0 "_law_structure" 2 M_law_structure 3 false f_law_structure) (d_law_functions : DOk g T0 "_law_functions" 2 M_law_functions 2 false f_law_functions) (d_law_same : ∀ n k, k = 1 + 1 * n → DOk g T0 "_law_same" k M_law_same 2 false (f_law_same n)) (d_law_draw : DOk g T0 "_law_draw" 1 M_law_draw 2 false f_law_draw) (d_count_maps : DOk g T0 "count_maps" 71 M_count_maps 2 false f_count_maps) (d_functions : DOk g T0 "functions" 7 M_functions 2 false f_functions) (d_product : DOk g T0 "product" 7 M_product 2 false f_product) (d_law_maps : DOk g T0 "_law_maps" 2 M_law_maps 2 true f_law_maps) (d_sum_of : DOk g T0 "sum_of" 13 M_sum_of 2 false f_sum_of) : FnOk g.P g.w g.K g.mg g.base CX0 72 fa (PySem.W.fnOf "law" "law" (defArgs s_law) (defBody s_law) (defScope s_law) .none kV doc pm an (.ref c) ct) P_law (spF g.K g.w T0 M_law 1 false f_law) := fn_okT (ps := P_law) l hcd hmem hhd sc_law rfl fun T X sub h hc =>
    (ss_cons (t_setO h 1 (c_callF h d_law_box (by omega) sub (l_c (c_v h 0) (l_c c_int (l_c c_int ca_nil)))))
    (ss_cons (t_set h 2 (c_call h d_law_kinds (by omega) sub (c_l h 1 ca_nil)))
    (ss_cons (t_set h 3 (c_call h d_law_structure (by omega) sub (c_l h 1 (l_c (c_v h 2) (l_c (c_add (so_e c_int) (so_e (c_call h d_law_draw (by omega) sub (c_l h 1 (l_c c_int ca_nil))))) ca_nil)))))
    (ss_cons (t_set h 4 (c_call h d_law_structure (by omega) sub (c_l h 1 (l_c (c_v h 2) (l_c c_int ca_nil)))))
    (ss_cons (ss_if (d_eq h (so_e (c_call h d_law_draw (by omega) sub (c_l h 1 (l_c c_int ca_nil)))) (so_e c_int)) (ss_cons (t_par h 3 4 (a_c (c_v h 4) (a_c (c_v h 3) sa_nil)))
    ss_nil) ss_nil)
    (ss_cons (t_set h 5 (c_call h d_law_structure (by omega) sub (c_l h 1 (l_c (c_v h 2) (l_c (c_add (so_e c_int) (so_e (c_call h d_law_draw (by omega) sub (c_l h 1 (l_c c_int ca_nil))))) ca_nil)))))
    (ss_cons (t_set h 6 (c_call h d_law_functions (by omega) sub (l_c (c_v h 3) (l_c (c_v h 5) ca_nil))))
    (ss_cons (t_set h 7 (c_call h d_law_functions (by omega) sub (l_c (c_v h 4) (l_c (c_v h 5) ca_nil))))
    (ss_cons (ss_if (st_w (sw_or (st_not (d_tru (so_e (c_call h (d_law_same 8 _ rfl) (by omega) sub (l_c (c_call h d_functions (by omega) sub (l_c (c_v h 3) (l_c (c_v h 5) ca_nil))) (l_c (c_v h 6) ca_nil)))))) (sw_or1 (st_not (d_tru (so_e (c_call h (d_law_same 8 _ rfl) (by omega) sub (l_c (c_call h d_functions (by omega) sub (l_c (c_v h 4) (l_c (c_v h 5) ca_nil))) (l_c (c_v h 7) ca_nil))))))))) (ss_cons (ss_ret c_bl)
    ss_nil) ss_nil)
    (ss_cons (ss_if (st_not (d_tru (so_e (c_call h (d_law_same 8 _ rfl) (by omega) sub (l_c (c_call h d_functions (by omega) sub (l_c (c_call h d_sum_of (by omega) sub (l_c (c_v h 3) (l_c (c_v h 4) ca_nil))) (l_c (c_v h 5) ca_nil))) (l_c (c_call h d_product (by omega) sub (l_c (c_v h 6) (l_c (c_v h 7) ca_nil))) ca_nil)))))) (ss_cons (ss_ret c_bl)
    ss_nil) ss_nil)
    (ss_cons (t_set h 8 (c_mul (so_e (c_len h b_len (o_c (so_e (SF.fz (c_callF h d_law_maps (by omega) sub (l_c (c_v h 3) (l_c (c_v h 5) ca_nil))))) sos_nil))) (so_e (c_len h b_len (o_c (so_e (SF.fz (c_callF h d_law_maps (by omega) sub (l_c (c_v h 4) (l_c (c_v h 5) ca_nil))))) sos_nil)))))
    (ss_cons (ss_ret (c_call h (d_law_same 8 _ rfl) (by omega) sub (l_c (c_call h d_count_maps (by omega) sub (l_c (c_call h d_sum_of (by omega) sub (l_c (c_v h 3) (l_c (c_v h 4) ca_nil))) (l_c (c_v h 5) ca_nil))) (l_c (c_v h 8) ca_nil))))
    ss_nil))))))))))))
end K89
namespace K89
open Sx PySem PySem.Spec PyProof.Rows L2
theorem h_same : ∀ n, f_law_same n = FG.f_law_same n
  | 0 => rfl
  | n + 1 => by
    show fBody M_law_same 1 false (b_law_same (f_law_same n)) = fBody FG.M_law_same 1 false (FG.b_law_same (FG.f_law_same n))
    rw [h_same n]
    rfl
theorem h_cnt : ∀ n, f_count_from n = FG.f_count_from n
  | 0 => rfl
  | n + 1 => by
    show fBody M_count_from 1 false (b_count_from (f_count_from n)) = fBody FG.M_count_from 1 false (FG.b_count_from (FG.f_count_from n))
    rw [h_cnt n]
    rfl
theorem h_cmaps : f_count_maps = FG.f_count_maps := by
  unfold f_count_maps FG.f_count_maps b_count_maps FG.b_count_maps
  rw [h_cnt]
  rfl
theorem h_law : f_law = FG.f_law := by
  unfold f_law FG.f_law b_law FG.b_law
  rw [h_same, h_cmaps]
  rfl
theorem law_true : ∀ ns : List Int, ns.length ≤ 63 → ∃ r, f_law [scrD ns] = some (.bool true, [r]) := by
  rw [h_law]
  exact FG.law_true
end K89
namespace K89
open Sx PySem PySem.Spec PyProof.Rows L2
theorem all_mk {P0 q : Program} {w : World} {K : PySem.W.Frag} {h : Heap} {mg : Str → Option Value} {fa : Addr} (X : K.In h) (G : h.Ns mainGlobals mg) (hfa : mg "law" = some (.ref fa)) (TK : TabK q K h) (hlaw : ∀ ns : List Int, ns.length ≤ 63 → ∃ r, f_law [scrD ns] = some (.bool true, [r]))
    {f1 c1 P1 : Addr} {od1 an1 : Option Addr} {sl1 : Array (Option Value)} {oc1 kV1 dc1 pm1 ct1 oe1 : Value} {vs1 : Array Value} {of1 : Option Addr} {sm1 : Array (Option Value)}
    (a1 : PySem.W.nsIn K mainGlobals "rows_by_name" = some (some (.ref f1))) (l1 : K.lookup f1 = some ⟨oc1, od1, .func (PySem.W.fnOf "rows_by_name" "rows_by_name" (defArgs s_rows_by_name) (defBody s_rows_by_name) (defScope s_rows_by_name) .none kV1 dc1 pm1 an1 (.ref c1) ct1), sl1⟩) (h1 : PySem.W.codeIn K (.ref c1) "rows_by_name" = true) (k1 : PySem.W.keepIn K (.ref f1) = true) (t1 : K.lookup c1 = some ⟨oe1, of1, .fields vs1, sm1⟩) (p1 : vs1[11]? = some (.ref P1)) (n1 : K.lookup P1 = none)
    {f2 c2 P2 : Addr} {od2 an2 : Option Addr} {sl2 : Array (Option Value)} {oc2 kV2 dc2 pm2 ct2 oe2 : Value} {vs2 : Array Value} {of2 : Option Addr} {sm2 : Array (Option Value)}
    (a2 : PySem.W.nsIn K mainGlobals "tuples" = some (some (.ref f2))) (l2 : K.lookup f2 = some ⟨oc2, od2, .func (PySem.W.fnOf "tuples" "tuples" (defArgs s_tuples) (defBody s_tuples) (defScope s_tuples) .none kV2 dc2 pm2 an2 (.ref c2) ct2), sl2⟩) (h2 : PySem.W.codeIn K (.ref c2) "tuples" = true) (k2 : PySem.W.keepIn K (.ref f2) = true) (t2 : K.lookup c2 = some ⟨oe2, of2, .fields vs2, sm2⟩) (p2 : vs2[11]? = some (.ref P2)) (n2 : K.lookup P2 = none)
    {f3 c3 P3 : Addr} {od3 an3 : Option Addr} {sl3 : Array (Option Value)} {oc3 kV3 dc3 pm3 ct3 oe3 : Value} {vs3 : Array Value} {of3 : Option Addr} {sm3 : Array (Option Value)}
    (a3 : PySem.W.nsIn K mainGlobals "keeps_rows" = some (some (.ref f3))) (l3 : K.lookup f3 = some ⟨oc3, od3, .func (PySem.W.fnOf "keeps_rows" "keeps_rows" (defArgs s_keeps_rows) (defBody s_keeps_rows) (defScope s_keeps_rows) .none kV3 dc3 pm3 an3 (.ref c3) ct3), sl3⟩) (h3 : PySem.W.codeIn K (.ref c3) "keeps_rows" = true) (k3 : PySem.W.keepIn K (.ref f3) = true) (t3 : K.lookup c3 = some ⟨oe3, of3, .fields vs3, sm3⟩) (p3 : vs3[11]? = some (.ref P3)) (n3 : K.lookup P3 = none)
    {f4 c4 P4 : Addr} {od4 an4 : Option Addr} {sl4 : Array (Option Value)} {oc4 kV4 dc4 pm4 ct4 oe4 : Value} {vs4 : Array Value} {of4 : Option Addr} {sm4 : Array (Option Value)}
    (a4 : PySem.W.nsIn K mainGlobals "count_from" = some (some (.ref f4))) (l4 : K.lookup f4 = some ⟨oc4, od4, .func (PySem.W.fnOf "count_from" "count_from" (defArgs s_count_from) (defBody s_count_from) (defScope s_count_from) .none kV4 dc4 pm4 an4 (.ref c4) ct4), sl4⟩) (h4 : PySem.W.codeIn K (.ref c4) "count_from" = true) (k4 : PySem.W.keepIn K (.ref f4) = true) (t4 : K.lookup c4 = some ⟨oe4, of4, .fields vs4, sm4⟩) (p4 : vs4[11]? = some (.ref P4)) (n4 : K.lookup P4 = none)
    {f5 c5 P5 : Addr} {od5 an5 : Option Addr} {sl5 : Array (Option Value)} {oc5 kV5 dc5 pm5 ct5 oe5 : Value} {vs5 : Array Value} {of5 : Option Addr} {sm5 : Array (Option Value)}
    (a5 : PySem.W.nsIn K mainGlobals "count_maps" = some (some (.ref f5))) (l5 : K.lookup f5 = some ⟨oc5, od5, .func (PySem.W.fnOf "count_maps" "count_maps" (defArgs s_count_maps) (defBody s_count_maps) (defScope s_count_maps) .none kV5 dc5 pm5 an5 (.ref c5) ct5), sl5⟩) (h5 : PySem.W.codeIn K (.ref c5) "count_maps" = true) (k5 : PySem.W.keepIn K (.ref f5) = true) (t5 : K.lookup c5 = some ⟨oe5, of5, .fields vs5, sm5⟩) (p5 : vs5[11]? = some (.ref P5)) (n5 : K.lookup P5 = none)
    {f6 c6 P6 : Addr} {od6 an6 : Option Addr} {sl6 : Array (Option Value)} {oc6 kV6 dc6 pm6 ct6 oe6 : Value} {vs6 : Array Value} {of6 : Option Addr} {sm6 : Array (Option Value)}
    (a6 : PySem.W.nsIn K mainGlobals "product" = some (some (.ref f6))) (l6 : K.lookup f6 = some ⟨oc6, od6, .func (PySem.W.fnOf "product" "product" (defArgs s_product) (defBody s_product) (defScope s_product) .none kV6 dc6 pm6 an6 (.ref c6) ct6), sl6⟩) (h6 : PySem.W.codeIn K (.ref c6) "product" = true) (k6 : PySem.W.keepIn K (.ref f6) = true) (t6 : K.lookup c6 = some ⟨oe6, of6, .fields vs6, sm6⟩) (p6 : vs6[11]? = some (.ref P6)) (n6 : K.lookup P6 = none)
    {f7 c7 P7 : Addr} {od7 an7 : Option Addr} {sl7 : Array (Option Value)} {oc7 kV7 dc7 pm7 ct7 oe7 : Value} {vs7 : Array Value} {of7 : Option Addr} {sm7 : Array (Option Value)}
    (a7 : PySem.W.nsIn K mainGlobals "sum_of" = some (some (.ref f7))) (l7 : K.lookup f7 = some ⟨oc7, od7, .func (PySem.W.fnOf "sum_of" "sum_of" (defArgs s_sum_of) (defBody s_sum_of) (defScope s_sum_of) .none kV7 dc7 pm7 an7 (.ref c7) ct7), sl7⟩) (h7 : PySem.W.codeIn K (.ref c7) "sum_of" = true) (k7 : PySem.W.keepIn K (.ref f7) = true) (t7 : K.lookup c7 = some ⟨oe7, of7, .fields vs7, sm7⟩) (p7 : vs7[11]? = some (.ref P7)) (n7 : K.lookup P7 = none)
    {f8 c8 P8 : Addr} {od8 an8 : Option Addr} {sl8 : Array (Option Value)} {oc8 kV8 dc8 pm8 ct8 oe8 : Value} {vs8 : Array Value} {of8 : Option Addr} {sm8 : Array (Option Value)}
    (a8 : PySem.W.nsIn K mainGlobals "functions" = some (some (.ref f8))) (l8 : K.lookup f8 = some ⟨oc8, od8, .func (PySem.W.fnOf "functions" "functions" (defArgs s_functions) (defBody s_functions) (defScope s_functions) .none kV8 dc8 pm8 an8 (.ref c8) ct8), sl8⟩) (h8 : PySem.W.codeIn K (.ref c8) "functions" = true) (k8 : PySem.W.keepIn K (.ref f8) = true) (t8 : K.lookup c8 = some ⟨oe8, of8, .fields vs8, sm8⟩) (p8 : vs8[11]? = some (.ref P8)) (n8 : K.lookup P8 = none)
    {f9 c9 P9 : Addr} {od9 an9 : Option Addr} {sl9 : Array (Option Value)} {oc9 kV9 dc9 pm9 ct9 oe9 : Value} {vs9 : Array Value} {of9 : Option Addr} {sm9 : Array (Option Value)}
    (a9 : PySem.W.nsIn K mainGlobals "_law_tuples" = some (some (.ref f9))) (l9 : K.lookup f9 = some ⟨oc9, od9, .func (PySem.W.fnOf "_law_tuples" "_law_tuples" (defArgs s_law_tuples) (defBody s_law_tuples) (defScope s_law_tuples) .none kV9 dc9 pm9 an9 (.ref c9) ct9), sl9⟩) (h9 : PySem.W.codeIn K (.ref c9) "_law_tuples" = true) (k9 : PySem.W.keepIn K (.ref f9) = true) (t9 : K.lookup c9 = some ⟨oe9, of9, .fields vs9, sm9⟩) (p9 : vs9[11]? = some (.ref P9)) (n9 : K.lookup P9 = none)
    {f10 c10 P10 : Addr} {od10 an10 : Option Addr} {sl10 : Array (Option Value)} {oc10 kV10 dc10 pm10 ct10 oe10 : Value} {vs10 : Array Value} {of10 : Option Addr} {sm10 : Array (Option Value)}
    (a10 : PySem.W.nsIn K mainGlobals "_law_cell" = some (some (.ref f10))) (l10 : K.lookup f10 = some ⟨oc10, od10, .func (PySem.W.fnOf "_law_cell" "_law_cell" (defArgs s_law_cell) (defBody s_law_cell) (defScope s_law_cell) .none kV10 dc10 pm10 an10 (.ref c10) ct10), sl10⟩) (h10 : PySem.W.codeIn K (.ref c10) "_law_cell" = true) (k10 : PySem.W.keepIn K (.ref f10) = true) (t10 : K.lookup c10 = some ⟨oe10, of10, .fields vs10, sm10⟩) (p10 : vs10[11]? = some (.ref P10)) (n10 : K.lookup P10 = none)
    {f11 c11 P11 : Addr} {od11 an11 : Option Addr} {sl11 : Array (Option Value)} {oc11 kV11 dc11 pm11 ct11 oe11 : Value} {vs11 : Array Value} {of11 : Option Addr} {sm11 : Array (Option Value)}
    (a11 : PySem.W.nsIn K mainGlobals "_law_digits" = some (some (.ref f11))) (l11 : K.lookup f11 = some ⟨oc11, od11, .func (PySem.W.fnOf "_law_digits" "_law_digits" (defArgs s_law_digits) (defBody s_law_digits) (defScope s_law_digits) .none kV11 dc11 pm11 an11 (.ref c11) ct11), sl11⟩) (h11 : PySem.W.codeIn K (.ref c11) "_law_digits" = true) (k11 : PySem.W.keepIn K (.ref f11) = true) (t11 : K.lookup c11 = some ⟨oe11, of11, .fields vs11, sm11⟩) (p11 : vs11[11]? = some (.ref P11)) (n11 : K.lookup P11 = none)
    {f12 c12 P12 : Addr} {od12 an12 : Option Addr} {sl12 : Array (Option Value)} {oc12 kV12 dc12 pm12 ct12 oe12 : Value} {vs12 : Array Value} {of12 : Option Addr} {sm12 : Array (Option Value)}
    (a12 : PySem.W.nsIn K mainGlobals "_law_box" = some (some (.ref f12))) (l12 : K.lookup f12 = some ⟨oc12, od12, .func (PySem.W.fnOf "_law_box" "_law_box" (defArgs s_law_box) (defBody s_law_box) (defScope s_law_box) .none kV12 dc12 pm12 an12 (.ref c12) ct12), sl12⟩) (h12 : PySem.W.codeIn K (.ref c12) "_law_box" = true) (k12 : PySem.W.keepIn K (.ref f12) = true) (t12 : K.lookup c12 = some ⟨oe12, of12, .fields vs12, sm12⟩) (p12 : vs12[11]? = some (.ref P12)) (n12 : K.lookup P12 = none)
    {f13 c13 P13 : Addr} {od13 an13 : Option Addr} {sl13 : Array (Option Value)} {oc13 kV13 dc13 pm13 ct13 oe13 : Value} {vs13 : Array Value} {of13 : Option Addr} {sm13 : Array (Option Value)}
    (a13 : PySem.W.nsIn K mainGlobals "_law_draw" = some (some (.ref f13))) (l13 : K.lookup f13 = some ⟨oc13, od13, .func (PySem.W.fnOf "_law_draw" "_law_draw" (defArgs s_law_draw) (defBody s_law_draw) (defScope s_law_draw) .none kV13 dc13 pm13 an13 (.ref c13) ct13), sl13⟩) (h13 : PySem.W.codeIn K (.ref c13) "_law_draw" = true) (k13 : PySem.W.keepIn K (.ref f13) = true) (t13 : K.lookup c13 = some ⟨oe13, of13, .fields vs13, sm13⟩) (p13 : vs13[11]? = some (.ref P13)) (n13 : K.lookup P13 = none)
    {f14 c14 P14 : Addr} {od14 an14 : Option Addr} {sl14 : Array (Option Value)} {oc14 kV14 dc14 pm14 ct14 oe14 : Value} {vs14 : Array Value} {of14 : Option Addr} {sm14 : Array (Option Value)}
    (a14 : PySem.W.nsIn K mainGlobals "_law_kinds" = some (some (.ref f14))) (l14 : K.lookup f14 = some ⟨oc14, od14, .func (PySem.W.fnOf "_law_kinds" "_law_kinds" (defArgs s_law_kinds) (defBody s_law_kinds) (defScope s_law_kinds) .none kV14 dc14 pm14 an14 (.ref c14) ct14), sl14⟩) (h14 : PySem.W.codeIn K (.ref c14) "_law_kinds" = true) (k14 : PySem.W.keepIn K (.ref f14) = true) (t14 : K.lookup c14 = some ⟨oe14, of14, .fields vs14, sm14⟩) (p14 : vs14[11]? = some (.ref P14)) (n14 : K.lookup P14 = none)
    {f15 c15 P15 : Addr} {od15 an15 : Option Addr} {sl15 : Array (Option Value)} {oc15 kV15 dc15 pm15 ct15 oe15 : Value} {vs15 : Array Value} {of15 : Option Addr} {sm15 : Array (Option Value)}
    (a15 : PySem.W.nsIn K mainGlobals "_law_structure" = some (some (.ref f15))) (l15 : K.lookup f15 = some ⟨oc15, od15, .func (PySem.W.fnOf "_law_structure" "_law_structure" (defArgs s_law_structure) (defBody s_law_structure) (defScope s_law_structure) .none kV15 dc15 pm15 an15 (.ref c15) ct15), sl15⟩) (h15 : PySem.W.codeIn K (.ref c15) "_law_structure" = true) (k15 : PySem.W.keepIn K (.ref f15) = true) (t15 : K.lookup c15 = some ⟨oe15, of15, .fields vs15, sm15⟩) (p15 : vs15[11]? = some (.ref P15)) (n15 : K.lookup P15 = none)
    {f16 c16 P16 : Addr} {od16 an16 : Option Addr} {sl16 : Array (Option Value)} {oc16 kV16 dc16 pm16 ct16 oe16 : Value} {vs16 : Array Value} {of16 : Option Addr} {sm16 : Array (Option Value)}
    (a16 : PySem.W.nsIn K mainGlobals "_law_same" = some (some (.ref f16))) (l16 : K.lookup f16 = some ⟨oc16, od16, .func (PySem.W.fnOf "_law_same" "_law_same" (defArgs s_law_same) (defBody s_law_same) (defScope s_law_same) .none kV16 dc16 pm16 an16 (.ref c16) ct16), sl16⟩) (h16 : PySem.W.codeIn K (.ref c16) "_law_same" = true) (k16 : PySem.W.keepIn K (.ref f16) = true) (t16 : K.lookup c16 = some ⟨oe16, of16, .fields vs16, sm16⟩) (p16 : vs16[11]? = some (.ref P16)) (n16 : K.lookup P16 = none)
    {f17 c17 P17 : Addr} {od17 an17 : Option Addr} {sl17 : Array (Option Value)} {oc17 kV17 dc17 pm17 ct17 oe17 : Value} {vs17 : Array Value} {of17 : Option Addr} {sm17 : Array (Option Value)}
    (a17 : PySem.W.nsIn K mainGlobals "_law_is_map" = some (some (.ref f17))) (l17 : K.lookup f17 = some ⟨oc17, od17, .func (PySem.W.fnOf "_law_is_map" "_law_is_map" (defArgs s_law_is_map) (defBody s_law_is_map) (defScope s_law_is_map) .none kV17 dc17 pm17 an17 (.ref c17) ct17), sl17⟩) (h17 : PySem.W.codeIn K (.ref c17) "_law_is_map" = true) (k17 : PySem.W.keepIn K (.ref f17) = true) (t17 : K.lookup c17 = some ⟨oe17, of17, .fields vs17, sm17⟩) (p17 : vs17[11]? = some (.ref P17)) (n17 : K.lookup P17 = none)
    {f18 c18 P18 : Addr} {od18 an18 : Option Addr} {sl18 : Array (Option Value)} {oc18 kV18 dc18 pm18 ct18 oe18 : Value} {vs18 : Array Value} {of18 : Option Addr} {sm18 : Array (Option Value)}
    (a18 : PySem.W.nsIn K mainGlobals "_law_maps" = some (some (.ref f18))) (l18 : K.lookup f18 = some ⟨oc18, od18, .func (PySem.W.fnOf "_law_maps" "_law_maps" (defArgs s_law_maps) (defBody s_law_maps) (defScope s_law_maps) .none kV18 dc18 pm18 an18 (.ref c18) ct18), sl18⟩) (h18 : PySem.W.codeIn K (.ref c18) "_law_maps" = true) (k18 : PySem.W.keepIn K (.ref f18) = true) (t18 : K.lookup c18 = some ⟨oe18, of18, .fields vs18, sm18⟩) (p18 : vs18[11]? = some (.ref P18)) (n18 : K.lookup P18 = none)
    {f19 c19 P19 : Addr} {od19 an19 : Option Addr} {sl19 : Array (Option Value)} {oc19 kV19 dc19 pm19 ct19 oe19 : Value} {vs19 : Array Value} {of19 : Option Addr} {sm19 : Array (Option Value)}
    (a19 : PySem.W.nsIn K mainGlobals "_law_functions" = some (some (.ref f19))) (l19 : K.lookup f19 = some ⟨oc19, od19, .func (PySem.W.fnOf "_law_functions" "_law_functions" (defArgs s_law_functions) (defBody s_law_functions) (defScope s_law_functions) .none kV19 dc19 pm19 an19 (.ref c19) ct19), sl19⟩) (h19 : PySem.W.codeIn K (.ref c19) "_law_functions" = true) (k19 : PySem.W.keepIn K (.ref f19) = true) (t19 : K.lookup c19 = some ⟨oe19, of19, .fields vs19, sm19⟩) (p19 : vs19[11]? = some (.ref P19)) (n19 : K.lookup P19 = none)
    {f20 c20 P20 : Addr} {od20 an20 : Option Addr} {sl20 : Array (Option Value)} {oc20 kV20 dc20 pm20 ct20 oe20 : Value} {vs20 : Array Value} {of20 : Option Addr} {sm20 : Array (Option Value)}
    (a20 : PySem.W.nsIn K mainGlobals "law" = some (some (.ref f20))) (l20 : K.lookup f20 = some ⟨oc20, od20, .func (PySem.W.fnOf "law" "law" (defArgs s_law) (defBody s_law) (defScope s_law) .none kV20 dc20 pm20 an20 (.ref c20) ct20), sl20⟩) (h20 : PySem.W.codeIn K (.ref c20) "law" = true) (k20 : PySem.W.keepIn K (.ref f20) = true) (t20 : K.lookup c20 = some ⟨oe20, of20, .fields vs20, sm20⟩) (p20 : vs20[11]? = some (.ref P20)) (n20 : K.lookup P20 = none)
    (z_all : PySem.W.nsIn K mainGlobals "all" = some none)
    (z_bool : PySem.W.nsIn K mainGlobals "bool" = some none)
    (z_enumerate : PySem.W.nsIn K mainGlobals "enumerate" = some none)
    (z_int : PySem.W.nsIn K mainGlobals "int" = some none)
    (z_isinstance : PySem.W.nsIn K mainGlobals "isinstance" = some none)
    (z_len : PySem.W.nsIn K mainGlobals "len" = some none)
    (z_max : PySem.W.nsIn K mainGlobals "max" = some none)
    (z_range : PySem.W.nsIn K mainGlobals "range" = some none)
    (z_sorted : PySem.W.nsIn K mainGlobals "sorted" = some none)
    (z_str : PySem.W.nsIn K mainGlobals "str" = some none)
    (z_sum : PySem.W.nsIn K mainGlobals "sum" = some none)
    (z_tuple : PySem.W.nsIn K mainGlobals "tuple" = some none)
    (z_zip : PySem.W.nsIn K mainGlobals "zip" = some none)
    (rr : (["rows_by_name", "tuples", "keeps_rows", "count_from", "count_maps", "product", "sum_of", "functions", "_law_tuples", "_law_cell", "_law_digits", "_law_box", "_law_draw", "_law_kinds", "_law_structure", "_law_same", "_law_is_map", "_law_maps", "_law_functions", "law"] : List Str).all (fun x => (PyProof.Rows.recsOf q).any fun e => e.name == x) = true) :
    ∃ (T0 : Tabs) (Φ : Fn) (Ml : Kds) (fd : FuncData), T0 ≠ [] ∧ (∀ t ∈ T0, t.2.2 = false ∧ (PySem.W.CodeHd h t.1 t.2.1 ∧ h.get? t.2.1 = some { cls := .none, data := .fields #[] }) ∧ K.lookup t.2.1 = none) ∧ (Ml 0).own = false ∧ (∀ ns : List Int, ns.length ≤ 63 → ∃ r, Φ [scrD ns] = some (.bool true, [r])) ∧ (∀ (s : Shared) (u : Value), BindsTo s fd ⟨[u], []⟩ [("script", u)]) ∧ ∀ base : Heap, K.In base → base.Ns mainGlobals mg → (∀ t ∈ T0, PySem.W.CodeHd base t.1 t.2.1) → BmG ⟨P0, w, K, mg, base⟩ → FnOk P0 w K mg base CX0 72 fa fd ["script"] (spF K w T0 Ml 1 false Φ) := by
  have e := hfa.symm.trans (PySem.W.mg_of X G a20)
  cases e
  have rr2 := List.all_eq_true.mp rr
  have m1 := PySem.W.mg_of X G a1
  have r1 := TK "rows_by_name" c1 P1 (rr2 _ (List.mem_of_getElem? (i := 0) rfl)) (tabIn_of a1 l1 rfl t1 p1)
  have m2 := PySem.W.mg_of X G a2
  have r2 := TK "tuples" c2 P2 (rr2 _ (List.mem_of_getElem? (i := 1) rfl)) (tabIn_of a2 l2 rfl t2 p2)
  have m3 := PySem.W.mg_of X G a3
  have r3 := TK "keeps_rows" c3 P3 (rr2 _ (List.mem_of_getElem? (i := 2) rfl)) (tabIn_of a3 l3 rfl t3 p3)
  have m4 := PySem.W.mg_of X G a4
  have r4 := TK "count_from" c4 P4 (rr2 _ (List.mem_of_getElem? (i := 3) rfl)) (tabIn_of a4 l4 rfl t4 p4)
  have m5 := PySem.W.mg_of X G a5
  have r5 := TK "count_maps" c5 P5 (rr2 _ (List.mem_of_getElem? (i := 4) rfl)) (tabIn_of a5 l5 rfl t5 p5)
  have m6 := PySem.W.mg_of X G a6
  have r6 := TK "product" c6 P6 (rr2 _ (List.mem_of_getElem? (i := 5) rfl)) (tabIn_of a6 l6 rfl t6 p6)
  have m7 := PySem.W.mg_of X G a7
  have r7 := TK "sum_of" c7 P7 (rr2 _ (List.mem_of_getElem? (i := 6) rfl)) (tabIn_of a7 l7 rfl t7 p7)
  have m8 := PySem.W.mg_of X G a8
  have r8 := TK "functions" c8 P8 (rr2 _ (List.mem_of_getElem? (i := 7) rfl)) (tabIn_of a8 l8 rfl t8 p8)
  have m9 := PySem.W.mg_of X G a9
  have r9 := TK "_law_tuples" c9 P9 (rr2 _ (List.mem_of_getElem? (i := 8) rfl)) (tabIn_of a9 l9 rfl t9 p9)
  have m10 := PySem.W.mg_of X G a10
  have r10 := TK "_law_cell" c10 P10 (rr2 _ (List.mem_of_getElem? (i := 9) rfl)) (tabIn_of a10 l10 rfl t10 p10)
  have m11 := PySem.W.mg_of X G a11
  have r11 := TK "_law_digits" c11 P11 (rr2 _ (List.mem_of_getElem? (i := 10) rfl)) (tabIn_of a11 l11 rfl t11 p11)
  have m12 := PySem.W.mg_of X G a12
  have r12 := TK "_law_box" c12 P12 (rr2 _ (List.mem_of_getElem? (i := 11) rfl)) (tabIn_of a12 l12 rfl t12 p12)
  have m13 := PySem.W.mg_of X G a13
  have r13 := TK "_law_draw" c13 P13 (rr2 _ (List.mem_of_getElem? (i := 12) rfl)) (tabIn_of a13 l13 rfl t13 p13)
  have m14 := PySem.W.mg_of X G a14
  have r14 := TK "_law_kinds" c14 P14 (rr2 _ (List.mem_of_getElem? (i := 13) rfl)) (tabIn_of a14 l14 rfl t14 p14)
  have m15 := PySem.W.mg_of X G a15
  have r15 := TK "_law_structure" c15 P15 (rr2 _ (List.mem_of_getElem? (i := 14) rfl)) (tabIn_of a15 l15 rfl t15 p15)
  have m16 := PySem.W.mg_of X G a16
  have r16 := TK "_law_same" c16 P16 (rr2 _ (List.mem_of_getElem? (i := 15) rfl)) (tabIn_of a16 l16 rfl t16 p16)
  have m17 := PySem.W.mg_of X G a17
  have r17 := TK "_law_is_map" c17 P17 (rr2 _ (List.mem_of_getElem? (i := 16) rfl)) (tabIn_of a17 l17 rfl t17 p17)
  have m18 := PySem.W.mg_of X G a18
  have r18 := TK "_law_maps" c18 P18 (rr2 _ (List.mem_of_getElem? (i := 17) rfl)) (tabIn_of a18 l18 rfl t18 p18)
  have m19 := PySem.W.mg_of X G a19
  have r19 := TK "_law_functions" c19 P19 (rr2 _ (List.mem_of_getElem? (i := 18) rfl)) (tabIn_of a19 l19 rfl t19 p19)
  have m20 := PySem.W.mg_of X G a20
  have r20 := TK "law" c20 P20 (rr2 _ (List.mem_of_getElem? (i := 19) rfl)) (tabIn_of a20 l20 rfl t20 p20)
  have b_all := PySem.W.mg_none_of X G z_all
  have b_bool := PySem.W.mg_none_of X G z_bool
  have b_enumerate := PySem.W.mg_none_of X G z_enumerate
  have b_int := PySem.W.mg_none_of X G z_int
  have b_isinstance := PySem.W.mg_none_of X G z_isinstance
  have b_len := PySem.W.mg_none_of X G z_len
  have b_max := PySem.W.mg_none_of X G z_max
  have b_range := PySem.W.mg_none_of X G z_range
  have b_sorted := PySem.W.mg_none_of X G z_sorted
  have b_str := PySem.W.mg_none_of X G z_str
  have b_sum := PySem.W.mg_none_of X G z_sum
  have b_tuple := PySem.W.mg_none_of X G z_tuple
  have b_zip := PySem.W.mg_none_of X G z_zip
  refine ⟨[(c1, P1, false), (c2, P2, false), (c3, P3, false), (c4, P4, false), (c5, P5, false), (c6, P6, false), (c7, P7, false), (c8, P8, false), (c9, P9, false), (c10, P10, false), (c11, P11, false), (c12, P12, false), (c13, P13, false), (c14, P14, false), (c15, P15, false), (c16, P16, false), (c17, P17, false), (c18, P18, false), (c19, P19, false), (c20, P20, false)], f_law, M_law, PySem.W.fnOf "law" "law" (defArgs s_law) (defBody s_law) (defScope s_law) .none kV20 dc20 pm20 an20 (.ref c20) ct20, by simp, fun t ht => ?_, rfl, hlaw, fun s v => .of_eq rfl, fun base hK hns hC bm => ?_⟩
  · simp only [List.mem_cons, List.not_mem_nil, or_false] at ht
    rcases ht with rfl | rfl | rfl | rfl | rfl | rfl | rfl | rfl | rfl | rfl | rfl | rfl | rfl | rfl | rfl | rfl | rfl | rfl | rfl | rfl
    · exact ⟨rfl, r1, n1⟩
    · exact ⟨rfl, r2, n2⟩
    · exact ⟨rfl, r3, n3⟩
    · exact ⟨rfl, r4, n4⟩
    · exact ⟨rfl, r5, n5⟩
    · exact ⟨rfl, r6, n6⟩
    · exact ⟨rfl, r7, n7⟩
    · exact ⟨rfl, r8, n8⟩
    · exact ⟨rfl, r9, n9⟩
    · exact ⟨rfl, r10, n10⟩
    · exact ⟨rfl, r11, n11⟩
    · exact ⟨rfl, r12, n12⟩
    · exact ⟨rfl, r13, n13⟩
    · exact ⟨rfl, r14, n14⟩
    · exact ⟨rfl, r15, n15⟩
    · exact ⟨rfl, r16, n16⟩
    · exact ⟨rfl, r17, n17⟩
    · exact ⟨rfl, r18, n18⟩
    · exact ⟨rfl, r19, n19⟩
    · exact ⟨rfl, r20, n20⟩
  · generalize hT0 : ([(c1, P1, false), (c2, P2, false), (c3, P3, false), (c4, P4, false), (c5, P5, false), (c6, P6, false), (c7, P7, false), (c8, P8, false), (c9, P9, false), (c10, P10, false), (c11, P11, false), (c12, P12, false), (c13, P13, false), (c14, P14, false), (c15, P15, false), (c16, P16, false), (c17, P17, false), (c18, P18, false), (c19, P19, false), (c20, P20, false)] : Tabs) = T0 at hC ⊢
    have me1 : (c1, P1, false) ∈ T0 := by rw [← hT0]; exact List.mem_of_getElem? (i := 0) rfl
    have me2 : (c2, P2, false) ∈ T0 := by rw [← hT0]; exact List.mem_of_getElem? (i := 1) rfl
    have me3 : (c3, P3, false) ∈ T0 := by rw [← hT0]; exact List.mem_of_getElem? (i := 2) rfl
    have me4 : (c4, P4, false) ∈ T0 := by rw [← hT0]; exact List.mem_of_getElem? (i := 3) rfl
    have me5 : (c5, P5, false) ∈ T0 := by rw [← hT0]; exact List.mem_of_getElem? (i := 4) rfl
    have me6 : (c6, P6, false) ∈ T0 := by rw [← hT0]; exact List.mem_of_getElem? (i := 5) rfl
    have me7 : (c7, P7, false) ∈ T0 := by rw [← hT0]; exact List.mem_of_getElem? (i := 6) rfl
    have me8 : (c8, P8, false) ∈ T0 := by rw [← hT0]; exact List.mem_of_getElem? (i := 7) rfl
    have me9 : (c9, P9, false) ∈ T0 := by rw [← hT0]; exact List.mem_of_getElem? (i := 8) rfl
    have me10 : (c10, P10, false) ∈ T0 := by rw [← hT0]; exact List.mem_of_getElem? (i := 9) rfl
    have me11 : (c11, P11, false) ∈ T0 := by rw [← hT0]; exact List.mem_of_getElem? (i := 10) rfl
    have me12 : (c12, P12, false) ∈ T0 := by rw [← hT0]; exact List.mem_of_getElem? (i := 11) rfl
    have me13 : (c13, P13, false) ∈ T0 := by rw [← hT0]; exact List.mem_of_getElem? (i := 12) rfl
    have me14 : (c14, P14, false) ∈ T0 := by rw [← hT0]; exact List.mem_of_getElem? (i := 13) rfl
    have me15 : (c15, P15, false) ∈ T0 := by rw [← hT0]; exact List.mem_of_getElem? (i := 14) rfl
    have me16 : (c16, P16, false) ∈ T0 := by rw [← hT0]; exact List.mem_of_getElem? (i := 15) rfl
    have me17 : (c17, P17, false) ∈ T0 := by rw [← hT0]; exact List.mem_of_getElem? (i := 16) rfl
    have me18 : (c18, P18, false) ∈ T0 := by rw [← hT0]; exact List.mem_of_getElem? (i := 17) rfl
    have me19 : (c19, P19, false) ∈ T0 := by rw [← hT0]; exact List.mem_of_getElem? (i := 18) rfl
    have me20 : (c20, P20, false) ∈ T0 := by rw [← hT0]; exact List.mem_of_getElem? (i := 19) rfl
    have F1 : FunT ⟨P0, w, K, mg, base⟩ T0 "rows_by_name" s_rows_by_name := ⟨f1, c1, P1, oc1, od1, kV1, dc1, pm1, an1, ct1, sl1, l1, h1, k1, m1, me1, hC _ me1⟩
    have d_rows_by_name := ok_rows_by_name F1 bm
    have F2 : FunT ⟨P0, w, K, mg, base⟩ T0 "tuples" s_tuples := ⟨f2, c2, P2, oc2, od2, kV2, dc2, pm2, an2, ct2, sl2, l2, h2, k2, m2, me2, hC _ me2⟩
    have d_tuples := ok_tuples F2 bm b_range
    have F3 : FunT ⟨P0, w, K, mg, base⟩ T0 "keeps_rows" s_keeps_rows := ⟨f3, c3, P3, oc3, od3, kV3, dc3, pm3, an3, ct3, sl3, l3, h3, k3, m3, me3, hC _ me3⟩
    have d_keeps_rows := ok_keeps_rows F3 bm b_len b_max b_tuple
    have F4 : FunT ⟨P0, w, K, mg, base⟩ T0 "count_from" s_count_from := ⟨f4, c4, P4, oc4, od4, kV4, dc4, pm4, an4, ct4, sl4, l4, h4, k4, m4, me4, hC _ me4⟩
    have d_count_from := ok_count_from F4 bm b_len b_range b_sum d_rows_by_name d_keeps_rows
    have F5 : FunT ⟨P0, w, K, mg, base⟩ T0 "count_maps" s_count_maps := ⟨f5, c5, P5, oc5, od5, kV5, dc5, pm5, an5, ct5, sl5, l5, h5, k5, m5, me5, hC _ me5⟩
    have d_count_maps := ok_count_maps F5 bm d_count_from
    have F6 : FunT ⟨P0, w, K, mg, base⟩ T0 "product" s_product := ⟨f6, c6, P6, oc6, od6, kV6, dc6, pm6, an6, ct6, sl6, l6, h6, k6, m6, me6, hC _ me6⟩
    have d_product := ok_product F6 bm b_sorted b_tuple b_zip
    have F7 : FunT ⟨P0, w, K, mg, base⟩ T0 "sum_of" s_sum_of := ⟨f7, c7, P7, oc7, od7, kV7, dc7, pm7, an7, ct7, sl7, l7, h7, k7, m7, me7, hC _ me7⟩
    have d_sum_of := ok_sum_of F7 bm b_tuple b_zip
    have F8 : FunT ⟨P0, w, K, mg, base⟩ T0 "functions" s_functions := ⟨f8, c8, P8, oc8, od8, kV8, dc8, pm8, an8, ct8, sl8, l8, h8, k8, m8, me8, hC _ me8⟩
    have d_functions := ok_functions F8 bm b_all b_enumerate b_len b_tuple b_zip d_tuples
    have F9 : FunT ⟨P0, w, K, mg, base⟩ T0 "_law_tuples" s_law_tuples := ⟨f9, c9, P9, oc9, od9, kV9, dc9, pm9, an9, ct9, sl9, l9, h9, k9, m9, me9, hC _ me9⟩
    have d_law_tuples := ok_law_tuples F9 bm b_range
    have F10 : FunT ⟨P0, w, K, mg, base⟩ T0 "_law_cell" s_law_cell := ⟨f10, c10, P10, oc10, od10, kV10, dc10, pm10, an10, ct10, sl10, l10, h10, k10, m10, me10, hC _ me10⟩
    have d_law_cell := ok_law_cell F10 bm b_len
    have F11 : FunT ⟨P0, w, K, mg, base⟩ T0 "_law_digits" s_law_digits := ⟨f11, c11, P11, oc11, od11, kV11, dc11, pm11, an11, ct11, sl11, l11, h11, k11, m11, me11, hC _ me11⟩
    have d_law_digits := ok_law_digits F11 bm b_int b_range d_law_cell
    have F12 : FunT ⟨P0, w, K, mg, base⟩ T0 "_law_box" s_law_box := ⟨f12, c12, P12, oc12, od12, kV12, dc12, pm12, an12, ct12, sl12, l12, h12, k12, m12, me12, hC _ me12⟩
    have d_law_box := ok_law_box F12 bm d_law_digits
    have F13 : FunT ⟨P0, w, K, mg, base⟩ T0 "_law_draw" s_law_draw := ⟨f13, c13, P13, oc13, od13, kV13, dc13, pm13, an13, ct13, sl13, l13, h13, k13, m13, me13, hC _ me13⟩
    have d_law_draw := ok_law_draw F13 bm b_int b_len
    have F14 : FunT ⟨P0, w, K, mg, base⟩ T0 "_law_kinds" s_law_kinds := ⟨f14, c14, P14, oc14, od14, kV14, dc14, pm14, an14, ct14, sl14, l14, h14, k14, m14, me14, hC _ me14⟩
    have d_law_kinds := ok_law_kinds F14 bm d_law_draw
    have F15 : FunT ⟨P0, w, K, mg, base⟩ T0 "_law_structure" s_law_structure := ⟨f15, c15, P15, oc15, od15, kV15, dc15, pm15, an15, ct15, sl15, l15, h15, k15, m15, me15, hC _ me15⟩
    have d_law_structure := ok_law_structure F15 bm b_tuple d_law_draw d_law_tuples
    have F16 : FunT ⟨P0, w, K, mg, base⟩ T0 "_law_same" s_law_same := ⟨f16, c16, P16, oc16, od16, kV16, dc16, pm16, an16, ct16, sl16, l16, h16, k16, m16, me16, hC _ me16⟩
    have d_law_same := ok_law_same F16 bm b_bool b_int b_isinstance b_len b_range b_str b_tuple
    have F17 : FunT ⟨P0, w, K, mg, base⟩ T0 "_law_is_map" s_law_is_map := ⟨f17, c17, P17, oc17, od17, kV17, dc17, pm17, an17, ct17, sl17, l17, h17, k17, m17, me17, hC _ me17⟩
    have d_law_is_map := ok_law_is_map F17 bm b_len b_range b_tuple
    have F18 : FunT ⟨P0, w, K, mg, base⟩ T0 "_law_maps" s_law_maps := ⟨f18, c18, P18, oc18, od18, kV18, dc18, pm18, an18, ct18, sl18, l18, h18, k18, m18, me18, hC _ me18⟩
    have d_law_maps := ok_law_maps F18 bm d_law_tuples d_law_is_map
    have F19 : FunT ⟨P0, w, K, mg, base⟩ T0 "_law_functions" s_law_functions := ⟨f19, c19, P19, oc19, od19, kV19, dc19, pm19, an19, ct19, sl19, l19, h19, k19, m19, me19, hC _ me19⟩
    have d_law_functions := ok_law_functions F19 bm b_len b_range b_tuple d_law_tuples
    exact ok_law (g := ⟨P0, w, K, mg, base⟩) l20 h20 me20 (hC _ me20) bm b_len d_law_box d_law_kinds d_law_structure d_law_functions d_law_same d_law_draw d_count_maps d_functions d_product d_law_maps d_sum_of
end K89
open PySem PySem.W PyProof.Rows
set_option maxRecDepth 100000 in
set_option maxHeartbeats 0 in
theorem PySem.Challenge.cw_finitehouse_k89_functions_from_sums_holds : PySem.Challenge.rw_finitehouse_k89_functions_from_sums.Holds := by
  w_on; o_law; k_head; (case hw => w_witness2)
  k_fill
  refine Sx.law_walk (l := PySem.Challenge.rw_finitehouse_k89_functions_from_sums) (x := "script") (k := 72) rfl rfl ⟨rfl, by decide, by decide⟩ (fun w h Y => PySem.W.kIn_of Y) ?F
  case F =>
    intro w mg fa h KX G hmg TK
    refine' K89.all_mk KX G hmg TK K89.law_true ?a1 ?l1 ?h1 ?k1 ?t1 ?p1 ?n1 ?a2 ?l2 ?h2 ?k2 ?t2 ?p2 ?n2 ?a3 ?l3 ?h3 ?k3 ?t3 ?p3 ?n3 ?a4 ?l4 ?h4 ?k4 ?t4 ?p4 ?n4 ?a5 ?l5 ?h5 ?k5 ?t5 ?p5 ?n5 ?a6 ?l6 ?h6 ?k6 ?t6 ?p6 ?n6 ?a7 ?l7 ?h7 ?k7 ?t7 ?p7 ?n7 ?a8 ?l8 ?h8 ?k8 ?t8 ?p8 ?n8 ?a9 ?l9 ?h9 ?k9 ?t9 ?p9 ?n9 ?a10 ?l10 ?h10 ?k10 ?t10 ?p10 ?n10 ?a11 ?l11 ?h11 ?k11 ?t11 ?p11 ?n11 ?a12 ?l12 ?h12 ?k12 ?t12 ?p12 ?n12 ?a13 ?l13 ?h13 ?k13 ?t13 ?p13 ?n13 ?a14 ?l14 ?h14 ?k14 ?t14 ?p14 ?n14 ?a15 ?l15 ?h15 ?k15 ?t15 ?p15 ?n15 ?a16 ?l16 ?h16 ?k16 ?t16 ?p16 ?n16 ?a17 ?l17 ?h17 ?k17 ?t17 ?p17 ?n17 ?a18 ?l18 ?h18 ?k18 ?t18 ?p18 ?n18 ?a19 ?l19 ?h19 ?k19 ?t19 ?p19 ?n19 ?a20 ?l20 ?h20 ?k20 ?t20 ?p20 ?n20 ?z_all ?z_bool ?z_enumerate ?z_int ?z_isinstance ?z_len ?z_max ?z_range ?z_sorted ?z_str ?z_sum ?z_tuple ?z_zip ?rr
    (case a1 => k_is)
    (case l1 => k_is)
    (case h1 => k_is)
    (case k1 => k_is)
    (case t1 => k_is)
    (case p1 => rfl)
    (case n1 => rfl)
    (case a2 => k_is)
    (case l2 => k_is)
    (case h2 => k_is)
    (case k2 => k_is)
    (case t2 => k_is)
    (case p2 => rfl)
    (case n2 => rfl)
    (case a3 => k_is)
    (case l3 => k_is)
    (case h3 => k_is)
    (case k3 => k_is)
    (case t3 => k_is)
    (case p3 => rfl)
    (case n3 => rfl)
    (case a4 => k_is)
    (case l4 => k_is)
    (case h4 => k_is)
    (case k4 => k_is)
    (case t4 => k_is)
    (case p4 => rfl)
    (case n4 => rfl)
    (case a5 => k_is)
    (case l5 => k_is)
    (case h5 => k_is)
    (case k5 => k_is)
    (case t5 => k_is)
    (case p5 => rfl)
    (case n5 => rfl)
    (case a6 => k_is)
    (case l6 => k_is)
    (case h6 => k_is)
    (case k6 => k_is)
    (case t6 => k_is)
    (case p6 => rfl)
    (case n6 => rfl)
    (case a7 => k_is)
    (case l7 => k_is)
    (case h7 => k_is)
    (case k7 => k_is)
    (case t7 => k_is)
    (case p7 => rfl)
    (case n7 => rfl)
    (case a8 => k_is)
    (case l8 => k_is)
    (case h8 => k_is)
    (case k8 => k_is)
    (case t8 => k_is)
    (case p8 => rfl)
    (case n8 => rfl)
    (case a9 => k_is)
    (case l9 => k_is)
    (case h9 => k_is)
    (case k9 => k_is)
    (case t9 => k_is)
    (case p9 => rfl)
    (case n9 => rfl)
    (case a10 => k_is)
    (case l10 => k_is)
    (case h10 => k_is)
    (case k10 => k_is)
    (case t10 => k_is)
    (case p10 => rfl)
    (case n10 => rfl)
    (case a11 => k_is)
    (case l11 => k_is)
    (case h11 => k_is)
    (case k11 => k_is)
    (case t11 => k_is)
    (case p11 => rfl)
    (case n11 => rfl)
    (case a12 => k_is)
    (case l12 => k_is)
    (case h12 => k_is)
    (case k12 => k_is)
    (case t12 => k_is)
    (case p12 => rfl)
    (case n12 => rfl)
    (case a13 => k_is)
    (case l13 => k_is)
    (case h13 => k_is)
    (case k13 => k_is)
    (case t13 => k_is)
    (case p13 => rfl)
    (case n13 => rfl)
    (case a14 => k_is)
    (case l14 => k_is)
    (case h14 => k_is)
    (case k14 => k_is)
    (case t14 => k_is)
    (case p14 => rfl)
    (case n14 => rfl)
    (case a15 => k_is)
    (case l15 => k_is)
    (case h15 => k_is)
    (case k15 => k_is)
    (case t15 => k_is)
    (case p15 => rfl)
    (case n15 => rfl)
    (case a16 => k_is)
    (case l16 => k_is)
    (case h16 => k_is)
    (case k16 => k_is)
    (case t16 => k_is)
    (case p16 => rfl)
    (case n16 => rfl)
    (case a17 => k_is)
    (case l17 => k_is)
    (case h17 => k_is)
    (case k17 => k_is)
    (case t17 => k_is)
    (case p17 => rfl)
    (case n17 => rfl)
    (case a18 => k_is)
    (case l18 => k_is)
    (case h18 => k_is)
    (case k18 => k_is)
    (case t18 => k_is)
    (case p18 => rfl)
    (case n18 => rfl)
    (case a19 => k_is)
    (case l19 => k_is)
    (case h19 => k_is)
    (case k19 => k_is)
    (case t19 => k_is)
    (case p19 => rfl)
    (case n19 => rfl)
    (case a20 => k_is)
    (case l20 => k_is)
    (case h20 => k_is)
    (case k20 => k_is)
    (case t20 => k_is)
    (case p20 => rfl)
    (case n20 => rfl)
    (case z_all => k_is)
    (case z_bool => k_is)
    (case z_enumerate => k_is)
    (case z_int => k_is)
    (case z_isinstance => k_is)
    (case z_len => k_is)
    (case z_max => k_is)
    (case z_range => k_is)
    (case z_sorted => k_is)
    (case z_str => k_is)
    (case z_sum => k_is)
    (case z_tuple => k_is)
    (case z_zip => k_is)
    (case rr => decide +kernel)
#print axioms PySem.Challenge.cw_finitehouse_k89_functions_from_sums_holds
