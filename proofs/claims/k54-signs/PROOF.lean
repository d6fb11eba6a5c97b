import PyProof.Rows.All
import Wide.All
import OpenK.AllK
import Wide.FinOn
import HandS.ForMost
import HandS.Wide
import HandS.Star
import HandS.Style
import HandS.SortInts
import HandS.Conv
import HandS.TupAny
import HandS.ListItems
import HandS.SetKeys
import HandS.Codes
import HandS.Small
import HandS.IsInst
import HandS.Gcd
import PyProof.ReprRoads
import PyProof.Rows.EqDataRows
import PyProof.P3In
import PySem.Challenge.RW_mapvalues_k54_whole_signs_for_all_n
set_option Elab.async false
set_option linter.all false
set_option maxRecDepth 100000
set_option maxHeartbeats 4000000
namespace Cal
open PySem PySem.Spec PyProof.Rows L2

/-! ## what a clean expression's value is -/
inductive W where
  | d (x : PyData) | lst (xs : List PyData) | dct (kvs : List (PyData × PyData)) | vlst (xs : List PyData) | vdct (kvs : List (PyData × PyData)) | src
abbrev EnvC := List (Option W)
abbrev St := L2.St
def W.own : W → Bool
  | .lst _ => true | .dct _ => true | _ => false
def W.view : W → Bool
  | .vlst _ => true | .vdct _ => true | _ => false
def W.list? : W → Option (List PyData)
  | .d (.list xs) => some xs | .lst xs => some xs | .vlst xs => some xs | _ => none
def W.tup? : W → Option (List PyData)
  | .d (.tuple xs) => some xs | _ => none
def W.seq? : W → Option (List PyData)
  | .d (.list xs) => some xs | .d (.tuple xs) => some xs | .lst xs => some xs | .vlst xs => some xs | _ => none
def W.dict? : W → Option (List (PyData × PyData))
  | .d (.dict xs) => some xs | .dct xs => some xs | .vdct xs => some xs | _ => none
def W.data? : W → Option PyData
  | .d x => some x | .lst xs => some (.list xs) | .dct kvs => some (.dict kvs) | .vlst xs => some (.list xs) | .vdct kvs => some (.dict kvs) | .src => none
def W.int? : W → Option Int
  | .d (.int i) => some i | _ => none
def W.bool? : W → Option Bool
  | .d (.bool i) => some i | _ => none
def W.str? : W → Option Str
  | .d (.str i) => some i | _ => none
/-- made to last -/
def W.per? : W → Option W
  | .d x => some (.d x) | .lst xs => some (.d (.list xs)) | .dct kvs => some (.d (.dict kvs)) | .src => some .src | _ => none

/-! ## how data stand in the abstract heap -/
def keyD : Key → PyData
  | .inl i => .int i | .inr s => .str s
section
variable (K : PySem.W.Frag) (H : Hp)
mutual
/-- data that last -/
inductive RD : PyData → V → Prop
  | none : RD .none .non
  | bool (b : Bool) : RD (.bool b) (.bl b)
  | int (i : Int) : RD (.int i) (.int i)
  | str (x : Str) : RD (.str x) (.str x)
  | tuple {a : Addr} {vs : List V} {xs : List PyData} : SqT K H a vs → RDs xs vs → RD (.tuple xs) (.ref a)
  | list {a : Addr} {o : Obj} {vs : List V} {xs : List PyData} : H a = some (.frz o (.lst vs)) → RDs xs vs → RD (.list xs) (.ref a)
  | dict {a : Addr} {o : Obj} {ks : List (Key × V)} {kvs : List (PyData × PyData)} : H a = some (.frz o (.dK ks)) → RKs kvs ks → RD (.dict kvs) (.ref a)
inductive RDs : List PyData → List V → Prop
  | nil : RDs [] []
  | cons {x : PyData} {v : V} {xs : List PyData} {vs : List V} : RD x v → RDs xs vs → RDs (x :: xs) (v :: vs)
inductive RKs : List (PyData × PyData) → List (Key × V) → Prop
  | nil : RKs [] []
  | cons {k : Key} {x : PyData} {v : V} {kvs : List (PyData × PyData)} {ks : List (Key × V)} : RD x v → RKs kvs ks → RKs ((keyD k, x) :: kvs) ((k, v) :: ks)
end
end
/-- the lasting things last -/
structure Per (H H' : Hp) : Prop where
  tup : ∀ a xs, H a = some (.tup xs) → H' a = some (.tup xs)
  frz : ∀ a o u, H a = some (.frz o u) → H' a = some (.frz o u)
theorem Per.refl {H : Hp} : Per H H := ⟨fun _ _ e => e, fun _ _ _ e => e⟩
theorem Per.trans {H H1 H2 : Hp} (a : Per H H1) (b : Per H1 H2) : Per H H2 := ⟨fun p xs e => b.tup p xs (a.tup p xs e), fun p o u e => b.frz p o u (a.frz p o u e)⟩
theorem Per.sqT {K : PySem.W.Frag} {H H' : Hp} {a : Addr} {vs : List V} (p : Per H H') (h : SqT K H a vs) : SqT K H' a vs := by
  rcases h with (h | ⟨o, h⟩) | h
  · exact .inl (.inl (p.tup _ _ h))
  · exact .inl (.inr ⟨o, p.frz _ _ _ h⟩)
  · exact .inr h
section
variable {K : PySem.W.Frag} {H H' : Hp}
mutual
theorem RD.per (p : Per H H') : ∀ {x : PyData} {v : V}, RD K H x v → RD K H' x v
  | _, _, .none => .none
  | _, _, .bool _ => .bool _
  | _, _, .int _ => .int _
  | _, _, .str _ => .str _
  | _, _, .tuple h r => .tuple (p.sqT h) (RDs.per p r)
  | _, _, .list h r => .list (p.frz _ _ _ h) (RDs.per p r)
  | _, _, .dict h r => .dict (p.frz _ _ _ h) (RKs.per p r)
theorem RDs.per (p : Per H H') : ∀ {xs : List PyData} {vs : List V}, RDs K H xs vs → RDs K H' xs vs
  | _, _, .nil => .nil
  | _, _, .cons h r => .cons (RD.per p h) (RDs.per p r)
theorem RKs.per (p : Per H H') : ∀ {xs : List (PyData × PyData)} {vs : List (Key × V)}, RKs K H xs vs → RKs K H' xs vs
  | _, _, .nil => .nil
  | _, _, .cons h r => .cons (RD.per p h) (RKs.per p r)
end
theorem RDs.length : ∀ {xs : List PyData} {vs : List V}, RDs K H xs vs → xs.length = vs.length
  | _, _, .nil => rfl
  | _, _, .cons _ r => congrArg (· + 1) (RDs.length r)
theorem RDs.append : ∀ {xs ys : List PyData} {vs ws : List V}, RDs K H xs vs → RDs K H ys ws → RDs K H (xs ++ ys) (vs ++ ws)
  | _, _, _, _, .nil, s => s
  | _, _, _, _, .cons h r, s => .cons h (RDs.append r s)
theorem RDs.get : ∀ {xs : List PyData} {vs : List V} {i : Nat} {x : PyData}, RDs K H xs vs → xs[i]? = some x → ∃ v, vs[i]? = some v ∧ RD K H x v
  | _, _, _, _, .nil, e => by simp at e
  | _, _, 0, _, .cons h _, e => by simp at e; subst e; exact ⟨_, rfl, h⟩
  | _, _, i + 1, x, .cons _ r, e => by
    obtain ⟨v, h1, h2⟩ := RDs.get (i := i) (x := x) r (by simpa using e)
    exact ⟨v, by simpa using h1, h2⟩
theorem RDs.get' : ∀ {xs : List PyData} {vs : List V} {i : Nat} {v : V}, RDs K H xs vs → vs[i]? = some v → ∃ x, xs[i]? = some x ∧ RD K H x v
  | _, _, _, _, .nil, e => by simp at e
  | _, _, 0, _, .cons h _, e => by simp at e; subst e; exact ⟨_, rfl, h⟩
  | _, _, i + 1, x, .cons _ r, e => by
    obtain ⟨v, h1, h2⟩ := RDs.get' (i := i) (v := x) r (by simpa using e)
    exact ⟨v, by simpa using h1, h2⟩
theorem RDs.take : ∀ {xs : List PyData} {vs : List V} (n : Nat), RDs K H xs vs → RDs K H (xs.take n) (vs.take n)
  | _, _, 0, _ => .nil
  | _, _, _ + 1, .nil => .nil
  | _, _, n + 1, .cons h r => .cons h (RDs.take n r)
theorem RDs.drop : ∀ {xs : List PyData} {vs : List V} (n : Nat), RDs K H xs vs → RDs K H (xs.drop n) (vs.drop n)
  | _, _, 0, r => r
  | _, _, _ + 1, .nil => .nil
  | _, _, n + 1, .cons _ r => RDs.drop n r
theorem RDs.set {x : PyData} {v : V} (h : RD K H x v) : ∀ {xs : List PyData} {vs : List V} (i : Nat), RDs K H xs vs → RDs K H (xs.set i x) (vs.set i v)
  | _, _, _, .nil => .nil
  | _, _, 0, .cons _ r => .cons h r
  | _, _, i + 1, .cons g r => .cons g (RDs.set h i r)
theorem RDs.reverse {xs : List PyData} {vs : List V} (r : RDs K H xs vs) : RDs K H xs.reverse vs.reverse := by
  induction r using RDs.rec (motive_1 := fun _ _ _ => True) (motive_3 := fun _ _ _ => True) with
  | nil => exact .nil
  | cons h _ _ ih => rw [List.reverse_cons, List.reverse_cons]; exact RDs.append ih (.cons h .nil)
  | _ => trivial
theorem RDs.ints : ∀ {ns : List Int} {vs : List V}, RDs K H (ns.map PyData.int) vs → vs = ns.map V.int
  | [], _, .nil => rfl
  | _ :: _, _, .cons (.int _) r => by rw [List.map_cons, RDs.ints r]
theorem RDs.of_ints : ∀ (ns : List Int), RDs K H (ns.map PyData.int) (ns.map V.int)
  | [] => .nil
  | n :: ns => .cons (.int n) (RDs.of_ints ns)
end

/-- the two places of a law's source of draws -/
abbrev Sr := Option (Addr × Addr)
def SrcAt (H : Hp) (a q : Addr) : Prop := ∃ (l m t : Int) (cs : List Int), H a = some (.dK [(.inr "cells", .ref q), (.inr "left", .int l), (.inr "mixed", .int m), (.inr "turn", .int t)]) ∧ H q = some (.lst (cs.map V.int))
def SrOk : Sr → Hp → Prop
  | none, _ => True
  | some (a, q), H => SrcAt H a q
def inSr : Sr → Addr → Prop
  | none, _ => False
  | some (a, q), b => b = a ∨ b = q

def RelW (K : PySem.W.Frag) (sr : Sr) (H : Hp) : W → V → Prop
  | .d x, v => RD K H x v
  | .lst xs, v => ∃ a vs, v = .ref a ∧ H a = some (.lst vs) ∧ RDs K H xs vs
  | .dct kvs, v => ∃ a ks, v = .ref a ∧ H a = some (.dK ks) ∧ RKs K H kvs ks
  | .vlst xs, v => ∃ a vs, v = .ref a ∧ Rd H a (.lst vs) ∧ RDs K H xs vs ∧ ¬ inSr sr a
  | .vdct kvs, v => ∃ a ks, v = .ref a ∧ Rd H a (.dK ks) ∧ RKs K H kvs ks ∧ ¬ inSr sr a
  | .src, v => ∃ a q, sr = some (a, q) ∧ v = .ref a

def OwnI (σ : St) (env : EnvC) (i : Nat) (a : Addr) : Prop := ∃ w, env[i]? = some (some w) ∧ w.own = true ∧ σ[i]? = some (some (.ref a))
def OwnAt (σ : St) (env : EnvC) (a : Addr) : Prop := ∃ i, OwnI σ env i a

structure RelS (K : PySem.W.Frag) (sr : Sr) (H : Hp) (σ : St) (env : EnvC) : Prop where
  len : env.length = σ.length
  ats : ∀ (i : Nat) (w : W), env[i]? = some (some w) → w.view = false ∧ ∃ v, σ[i]? = some (some v) ∧ RelW K sr H w v
  dis : ∀ i j a, OwnI σ env i a → OwnI σ env j a → i = j
  sok : SrOk sr H
  sno : ∀ a, OwnAt σ env a → ¬ inSr sr a

/-- what an expression's run may do -/
structure Evo (sr : Sr) (σ : St) (env : EnvC) (H H' : Hp) : Prop where
  per : Per H H'
  keep : ∀ a u, H a = some u → ¬ inSr sr a → H' a = some u ∨ (OwnAt σ env a ∧ ∃ o, H' a = some (.frz o u))
theorem Evo.refl {sr : Sr} {σ : St} {env : EnvC} {H : Hp} : Evo sr σ env H H := ⟨Per.refl, fun _ _ e _ => .inl e⟩
theorem Evo.trans {sr : Sr} {σ : St} {env env1 : EnvC} {H H1 H2 : Hp} (a : Evo sr σ env H H1) (b : Evo sr σ env1 H1 H2) (s : ∀ p, OwnAt σ env1 p → OwnAt σ env p) : Evo sr σ env H H2 :=
  ⟨a.per.trans b.per, fun p u e h1 => by
    rcases a.keep p u e h1 with z | ⟨z, o, z2⟩
    · rcases b.keep p u z h1 with y | ⟨y, o, y2⟩
      · exact .inl y
      · exact .inr ⟨s p y, o, y2⟩
    · exact .inr ⟨z, o, b.per.frz _ _ _ z2⟩⟩

/-- behind an expression -/
structure Post (K : PySem.W.Frag) (sr : Sr) (H : Hp) (σ : St) (env env' : EnvC) (w : W) (v : V) (H' : Hp) : Prop where
  rs : RelS K sr H' σ env'
  rw : RelW K sr H' w v
  fr : w.own = true → ∀ a, v = .ref a → H a = none
  ev : Evo sr σ env H H'
  sub : ∀ a, OwnAt σ env' a → OwnAt σ env a

section
variable {K : PySem.W.Frag} {sr : Sr} {H H' : Hp} {σ : St} {env : EnvC}
theorem RelS.ownAt (r : RelS K sr H σ env) {a : Addr} (h : OwnAt σ env a) : ∃ u, H a = some u ∧ ((∃ vs, u = .lst vs) ∨ ∃ ks, u = .dK ks) := by
  obtain ⟨i, w, e1, e2, e3⟩ := h
  obtain ⟨_, v, e4, rw⟩ := r.ats i w e1
  rw [e3] at e4
  cases e4
  cases w with
  | lst xs => obtain ⟨a', vs, e, h, _⟩ := rw; cases e; exact ⟨_, h, .inl ⟨_, rfl⟩⟩
  | dct kvs => obtain ⟨a', vs, e, h, _⟩ := rw; cases e; exact ⟨_, h, .inr ⟨_, rfl⟩⟩
  | _ => cases e2
theorem RelS.notOwn (r : RelS K sr H σ env) {a : Addr} (h : H a = none) : ¬ OwnAt σ env a := fun z => by
  obtain ⟨u, e, _⟩ := r.ownAt z
  rw [h] at e
  cases e
theorem SrOk.got {sr : Sr} {H : Hp} (r : SrOk sr H) {a : Addr} (h : inSr sr a) : ∃ u, H a = some u ∧ ((∃ vs, u = .lst vs) ∨ ∃ ks, u = .dK ks) := by
  cases sr with
  | none => exact h.elim
  | some p =>
    obtain ⟨b, q⟩ := p
    obtain ⟨l, m, t, cs, e1, e2⟩ := r
    rcases h with rfl | rfl
    · exact ⟨_, e1, .inr ⟨_, rfl⟩⟩
    · exact ⟨_, e2, .inl ⟨_, rfl⟩⟩
theorem SrOk.notIn {sr : Sr} {H : Hp} (r : SrOk sr H) {a : Addr} (h : H a = none) : ¬ inSr sr a := fun z => by
  obtain ⟨u, e, _⟩ := r.got z
  rw [h] at e
  cases e
theorem SrOk.notFrz {sr : Sr} {H : Hp} (r : SrOk sr H) {a : Addr} {o : Obj} {u : HO} (h : H a = some (.frz o u)) : ¬ inSr sr a := fun z => by
  obtain ⟨u, e, x⟩ := r.got z
  rw [h] at e
  cases e
  rcases x with ⟨_, x⟩ | ⟨_, x⟩ <;> cases x
theorem SrOk.notTup {sr : Sr} {H : Hp} (r : SrOk sr H) {a : Addr} {xs : List V} (h : H a = some (.tup xs)) : ¬ inSr sr a := fun z => by
  obtain ⟨u, e, x⟩ := r.got z
  rw [h] at e
  cases e
  rcases x with ⟨_, x⟩ | ⟨_, x⟩ <;> cases x
theorem Evo.some {sr : Sr} (e : Evo sr σ env H H') (r : SrOk sr H') {a : Addr} {u : HO} (h : H a = some u) : ∃ u', H' a = Option.some u' := by
  by_cases hi : inSr sr a
  · obtain ⟨u, z, _⟩ := r.got hi
    exact ⟨u, z⟩
  · rcases e.keep a u h hi with z | ⟨_, o, z⟩
    · exact ⟨_, z⟩
    · exact ⟨_, z⟩
theorem Evo.none {sr : Sr} (e : Evo sr σ env H H') (r : SrOk sr H') {a : Addr} (h : H' a = Option.none) : H a = Option.none := by
  cases q : H a with
  | none => rfl
  | some u =>
    obtain ⟨u', z⟩ := e.some r q
    rw [h] at z
    cases z
/-- a value keeps its meaning through an expression's run -/
theorem RelW.evo {sr : Sr} {w : W} {v : V} (h : RelW K sr H w v) (e : Evo sr σ env H H') (r : SrOk sr H) (hw : w.own = true → ∀ a, v = .ref a → ¬ inSr sr a ∧ ¬ OwnAt σ env a) : RelW K sr H' w v := by
  cases w with
  | d x => exact RD.per e.per h
  | lst xs =>
    obtain ⟨a, vs, e1, h1, h2⟩ := h
    obtain ⟨n1, n2⟩ := hw rfl a e1
    rcases e.keep a _ h1 n1 with z | ⟨z, _⟩
    · exact ⟨a, vs, e1, z, RDs.per e.per h2⟩
    · exact absurd z n2
  | dct xs =>
    obtain ⟨a, vs, e1, h1, h2⟩ := h
    obtain ⟨n1, n2⟩ := hw rfl a e1
    rcases e.keep a _ h1 n1 with z | ⟨z, _⟩
    · exact ⟨a, vs, e1, z, RKs.per e.per h2⟩
    · exact absurd z n2
  | vlst xs =>
    obtain ⟨a, vs, e1, h1, h2, n⟩ := h
    refine ⟨a, vs, e1, ?_, RDs.per e.per h2, n⟩
    rcases h1 with h1 | ⟨o, h1⟩
    · rcases e.keep a _ h1 n with z | ⟨_, o, z⟩
      · exact .inl z
      · exact .inr ⟨o, z⟩
    · exact .inr ⟨o, e.per.frz _ _ _ h1⟩
  | vdct xs =>
    obtain ⟨a, vs, e1, h1, h2, n⟩ := h
    refine ⟨a, vs, e1, ?_, RKs.per e.per h2, n⟩
    rcases h1 with h1 | ⟨o, h1⟩
    · rcases e.keep a _ h1 n with z | ⟨_, o, z⟩
      · exact .inl z
      · exact .inr ⟨o, z⟩
    · exact .inr ⟨o, e.per.frz _ _ _ h1⟩
  | src => exact h
variable {env1 env2 : EnvC} {w w2 : W} {v v2 : V} {H1 H2 : Hp}
/-- .. behind a later expression -/
theorem Post.later (p : Post K sr H σ env env1 w v H1) (e : Evo sr σ env1 H1 H2) (r0 : SrOk sr H) (r0' : RelS K sr H σ env) : RelW K sr H2 w v :=
  p.rw.evo e p.rs.sok fun ho a hv => ⟨r0.notIn (p.fr ho a hv), fun z => r0'.notOwn (p.fr ho a hv) (p.sub a z)⟩
theorem Post.trans (r : RelS K sr H σ env) (p : Post K sr H σ env env1 w v H1) (q : Post K sr H1 σ env1 env2 w2 v2 H2) : Post K sr H σ env env2 w2 v2 H2 :=
  ⟨q.rs, q.rw, fun ho a hv => p.ev.none p.rs.sok (q.fr ho a hv), p.ev.trans q.ev p.sub, fun a z => p.sub a (q.sub a z)⟩
/-- another value, with nothing more made -/
theorem Post.val (p : Post K sr H σ env env1 w v H1) {w' : W} {v' : V} (h : RelW K sr H1 w' v') (ho : w'.own = false) : Post K sr H σ env env1 w' v' H1 :=
  ⟨p.rs, h, fun z => (by rw [ho] at z; cases z), p.ev, p.sub⟩
theorem Per.new {p : Addr} {o : HO} (h : H p = none) : Per H (upd H p o) := ⟨fun a xs e => by rw [upd_ne (ne_of_none e h)]; exact e, fun a o' u e => by rw [upd_ne (ne_of_none e h)]; exact e⟩
theorem SrOk.new {sr : Sr} {p : Addr} {o : HO} (r : SrOk sr H) (h : H p = none) : SrOk sr (upd H p o) := by
  cases sr with
  | none => trivial
  | some q =>
    obtain ⟨l, m, t, cs, e1, e2⟩ := r
    exact ⟨l, m, t, cs, by rw [upd_ne (ne_of_none e1 h)]; exact e1, by rw [upd_ne (ne_of_none e2 h)]; exact e2⟩
theorem RelS.keep {H' : Hp} (r : RelS K sr H σ env) (p : Per H H') (so : SrOk sr H') (ho : ∀ a u, OwnAt σ env a → H a = some u → H' a = some u) : RelS K sr H' σ env := by
  refine ⟨r.len, fun i w e => ?_, r.dis, so, r.sno⟩
  obtain ⟨hv, v, e2, rw⟩ := r.ats i w e
  refine ⟨hv, v, e2, ?_⟩
  cases w with
  | d x => exact RD.per p rw
  | lst xs => obtain ⟨a, vs, e1, h1, h2⟩ := rw; subst e1; exact ⟨a, vs, rfl, ho a _ ⟨i, _, e, rfl, e2⟩ h1, RDs.per p h2⟩
  | dct xs => obtain ⟨a, vs, e1, h1, h2⟩ := rw; subst e1; exact ⟨a, vs, rfl, ho a _ ⟨i, _, e, rfl, e2⟩ h1, RKs.per p h2⟩
  | vlst xs => cases hv
  | vdct xs => cases hv
  | src => exact rw
theorem RelS.new {p : Addr} {o : HO} (r : RelS K sr H σ env) (h : H p = none) : RelS K sr (upd H p o) σ env :=
  r.keep (Per.new h) (r.sok.new h) fun a u _ e => by rw [upd_ne (ne_of_none e h)]; exact e
/-- a new object is handed on -/
theorem Post.new (p : Post K sr H σ env env1 w v H1) {q : Addr} {o : HO} {w' : W} (h : H1 q = none) (hw : RelW K sr (upd H1 q o) w' (.ref q)) : Post K sr H σ env env1 w' (.ref q) (upd H1 q o) :=
  ⟨p.rs.new h, hw, fun _ a e => (by cases e; exact p.ev.none p.rs.sok h), p.ev.trans ⟨Per.new h, fun a u e _ => .inl (by rw [upd_ne (ne_of_none e h)]; exact e)⟩ p.sub, p.sub⟩
theorem Post.start (r : RelS K sr H σ env) : Post K sr H σ env env (.d .none) .non H := ⟨r, .none, fun z => (by cases z), Evo.refl, fun _ z => z⟩
end
end Cal
set_option Elab.async false
set_option linter.all false
set_option maxRecDepth 100000
set_option maxHeartbeats 4000000
namespace Cal
open PySem PySem.Spec PyProof.Rows L2

/-! ## the clean tree -/
inductive Uo where | neg | not deriving DecidableEq
inductive Bo where | add | sub | mul | fdiv | mod | pow | eq | ne | lt | le | gt | ge | inn | nin | idx deriving DecidableEq
inductive Bf where | len | abs | int | sum | min | max | tuple | list | dict | sorted | repr | all | any | bool deriving DecidableEq
mutual
inductive E where
  | var (i : Nat) | peek (i : Nat) | lit (x : PyData)
  | un (o : Uo) (a : E) | bin (o : Bo) (a b : E) | chain (o1 o2 : Bo) (a b c : E)
  | and (a b : E) | or (a b : E) | ite (c a b : E)
  | per (a : E) | frz (i : Nat) (a : E)
  | tup (es : Es) | lst (es : Es) | dnew | dsp (k v : E) | sget (i : Nat)
  | blt (f : Bf) (a : E) | blt2 (f : Bf) (a b : E) | call (f : Str) (es : Es)
  | get (a k x : E) | slice (a : E) (lo hi : Oe) | rev (a : E) | itemsL (i : Nat)
  | isN (neg : Bool) (a : E)
  | comp (own : List Nat) (t : T) (src : I) (cond : Oe) (elt : E)
inductive Es where
  | nil | cons (a : E) (r : Es) | star (a : E) (r : Es)
inductive Oe where
  | none | some (a : E)
inductive I where
  | it (a : E) | rng1 (a : E) | rng2 (a b : E) | rng3 (a b c : E) | enum (a : E) | zip (a b : E) | items (a : E)
inductive T where
  | name (i : Nat) | tup (ts : Ts)
inductive Ts where
  | nil | cons (t : T) (r : Ts)
end
mutual
inductive S where
  | asg (t : T) (e : E) | par (is : List Nat) (es : Es) | put (i : Nat) (k : E) (e : E) | app (i : Nat) (e : E) | ext (i : Nat) (e : E)
  | ret (e : E) | retv (i : Nat) | ife (c : E) (a b : Ss) | for (t : T) (src : I) (body : Ss) | whl (c : E) (body : Ss)
  | brk | cnt | pass | exp (e : E) | mk (i : Nat) (f : Str) (e : E) | mkret (c m : E) | sput (i : Nat) (e : E) | drain (i : Nat) (j : Option Nat)
inductive Ss where
  | nil | cons (s : S) (r : Ss)
end

/-! ## what it asks, over plain data -/
inductive ok {α : Type} (o : Option α) (k : α → Prop) : Prop where
  | mk (a : α) (h : o = some a) (hk : k a) : ok o k
theorem ok_iff {α : Type} {o : Option α} {k : α → Prop} : ok o k ↔ ∃ a, o = some a ∧ k a := ⟨fun ⟨a, h, k⟩ => ⟨a, h, k⟩, fun ⟨a, h, k⟩ => ⟨a, h, k⟩⟩
theorem ok.mono {α : Type} {o : Option α} {k k' : α → Prop} (h : ok o k) (f : ∀ a, k a → k' a) : ok o k' := by
  obtain ⟨a, e, q⟩ := h
  exact ⟨a, e, f a q⟩

def W.arg : W → Bool
  | .d _ => true | .src => true | _ => false
def W.gives : W → Bool
  | .d _ => true | .lst _ => true | .dct _ => true | _ => false
def notSrc : Option W → Bool
  | some .src => false | _ => true
/-- a promise of a def: what it asks of its arguments, what it hands back -/
abbrev Spec := List W → (W → Prop) → Prop
abbrev Gam := Str → Option Spec

/-- products of ints that the machine takes -/
def MulOk (i j : Int) : Prop := (i.natAbs < 2 ^ 64 ∨ j.natAbs < 2 ^ 64) ∨ (i.natAbs < 2 ^ 400000 ∧ j.natAbs < 2 ^ 400000)
def DivOk (j : Int) : Prop := 0 < j ∧ j.natAbs < 2 ^ 9000
def b2i (b : Bool) : Int := if b then 1 else 0

/-- keys that are served: whole numbers and texts -/
def keyOf : PyData → Option Key
  | .int i => some (.inl i) | .str s => some (.inr s) | _ => none
/-- dicts -/
def dlook (kvs : List (PyData × PyData)) (x : Key) : Option PyData := (kvs.find? fun kv => decide (keyOf kv.1 = some x)).map (·.2)
def dput (kvs : List (PyData × PyData)) (x : Key) (y : PyData) : List (PyData × PyData) :=
  if (kvs.any fun kv => decide (keyOf kv.1 = some x)) = true then kvs.map (fun kv => if keyOf kv.1 = some x then (kv.1, y) else kv) else kvs ++ [(keyD x, y)]

def uoW : Uo → W → (W → Prop) → Prop
  | .neg, w, Q => ok w.int? fun i => Q (.d (.int (-i)))
  | .not, w, Q => ok w.bool? fun b => Q (.d (.bool (!b)))
/-- == on data: what the machine can say -/
def eqOk (x y : PyData) : Prop := x.canLay0 = true ∧ y.canLay0 = true ∧ min x.depth y.depth ≤ 64
def inOk (x : PyData) (ys : List PyData) : Prop := x.canLay0 = true ∧ PyData.canLayAll0 ys = true ∧ min (PyData.depthAll ys) x.depth ≤ 64
def dataEq : W → W → (Bool → Prop) → Prop := fun a b k => ok a.data? fun x => ok b.data? fun y => eqOk x y ∧ k (PyData.eqv x y)
def intCmp (f : Int → Int → Bool) : W → W → (W → Prop) → Prop := fun a b Q => ok a.int? fun i => ok b.int? fun j => Q (.d (.bool (f i j)))
def boW : Bo → W → W → (W → Prop) → Prop
  | .add, a, b, Q => (ok a.int? fun i => ok b.int? fun j => Q (.d (.int (i + j)))) ∨ (ok a.tup? fun xs => ok b.tup? fun ys => xs.length + ys.length ≤ sizeLine ∧ Q (.d (.tuple (xs ++ ys)))) ∨
      (ok a.list? fun xs => ok b.list? fun ys => xs.length + ys.length ≤ sizeLine ∧ Q (.lst (xs ++ ys)))
  | .sub, a, b, Q => ok a.int? fun i => ok b.int? fun j => Q (.d (.int (i - j)))
  | .mul, a, b, Q => (ok a.int? fun i => ok b.int? fun j => MulOk i j ∧ Q (.d (.int (i * j)))) ∨ (ok a.list? fun xs => ok b.int? fun k => (-(2 ^ 63) ≤ k ∧ k < 2 ^ 63 ∧ xs.length * k.toNat ≤ sizeLine) ∧ Q (.lst (List.replicate k.toNat xs).flatten))
  | .fdiv, a, b, Q => ok a.int? fun i => ok b.int? fun j => DivOk j ∧ Q (.d (.int (i / j)))
  | .mod, a, b, Q => ok a.int? fun i => ok b.int? fun j => 0 < j ∧ Q (.d (.int (i % j)))
  | .pow, a, b, Q => ok a.int? fun i => ok b.int? fun j => (0 ≤ j ∧ j ≤ 1000000 ∧ i.natAbs < 2 ^ 64) ∧ Q (.d (.int (i ^ j.toNat)))
  | .eq, a, b, Q => (dataEq a b fun k => Q (.d (.bool k))) ∨ (ok a.str? fun x => ok b.str? fun y => Q (.d (.bool (decide (x = y)))))
  | .ne, a, b, Q => (dataEq a b fun k => Q (.d (.bool (!k)))) ∨ (ok a.str? fun x => ok b.str? fun y => Q (.d (.bool (!decide (x = y)))))
  | .lt, a, b, Q => intCmp (fun i j => decide (i < j)) a b Q
  | .le, a, b, Q => intCmp (fun i j => decide (i ≤ j)) a b Q
  | .gt, a, b, Q => intCmp (fun i j => decide (j < i)) a b Q
  | .ge, a, b, Q => intCmp (fun i j => decide (j ≤ i)) a b Q
  | .inn, a, b, Q => ok a.data? fun x => ok b.seq? fun ys => inOk x ys ∧ Q (.d (.bool (ys.any fun y => PyData.eqv y x)))
  | .nin, a, b, Q => ok a.data? fun x => ok b.seq? fun ys => inOk x ys ∧ Q (.d (.bool (!ys.any fun y => PyData.eqv y x)))
  | .idx, a, b, Q => (ok a.seq? fun xs => ok b.int? fun i => ok (atI xs i) fun x => Q (.d x)) ∨ (ok a.dict? fun kvs => ok b.data? fun y => ok (keyOf y) fun k => ok (dlook kvs k) fun x => Q (.d x))
def sliceD (xs : List PyData) (lo hi : Option Int) : List PyData := (xs.drop (HT.sIx xs.length 0 lo)).take (HT.sIx xs.length xs.length hi - HT.sIx xs.length 0 lo)
/-- the ints that a list holds -/
def intsOf : List PyData → Option (List Int)
  | [] => some []
  | .int i :: r => (intsOf r).map (i :: ·)
  | _ => none
def boolsOf : List PyData → Option (List Bool)
  | [] => some []
  | .bool i :: r => (boolsOf r).map (i :: ·)
  | _ => none
def pairsOf : List PyData → Option (List (Key × PyData))
  | [] => some []
  | .tuple [k, v] :: r => match keyOf k, pairsOf r with
    | some x, some ps => some ((x, v) :: ps)
    | _, _ => none
  | _ => none
def mergeD (kvs : List (PyData × PyData)) (ps : List (Key × PyData)) : List (PyData × PyData) := ps.foldl (fun d p => dput d p.1 p.2) kvs
def isort (ns : List Int) : List Int := ns.mergeSort (fun a b => decide (a ≤ b))
def bfW : Bf → W → (W → Prop) → Prop
  | .len, w, Q => (ok w.seq? fun xs => Q (.d (.int xs.length))) ∨ (ok w.dict? fun kvs => Q (.d (.int kvs.length)))
  | .abs, w, Q => ok w.int? fun i => Q (.d (.int i.natAbs))
  | .int, w, Q => (ok w.int? fun i => Q (.d (.int i))) ∨ (ok w.bool? fun b => Q (.d (.int (b2i b))))
  | .bool, w, Q => ok w.bool? fun b => Q (.d (.bool b))
  | .sum, w, Q => ok w.list? fun xs => ok (intsOf xs) fun ns => Q (.d (.int ns.sum))
  | .min, w, Q => ok w.list? fun xs => ok (intsOf xs) fun ns => ns ≠ [] ∧ ∀ m, m ∈ ns → (∀ j ∈ ns, m ≤ j) → Q (.d (.int m))
  | .max, w, Q => ok w.list? fun xs => ok (intsOf xs) fun ns => ns ≠ [] ∧ ∀ m, m ∈ ns → (∀ j ∈ ns, j ≤ m) → Q (.d (.int m))
  | .tuple, w, Q => ok w.seq? fun xs => Q (.d (.tuple xs))
  | .list, w, Q => (ok w.seq? fun xs => Q (.lst xs)) ∨ (ok w.dict? fun kvs => Q (.lst (kvs.map (·.1))))
  | .dict, w, Q => (ok w.list? fun xs => ok (pairsOf xs) fun ps => ps.length ≤ sizeLine ∧ Q (.dct (mergeD [] ps))) ∨ (ok w.dict? fun kvs => Q (.dct kvs))
  | .sorted, w, Q => (ok w.dict? fun kvs => ok (intsOf (kvs.map (·.1))) fun ns => ns.length < 64 ∧ Q (.lst ((isort ns).map PyData.int))) ∨ (ok w.list? fun xs => ok (intsOf xs) fun ns => Q (.lst ((isort ns).map PyData.int)))
  | .repr, w, Q => ok w.data? fun x => x.showable = true ∧ x.hasDict = false ∧ x.depth ≤ 100 ∧ x.shown.length ≤ sizeLine ∧ Q (.d (.str x.shown))
  | .all, w, Q => ok w.list? fun xs => ok (boolsOf xs) fun bs => Q (.d (.bool (bs.all id)))
  | .any, w, Q => ok w.list? fun xs => ok (boolsOf xs) fun bs => Q (.d (.bool (bs.any id)))
def bf2W : Bf → W → W → (W → Prop) → Prop
  | .max, a, b, Q => ok a.int? fun i => ok b.int? fun j => Q (.d (.int (if j > i then j else i)))
  | .min, a, b, Q => ok a.int? fun i => ok b.int? fun j => Q (.d (.int (if j < i then j else i)))
  | _, _, _, _ => False

mutual
def asgT : T → W → EnvC → (EnvC → Prop) → Prop
  | .name i, w, env, Q => w.view = false ∧ i < env.length ∧ Q (env.set i (some w))
  | .tup ts, w, env, Q => ok w.tup? fun xs => asgTs ts xs env Q
def asgTs : Ts → List PyData → EnvC → (EnvC → Prop) → Prop
  | .nil, xs, env, Q => xs = [] ∧ Q env
  | .cons t r, xs, env, Q => match xs with
    | x :: xs => asgT t (.d x) env fun e => asgTs r xs e Q
    | [] => False
end
mutual
def T.slots : T → List Nat
  | .name i => [i]
  | .tup ts => ts.slots
def Ts.slots : Ts → List Nat
  | .nil => []
  | .cons t r => t.slots ++ r.slots
end
def wipeC (env : EnvC) : List Nat → EnvC
  | [] => env
  | v :: vs => (wipeC env vs).set v none
/-- a comprehension's turns -/
def compW (step : PyData → (Option PyData → Prop) → Prop) : List PyData → List PyData → (List PyData → Prop) → Prop
  | [], acc, Q => Q acc
  | x :: r, acc, Q => step x fun o => match o with
    | some y => acc.length < sizeLine ∧ compW step r (acc ++ [y]) Q
    | none => compW step r acc Q
def rngD (lo hi : Int) : List PyData := (List.range (hi - lo).toNat).map fun (k : Nat) => PyData.int (lo + (k : Int))
def enumD : Nat → List PyData → List PyData
  | _, [] => []
  | n, x :: r => .tuple [.int n, x] :: enumD (n + 1) r
def zipD : List PyData → List PyData → List PyData
  | x :: r, y :: t => .tuple [x, y] :: zipD r t
  | _, _ => []
def Far (i : Int) : Prop := -(2 ^ 62) ≤ i ∧ i < 2 ^ 62
def datas : List W → Option (List PyData)
  | [] => some []
  | .d x :: r => (datas r).map (x :: ·)
  | _ => none

def frzC (w u : W) (i : Nat) (env : EnvC) : EnvC := if w.own = true then env.set i (some u) else env
section
variable (Γ : Gam)
mutual
def wpE : E → EnvC → (W → EnvC → Prop) → Prop
  | .var i, env, Q => ok (env[i]?) fun o => ok o fun w => ok w.per? fun u => Q u (frzC w u i env)
  | .peek i, env, Q => ok (env[i]?) fun o => ok o fun w => match w with
    | .lst xs => Q (.vlst xs) env
    | .dct kvs => Q (.vdct kvs) env
    | w => Q w env
  | .lit x, env, Q => Q (.d x) env
  | .un o a, env, Q => wpE a env fun w e1 => uoW o w fun u => Q u e1
  | .bin o a b, env, Q => wpE a env fun w e1 => wpE b e1 fun w2 e2 => boW o w w2 fun u => Q u e2
  | .chain o1 o2 a b c, env, Q => wpE a env fun w e1 => wpE b e1 fun w2 e2 => w2.own = false ∧ boW o1 w w2 fun u => ok u.bool? fun k => if k = true then wpE c e2 fun w3 e3 => boW o2 w2 w3 fun u => Q u e3 else Q (.d (.bool false)) e2
  | .and a b, env, Q => wpE a env fun w e1 => ok w.bool? fun k => if k = true then wpE b e1 fun w2 e2 => ok w2.bool? fun k2 => Q (.d (.bool k2)) e2 else Q (.d (.bool false)) e1
  | .or a b, env, Q => wpE a env fun w e1 => ok w.bool? fun k => if k = true then Q (.d (.bool true)) e1 else wpE b e1 fun w2 e2 => ok w2.bool? fun k2 => Q (.d (.bool k2)) e2
  | .ite c a b, env, Q => wpE c env fun w e1 => ok w.bool? fun k => if k = true then wpE a e1 Q else wpE b e1 Q
  | .per a, env, Q => wpE a env fun w e1 => ok w.per? fun u => Q u e1
  | .frz i a, env, Q => ok (env[i]?) fun o => ok o fun w => ok w.per? fun u => wpE a (frzC w u i env) Q
  | .tup es, env, Q => wpEs es env fun ws e1 => ok (datas ws) fun xs => xs.length ≤ sizeLine ∧ Q (.d (.tuple xs)) e1
  | .lst es, env, Q => wpEs es env fun ws e1 => ok (datas ws) fun xs => xs.length ≤ sizeLine ∧ Q (.lst xs) e1
  | .dnew, env, Q => Q (.dct []) env
  | .dsp k v, env, Q => wpE k env fun w e1 => wpE v e1 fun w2 e2 => ok w.data? fun y => ok (keyOf y) fun key => match w2 with
    | .d z => Q (.dct [(keyD key, z)]) e2
    | _ => False
  | .sget i, env, Q => ok (env[i]?) fun o => ok o fun w => match w with
    | .src => ∀ n : Int, Q (.d (.int n)) env
    | _ => False
  | .blt f a, env, Q => wpE a env fun w e1 => bfW f w fun u => Q u e1
  | .blt2 f a b, env, Q => wpE a env fun w e1 => wpE b e1 fun w2 e2 => bf2W f w w2 fun u => Q u e2
  | .call f es, env, Q => wpEs es env fun ws e1 => ws.all W.arg = true ∧ ok (Γ f) fun sp => sp ws fun w => w.gives = true ∧ Q w e1
  | .get a k x, env, Q => wpE a env fun w e1 => ok w.dict? fun kvs => wpE k e1 fun w2 e2 => ok w2.data? fun y => ok (keyOf y) fun key => wpE x e2 fun w3 e3 => match w3 with
    | .d z => Q (.d ((dlook kvs key).getD z)) e3
    | _ => False
  | .slice a lo hi, env, Q => wpE a env fun w e1 => wpO lo e1 fun l e2 => wpO hi e2 fun h e3 => (ok w.list? fun xs => Q (.lst (sliceD xs l h)) e3) ∨ (ok w.tup? fun xs => Q (.d (.tuple (sliceD xs l h))) e3)
  | .rev a, env, Q => wpE a env fun w e1 => (ok w.list? fun xs => Q (.lst xs.reverse) e1) ∨ (ok w.tup? fun xs => Q (.d (.tuple xs.reverse)) e1)
  | .itemsL i, env, Q => ok (env[i]?) fun o => ok o fun w => match w with
    | .dct kvs => Q (.lst (kvs.map fun kv => PyData.tuple [kv.1, kv.2])) env
    | _ => False
  | .isN neg a, env, Q => wpE a env fun w e1 => ok w.data? fun x => Q (.d (.bool (match x with | .none => !neg | _ => neg))) e1
  | .comp own t src cond elt, env, Q => wpI src env fun xs e1 => (t.slots.all fun i => own.contains i) = true ∧ compW (fun x k => asgT t (.d x) (wipeC e1 own) fun e2 => wpB cond e2 fun b e3 => e3 = e2 ∧ if b = true then wpE elt e2 fun w e4 => e4 = e2 ∧ (match w with | .d y => k (some y) | _ => False) else k none) xs [] fun ys => Q (.lst ys) e1
def wpB : Oe → EnvC → (Bool → EnvC → Prop) → Prop
  | .none, env, Q => Q true env
  | .some a, env, Q => wpE a env fun w e1 => ok w.bool? fun b => Q b e1
def wpO : Oe → EnvC → (Option Int → EnvC → Prop) → Prop
  | .none, env, Q => Q none env
  | .some a, env, Q => wpE a env fun w e1 => ok w.int? fun b => Q (some b) e1
def wpEs : Es → EnvC → (List W → EnvC → Prop) → Prop
  | .nil, env, Q => Q [] env
  | .cons a r, env, Q => wpE a env fun w e1 => wpEs r e1 fun ws e2 => Q (w :: ws) e2
  | .star a r, env, Q => wpE a env fun w e1 => ok w.seq? fun xs => wpEs r e1 fun ws e2 => Q (xs.map W.d ++ ws) e2
def wpI : I → EnvC → (List PyData → EnvC → Prop) → Prop
  | .it a, env, Q => wpE a env fun w e1 => w.view = false ∧ ((ok w.seq? fun xs => Q xs e1) ∨ (∃ kvs, w = .d (.dict kvs) ∧ Q (kvs.map (·.1)) e1))
  | .rng1 a, env, Q => wpE a env fun w e1 => ok w.int? fun i => Far i ∧ Q (rngD 0 i) e1
  | .rng2 a b, env, Q => wpE a env fun w e1 => wpE b e1 fun w2 e2 => ok w.int? fun i => ok w2.int? fun j => Far i ∧ Far j ∧ Q (rngD i j) e2
  | .rng3 _ _ _, _, _ => False
  | .enum a, env, Q => wpE a env fun w e1 => w.view = false ∧ ok w.list? fun xs => Q (enumD 0 xs) e1
  | .zip a b, env, Q => wpE a env fun w e1 => wpE b e1 fun w2 e2 => w.view = false ∧ w2.view = false ∧ ok w.list? fun xs => ok w2.list? fun ys => Q (zipD xs ys) e2
  | .items a, env, Q => wpE a env fun w e1 => ∃ kvs, w = .d (.dict kvs) ∧ Q (kvs.map fun kv => PyData.tuple [kv.1, kv.2]) e1
end
end

/-- what is wanted behind a statement -/
structure EndsC where
  nx : EnvC → Prop
  rt : W → Prop
  bk : EnvC → Prop := fun _ => False
  ct : EnvC → Prop := fun _ => False
/-- a for's turns -/
def forW (step : PyData → EnvC → (EnvC → Prop) → Prop) : List PyData → EnvC → (EnvC → Prop) → Prop
  | [], env, Q => Q env
  | x :: r, env, Q => step x env fun e => forW step r e Q
section
variable (Γ : Gam)
mutual
def wpS : S → EnvC → EndsC → Prop
  | .asg t e, env, D => wpE Γ e env fun w e1 => asgT t w e1 D.nx
  | .par is es, env, D => wpEs Γ es env fun ws e1 => match is, ws with
    | [i, j], [v, w] => v.view = false ∧ w.view = false ∧ i < env.length ∧ j < env.length ∧ D.nx ((e1.set i (some v)).set j (some w))
    | [i, j, k], [v, w, u] => v.view = false ∧ w.view = false ∧ u.view = false ∧ i < env.length ∧ j < env.length ∧ k < env.length ∧ D.nx (((e1.set i (some v)).set j (some w)).set k (some u))
    | _, _ => False
  | .put i k e, env, D => wpE Γ e env fun w e1 => ok (e1[i]?) fun o => ok o fun _ => wpE Γ k e1 fun w2 e2 => match w with
    | .d y => ok (e2[i]?) fun o => ok o fun u => (match u with
      | .lst xs => ok w2.int? fun n => ok (ixN xs.length n) fun j => D.nx (e2.set i (some (.lst (xs.set j y))))
      | .dct kvs => ok w2.data? fun z => ok (keyOf z) fun key => kvs.length < sizeLine ∧ D.nx (e2.set i (some (.dct (dput kvs key y))))
      | _ => False)
    | _ => False
  | .app i e, env, D => ok (env[i]?) fun o => ok o fun u0 => u0.own = true ∧ u0.list?.isSome = true ∧ wpE Γ e env fun w e1 => match w with
    | .d y => ok (e1[i]?) fun o => ok o fun u => (match u with
      | .lst xs => xs.length < sizeLine ∧ D.nx (e1.set i (some (.lst (xs ++ [y]))))
      | _ => False)
    | _ => False
  | .ext i e, env, D => ok (env[i]?) fun o => ok o fun u0 => u0.own = true ∧ u0.list?.isSome = true ∧ wpE Γ e env fun w e1 => match w with
    | .lst ys => ok (e1[i]?) fun o => ok o fun u => (match u with
      | .lst xs => xs.length + ys.length ≤ sizeLine ∧ D.nx (e1.set i (some (.lst (xs ++ ys))))
      | _ => False)
    | _ => False
  | .ret e, env, D => wpE Γ e env fun w _ => w.gives = true ∧ D.rt w
  | .retv i, env, D => ok (env[i]?) fun o => ok o fun w => w.gives = true ∧ D.rt w
  | .ife c a b, env, D => wpE Γ c env fun w e1 => ok w.bool? fun k => if k = true then wpSs a e1 D else wpSs b e1 D
  | .for t src body, env, D => wpI Γ src env fun xs e1 => forW (fun x e k => asgT t (.d x) e fun e2 => wpSs body e2 ⟨k, D.rt, D.nx, k⟩) xs e1 D.nx
  | .whl c body, env, D => ∃ J : Nat → EnvC → Prop, (∃ m, J m env) ∧ ∀ m e, J m e → wpE Γ c e fun w e1 => ok w.bool? fun k => if k = true then wpSs body e1 ⟨fun e2 => ∃ m', m' < m ∧ J m' e2, D.rt, D.nx, fun e2 => ∃ m', m' < m ∧ J m' e2⟩ else D.nx e1
  | .brk, env, D => D.bk env
  | .cnt, env, D => D.ct env
  | .pass, env, D => D.nx env
  | .exp e, env, D => wpE Γ e env fun _ e1 => D.nx e1
  | .mk i f e, env, D => wpE Γ e env fun w e1 => ok w.list? fun xs => ok (intsOf xs) fun ns => w.arg = true ∧ ns.length ≤ 1000 ∧ i < e1.length ∧ (e1.set i none).all notSrc = true ∧ D.nx (e1.set i (some .src))
  | .mkret c m, env, D => wpE Γ c env fun w e1 => wpE Γ m e1 fun w2 e2 => w.own = true ∧ ok w.list? fun xs => ok (intsOf xs) fun ns => ok w2.int? fun _ => D.rt .src
  | .sput i e, env, D => wpE Γ e env fun w e1 => ok w.int? fun _ => ok (e1[i]?) fun o => ok o fun u => (match u with
    | .src => D.nx e1
    | _ => False)
  | .drain i j, env, D => ok (env[i]?) fun o => ok o fun u => (match u with
    | .src => (match j with
      | none => D.nx env
      | some j => j < env.length ∧ j ≠ i ∧ D.nx (env.set j none))
    | _ => False)
def wpSs : Ss → EnvC → EndsC → Prop
  | .nil, env, D => D.nx env
  | .cons s r, env, D => wpS s env { D with nx := fun e => wpSs r e D }
end
end
end Cal
set_option Elab.async false
set_option linter.all false
set_option maxRecDepth 100000
set_option maxHeartbeats 4000000
namespace Cal
open PySem PySem.Spec PyProof.Rows L2

/-! ## more is wanted, more is got -/
theorem orMono {a b a' b' : Prop} (h : a ∨ b) (f : a → a') (g : b → b') : a' ∨ b' := h.elim (fun x => .inl (f x)) fun x => .inr (g x)
theorem uoW_mono {o : Uo} {w : W} {Q Q' : W → Prop} (h : uoW o w Q) (f : ∀ w, Q w → Q' w) : uoW o w Q' := by
  cases o <;> exact ok.mono h fun _ q => f _ q
theorem intCmp_mono {g : Int → Int → Bool} {a b : W} {Q Q' : W → Prop} (h : intCmp g a b Q) (f : ∀ w, Q w → Q' w) : intCmp g a b Q' := ok.mono h fun _ h => ok.mono h fun _ q => f _ q
theorem dataEq_mono {a b : W} {Q Q' : Bool → Prop} (h : dataEq a b Q) (f : ∀ w, Q w → Q' w) : dataEq a b Q' := ok.mono h fun _ h => ok.mono h fun _ q => ⟨q.1, f _ q.2⟩
theorem boW_mono {o : Bo} {a b : W} {Q Q' : W → Prop} (h : boW o a b Q) (f : ∀ w, Q w → Q' w) : boW o a b Q' := by
  cases o with
  | add => exact orMono h (fun h => ok.mono h fun _ h => ok.mono h fun _ q => f _ q) fun h => orMono h (fun h => ok.mono h fun _ h => ok.mono h fun _ q => ⟨q.1, f _ q.2⟩) fun h => ok.mono h fun _ h => ok.mono h fun _ q => ⟨q.1, f _ q.2⟩
  | sub => exact ok.mono h fun _ h => ok.mono h fun _ q => f _ q
  | mul => exact orMono h (fun h => ok.mono h fun _ h => ok.mono h fun _ q => ⟨q.1, f _ q.2⟩) fun h => ok.mono h fun _ h => ok.mono h fun _ q => ⟨q.1, f _ q.2⟩
  | fdiv => exact ok.mono h fun _ h => ok.mono h fun _ q => ⟨q.1, f _ q.2⟩
  | mod => exact ok.mono h fun _ h => ok.mono h fun _ q => ⟨q.1, f _ q.2⟩
  | pow => exact ok.mono h fun _ h => ok.mono h fun _ q => ⟨q.1, f _ q.2⟩
  | eq => exact orMono h (fun h => dataEq_mono (show dataEq a b (fun k => Q (.d (.bool k))) from h) fun _ q => f _ q) fun h => ok.mono h fun _ h => ok.mono h fun _ q => f _ q
  | ne => exact orMono h (fun h => dataEq_mono (show dataEq a b (fun k => Q (.d (.bool (!k)))) from h) fun _ q => f _ q) fun h => ok.mono h fun _ h => ok.mono h fun _ q => f _ q
  | lt => exact intCmp_mono h f
  | le => exact intCmp_mono h f
  | gt => exact intCmp_mono h f
  | ge => exact intCmp_mono h f
  | inn => exact ok.mono h fun _ h => ok.mono h fun _ q => ⟨q.1, f _ q.2⟩
  | nin => exact ok.mono h fun _ h => ok.mono h fun _ q => ⟨q.1, f _ q.2⟩
  | idx => exact orMono h (fun h => ok.mono h fun _ h => ok.mono h fun _ h => ok.mono h fun _ q => f _ q) fun h => ok.mono h fun _ h => ok.mono h fun _ h => ok.mono h fun _ h => ok.mono h fun _ q => f _ q
theorem bfW_mono {o : Bf} {w : W} {Q Q' : W → Prop} (h : bfW o w Q) (f : ∀ w, Q w → Q' w) : bfW o w Q' := by
  cases o with
  | len => exact orMono h (fun h => ok.mono h fun _ q => f _ q) fun h => ok.mono h fun _ q => f _ q
  | abs => exact ok.mono h fun _ q => f _ q
  | int => exact orMono h (fun h => ok.mono h fun _ q => f _ q) fun h => ok.mono h fun _ q => f _ q
  | bool => exact ok.mono h fun _ q => f _ q
  | sum => exact ok.mono h fun _ h => ok.mono h fun _ q => f _ q
  | min => exact ok.mono h fun _ h => ok.mono h fun _ q => ⟨q.1, fun m h1 h2 => f _ (q.2 m h1 h2)⟩
  | max => exact ok.mono h fun _ h => ok.mono h fun _ q => ⟨q.1, fun m h1 h2 => f _ (q.2 m h1 h2)⟩
  | tuple => exact ok.mono h fun _ q => f _ q
  | list => exact orMono h (fun h => ok.mono h fun _ q => f _ q) fun h => ok.mono h fun _ q => f _ q
  | dict => exact orMono h (fun h => ok.mono h fun _ h => ok.mono h fun _ q => ⟨q.1, f _ q.2⟩) fun h => ok.mono h fun _ q => f _ q
  | sorted => exact orMono h (fun h => ok.mono h fun _ h => ok.mono h fun _ q => ⟨q.1, f _ q.2⟩) fun h => ok.mono h fun _ h => ok.mono h fun _ q => f _ q
  | repr => exact ok.mono h fun _ q => ⟨q.1, q.2.1, q.2.2.1, q.2.2.2.1, f _ q.2.2.2.2⟩
  | all => exact ok.mono h fun _ h => ok.mono h fun _ q => f _ q
  | any => exact ok.mono h fun _ h => ok.mono h fun _ q => f _ q
theorem bf2W_mono {o : Bf} {a b : W} {Q Q' : W → Prop} (h : bf2W o a b Q) (f : ∀ w, Q w → Q' w) : bf2W o a b Q' := by
  cases o <;> first | exact ok.mono h fun _ h => ok.mono h fun _ q => f _ q | exact h
mutual
theorem asgT_mono : ∀ {t : T} {w : W} {env : EnvC} {Q Q' : EnvC → Prop}, asgT t w env Q → (∀ e, Q e → Q' e) → asgT t w env Q'
  | .name i, w, env, Q, Q', h, f => ⟨h.1, h.2.1, f _ h.2.2⟩
  | .tup ts, w, env, Q, Q', h, f => ok.mono h fun xs h => asgTs_mono h f
theorem asgTs_mono : ∀ {ts : Ts} {xs : List PyData} {env : EnvC} {Q Q' : EnvC → Prop}, asgTs ts xs env Q → (∀ e, Q e → Q' e) → asgTs ts xs env Q'
  | .nil, xs, env, Q, Q', h, f => ⟨h.1, f _ h.2⟩
  | .cons t r, [], env, Q, Q', h, f => h
  | .cons t r, x :: xs, env, Q, Q', h, f => asgT_mono (t := t) h fun e h => asgTs_mono h f
end
theorem compW_mono {step step' : PyData → (Option PyData → Prop) → Prop} (hs : ∀ x k k', step x k → (∀ o, k o → k' o) → step' x k') : ∀ {xs acc : List PyData} {Q Q' : List PyData → Prop}, compW step xs acc Q → (∀ ys, Q ys → Q' ys) → compW step' xs acc Q'
  | [], acc, Q, Q', h, f => f _ h
  | x :: r, acc, Q, Q', h, f => hs x _ _ h fun o => by
    cases o with
    | none => exact fun h => compW_mono hs h f
    | some y => exact fun h => ⟨h.1, compW_mono hs h.2 f⟩
theorem forW_mono {step step' : PyData → EnvC → (EnvC → Prop) → Prop} (hs : ∀ x e k k', step x e k → (∀ o, k o → k' o) → step' x e k') : ∀ {xs : List PyData} {env : EnvC} {Q Q' : EnvC → Prop}, forW step xs env Q → (∀ ys, Q ys → Q' ys) → forW step' xs env Q'
  | [], _, Q, Q', h, f => f _ h
  | x :: r, _, Q, Q', h, f => hs x _ _ _ h fun e h => forW_mono hs h f
def GMono (Γ : Gam) : Prop := ∀ f sp, Γ f = some sp → ∀ ws P P', sp ws P → (∀ w, P w → P' w) → sp ws P'
section
variable {Γ : Gam} (hΓ : GMono Γ)
include hΓ
mutual
theorem wpE_mono : ∀ (e : E) {env : EnvC} {Q Q' : W → EnvC → Prop}, wpE Γ e env Q → (∀ w e1, Q w e1 → Q' w e1) → wpE Γ e env Q'
  | .var i, env, Q, Q', h, f => ok.mono h fun _ h => ok.mono h fun _ h => ok.mono h fun _ h => f _ _ h
  | .peek i, env, Q, Q', h, f => ok.mono h fun _ h => ok.mono h fun w h => by cases w <;> exact f _ _ h
  | .lit x, env, Q, Q', h, f => f _ _ h
  | .un o a, env, Q, Q', h, f => wpE_mono a h fun _ _ h => uoW_mono h fun _ h => f _ _ h
  | .bin o a b, env, Q, Q', h, f => wpE_mono a h fun _ _ h => wpE_mono b h fun _ _ h => boW_mono h fun _ h => f _ _ h
  | .chain o1 o2 a b c, env, Q, Q', h, f => wpE_mono a h fun _ _ h => wpE_mono b h fun _ _ h => ⟨h.1, boW_mono h.2 fun _ h => ok.mono h fun k h => by
    cases k with
    | true => exact wpE_mono c h fun _ _ h => boW_mono h fun _ h => f _ _ h
    | false => exact f _ _ h⟩
  | .and a b, env, Q, Q', h, f => wpE_mono a h fun _ _ h => ok.mono h fun k h => by
    cases k with
    | true => exact wpE_mono b h fun _ _ h => ok.mono h fun _ h => f _ _ h
    | false => exact f _ _ h
  | .or a b, env, Q, Q', h, f => wpE_mono a h fun _ _ h => ok.mono h fun k h => by
    cases k with
    | false => exact wpE_mono b h fun _ _ h => ok.mono h fun _ h => f _ _ h
    | true => exact f _ _ h
  | .ite c a b, env, Q, Q', h, f => wpE_mono c h fun _ _ h => ok.mono h fun k h => by
    cases k with
    | true => exact wpE_mono a h f
    | false => exact wpE_mono b h f
  | .per a, env, Q, Q', h, f => wpE_mono a h fun _ _ h => ok.mono h fun _ h => f _ _ h
  | .frz i a, env, Q, Q', h, f => ok.mono h fun _ h => ok.mono h fun _ h => ok.mono h fun _ h => wpE_mono a h f
  | .tup es, env, Q, Q', h, f => wpEs_mono es h fun _ _ h => ok.mono h fun _ h => ⟨h.1, f _ _ h.2⟩
  | .lst es, env, Q, Q', h, f => wpEs_mono es h fun _ _ h => ok.mono h fun _ h => ⟨h.1, f _ _ h.2⟩
  | .dnew, env, Q, Q', h, f => f _ _ h
  | .dsp k v, env, Q, Q', h, f => wpE_mono k h fun _ _ h => wpE_mono v h fun w _ h => ok.mono h fun _ h => ok.mono h fun _ h => by
    cases w <;> first | exact h | exact f _ _ h
  | .sget i, env, Q, Q', h, f => ok.mono h fun _ h => ok.mono h fun w h => by
    cases w <;> first | exact h | exact fun n => f _ _ (h n)
  | .blt o a, env, Q, Q', h, f => wpE_mono a h fun _ _ h => bfW_mono h fun _ h => f _ _ h
  | .blt2 o a b, env, Q, Q', h, f => wpE_mono a h fun _ _ h => wpE_mono b h fun _ _ h => bf2W_mono h fun _ h => f _ _ h
  | .call g es, env, Q, Q', h, f => wpEs_mono es h fun _ _ ⟨ha, h⟩ => ⟨ha, by
    rw [ok_iff] at h ⊢
    obtain ⟨sp, e, h⟩ := h
    exact ⟨sp, e, hΓ g sp e _ _ _ h fun w h => ⟨h.1, f _ _ h.2⟩⟩⟩
  | .get a k x, env, Q, Q', h, f => wpE_mono a h fun _ _ h => ok.mono h fun _ h => wpE_mono k h fun _ _ h => ok.mono h fun _ h => ok.mono h fun _ h => wpE_mono x h fun w _ h => by
    cases w <;> first | exact f _ _ h | exact h
  | .slice a lo hi, env, Q, Q', h, f => wpE_mono a h fun _ _ h => wpO_mono lo h fun _ _ h => wpO_mono hi h fun _ _ h => orMono h (fun h => ok.mono h fun _ h => f _ _ h) fun h => ok.mono h fun _ h => f _ _ h
  | .rev a, env, Q, Q', h, f => wpE_mono a h fun _ _ h => orMono h (fun h => ok.mono h fun _ h => f _ _ h) fun h => ok.mono h fun _ h => f _ _ h
  | .itemsL i, env, Q, Q', h, f => ok.mono h fun _ h => ok.mono h fun w h => by cases w <;> first | exact h | exact f _ _ h
  | .isN _ a, env, Q, Q', h, f => wpE_mono a h fun _ _ h => ok.mono h fun _ h => f _ _ h
  | .comp own t src cond elt, env, Q, Q', h, f => wpI_mono src h fun xs e1 ⟨h0, h⟩ => ⟨h0, by
    refine compW_mono ?_ h fun _ h => f _ _ h
    intro x k k' hh hk
    refine asgT_mono hh fun e2 hh => wpB_mono cond hh fun b e3 hh => ⟨hh.1, ?_⟩
    have h2 := hh.2
    cases b with
    | true => exact wpE_mono elt h2 fun w _ h => ⟨h.1, by
        have h3 := h.2
        cases w <;> first | exact hk _ h3 | exact h3⟩
    | false => exact hk _ h2⟩
theorem wpB_mono : ∀ (o : Oe) {env : EnvC} {Q Q' : Bool → EnvC → Prop}, wpB Γ o env Q → (∀ w e1, Q w e1 → Q' w e1) → wpB Γ o env Q'
  | .none, env, Q, Q', h, f => f _ _ h
  | .some a, env, Q, Q', h, f => wpE_mono a h fun _ _ h => ok.mono h fun _ h => f _ _ h
theorem wpO_mono : ∀ (o : Oe) {env : EnvC} {Q Q' : Option Int → EnvC → Prop}, wpO Γ o env Q → (∀ w e1, Q w e1 → Q' w e1) → wpO Γ o env Q'
  | .none, env, Q, Q', h, f => f _ _ h
  | .some a, env, Q, Q', h, f => wpE_mono a h fun _ _ h => ok.mono h fun _ h => f _ _ h
theorem wpEs_mono : ∀ (es : Es) {env : EnvC} {Q Q' : List W → EnvC → Prop}, wpEs Γ es env Q → (∀ w e1, Q w e1 → Q' w e1) → wpEs Γ es env Q'
  | .nil, env, Q, Q', h, f => f _ _ h
  | .cons a r, env, Q, Q', h, f => wpE_mono a h fun _ _ h => wpEs_mono r h fun _ _ h => f _ _ h
  | .star a r, env, Q, Q', h, f => wpE_mono a h fun _ _ h => ok.mono h fun _ h => wpEs_mono r h fun _ _ h => f _ _ h
theorem wpI_mono : ∀ (s : I) {env : EnvC} {Q Q' : List PyData → EnvC → Prop}, wpI Γ s env Q → (∀ w e1, Q w e1 → Q' w e1) → wpI Γ s env Q'
  | .it a, env, Q, Q', h, f => wpE_mono a h fun _ _ h => ⟨h.1, orMono h.2 (fun h => ok.mono h fun _ h => f _ _ h) fun ⟨kvs, e, h⟩ => ⟨kvs, e, f _ _ h⟩⟩
  | .rng1 a, env, Q, Q', h, f => wpE_mono a h fun _ _ h => ok.mono h fun _ h => ⟨h.1, f _ _ h.2⟩
  | .rng2 a b, env, Q, Q', h, f => wpE_mono a h fun _ _ h => wpE_mono b h fun _ _ h => ok.mono h fun _ h => ok.mono h fun _ h => ⟨h.1, h.2.1, f _ _ h.2.2⟩
  | .rng3 _ _ _, env, Q, Q', h, f => h
  | .enum a, env, Q, Q', h, f => wpE_mono a h fun _ _ h => ⟨h.1, ok.mono h.2 fun _ h => f _ _ h⟩
  | .zip a b, env, Q, Q', h, f => wpE_mono a h fun _ _ h => wpE_mono b h fun _ _ h => ⟨h.1, h.2.1, ok.mono h.2.2 fun _ h => ok.mono h fun _ h => f _ _ h⟩
  | .items a, env, Q, Q', h, f => wpE_mono a h fun _ _ ⟨kvs, e, h⟩ => ⟨kvs, e, f _ _ h⟩
end
structure EndsC.Le (D D' : EndsC) : Prop where
  nx : ∀ e, D.nx e → D'.nx e
  rt : ∀ w, D.rt w → D'.rt w
  bk : ∀ e, D.bk e → D'.bk e
  ct : ∀ e, D.ct e → D'.ct e
mutual
theorem wpS_mono : ∀ (s : S) {env : EnvC} {D D' : EndsC}, wpS Γ s env D → D.Le D' → wpS Γ s env D'
  | .asg t e, env, D, D', h, f => wpE_mono hΓ e h fun _ _ h => asgT_mono h f.nx
  | .par is es, env, D, D', h, f => wpEs_mono hΓ es h fun ws _ h => by
    split at h
    · exact ⟨h.1, h.2.1, h.2.2.1, h.2.2.2.1, f.nx _ h.2.2.2.2⟩
    · exact ⟨h.1, h.2.1, h.2.2.1, h.2.2.2.1, h.2.2.2.2.1, h.2.2.2.2.2.1, f.nx _ h.2.2.2.2.2.2⟩
    · exact h
  | .put i k e, env, D, D', h, f => wpE_mono hΓ e h fun w _ h => ok.mono h fun _ h => ok.mono h fun _ h => wpE_mono hΓ k h fun w2 _ h => by
    cases w <;> first | exact h | skip
    exact ok.mono h fun _ h => ok.mono h fun u h => by
      cases u <;> first | exact h | skip
      · exact ok.mono h fun _ h => ok.mono h fun _ h => f.nx _ h
      · exact ok.mono h fun _ h => ok.mono h fun _ h => ⟨h.1, f.nx _ h.2⟩
  | .app i e, env, D, D', h, f => ok.mono h fun _ h => ok.mono h fun _ h => ⟨h.1, h.2.1, wpE_mono hΓ e h.2.2 fun w _ h => by
    cases w <;> first | exact h | skip
    exact ok.mono h fun _ h => ok.mono h fun u h => by
      cases u <;> first | exact h | exact ⟨h.1, f.nx _ h.2⟩⟩
  | .ext i e, env, D, D', h, f => ok.mono h fun _ h => ok.mono h fun _ h => ⟨h.1, h.2.1, wpE_mono hΓ e h.2.2 fun w _ h => by
    cases w <;> first | exact h | skip
    exact ok.mono h fun _ h => ok.mono h fun u h => by
      cases u <;> first | exact h | exact ⟨h.1, f.nx _ h.2⟩⟩
  | .ret e, env, D, D', h, f => wpE_mono hΓ e h fun _ _ h => ⟨h.1, f.rt _ h.2⟩
  | .retv i, env, D, D', h, f => ok.mono h fun _ h => ok.mono h fun _ h => ⟨h.1, f.rt _ h.2⟩
  | .ife c a b, env, D, D', h, f => wpE_mono hΓ c h fun _ _ h => ok.mono h fun k h => by
    cases k with
    | true => exact wpSs_mono a h f
    | false => exact wpSs_mono b h f
  | .for t src body, env, D, D', h, f => wpI_mono hΓ src h fun _ _ h => by
    refine forW_mono ?_ h f.nx
    intro x e k k' h hk
    exact asgT_mono h fun _ h => wpSs_mono body h ⟨hk, f.rt, f.nx, hk⟩
  | .whl c body, env, D, D', h, f => by
    obtain ⟨J, h0, h⟩ := h
    refine ⟨J, h0, fun m e hj => wpE_mono hΓ c (h m e hj) fun _ _ h => ok.mono h fun k h => ?_⟩
    cases k with
    | true => exact wpSs_mono body h ⟨fun _ h => h, f.rt, f.nx, fun _ h => h⟩
    | false => exact f.nx _ h
  | .brk, env, D, D', h, f => f.bk _ h
  | .cnt, env, D, D', h, f => f.ct _ h
  | .pass, env, D, D', h, f => f.nx _ h
  | .exp e, env, D, D', h, f => wpE_mono hΓ e h fun _ _ h => f.nx _ h
  | .mk i g e, env, D, D', h, f => wpE_mono hΓ e h fun _ _ h => ok.mono h fun _ h => ok.mono h fun _ h => ⟨h.1, h.2.1, h.2.2.1, h.2.2.2.1, f.nx _ h.2.2.2.2⟩
  | .mkret c m, env, D, D', h, f => wpE_mono hΓ c h fun _ _ h => wpE_mono hΓ m h fun _ _ h => ⟨h.1, ok.mono h.2 fun _ h => ok.mono h fun _ h => ok.mono h fun _ h => f.rt _ h⟩
  | .sput i e, env, D, D', h, f => wpE_mono hΓ e h fun _ _ h => ok.mono h fun _ h => ok.mono h fun u h => by
    refine ok.mono h fun u h => ?_
    cases u <;> first | exact h | exact f.nx _ h
  | .drain i j, env, D, D', h, f => ok.mono h fun _ h => ok.mono h fun u h => by
    cases u <;> first | exact h | skip
    cases j with
    | none => exact f.nx _ h
    | some j => exact ⟨h.1, h.2.1, f.nx _ h.2.2⟩
theorem wpSs_mono : ∀ (s : Ss) {env : EnvC} {D D' : EndsC}, wpSs Γ s env D → D.Le D' → wpSs Γ s env D'
  | .nil, env, D, D', h, f => f.nx _ h
  | .cons s r, env, D, D', h, f => wpS_mono s h ⟨fun _ h => wpSs_mono r h f, f.rt, f.bk, f.ct⟩
end
end
end Cal
set_option Elab.async false
set_option linter.all false
set_option maxRecDepth 100000
set_option maxHeartbeats 4000000
namespace Cal
open PySem PySem.Spec PyProof.Rows L2

/-! ## the clean tree tells the machine's run: expressions -/
theorem weakE {X : Cx} {e : Expr} {t t' : TE} (h : PE X e t) (f : ∀ σ H Q, t' σ H Q → t σ H Q) : PE X e t' := ⟨fun pins s σ H Q I q => h.run pins s σ H Q I (f σ H Q q)⟩
theorem weakT {X : Cx} {e : Expr} {t t' : TT} (h : PT X e t) (f : ∀ σ H Q, t' σ H Q → t σ H Q) : PT X e t' := ⟨fun pins s σ H Q I q => h.run pins s σ H Q I (f σ H Q q)⟩
theorem weakA {X : Cx} {es : List Expr} {t t' : TA} (h : PA X es t) (f : ∀ σ H Q, t' σ H Q → t σ H Q) : PA X es t' := ⟨fun pos pins s σ H Q I q => h.run pos pins s σ H Q I (f σ H Q q)⟩
theorem weakI {X : Cx} {tg e : Expr} {t t' : TI} (h : PI X tg e t) (f : ∀ σ H Q, t' σ H Q → t σ H Q) : PI X tg e t' := ⟨fun pins s σ H Q I q => h.run pins s σ H Q I (f σ H Q q)⟩
theorem weakO {X : Cx} {e : Option Expr} {t t' : TO} (h : PO X e t) (f : ∀ σ H Q, t' σ H Q → t σ H Q) : PO X e t' := ⟨fun pins s σ H Q I q => h.run pins s σ H Q I (f σ H Q q)⟩
theorem weakS {X : Cx} {st : Stmt} {t t' : TS} (h : PS X st t) (f : ∀ D σ H, t' D σ H → t D σ H) : PS X st t' := ⟨fun pins s σ H D I q => h.run pins s σ H D I (f D σ H q)⟩
theorem weakSs {X : Cx} {st : List Stmt} {t t' : TS} (h : PSs X st t) (f : ∀ D σ H, t' D σ H → t D σ H) : PSs X st t' := ⟨fun pins s σ H D I q => h.run pins s σ H D I (f D σ H q)⟩

section
variable (Γ : Gam) (K : PySem.W.Frag)
def rdE (c : E) : TE := fun σ H Q => ∃ sr env, RelS K sr H σ env ∧ wpE Γ c env fun w env' => ∀ v H', Post K sr H σ env env' w v H' → Q v H'
/-- the same as a test -/
def rdT (c : E) : TT := fun σ H Q => rdE Γ K c σ H fun v H' => ∃ b, v = .bl b ∧ Q b H'
/-- behind a list of expressions -/
structure PostL (sr : Sr) (H : Hp) (σ : St) (env env' : EnvC) (ws : List W) (vs : List V) (H' : Hp) : Prop where
  rs : RelS K sr H' σ env'
  rw : Paired (RelW K sr H') ws vs
  fr : ∀ (i : Nat) (w : W) (a : Addr), ws[i]? = some w → w.own = true → vs[i]? = some (.ref a) → H a = none
  dis : ∀ (i j : Nat) (w w2 : W) (a : Addr), ws[i]? = some w → w.own = true → vs[i]? = some (.ref a) → ws[j]? = some w2 → w2.own = true → vs[j]? = some (.ref a) → i = j
  ev : Evo sr σ env H H'
  sub : ∀ a, OwnAt σ env' a → OwnAt σ env a
def rdEs (c : Es) : TA := fun σ H Q => ∃ sr env, RelS K sr H σ env ∧ wpEs Γ c env fun ws env' => ∀ vs H', PostL K sr H σ env env' ws vs H' → Q vs H'
end

section
variable {Γ : Gam} {K : PySem.W.Frag} {sr : Sr} {H H1 H2 : Hp} {σ : St} {env env1 env2 : EnvC} {w w2 : W} {v v2 : V} (hΓ : GMono Γ)
theorem int?_some {w : W} {i : Int} (h : w.int? = some i) : w = .d (.int i) := by
  cases w with
  | d x => cases x <;> first | (cases h; rfl) | cases h
  | _ => cases h
theorem bool?_some {w : W} {i : Bool} (h : w.bool? = some i) : w = .d (.bool i) := by
  cases w with
  | d x => cases x <;> first | (cases h; rfl) | cases h
  | _ => cases h
theorem str?_some {w : W} {i : Str} (h : w.str? = some i) : w = .d (.str i) := by
  cases w with
  | d x => cases x <;> first | (cases h; rfl) | cases h
  | _ => cases h
theorem rw_str {i : Str} (h : RelW K sr H (.d (.str i)) v) : v = .str i := by
  have h : RD K H (.str i) v := h
  cases h; rfl
theorem tup?_some {w : W} {xs : List PyData} (h : w.tup? = some xs) : w = .d (.tuple xs) := by
  cases w with
  | d x => cases x <;> first | (cases h; rfl) | cases h
  | _ => cases h
theorem rw_int {i : Int} (h : RelW K sr H (.d (.int i)) v) : v = .int i := by
  have h : RD K H (.int i) v := h
  cases h; rfl
theorem rw_bool {i : Bool} (h : RelW K sr H (.d (.bool i)) v) : v = .bl i := by
  have h : RD K H (.bool i) v := h
  cases h; rfl
theorem rw_tup {xs : List PyData} (h : RelW K sr H (.d (.tuple xs)) v) : ∃ a vs, v = .ref a ∧ SqT K H a vs ∧ RDs K H xs vs := by
  have h : RD K H (.tuple xs) v := h
  cases h with
  | tuple h1 h2 => exact ⟨_, _, rfl, h1, h2⟩
theorem rw_list {w : W} {xs : List PyData} (h : w.list? = some xs) (r : RelW K sr H w v) : ∃ a vs, v = .ref a ∧ Rd H a (.lst vs) ∧ RDs K H xs vs := by
  cases w with
  | d x =>
    cases x <;> first | cases h | skip
    have r : RD K H (.list _) v := r
    cases r with
    | list h1 h2 => exact ⟨_, _, rfl, .inr ⟨_, h1⟩, h2⟩
  | lst xs => cases h; obtain ⟨a, vs, e, h, r⟩ := r; exact ⟨a, vs, e, .inl h, r⟩
  | vlst xs => cases h; obtain ⟨a, vs, e, h, r, _⟩ := r; exact ⟨a, vs, e, h, r⟩
  | _ => cases h
theorem rw_dict {w : W} {xs : List (PyData × PyData)} (h : w.dict? = some xs) (r : RelW K sr H w v) : ∃ a vs, v = .ref a ∧ Rd H a (.dK vs) ∧ RKs K H xs vs := by
  cases w with
  | d x =>
    cases x <;> first | cases h | skip
    have r : RD K H (.dict _) v := r
    cases r with
    | dict h1 h2 => exact ⟨_, _, rfl, .inr ⟨_, h1⟩, h2⟩
  | dct xs => cases h; obtain ⟨a, vs, e, h, r⟩ := r; exact ⟨a, vs, e, .inl h, r⟩
  | vdct xs => cases h; obtain ⟨a, vs, e, h, r, _⟩ := r; exact ⟨a, vs, e, h, r⟩
  | _ => cases h
theorem rw_seq {w : W} {xs : List PyData} (h : w.seq? = some xs) (r : RelW K sr H w v) : ∃ a vs, v = .ref a ∧ (SqL K H a vs ∨ SqT K H a vs) ∧ RDs K H xs vs := by
  have l : w.list? = some xs → ∃ a vs, v = .ref a ∧ (SqL K H a vs ∨ SqT K H a vs) ∧ RDs K H xs vs := fun h => by
    obtain ⟨a, vs, e, q, r⟩ := rw_list h r
    exact ⟨a, vs, e, .inl (.inl q), r⟩
  cases w with
  | d x =>
    cases x <;> first | cases h | skip
    · exact l rfl
    · obtain ⟨a, vs, e, q, r⟩ := rw_tup r
      exact ⟨a, vs, e, .inr q, r⟩
  | lst xs => cases h; exact l rfl
  | vlst xs => cases h; exact l rfl
  | _ => cases h
/-- everything is wanted of a run that is told -/
theorem rdE_of {a : E} {P : W → EnvC → Prop} {Q' : VK} (hΓ : GMono Γ) (r : RelS K sr H σ env) (h : wpE Γ a env P) (f : ∀ w e1 v H1, P w e1 → Post K sr H σ env e1 w v H1 → Q' v H1) : rdE Γ K a σ H Q' :=
  ⟨sr, env, r, wpE_mono hΓ a h fun w e1 k v H1 p => f w e1 v H1 k p⟩
theorem rdEs_of {a : Es} {P : List W → EnvC → Prop} {Q' : List V → Hp → Prop} (hΓ : GMono Γ) (r : RelS K sr H σ env) (h : wpEs Γ a env P) (f : ∀ ws e1 vs H1, P ws e1 → PostL K sr H σ env e1 ws vs H1 → Q' vs H1) : rdEs Γ K a σ H Q' :=
  ⟨sr, env, r, wpEs_mono hΓ a h fun w e1 k v H1 p => f w e1 v H1 k p⟩
end

/-! ### what a context gives -/
/-- a call's end, over plain data -/
structure CPost (K : PySem.W.Frag) (sr : Sr) (H : Hp) (w : W) (v : V) (H' : Hp) : Prop where
  rw : RelW K sr H' w v
  fr : w.own = true → ∀ a, v = .ref a → H a = none
  sok : SrOk sr H'
  per : Per H H'
  keep : ∀ a u, H a = some u → ¬ inSr sr a → H' a = some u
/-- a def keeps a promise over plain data -/
structure FnC (P : Program) (w : World) (K : PySem.W.Frag) (mg : Str → Option Value) (base : Heap) (k : Nat) (f : Addr) (fd : FuncData) (ps : List Str) (sp : Spec) : Prop where
  len : ∀ ws Q, sp ws Q → ws.length = ps.length
  run : ∀ (A : Around) (outer : List Env) (s : Shared) (H : Hp) (us : List Value) (vs : List V) (Q : VK) (sr : Sr) (ws : List W), Room k A → A.guards = some [] → Env0 P w K mg base A outer s H → BindsTo s fd ⟨us, []⟩ (ps.zip us) → Vals vs us →
    SrOk sr H → Paired (RelW K sr H) ws vs → ws.all W.arg = true → sp ws (fun w => w.gives = true ∧ ∀ v H', CPost K sr H w v H' → Q v H') → codeAny (model P w) A (.call (.ref f) ⟨us, []⟩) (CR CX0 outer P w H s Q E0) s
structure Callee (X : Cx) (f : Str) (sp : Spec) : Prop where
  is : ∃ (fa : Addr) (fd : FuncData) (ps : List Str) (k : Nat), FnC X.prog X.w X.K X.mg X.base k fa fd ps sp ∧ Room k X.A ∧ X.mg f = some (.ref fa) ∧ PySem.W.keepIn X.K (.ref fa) = true ∧ Binds X.K fd ps []
/-- names of built-ins that are served -/
def served : List Str := ["len", "abs", "int", "bool", "sum", "min", "max", "tuple", "list", "dict", "sorted", "repr", "all", "any", "range", "enumerate", "zip", "isinstance", "str"]
structure Good (X : Cx) (Γ : Gam) : Prop where
  nd : X.N.Nodup
  calm : X.calm = true
  nox : X.xe = fun _ _ => False
  un : X.A.units + 200 < cLine
  blt : ∀ x ∈ served, X.mg x = none
  call : ∀ f sp, Γ f = some sp → Callee X f sp
  mono : GMono Γ
  guards : X.A.guards = some []

section
variable {X : Cx} {Γ : Gam} (G : Good X Γ)
/-- a thing may be locked ahead of a run -/
theorem lockE {e : Expr} {t : TE} (h : PE X e t) : PE X e (fun σ H Q => t σ H Q ∨ ∃ a u, H a = some u ∧ Mut (some u) ∧ ∀ o, t σ (upd H a (.frz o u)) Q) := ⟨fun pins s σ H Q I q => by
  rcases q with q | ⟨a, u, e, m, q⟩
  · exact h.run pins s σ H Q I q
  · obtain ⟨o, I1⟩ := I.lock e m
    exact h.run pins s σ _ Q I1 (q o)⟩
/-- .. behind it -/
theorem lockE' {e : Expr} {t : TE} (h : PE X e t) : PE X e (fun σ H Q => t σ H fun v H' => Q v H' ∨ ∃ a u, H' a = some u ∧ Mut (some u) ∧ ∀ o, Q v (upd H' a (.frz o u))) := ⟨fun pins s σ H Q I q => by
  refine thn (h.run pins s σ H _ I q) fun u s1 ⟨v, H1, I1, r, q⟩ => ?_
  rcases q with q | ⟨a, u, e, m, q⟩
  · exact ⟨v, H1, I1, r, q⟩
  · obtain ⟨o, I2⟩ := I1.lock e m
    exact ⟨v, _, I2, r, q o⟩⟩

variable {K : PySem.W.Frag} {sr : Sr} {H : Hp} {σ : St} {env : EnvC}
theorem Per.frzd {a : Addr} {u : HO} {o : Obj} (e : H a = some u) (m : Mut (some u)) : Per H (upd H a (.frz o u)) := by
  refine ⟨fun b xs h => ?_, fun b o' u' h => ?_⟩
  · rw [upd_ne]; exact h
    intro z; subst z; rw [e] at h; cases h; exact m
  · rw [upd_ne]; exact h
    intro z; subst z; rw [e] at h; cases h; exact m
theorem own_set {i : Nat} {w : W} {a : Addr} (h : OwnAt σ (env.set i (some w)) a) (hw : w.own = false) : OwnAt σ env a ∧ ∀ b, σ[i]? = some (some (V.ref b)) → (∃ w, env[i]? = some (some w) ∧ w.own = true) → (∀ i j a, OwnI σ env i a → OwnI σ env j a → i = j) → a ≠ b := by
  obtain ⟨j, w', e1, e2, e3⟩ := h
  by_cases hj : i = j
  · subst hj
    by_cases hl : i < env.length
    · rw [List.getElem?_set_self hl] at e1
      cases e1
      rw [hw] at e2
      cases e2
    · rw [List.getElem?_eq_none (by rw [List.length_set]; omega)] at e1
      cases e1
  · rw [List.getElem?_set_ne hj] at e1
    refine ⟨⟨j, w', e1, e2, e3⟩, fun b eb ⟨w2, e4, e5⟩ dis z => hj ?_⟩
    subst z
    exact dis i j a ⟨w2, e4, e5, eb⟩ ⟨w', e1, e2, e3⟩
theorem RelW.upd {w : W} {v : V} {a : Addr} {o : HO} (h : RelW K sr H w v) (p : Per H (upd H a o)) (hv : w.view = false) (hne : w.own = true → v ≠ .ref a) : RelW K sr (upd H a o) w v := by
  cases w with
  | d x => exact RD.per p h
  | lst xs =>
    obtain ⟨b, vs, e, h1, h2⟩ := h
    exact ⟨b, vs, e, by rw [upd_ne (fun z => hne rfl (by rw [e, z]))]; exact h1, RDs.per p h2⟩
  | dct xs =>
    obtain ⟨b, vs, e, h1, h2⟩ := h
    exact ⟨b, vs, e, by rw [upd_ne (fun z => hne rfl (by rw [e, z]))]; exact h1, RKs.per p h2⟩
  | vlst xs => cases hv
  | vdct xs => cases hv
  | src => exact h
theorem SrOk.upd {sr : Sr} {H : Hp} {a : Addr} {o : HO} (r : SrOk sr H) (n : ¬ inSr sr a) : SrOk sr (upd H a o) := by
  cases sr with
  | none => trivial
  | some p =>
    obtain ⟨b, q⟩ := p
    obtain ⟨l, m, t, cs, e1, e2⟩ := r
    exact ⟨l, m, t, cs, by rw [upd_ne (fun z => n (.inl z.symm))]; exact e1, by rw [upd_ne (fun z => n (.inr z.symm))]; exact e2⟩
/-- a slot's own list or dict is made to last -/
theorem RelS.freeze (r : RelS K sr H σ env) {i : Nat} {w u : W} (e : env[i]? = some (some w)) (ho : w.own = true) (hp : w.per? = some u) :
    ∃ a h, σ[i]? = some (some (.ref a)) ∧ H a = some h ∧ Mut (some h) ∧ ∀ o, Post K sr H σ env (env.set i (some u)) u (.ref a) (upd H a (.frz o h)) := by
  obtain ⟨hv, v, ev, rw⟩ := r.ats i w e
  have hl : i < env.length := (List.getElem?_eq_some_iff.mp e).1
  have key : ∀ (a : Addr) (h : HO), v = .ref a → H a = some h → Mut (some h) → (∀ o, RelW K sr (upd H a (.frz o h)) u (.ref a)) → u.own = false → u.view = false → ∀ o, Post K sr H σ env (env.set i (some u)) u (.ref a) (upd H a (.frz o h)) := by
    intro a h ea eh mu hr hu hw o
    subst ea
    have own : OwnAt σ env a := ⟨i, w, e, ho, ev⟩
    have per : Per H (upd H a (.frz o h)) := Per.frzd eh mu
    have sub1 : ∀ j b, OwnI σ (env.set i (some u)) j b → i ≠ j ∧ OwnI σ env j b := fun j b ⟨w', e1, e2, e3⟩ => by
      by_cases hj : i = j
      · subst hj
        rw [List.getElem?_set_self hl] at e1
        cases e1
        rw [hu] at e2
        cases e2
      · rw [List.getElem?_set_ne hj] at e1
        exact ⟨hj, w', e1, e2, e3⟩
    have sub : ∀ b, OwnAt σ (env.set i (some u)) b → OwnAt σ env b := fun b ⟨j, hj⟩ => ⟨j, (sub1 j b hj).2⟩
    refine ⟨⟨by rw [List.length_set]; exact r.len, fun j w' e' => ?_, fun j k b h1 h2 => r.dis j k b (sub1 j b h1).2 (sub1 k b h2).2, r.sok.upd (r.sno a own), fun b hb => r.sno b (sub b hb)⟩, hr o, fun z => (by rw [hu] at z; cases z), ⟨per, fun b x eb nb => ?_⟩, sub⟩
    · by_cases hj : i = j
      · subst hj
        rw [List.getElem?_set_self hl] at e'
        cases e'
        exact ⟨hw, _, ev, hr o⟩
      · rw [List.getElem?_set_ne hj] at e'
        obtain ⟨v1, v', e2, rw'⟩ := r.ats j w' e'
        refine ⟨v1, v', e2, rw'.upd per v1 fun ho' z => hj ?_⟩
        subst z
        exact r.dis i j a ⟨w, e, ho, ev⟩ ⟨w', e', ho', e2⟩
    · by_cases hb : b = a
      · subst hb
        rw [eh] at eb
        cases eb
        exact .inr ⟨own, o, upd_same⟩
      · exact .inl (by rw [upd_ne hb]; exact eb)
  cases w with
  | lst xs =>
    cases hp
    obtain ⟨a, vs, ea, h1, h2⟩ := rw
    subst ea
    exact ⟨a, _, ev, h1, trivial, key a _ rfl h1 trivial (fun o => RD.list upd_same (RDs.per (Per.frzd h1 trivial) h2)) rfl rfl⟩
  | dct xs =>
    cases hp
    obtain ⟨a, vs, ea, h1, h2⟩ := rw
    subst ea
    exact ⟨a, _, ev, h1, trivial, key a _ rfl h1 trivial (fun o => RD.dict upd_same (RKs.per (Per.frzd h1 trivial) h2)) rfl rfl⟩
  | _ => cases ho
/-- a new list or dict is made to last -/
theorem Post.freeze {env1 : EnvC} {w u : W} {v : V} {H1 : Hp} (r : RelS K sr H σ env) (p : Post K sr H σ env env1 w v H1) (ho : w.own = true) (hp : w.per? = some u) :
    ∃ a h, v = .ref a ∧ H1 a = some h ∧ Mut (some h) ∧ ∀ o, Post K sr H σ env env1 u v (upd H1 a (.frz o h)) := by
  have key : ∀ (a : Addr) (h : HO), v = .ref a → H1 a = some h → Mut (some h) → (∀ o, RelW K sr (upd H1 a (.frz o h)) u (.ref a)) → u.own = false → ∀ o, Post K sr H σ env env1 u v (upd H1 a (.frz o h)) := by
    intro a h ea eh mu hr hu o
    have hn : H a = none := p.fr ho a ea
    have n1 : ¬ OwnAt σ env1 a := fun z => r.notOwn hn (p.sub a z)
    have n2 : ¬ inSr sr a := r.sok.notIn hn
    have per : Per H1 (upd H1 a (.frz o h)) := Per.frzd eh mu
    refine ⟨p.rs.keep per (p.rs.sok.upd n2) fun b x hb eb => ?_, by rw [ea]; exact hr o, fun z => (by rw [hu] at z; cases z), ⟨p.ev.per.trans per, fun b x eb nb => ?_⟩, p.sub⟩
    · rw [upd_ne (fun z => n1 (by rw [← z]; exact hb))]; exact eb
    · have hb : b ≠ a := fun z => by rw [z, hn] at eb; cases eb
      rw [upd_ne hb]
      exact p.ev.keep b x eb nb
  cases w with
  | lst xs =>
    cases hp
    obtain ⟨a, vs, ea, h1, h2⟩ := p.rw
    exact ⟨a, _, ea, h1, trivial, key a _ ea h1 trivial (fun o => RD.list upd_same (RDs.per (Per.frzd h1 trivial) h2)) rfl⟩
  | dct xs =>
    cases hp
    obtain ⟨a, vs, ea, h1, h2⟩ := p.rw
    exact ⟨a, _, ea, h1, trivial, key a _ ea h1 trivial (fun o => RD.dict upd_same (RKs.per (Per.frzd h1 trivial) h2)) rfl⟩
  | _ => cases ho
end

section
variable {X : Cx} {Γ : Gam} (G : Good X Γ) {pos : Pos} {a b : Expr} {ca cb cc : E}
/-! ### names, constants -/
theorem s_var {i : Nat} {x : Str} (hN : X.N[i]? = some x) (hv : Vis X.env.scope x) (hd : (x == ("__debug__" : Str)) = false) (hcd : (x == ("__classdict__" : Str)) = false) : PE X (.Name x pos) (rdE Γ X.K (.var i)) := by
  refine weakE (lockE (pe_var hN hv hd hcd)) fun σ H Q ⟨sr, env, r, h⟩ => ?_
  obtain ⟨o, e1, h1⟩ := ok_iff.mp h
  obtain ⟨w, e2, h2⟩ := ok_iff.mp h1
  obtain ⟨u, e3, h3⟩ := ok_iff.mp h2
  subst e2
  clear h h1 h2
  have h := h3
  by_cases ho : w.own = true
  · obtain ⟨p, x, ev, eh, mu, hp⟩ := r.freeze e1 ho e3
    rw [frzC, if_pos ho] at h
    exact .inr ⟨p, x, eh, mu, fun o => ⟨_, ev, h _ _ (hp o)⟩⟩
  · obtain ⟨hv, v, ev, rw⟩ := r.ats i w e1
    rw [frzC, if_neg ho] at h
    have e4 : u = w := by cases w <;> first | (cases e3; rfl) | exact absurd rfl ho | cases hv
    subst e4
    exact .inl ⟨v, ev, h v H ⟨r, rw, fun z => absurd z ho, Evo.refl, fun _ z => z⟩⟩
theorem s_peek {i : Nat} {x : Str} (hN : X.N[i]? = some x) (hv : Vis X.env.scope x) (hd : (x == ("__debug__" : Str)) = false) (hcd : (x == ("__classdict__" : Str)) = false) : PE X (.Name x pos) (rdE Γ X.K (.peek i)) := by
  refine weakE (pe_var hN hv hd hcd) fun σ H Q ⟨sr, env, r, h⟩ => ?_
  obtain ⟨o, e1, h1⟩ := ok_iff.mp h
  obtain ⟨w, e2, h2⟩ := ok_iff.mp h1
  subst e2
  clear h h1
  have h := h2
  obtain ⟨hv, v, ev, rw⟩ := r.ats i w e1
  refine ⟨v, ev, ?_⟩
  cases w with
  | lst xs =>
    obtain ⟨p, vs, e, h1, h2⟩ := rw
    subst e
    exact h _ _ ⟨r, ⟨p, vs, rfl, .inl h1, h2, r.sno p ⟨i, _, e1, rfl, ev⟩⟩, fun z => (by cases z), Evo.refl, fun _ z => z⟩
  | dct xs =>
    obtain ⟨p, vs, e, h1, h2⟩ := rw
    subst e
    exact h _ _ ⟨r, ⟨p, vs, rfl, .inl h1, h2, r.sno p ⟨i, _, e1, rfl, ev⟩⟩, fun z => (by cases z), Evo.refl, fun _ z => z⟩
  | d x => exact h v H ⟨r, rw, fun z => (by cases z), Evo.refl, fun _ z => z⟩
  | src => exact h v H ⟨r, rw, fun z => (by cases z), Evo.refl, fun _ z => z⟩
  | vlst _ => cases hv
  | vdct _ => cases hv
def constD : Const → Option PyData
  | .none => some .none | .bool b => some (.bool b) | .int i => some (.int i) | .str s => some (.str s) | _ => none
theorem s_lit {c : Const} {x : PyData} {j : Nat} (h : constD c = some x) : PE X (.Constant c j pos) (rdE Γ X.K (.lit x)) := by
  have fin : ∀ {v : V} {t : TE}, (∀ σ H Q, Q v H → t σ H Q) → PE X (.Constant c j pos) t → (∀ H, RD X.K H x v) → PE X (.Constant c j pos) (rdE Γ X.K (.lit x)) := fun {v t} f p r =>
    weakE p fun σ H Q ⟨sr, env, rs, h⟩ => f σ H Q (h v H ⟨rs, r H, fun z => (by cases z), Evo.refl, fun _ z => z⟩)
  cases c with
  | none => cases h; exact fin (fun _ _ _ q => q) pe_non fun _ => .none
  | bool b => cases h; exact fin (fun _ _ _ q => q) pe_bl fun _ => .bool b
  | int i => cases h; exact fin (fun _ _ _ q => q) pe_int fun _ => .int i
  | str s => cases h; exact fin (fun _ _ _ q => q) pe_str fun _ => .str s
  | _ => cases h
/-! ### made to last -/
theorem s_per (G : Good X Γ) {e : Expr} (ha : PE X e (rdE Γ X.K ca)) : PE X e (rdE Γ X.K (.per ca)) := by
  refine weakE (lockE' ha) fun σ H Q ⟨sr, env, r, h⟩ => rdE_of G.mono r h fun w e1 v H1 h p => ?_
  obtain ⟨u, e3, h⟩ := ok_iff.mp h
  by_cases ho : w.own = true
  · obtain ⟨p1, x, ev, eh, mu, hp⟩ := p.freeze r ho e3
    exact .inr ⟨p1, x, eh, mu, fun o => h _ _ (hp o)⟩
  · refine .inl (h v H1 ?_)
    have e4 : u = w := by cases w <;> first | (cases e3; rfl) | exact absurd rfl ho | cases e3
    subst e4
    exact p
theorem s_frz (G : Good X Γ) {e : Expr} {i : Nat} (ha : PE X e (rdE Γ X.K ca)) : PE X e (rdE Γ X.K (.frz i ca)) := by
  refine weakE (lockE ha) fun σ H Q ⟨sr, env, r, h⟩ => ?_
  obtain ⟨o, e1, h1⟩ := ok_iff.mp h
  obtain ⟨w, e2, h2⟩ := ok_iff.mp h1
  obtain ⟨u, e3, h3⟩ := ok_iff.mp h2
  subst e2
  clear h h1 h2
  have h := h3
  by_cases ho : w.own = true
  · obtain ⟨p, x, ev, eh, mu, hp⟩ := r.freeze e1 ho e3
    rw [frzC, if_pos ho] at h
    refine .inr ⟨p, x, eh, mu, fun o => rdE_of G.mono (hp o).rs h fun w2 e2 v2 H2 h p2 => h v2 H2 ((hp o).trans r p2)⟩
  · rw [frzC, if_neg ho] at h
    exact .inl ⟨sr, env, r, h⟩
end
end Cal
set_option Elab.async false
set_option linter.all false
set_option maxRecDepth 100000
set_option maxHeartbeats 4000000
namespace Cal
open PySem PySem.Spec PyProof.Rows L2

/-! ### data that are read off the machine's heap -/
section
variable {X : Cx} {pins : List (Addr × Obj)} {σ : St} {H : Hp} {s : Shared}
mutual
theorem RD.reads (I : Inv X pins σ H s) : ∀ {x : PyData} {v : V} {u : Value}, RD X.K H x v → RelV v u → x.hasDict = false → ∃ as, Reads s.heap u x as
  | _, _, _, .none, r, _ => by cases r; exact ⟨_, .none⟩
  | _, _, _, .bool b, r, _ => by cases r; exact ⟨_, .bool b⟩
  | _, _, _, .int i, r, _ => by obtain ⟨t, rfl⟩ := r; exact ⟨_, .int i t⟩
  | _, _, _, .str i, r, _ => by obtain ⟨t, rfl⟩ := r; exact ⟨_, .str i t⟩
  | _, _, _, .tuple h hs, r, hd => by
    cases r
    obtain ⟨its, rv, ⟨o, e1, e2, n, e3⟩, _⟩ := I.tuple h
    obtain ⟨as, ra⟩ := RDs.reads I hs rv (by simpa only [PyData.hasDict] using hd)
    exact ⟨as, .tuple e1 e2 e3 (by simpa using ra)⟩
  | _, _, _, .list h hs, r, hd => by
    cases r
    obtain ⟨its, rv, ⟨o, n, e1, e2, e4, e3⟩, _⟩ := I.list (.inl (.inr ⟨_, h⟩))
    obtain ⟨as, ra⟩ := RDs.reads I hs rv (by simpa only [PyData.hasDict] using hd)
    exact ⟨_, .list e1 e2 e3 (by simpa using ra)⟩
  | _, _, _, .dict h hs, r, hd => by simp only [PyData.hasDict] at hd; cases hd
theorem RDs.reads (I : Inv X pins σ H s) : ∀ {x : List PyData} {v : List V} {u : List Value}, RDs X.K H x v → Vals v u → PyData.hasDictAll x = false → ∃ as, ReadsAll s.heap u x as
  | _, _, _, .nil, .nil, _ => ⟨_, .nil⟩
  | _, _, _, .cons h hs, .cons r rs, hd => by
    simp only [PyData.hasDictAll, Bool.or_eq_false_iff] at hd
    obtain ⟨as, ra⟩ := RD.reads I h r hd.1
    obtain ⟨bs, rb⟩ := RDs.reads I hs rs hd.2
    exact ⟨_, .cons ra rb⟩
end
/-- a value that is read as data now -/
theorem RelW.reads {sr : Sr} {w : W} {x : PyData} {v : V} {u : Value} (I : Inv X pins σ H s) (h : RelW X.K sr H w v) (hx : w.data? = some x) (r : RelV v u) (hd : x.hasDict = false) : ∃ as, Reads s.heap u x as := by
  have l : ∀ {xs : List PyData}, w.list? = some xs → x = .list xs → ∃ as, Reads s.heap u x as := fun {xs} hl e => by
    subst e
    obtain ⟨a, vs, ea, q, rs⟩ := rw_list hl h
    subst ea
    cases r
    obtain ⟨its, rv, ⟨o, n, e1, e2, e4, e3⟩, _⟩ := I.list (.inl q)
    obtain ⟨as, ra⟩ := RDs.reads I rs rv (by simpa only [PyData.hasDict] using hd)
    exact ⟨_, .list e1 e2 e3 (by simpa using ra)⟩
  cases w with
  | d y => cases hx; exact RD.reads I h r hd
  | lst xs => cases hx; exact l rfl rfl
  | vlst xs => cases hx; exact l rfl rfl
  | dct xs => cases hx; simp only [PyData.hasDict] at hd; cases hd
  | vdct xs => cases hx; simp only [PyData.hasDict] at hd; cases hd
  | src => cases hx
end

section
variable {X : Cx} {Γ : Gam} {pos : Pos} {a b c : Expr} {ca cb cc : E}
/-! ### operators -/
theorem s_un {op : UnaryOp} {o : Uo} {r : V → Hp → VK → Prop} (G : Good X Γ) (ho : UnR X (unaryOp op) r) (ha : PE X a (rdE Γ X.K ca))
    (key : ∀ {sr H σ env e1 w v H1} {Q : VK}, Post X.K sr H σ env e1 w v H1 → uoW o w (fun u => ∀ v H', Post X.K sr H σ env e1 u v H' → Q v H') → r v H1 Q) : PE X (.UnaryOp op a pos) (rdE Γ X.K (.un o ca)) := by
  refine weakE (pe_un ho ha) fun σ H Q ⟨sr, env, r, h⟩ => rdE_of G.mono r h fun w e1 v H1 h p => key p h
theorem s_neg (G : Good X Γ) (ha : PE X a (rdE Γ X.K ca)) : PE X (.UnaryOp .USub a pos) (rdE Γ X.K (.un .neg ca)) := by
  refine s_un G un_neg ha fun p h => ?_
  replace h := ok_iff.mp h
  obtain ⟨i, e, h⟩ := h
  have e2 := int?_some e
  subst e2
  exact ⟨i, rw_int p.rw, h _ _ (p.val (.int _) rfl)⟩
theorem s_not (G : Good X Γ) (ha : PE X a (rdE Γ X.K ca)) : PE X (.UnaryOp .Not a pos) (rdE Γ X.K (.un .not ca)) := by
  refine weakE (pe_not ha) fun σ H Q ⟨sr, env, r, h⟩ => rdE_of G.mono r h fun w e1 v H1 h p => ?_
  replace h := ok_iff.mp h
  obtain ⟨i, e, h⟩ := h
  have e2 := bool?_some e
  subst e2
  exact ⟨i, rw_bool p.rw, h _ _ (p.val (.bool _) rfl)⟩
/-- what a binary rule is to give -/
def BinKey (X : Cx) (o : Bo) (r : R2) : Prop := ∀ {sr : Sr} {H : Hp} {σ : St} {env e2 : EnvC} {w w2 : W} {v v2 : V} {H2 : Hp} {Q : VK}, RelS X.K sr H σ env → RelW X.K sr H2 w v → Post X.K sr H σ env e2 w2 v2 H2 →
  boW o w w2 (fun u => ∀ v H', Post X.K sr H σ env e2 u v H' → Q v H') → r v v2 H2 Q
theorem s_bin {op : Operator} {o : Bo} {r : R2} (G : Good X Γ) (ho : OpR X (binaryOp op) r) (ha : PE X a (rdE Γ X.K ca)) (hb : PE X b (rdE Γ X.K cb)) (key : BinKey X o r) : PE X (.BinOp a op b pos) (rdE Γ X.K (.bin o ca cb)) := by
  refine weakE (pe_op ho ha hb) fun σ H Q ⟨sr, env, r, h⟩ => rdE_of G.mono r h fun w e1 v H1 h p => rdE_of G.mono p.rs h fun w2 e2 v2 H2 h p2 => ?_
  exact key r (p.later p2.ev r.sok r) (p.trans r p2) h
theorem s_cmp {op : CmpOp} {o : Bo} {r : R2} (G : Good X Γ) (ho : OpR X (compareOp op) r) (ha : PE X a (rdE Γ X.K ca)) (hb : PE X b (rdE Γ X.K cb)) (hm : behindInMarks op b = false) (key : BinKey X o r) : PE X (.Compare a [op] [b] pos) (rdE Γ X.K (.bin o ca cb)) := by
  refine weakE (pe_cmpR ho ha hb hm) fun σ H Q ⟨sr, env, r, h⟩ => rdE_of G.mono r h fun w e1 v H1 h p => rdE_of G.mono p.rs h fun w2 e2 v2 H2 h p2 => ?_
  exact key r (p.later p2.ev r.sok r) (p.trans r p2) h
/-- a comparison's rule -/
def CmpKey (X : Cx) (op : CmpOp) (o : Bo) : Prop := ∃ r, OpR X (compareOp op) r ∧ BinKey X o r
theorem key_int {o : Bo} {r : R2} {C : Int → Int → Prop} {g : Int → Int → PyData} {g' : Int → Int → V} (hr : ∀ x y H Q, (∃ i j, x = .int i ∧ y = .int j ∧ C i j ∧ Q (g' i j) H) → r x y H Q) (hg : ∀ i j H, RD X.K H (g i j) (g' i j))
    (h0 : ∀ w w2 Q, boW o w w2 Q → ok w.int? fun i => ok w2.int? fun j => C i j ∧ Q (.d (g i j))) : BinKey X o r := by
  intro sr H σ env e2 w w2 v v2 H2 Q rs rw p h
  replace h := ok_iff.mp (h0 _ _ _ h)
  obtain ⟨i, e, h⟩ := h
  replace h := ok_iff.mp h
  obtain ⟨j, e', h⟩ := h
  have q1 := int?_some e
  have q2 := int?_some e'
  subst q1; subst q2
  exact hr _ _ _ _ ⟨i, j, rw_int rw, rw_int p.rw, h.1, h.2 _ _ (p.val (hg i j _) rfl)⟩
theorem okC {i j : Option Int} {P : Int → Int → Prop} (h : ok i fun i => ok j fun j => P i j) : ok i fun i => ok j fun j => True ∧ P i j := h.mono fun _ h => h.mono fun _ h => ⟨trivial, h⟩
/-- list + list, whatever they are kept by -/
def rCatF : R2 := fun x y H Q => ∃ l b xs zs, x = .ref l ∧ y = .ref b ∧ Rd H l (.lst xs) ∧ Rd H b (.lst zs) ∧ xs.length + zs.length ≤ sizeLine ∧ ∀ p, H p = none → Q (.ref p) (upd H p (.lst (xs ++ zs)))
theorem op_catF : OpR X (binaryOp .Add) rCatF := by
  intro pins s σ H x y v u Q I rx ry h
  obtain ⟨l, b, xs, zs, rfl, rfl, hH, hB, hz, q⟩ := h
  cases rx
  cases ry
  obtain ⟨z, its, n, r, e⟩ := hH.ok I.hok
  obtain ⟨z2, its2, n2, r2, e2⟩ := hB.ok I.hok
  have l1 := r.length
  have l2 := r2.length
  refine PySem.P.add_list e e2 ?_ (by rw [List.size_toArray, List.size_toArray]; omega)
  have ea : its.toArray ++ its2.toArray = (its ++ its2).toArray := by simp
  rw [ea]
  exact ⟨.ref _, _, I.lnew (t' := s.toks) (r.append r2) (by rw [List.length_append]; omega), rfl, q _ I.fresh⟩
def rRepF : R2 := fun x y H Q => ∃ l k xs, x = .ref l ∧ y = .int k ∧ Rd H l (.lst xs) ∧ -(2 ^ 63) ≤ k ∧ k < 2 ^ 63 ∧ xs.length * k.toNat ≤ sizeLine ∧
  ∀ p, H p = none → Q (.ref p) (upd H p (.lst (List.replicate k.toNat xs).flatten))
theorem s_add (G : Good X Γ) (ha : PE X a (rdE Γ X.K ca)) (hb : PE X b (rdE Γ X.K cb)) : PE X (.BinOp a .Add b pos) (rdE Γ X.K (.bin .add ca cb)) := by
  refine s_bin G ((op_add.or op_catA).or op_catF) ha hb ?_
  intro sr H σ env e2 w w2 v v2 H2 Q rs rw p h
  rcases h with h | h | h
  · replace h := ok_iff.mp h
    obtain ⟨i, e, h⟩ := h
    replace h := ok_iff.mp h
    obtain ⟨j, e', h⟩ := h
    have q1 := int?_some e
    have q2 := int?_some e'
    subst q1; subst q2
    exact .inl (.inl ⟨i, j, rw_int rw, rw_int p.rw, h _ _ (p.val (.int _) rfl)⟩)
  · replace h := ok_iff.mp h
    obtain ⟨xs, e, h⟩ := h
    replace h := ok_iff.mp h
    obtain ⟨ys, e', h⟩ := h
    have q1 := tup?_some e
    have q2 := tup?_some e'
    subst q1; subst q2
    obtain ⟨l1, vs, e1, t1, r1⟩ := rw_tup rw
    obtain ⟨l2, us, e2, t2, r2⟩ := rw_tup p.rw
    refine .inl (.inr ⟨l1, l2, vs, us, e1, e2, t1, t2, by rw [← r1.length, ← r2.length]; exact h.1, fun z => ?_, fun z z2 => ?_, fun z z2 q hq => ?_⟩)
    · subst z
      cases r1
      exact h.2 _ _ (p.val (.tuple t2 r2) rfl)
    · subst z2
      cases r2
      rw [List.append_nil] at h
      exact h.2 _ _ (p.val (.tuple t1 r1) rfl)
    · exact h.2 _ _ (p.new hq (.tuple (.inl (.inl upd_same)) ((r1.append r2).per (Per.new hq))))
  · replace h := ok_iff.mp h
    obtain ⟨xs, e, h⟩ := h
    replace h := ok_iff.mp h
    obtain ⟨ys, e', h⟩ := h
    obtain ⟨l1, vs, e1, t1, r1⟩ := rw_list e rw
    obtain ⟨l2, us, e2, t2, r2⟩ := rw_list e' p.rw
    refine .inr ⟨l1, l2, vs, us, e1, e2, t1, t2, by rw [← r1.length, ← r2.length]; exact h.1, fun q hq => ?_⟩
    exact h.2 _ _ (p.new hq ⟨q, _, rfl, upd_same, (r1.append r2).per (Per.new hq)⟩)
theorem s_sub (G : Good X Γ) (ha : PE X a (rdE Γ X.K ca)) (hb : PE X b (rdE Γ X.K cb)) : PE X (.BinOp a .Sub b pos) (rdE Γ X.K (.bin .sub ca cb)) :=
  s_bin G op_sub ha hb (key_int (o := .sub) (C := fun _ _ => True) (g := fun i j => .int (i - j)) (g' := fun i j => .int (i - j)) (fun x y H Q ⟨i, j, e, e', _, q⟩ => ⟨i, j, e, e', q⟩) (fun _ _ _ => .int _) fun w w2 Q h => okC h)
theorem MulOk.w {i j : Int} (h : MulOk i j) : CMul i j ∨ CMulW i j := by
  rcases h with (h | h) | ⟨h1, h2⟩
  · exact .inl (.inl (by omega))
  · exact .inl (.inr (by omega))
  · exact .inr (wide_mul h1 h2 (by decide) (by decide) (by decide))
theorem RDs.flat {K : PySem.W.Frag} {H : Hp} {xs : List PyData} {vs : List V} (r : RDs K H xs vs) : ∀ n : Nat, RDs K H (List.replicate n xs).flatten (List.replicate n vs).flatten
  | 0 => .nil
  | n + 1 => by rw [List.replicate_succ, List.replicate_succ, List.flatten_cons, List.flatten_cons]; exact r.append (RDs.flat r n)
theorem op_repF : OpR X (binaryOp .Mult) rRepF := by
  intro pins s σ H x y v u Q I rx ry h
  obtain ⟨l, k, xs, rfl, rfl, hH, h1, h2, hz, q⟩ := h
  cases rx
  obtain ⟨t, rfl⟩ := ry
  obtain ⟨z, its, n, r, e⟩ := hH.ok I.hok
  have hl := r.length
  have hlen : its.toArray.size * k.toNat ≤ sizeLine := by rw [List.size_toArray, ← hl]; exact hz
  have hcap : ¬ its.toArray.size * k.toNat > (2 ^ 63 - 1) / 8 := by
    have : (sizeLine : Nat) ≤ (2 ^ 63 - 1) / 8 := by decide
    omega
  have hfit : ¬ (!Builtin.List.listFitsIndex k) = true := by
    rw [fitsIndex_both h1 h2]
    exact Bool.false_ne_true
  have hlong : ¬ Builtin.List.listTooLong (its.toArray.size * k.toNat) = true := by
    rw [notLongL hlen]
    exact Bool.false_ne_true
  have hnew : List.foldl (fun x1 x2 => x1 ++ x2) #[] (List.replicate (if its.toArray.isEmpty = true then 0 else k.toNat) its.toArray) = (List.replicate k.toNat its).flatten.toArray := by
    have f0 : ∀ m : Nat, List.foldl (fun x1 x2 => x1 ++ x2) #[] (List.replicate m its.toArray) = (List.replicate m its).flatten.toArray := fun m => by
      have := foldl_rep its m []
      rw [List.nil_append] at this
      exact this
    rw [f0]
    cases its with
    | nil => simp
    | cons a r' => rw [if_neg (by simp)]
  refine wpAny_binaryOp_repeat_ref (T := "list") (U := "int") (by decide) ⟨_, e, rfl⟩ (fun s' => typeIs_int s' k t) noFill_list_mul F.fills_int_mul F.slot_int_rmul repeat_list F.slot_int_index.lookup
    (call_meets F.slot_int_rmul (typeIs_int s k t) F.entry_int_rmul (F.args_int_rmul_2 _ _) (int___rmul___int_list k t l its.toArray n)
      ⟨e, rfl, ⟨_, e, rfl⟩, call_meets F.slot_list_mul ⟨_, e, rfl⟩ F.entry_list_mul (F.args_list_mul_2 _ _) (AutoListH.list___mul___list_int_3 l its.toArray n k t hfit hcap hlong) ⟨e, ?_⟩⟩)
  rw [hnew]
  exact ⟨.ref _, _, I.lnew (t' := s.toks) (r.rep k.toNat) (by rw [PyProof.Rows.lm_len_rep_flat, Nat.mul_comm]; exact hz), rfl, q _ I.fresh⟩
theorem s_mul (G : Good X Γ) (ha : PE X a (rdE Γ X.K ca)) (hb : PE X b (rdE Γ X.K cb)) : PE X (.BinOp a .Mult b pos) (rdE Γ X.K (.bin .mul ca cb)) := by
  refine s_bin G ((op_mul.or op_mulW).or op_repF) ha hb ?_
  intro sr H σ env e2 w w2 v v2 H2 Q rs rw p h
  rcases h with h | h
  · replace h := ok_iff.mp h
    obtain ⟨i, e, h⟩ := h
    replace h := ok_iff.mp h
    obtain ⟨j, e', h⟩ := h
    have q1 := int?_some e
    have q2 := int?_some e'
    subst q1; subst q2
    have fin := h.2 _ _ (p.val (.int _) rfl)
    rcases h.1.w with c | c
    · exact .inl (.inl ⟨i, j, rw_int rw, rw_int p.rw, c, fin⟩)
    · exact .inl (.inr ⟨i, j, rw_int rw, rw_int p.rw, c, fin⟩)
  · replace h := ok_iff.mp h
    obtain ⟨xs, e, h⟩ := h
    replace h := ok_iff.mp h
    obtain ⟨k, e', h⟩ := h
    have q2 := int?_some e'
    subst q2
    obtain ⟨l1, vs, e1, t1, r1⟩ := rw_list e rw
    refine .inr ⟨l1, k, vs, e1, rw_int p.rw, t1, h.1.1, h.1.2.1, by rw [← r1.length]; exact h.1.2.2, fun q hq => ?_⟩
    exact h.2 _ _ (p.new hq ⟨q, _, rfl, upd_same, (r1.flat _).per (Per.new hq)⟩)
theorem s_fdiv (G : Good X Γ) (ha : PE X a (rdE Γ X.K ca)) (hb : PE X b (rdE Γ X.K cb)) : PE X (.BinOp a .FloorDiv b pos) (rdE Γ X.K (.bin .fdiv ca cb)) :=
  s_bin G op_fdivW ha hb (key_int (o := .fdiv) (C := fun _ j => DivOk j) (g := fun i j => .int (i / j)) (g' := fun i j => .int (i / j)) (fun x y H Q ⟨i, j, e, e', c, q⟩ => ⟨i, j, e, e', wide_div c.1 c.2 (by decide) (by decide), q⟩) (fun _ _ _ => .int _) fun w w2 Q h => h)
theorem s_mod (G : Good X Γ) (ha : PE X a (rdE Γ X.K ca)) (hb : PE X b (rdE Γ X.K cb)) : PE X (.BinOp a .Mod b pos) (rdE Γ X.K (.bin .mod ca cb)) :=
  s_bin G op_mod ha hb (key_int (o := .mod) (C := fun _ j => 0 < j) (g := fun i j => .int (i % j)) (g' := fun i j => .int (i % j)) (fun x y H Q ⟨i, j, e, e', c, q⟩ => ⟨i, j, e, e', c, q⟩) (fun _ _ _ => .int _) fun w w2 Q h => h)
theorem s_pow (G : Good X Γ) (ha : PE X a (rdE Γ X.K ca)) (hb : PE X b (rdE Γ X.K cb)) : PE X (.BinOp a .Pow b pos) (rdE Γ X.K (.bin .pow ca cb)) :=
  s_bin G op_pow ha hb (key_int (o := .pow) (C := fun i j => 0 ≤ j ∧ j ≤ 1000000 ∧ i.natAbs < 2 ^ 64) (g := fun i j => .int (i ^ j.toNat)) (g' := fun i j => .int (i ^ j.toNat)) (fun x y H Q ⟨i, j, e, e', c, q⟩ => ⟨i, j, e, e', c, q⟩) (fun _ _ _ => .int _) fun w w2 Q h => h)
theorem k_lt : CmpKey X .Lt .lt := ⟨_, op_lt, (key_int (o := .lt) (C := fun _ _ => True) (g := fun i j => .bool (decide (i < j))) (g' := fun i j => .bl (decide (i < j))) (fun x y H Q ⟨i, j, e, e', _, q⟩ => ⟨i, j, e, e', q⟩) (fun _ _ _ => .bool _) fun w w2 Q h => okC h)⟩
theorem k_le : CmpKey X .LtE .le := ⟨_, op_le, (key_int (o := .le) (C := fun _ _ => True) (g := fun i j => .bool (decide (i ≤ j))) (g' := fun i j => .bl (decide (i ≤ j))) (fun x y H Q ⟨i, j, e, e', _, q⟩ => ⟨i, j, e, e', q⟩) (fun _ _ _ => .bool _) fun w w2 Q h => okC h)⟩
theorem k_gt : CmpKey X .Gt .gt := ⟨_, op_gt, (key_int (o := .gt) (C := fun _ _ => True) (g := fun i j => .bool (decide (j < i))) (g' := fun i j => .bl (decide (j < i))) (fun x y H Q ⟨i, j, e, e', _, q⟩ => ⟨i, j, e, e', q⟩) (fun _ _ _ => .bool _) fun w w2 Q h => okC h)⟩
theorem k_ge : CmpKey X .GtE .ge := ⟨_, op_ge, (key_int (o := .ge) (C := fun _ _ => True) (g := fun i j => .bool (decide (j ≤ i))) (g' := fun i j => .bl (decide (j ≤ i))) (fun x y H Q ⟨i, j, e, e', _, q⟩ => ⟨i, j, e, e', q⟩) (fun _ _ _ => .bool _) fun w w2 Q h => okC h)⟩
/-! ### == and != -/
def rEqW (K : PySem.W.Frag) (neg : Bool) : R2 := fun x y H Q => ∃ sr w w2 dx dy, RelW K sr H w x ∧ RelW K sr H w2 y ∧ w.data? = some dx ∧ w2.data? = some dy ∧ eqOk dx dy ∧ Q (.bl (if neg = true then !PyData.eqv dx dy else PyData.eqv dx dy)) H
theorem op_eqW (hu : X.A.units + 200 < cLine) : OpR X (compareOp .Eq) (rEqW X.K false) := by
  intro pins s σ H x y v u Q I rx ry h
  obtain ⟨sr, w, w2, dx, dy, r1, r2, e1, e2, ⟨c1, c2, c3⟩, q⟩ := h
  obtain ⟨as, ra⟩ := r1.reads I e1 rx (PyData.hasDict_of_canLay _ c1)
  obtain ⟨bs, rb⟩ := r2.reads I e2 ry (PyData.hasDict_of_canLay _ c2)
  exact SeqAt.compareEq_reads ra rb c1 c2 (by omega) ⟨.bl _, H, I, rfl, q⟩
theorem op_neW (hu : X.A.units + 200 < cLine) : OpR X (compareOp .NotEq) (rEqW X.K true) := by
  intro pins s σ H x y v u Q I rx ry h
  obtain ⟨sr, w, w2, dx, dy, r1, r2, e1, e2, ⟨c1, c2, c3⟩, q⟩ := h
  obtain ⟨as, ra⟩ := r1.reads I e1 rx (PyData.hasDict_of_canLay _ c1)
  obtain ⟨bs, rb⟩ := r2.reads I e2 ry (PyData.hasDict_of_canLay _ c2)
  exact SeqAt.compareNe_reads ra rb c1 c2 (by omega) ⟨.bl _, H, I, rfl, q⟩
theorem k_eq (G : Good X Γ) : CmpKey X .Eq .eq := by
  refine ⟨_, (op_eqW G.un).or op_eq, ?_⟩
  intro sr H σ env e2 w w2 v v2 H2 Q rs rw p h
  rcases h with h | h
  · replace h := ok_iff.mp h
    obtain ⟨dx, e1, h⟩ := h
    replace h := ok_iff.mp h
    obtain ⟨dy, e3, h⟩ := h
    exact .inl ⟨sr, w, w2, dx, dy, rw, p.rw, e1, e3, h.1, h.2 _ _ (p.val (.bool _) rfl)⟩
  · replace h := ok_iff.mp h
    obtain ⟨i, e1, h⟩ := h
    replace h := ok_iff.mp h
    obtain ⟨j, e3, h⟩ := h
    have q1 := str?_some e1
    have q2 := str?_some e3
    subst q1; subst q2
    have r1 := rw_str rw
    have r2 := rw_str p.rw
    subst r1; subst r2
    refine .inr ⟨rfl, ?_⟩
    rw [dec_str]
    exact h _ _ (p.val (.bool _) rfl)
theorem k_ne (G : Good X Γ) : CmpKey X .NotEq .ne := by
  refine ⟨_, (op_neW G.un).or op_ne, ?_⟩
  intro sr H σ env e2 w w2 v v2 H2 Q rs rw p h
  rcases h with h | h
  · replace h := ok_iff.mp h
    obtain ⟨dx, e1, h⟩ := h
    replace h := ok_iff.mp h
    obtain ⟨dy, e3, h⟩ := h
    exact .inl ⟨sr, w, w2, dx, dy, rw, p.rw, e1, e3, h.1, h.2 _ _ (p.val (.bool _) rfl)⟩
  · replace h := ok_iff.mp h
    obtain ⟨i, e1, h⟩ := h
    replace h := ok_iff.mp h
    obtain ⟨j, e3, h⟩ := h
    have q1 := str?_some e1
    have q2 := str?_some e3
    subst q1; subst q2
    have r1 := rw_str rw
    have r2 := rw_str p.rw
    subst r1; subst r2
    refine .inr ⟨rfl, ?_⟩
    rw [dec_str]
    exact h _ _ (p.val (.bool _) rfl)
end
end Cal
set_option Elab.async false
set_option linter.all false
set_option maxRecDepth 100000
set_option maxHeartbeats 4000000
namespace Cal
open PySem PySem.Spec PyProof.Rows L2

def nostar : Expr → Bool
  | .Starred .. => false | _ => true
theorem star_cons {e : Expr} {es : List Expr} {env : Env} (h : nostar e = true) : starEach (e :: es) env = (false, eval e env) :: starEach es env := by
  cases e <;> first | rfl | cases h

section
variable {X : Cx} {Γ : Gam} {pos : Pos} {a b c : Expr} {ca cb cc : E}
/-! ### and, or, if -/
theorem s_and (G : Good X Γ) {rest : List Expr} (ha : PE X a (rdE Γ X.K ca)) (hb : PE X (.BoolOp .And (b :: rest) pos) (rdE Γ X.K cb)) : PE X (.BoolOp .And (a :: b :: rest) pos) (rdE Γ X.K (.and ca cb)) := by
  refine weakE (pe_and ha hb) fun σ H Q ⟨sr, env, r, h⟩ => rdE_of G.mono r h fun w e1 v H1 h p => ?_
  replace h := ok_iff.mp h
  obtain ⟨k, e, h⟩ := h
  have q := bool?_some e
  subst q
  refine ⟨k, rw_bool p.rw, ?_⟩
  cases k with
  | true =>
    rw [if_pos rfl] at h ⊢
    refine rdE_of G.mono p.rs h fun w2 e2 v2 H2 h p2 => ?_
    replace h := ok_iff.mp h
    obtain ⟨k2, e, h⟩ := h
    have q := bool?_some e
    subst q
    exact h _ _ (p.trans r p2)
  | false =>
    rw [if_neg Bool.false_ne_true] at h ⊢
    exact h _ _ (p.val (.bool _) rfl)
theorem s_or (G : Good X Γ) {rest : List Expr} (ha : PE X a (rdE Γ X.K ca)) (hb : PE X (.BoolOp .Or (b :: rest) pos) (rdE Γ X.K cb)) : PE X (.BoolOp .Or (a :: b :: rest) pos) (rdE Γ X.K (.or ca cb)) := by
  refine weakE (pe_or ha hb) fun σ H Q ⟨sr, env, r, h⟩ => rdE_of G.mono r h fun w e1 v H1 h p => ?_
  replace h := ok_iff.mp h
  obtain ⟨k, e, h⟩ := h
  have q := bool?_some e
  subst q
  refine ⟨k, rw_bool p.rw, ?_⟩
  cases k with
  | false =>
    rw [if_neg Bool.false_ne_true] at h ⊢
    refine rdE_of G.mono p.rs h fun w2 e2 v2 H2 h p2 => ?_
    replace h := ok_iff.mp h
    obtain ⟨k2, e, h⟩ := h
    have q := bool?_some e
    subst q
    exact h _ _ (p.trans r p2)
  | true =>
    rw [if_pos rfl] at h ⊢
    exact h _ _ (p.val (.bool _) rfl)
theorem s_ite (G : Good X Γ) (hc : PT X c (rdT Γ X.K cc)) (ha : PE X a (rdE Γ X.K ca)) (hb : PE X b (rdE Γ X.K cb)) : PE X (.IfExp c a b pos) (rdE Γ X.K (.ite cc ca cb)) := by
  refine weakE (pe_ifExp hc ha hb) fun σ H Q ⟨sr, env, r, h⟩ => rdE_of G.mono r h fun w e1 v H1 h p => ?_
  replace h := ok_iff.mp h
  obtain ⟨k, e, h⟩ := h
  have q := bool?_some e
  subst q
  refine ⟨k, rw_bool p.rw, ?_⟩
  cases k with
  | true =>
    rw [if_pos rfl] at h ⊢
    exact rdE_of G.mono p.rs h fun w2 e2 v2 H2 h p2 => h _ _ (p.trans r p2)
  | false =>
    rw [if_neg Bool.false_ne_true] at h ⊢
    exact rdE_of G.mono p.rs h fun w2 e2 v2 H2 h p2 => h _ _ (p.trans r p2)
/-- as a test -/
theorem t_val (ha : PE X a (rdE Γ X.K ca)) (he : ∀ whole, isTrue a X.env whole = (do let v ← whole; standAt a.pos; holding [v] (truthy v))) : PT X a (rdT Γ X.K ca) := pt_val ha he

/-! ### lists of expressions -/
theorem PostL.nil {K : PySem.W.Frag} {sr : Sr} {H : Hp} {σ : St} {env : EnvC} (r : RelS K sr H σ env) : PostL K sr H σ env env [] [] H :=
  ⟨r, .nil, fun i w a e => by simp at e, fun i j w w2 a e => by simp at e, Evo.refl, fun _ z => z⟩
theorem PostL.cons {K : PySem.W.Frag} {sr : Sr} {H H1 H2 : Hp} {σ : St} {env e1 e2 : EnvC} {w : W} {v : V} {ws : List W} {vs : List V} (r : RelS K sr H σ env) (p : Post K sr H σ env e1 w v H1) (q : PostL K sr H1 σ e1 e2 ws vs H2) : PostL K sr H σ env e2 (w :: ws) (v :: vs) H2 := by
  have new : ∀ {i : Nat} {w' : W} {a : Addr}, ws[i]? = some w' → w'.own = true → vs[i]? = some (.ref a) → w.own = true → v ≠ .ref a := fun {i w' a} h1 h2 h3 ho hv => by
    have n := q.fr i w' a h1 h2 h3
    subst hv
    cases w with
    | lst xs => obtain ⟨b, us, e, z, _⟩ := p.rw; cases e; rw [n] at z; cases z
    | dct xs => obtain ⟨b, us, e, z, _⟩ := p.rw; cases e; rw [n] at z; cases z
    | _ => cases ho
  refine ⟨q.rs, .cons (p.later q.ev r.sok r) q.rw, fun i w' a h1 h2 h3 => ?_, fun i j w1 w2 a h1 h2 h3 h4 h5 h6 => ?_, p.ev.trans q.ev p.sub, fun a z => p.sub a (q.sub a z)⟩
  · cases i with
    | zero => simp at h1 h3; subst h1; exact p.fr h2 a h3
    | succ i => simp at h1 h3; exact p.ev.none p.rs.sok (q.fr i w' a h1 h2 h3)
  · cases i with
    | zero =>
      simp at h1 h3
      subst h1
      cases j with
      | zero => rfl
      | succ j => simp at h4 h6; exact absurd h3 (new h4 h5 h6 h2)
    | succ i =>
      simp at h1 h3
      cases j with
      | zero => simp at h4 h6; subst h4; exact absurd h6 (new h1 h2 h3 h5)
      | succ j => simp at h4 h6; rw [q.dis i j w1 w2 a h1 h2 h3 h4 h5 h6]
theorem paired_d {K : PySem.W.Frag} {sr : Sr} {H : Hp} {xs : List PyData} {vs : List V} (r : RDs K H xs vs) : Paired (RelW K sr H) (xs.map W.d) vs := by
  induction r using RDs.rec (motive_1 := fun _ _ _ => True) (motive_3 := fun _ _ _ => True) with
  | nil => exact .nil
  | cons h _ _ ih => exact .cons h ih
  | _ => trivial
theorem Paired.app {α β : Type} {R : α → β → Prop} : ∀ {xs ys : List α} {us vs : List β}, Paired R xs us → Paired R ys vs → Paired R (xs ++ ys) (us ++ vs)
  | _, _, _, _, .nil, s => s
  | _, _, _, _, .cons r t, s => .cons r (Paired.app t s)
theorem s_nil : PA X [] (rdEs Γ X.K .nil) := weakA pa_nil fun σ H Q ⟨sr, env, r, h⟩ => h _ _ (PostL.nil r)
theorem s_cons (G : Good X Γ) {es : List Expr} {ces : Es} (ha : PE X a (rdE Γ X.K ca)) (hr : PA X es (rdEs Γ X.K ces)) (hs : nostar a = true) : PA X (a :: es) (rdEs Γ X.K (.cons ca ces)) := by
  refine weakA (pa_cons ha hr (star_cons hs)) fun σ H Q ⟨sr, env, r, h⟩ => rdE_of G.mono r h fun w e1 v H1 h p => rdEs_of G.mono p.rs h fun ws e2 vs H2 h q => ?_
  exact h _ _ (PostL.cons r p q)
theorem s_star (G : Good X Γ) {es : List Expr} {ces : Es} (ha : PE X a (rdE Γ X.K ca)) (hr : PA X es (rdEs Γ X.K ces)) : PA X (.Starred a pos :: es) (rdEs Γ X.K (.star ca ces)) := by
  refine weakA (StX.pa_star ha hr) fun σ H Q ⟨sr, env, r, h⟩ => rdE_of G.mono r h fun w e1 v H1 h p => ?_
  replace h := ok_iff.mp h
  obtain ⟨xs, e, h⟩ := h
  obtain ⟨l, vs, e2, t, rs⟩ := rw_seq e p.rw
  refine ⟨l, vs, e2, t.symm, rdEs_of G.mono p.rs h fun ws e2 us H2 h q => h _ _ ?_⟩
  refine ⟨q.rs, Paired.app (paired_d (rs.per q.ev.per)) q.rw, fun i w' a h1 h2 h3 => ?_, fun i j w1 w2 a h1 h2 h3 h4 h5 h6 => ?_, p.ev.trans q.ev p.sub, fun a z => p.sub a (q.sub a z)⟩
  · have hn : ∀ {i : Nat} {w' : W}, (xs.map W.d ++ ws)[i]? = some w' → w'.own = true → xs.length ≤ i := fun {i w'} h1 h2 => by
      refine Nat.le_of_not_lt fun hl => ?_
      rw [List.getElem?_append_left (by simpa using hl), List.getElem?_map] at h1
      obtain ⟨x, _, rfl⟩ := Option.map_eq_some_iff.mp h1
      cases h2
    have hl := hn h1 h2
    rw [List.getElem?_append_right (by simpa using hl)] at h1
    rw [List.getElem?_append_right (by rw [← rs.length]; exact hl)] at h3
    rw [List.length_map] at h1
    rw [← rs.length] at h3
    exact p.ev.none p.rs.sok (q.fr _ w' a h1 h2 h3)
  · have hn : ∀ {i : Nat} {w' : W}, (xs.map W.d ++ ws)[i]? = some w' → w'.own = true → xs.length ≤ i := fun {i w'} h1 h2 => by
      refine Nat.le_of_not_lt fun hl => ?_
      rw [List.getElem?_append_left (by simpa using hl), List.getElem?_map] at h1
      obtain ⟨x, _, rfl⟩ := Option.map_eq_some_iff.mp h1
      cases h2
    have l1 := hn h1 h2
    have l2 := hn h4 h5
    rw [List.getElem?_append_right (by simpa using l1), List.length_map] at h1
    rw [List.getElem?_append_right (by rw [← rs.length]; exact l1), ← rs.length] at h3
    rw [List.getElem?_append_right (by simpa using l2), List.length_map] at h4
    rw [List.getElem?_append_right (by rw [← rs.length]; exact l2), ← rs.length] at h6
    have := q.dis _ _ w1 w2 a h1 h2 h3 h4 h5 h6
    omega
/-- lasting data in a row -/
theorem datas_some : ∀ {ws : List W} {xs : List PyData}, datas ws = some xs → ws = xs.map W.d
  | [], _, h => by cases h; rfl
  | w :: ws, xs, h => by
    cases w with
    | d x =>
      have h : (datas ws).map (x :: ·) = some xs := h
      obtain ⟨ys, e, rfl⟩ := Option.map_eq_some_iff.mp h
      rw [datas_some e]; rfl
    | _ => cases h
theorem rds_of {K : PySem.W.Frag} {sr : Sr} {H : Hp} : ∀ {xs : List PyData} {vs : List V}, Paired (RelW K sr H) (xs.map W.d) vs → RDs K H xs vs
  | [], _, .nil => .nil
  | _ :: _, _, .cons h r => .cons h (rds_of r)
theorem PostL.new {K : PySem.W.Frag} {sr : Sr} {H H1 : Hp} {σ : St} {env e1 : EnvC} {ws : List W} {vs : List V} (p : PostL K sr H σ env e1 ws vs H1) {q : Addr} {o : HO} {w' : W} (h : H1 q = none) (hw : RelW K sr (upd H1 q o) w' (.ref q)) : Post K sr H σ env e1 w' (.ref q) (upd H1 q o) :=
  (show Post K sr H σ env e1 (.d .none) .non H1 from ⟨p.rs, .none, fun z => (by cases z), p.ev, p.sub⟩).new h hw
theorem s_tup (G : Good X Γ) {es : List Expr} {ces : Es} {k : Nat} (h : PA X es (rdEs Γ X.K ces)) : PE X (.Tuple es k pos) (rdE Γ X.K (.tup ces)) := by
  refine weakE (pe_tup h) fun σ H Q ⟨sr, env, r, h⟩ => rdEs_of G.mono r h fun ws e1 vs H1 h p => ?_
  replace h := ok_iff.mp h
  obtain ⟨xs, e, h⟩ := h
  have e := datas_some e
  subst e
  have rs := rds_of p.rw
  exact ⟨by rw [← rs.length]; exact h.1, fun q hq => h.2 _ _ (p.new hq (.tuple (.inl (.inl upd_same)) (rs.per (Per.new hq))))⟩
theorem s_lst (G : Good X Γ) {es : List Expr} {ces : Es} (h : PA X es (rdEs Γ X.K ces)) : PE X (.List es pos) (rdE Γ X.K (.lst ces)) := by
  refine weakE (pe_lst h) fun σ H Q ⟨sr, env, r, h⟩ => rdEs_of G.mono r h fun ws e1 vs H1 h p => ?_
  replace h := ok_iff.mp h
  obtain ⟨xs, e, h⟩ := h
  have e := datas_some e
  subst e
  have rs := rds_of p.rw
  exact ⟨by rw [← rs.length]; exact h.1, fun q hq => h.2 _ _ (p.new hq ⟨q, _, rfl, upd_same, rs.per (Per.new hq)⟩)⟩
theorem s_dnew : PE X (.Dict [] [] pos) (rdE Γ X.K .dnew) :=
  weakE pe_dnewK fun σ H Q ⟨sr, env, r, h⟩ q hq => h _ _ ((Post.start r).new hq ⟨q, _, rfl, upd_same, .nil⟩)

/-! ### calls of built-in functions -/
theorem s_callB (G : Good X Γ) {x : Str} {p : Pos} {id : String} {f : Bf} {r : List V → Hp → VK → Prop} (hc : CallR X (.builtin id) r) (hg : Gl X x) (hx : x ∈ served) (hv : bootBuiltins x = some (.builtin id)) (ha : PE X a (rdE Γ X.K ca)) (hs : nostar a = true)
    (hn : x ≠ "__name__") (hdb : (x == ("__debug__" : Str)) = false)
    (key : ∀ {sr H σ env e1 w v H1} {Q : VK}, RelS X.K sr H σ env → Post X.K sr H σ env e1 w v H1 → bfW f w (fun u => ∀ v H', Post X.K sr H σ env e1 u v H' → Q v H') → r [v] H1 Q) : PE X (.Call (.Name x p) [a] [] pos) (rdE Γ X.K (.blt f ca)) := by
  refine weakE (pe_callB hc hg (G.blt x hx) hv (pa_cons ha pa_nil (star_cons hs)) hn hdb (star_cons hs) rfl) fun σ H Q ⟨sr, env, r, h⟩ => rdE_of G.mono r h fun w e1 v H1 h p => key r p h
theorem s_callTy (G : Good X Γ) {x : Str} {p : Pos} {id : String} {f : Bf} {r : List V → Hp → VK → Prop} (hc : CallR X (.type id) r) (hg : Gl X x) (hx : x ∈ served) (hv : bootBuiltins x = some (.type id)) (ha : PE X a (rdE Γ X.K ca)) (hs : nostar a = true)
    (hn : x ≠ "__name__") (hdb : (x == ("__debug__" : Str)) = false)
    (key : ∀ {sr H σ env e1 w v H1} {Q : VK}, RelS X.K sr H σ env → Post X.K sr H σ env e1 w v H1 → bfW f w (fun u => ∀ v H', Post X.K sr H σ env e1 u v H' → Q v H') → r [v] H1 Q) : PE X (.Call (.Name x p) [a] [] pos) (rdE Γ X.K (.blt f ca)) := by
  refine weakE (pe_callTy hc hg (G.blt x hx) hv (pa_cons ha pa_nil (star_cons hs)) hn hdb (star_cons hs) rfl) fun σ H Q ⟨sr, env, r, h⟩ => rdE_of G.mono r h fun w e1 v H1 h p => key r p h
end
end Cal
set_option Elab.async false
set_option linter.all false
set_option maxRecDepth 100000
set_option maxHeartbeats 4000000
namespace Cal
open PySem PySem.Spec PyProof.Rows L2

/-! ### built-in functions, by values -/
section
variable {K : PySem.W.Frag} {sr : Sr} {H : Hp} {v : V}
theorem ints_of : ∀ {xs : List PyData} {ns : List Int}, intsOf xs = some ns → xs = ns.map PyData.int
  | [], _, h => by cases h; rfl
  | x :: xs, ns, h => by
    cases x with
    | int i =>
      have h : (intsOf xs).map (i :: ·) = some ns := h
      obtain ⟨ys, e, rfl⟩ := Option.map_eq_some_iff.mp h
      rw [ints_of e]; rfl
    | _ => cases h
theorem bools_of : ∀ {xs : List PyData} {ns : List Bool}, boolsOf xs = some ns → xs = ns.map PyData.bool
  | [], _, h => by cases h; rfl
  | x :: xs, ns, h => by
    cases x with
    | bool i =>
      have h : (boolsOf xs).map (i :: ·) = some ns := h
      obtain ⟨ys, e, rfl⟩ := Option.map_eq_some_iff.mp h
      rw [bools_of e]; rfl
    | _ => cases h
theorem RDs.bools : ∀ {ns : List Bool} {vs : List V}, RDs K H (ns.map PyData.bool) vs → vs = ns.map V.bl
  | [], _, .nil => rfl
  | _ :: _, _, .cons (.bool _) r => by rw [List.map_cons, RDs.bools r]
theorem rw_ints {w : W} {xs : List PyData} {ns : List Int} (h : w.list? = some xs) (e : intsOf xs = some ns) (r : RelW K sr H w v) : ∃ a, v = .ref a ∧ Rd H a (.lst (ns.map V.int)) := by
  have e := ints_of e
  subst e
  obtain ⟨a, vs, ea, q, rs⟩ := rw_list h r
  have := rs.ints
  subst this
  exact ⟨a, ea, q⟩
theorem rw_bools {w : W} {xs : List PyData} {ns : List Bool} (h : w.list? = some xs) (e : boolsOf xs = some ns) (r : RelW K sr H w v) : ∃ a, v = .ref a ∧ Rd H a (.lst (ns.map V.bl)) := by
  have e := bools_of e
  subst e
  obtain ⟨a, vs, ea, q, rs⟩ := rw_list h r
  have := rs.bools
  subst this
  exact ⟨a, ea, q⟩
theorem RKs.length : ∀ {kvs : List (PyData × PyData)} {ks : List (Key × V)}, RKs K H kvs ks → kvs.length = ks.length
  | _, _, .nil => rfl
  | _, _, .cons _ r => congrArg (· + 1) (RKs.length r)
theorem keyOf_keyD (k : Key) : keyOf (keyD k) = some k := by cases k <;> rfl
theorem rd_key {y : PyData} {k : Key} (h : keyOf y = some k) (r : RD K H y v) : v = kV k := by
  cases y <;> first | cases h | skip
  · cases r; rfl
  · cases r; rfl
theorem rd_keyD (k : Key) : RD K H (keyD k) (kV k) := by
  cases k with
  | inl i => exact .int i
  | inr s => exact .str s
theorem RKs.look : ∀ {kvs : List (PyData × PyData)} {ks : List (Key × V)} {k : Key}, RKs K H kvs ks → (∀ x, dlook kvs k = some x → ∃ v, valV ks k = some v ∧ RD K H x v) ∧ (dlook kvs k = none → valV ks k = none)
  | _, _, _, .nil => ⟨fun _ h => (by cases h), fun _ => rfl⟩
  | _, _, k, .cons (k := k') (x := x) (v := v) (kvs := kvs) (ks := ks) h r => by
    have ih := RKs.look (k := k) r
    have e1 : dlook ((keyD k', x) :: kvs) k = if k' = k then some x else dlook kvs k := by
      unfold dlook
      rw [List.find?_cons]
      by_cases e : k' = k
      · subst e; simp [keyOf_keyD]
      · simp [keyOf_keyD, e]
    have e2 : valV ((k', v) :: ks) k = if k' = k then some v else valV ks k := by
      unfold valV
      rw [List.find?_cons]
      by_cases e : k' = k
      · subst e; simp
      · simp [e]
    rw [e1, e2]
    by_cases e : k' = k
    · rw [if_pos e, if_pos e]
      exact ⟨fun y q => (by cases q; exact ⟨v, rfl, h⟩), fun q => (by cases q)⟩
    · rw [if_neg e, if_neg e]
      exact ih
theorem RKs.any : ∀ {kvs : List (PyData × PyData)} {ks : List (Key × V)} (k : Key), RKs K H kvs ks → (kvs.any fun kv => decide (keyOf kv.1 = some k)) = ks.any fun kv => decide (kv.1 = k)
  | _, _, _, .nil => rfl
  | _, _, k, .cons h r => by rw [List.any_cons, List.any_cons, RKs.any k r, keyOf_keyD]; simp
theorem RKs.app : ∀ {kvs kvs2 : List (PyData × PyData)} {ks ks2 : List (Key × V)}, RKs K H kvs ks → RKs K H kvs2 ks2 → RKs K H (kvs ++ kvs2) (ks ++ ks2)
  | _, _, _, _, .nil, s => s
  | _, _, _, _, .cons h r, s => .cons h (RKs.app r s)
theorem RKs.putMap {y : PyData} {u : V} (h : RD K H y u) (k : Key) : ∀ {kvs : List (PyData × PyData)} {ks : List (Key × V)}, RKs K H kvs ks →
    RKs K H (kvs.map fun kv => if keyOf kv.1 = some k then (kv.1, y) else kv) (ks.map fun kv => if kv.1 = k then (kv.1, u) else kv)
  | _, _, .nil => .nil
  | _, _, .cons (k := k') (x := x) (v := v) h' r' => by
    rw [List.map_cons, List.map_cons]
    by_cases e : k' = k
    · subst e
      simp only [keyOf_keyD, if_true]
      exact .cons h (RKs.putMap h k' r')
    · have e2 : ¬ (keyOf (keyD k') = some k) := by rw [keyOf_keyD]; exact fun z => e (Option.some.inj z)
      simp only [e2, e, if_false]
      exact .cons h' (RKs.putMap h k r')
theorem RKs.put {y : PyData} {u : V} (h : RD K H y u) {kvs : List (PyData × PyData)} {ks : List (Key × V)} (k : Key) (r : RKs K H kvs ks) : RKs K H (dput kvs k y) (putK ks k u) := by
  unfold dput putK
  rw [r.any k]
  split
  · exact RKs.putMap h k r
  · exact r.app (.cons h .nil)
theorem RKs.keys : ∀ {kvs : List (PyData × PyData)} {ks : List (Key × V)}, RKs K H kvs ks → kvs.map (·.1) = ks.map fun kv => keyD kv.1
  | _, _, .nil => rfl
  | _, _, .cons h r => by rw [List.map_cons, List.map_cons, RKs.keys r]
theorem RDs.keys : ∀ (ks : List (Key × V)), RDs K H (ks.map fun kv => keyD kv.1) (ks.map fun kv => kV kv.1)
  | [] => .nil
  | kv :: ks => .cons (rd_keyD kv.1) (RDs.keys ks)
theorem keyD_int : ∀ {ks : List (Key × V)} {ns : List Int}, ks.map (fun kv => keyD kv.1) = ns.map PyData.int → ks.map (·.1) = ns.map Sum.inl
  | [], [], _ => rfl
  | [], _ :: _, h => by simp at h
  | _ :: _, [], h => by simp at h
  | kv :: ks, n :: ns, h => by
    rw [List.map_cons, List.map_cons, List.cons.injEq] at h
    rw [List.map_cons, List.map_cons, keyD_int h.2]
    obtain ⟨k, v⟩ := kv
    cases k with
    | inl i => cases h.1; rfl
    | inr s => cases h.1
/-- pairs -/
theorem pairs_of : ∀ {xs : List PyData} {ps : List (Key × PyData)} {vs : List V}, pairsOf xs = some ps → RDs K H xs vs → ∃ (as : List Addr) (kvs : List (Key × V)), vs = as.map V.ref ∧ Paired (fun p kv => SqT K H p [kV kv.1, kv.2]) as kvs ∧ Paired (fun (p : Key × PyData) (q : Key × V) => p.1 = q.1 ∧ RD K H p.2 q.2) ps kvs
  | [], _, _, h, .nil => by cases h; exact ⟨[], [], rfl, .nil, .nil⟩
  | x :: xs, ps, _, h, .cons hx hr => by
    unfold pairsOf at h
    split at h
    · rename_i e; cases e
    · rename_i k v r e
      cases e
      split at h
      · rename_i y qs e1 e2
        cases h
        obtain ⟨as, kvs, e, p1, p2⟩ := pairs_of e2 hr
        cases hx with
        | tuple ht hs =>
          cases hs with
          | cons h1 hs =>
            cases hs with
            | cons h2 hs =>
              cases hs
              have := rd_key e1 h1
              subst this
              exact ⟨_ :: as, (y, _) :: kvs, by rw [e]; rfl, .cons ht p1, .cons ⟨rfl, h2⟩ p2⟩
      · cases h
    · cases h
theorem RKs.merge : ∀ {ps : List (Key × PyData)} {kvs : List (Key × V)} {ds : List (PyData × PyData)} {ks : List (Key × V)}, Paired (fun (p : Key × PyData) (q : Key × V) => p.1 = q.1 ∧ RD K H p.2 q.2) ps kvs → RKs K H ds ks → RKs K H (mergeD ds ps) (mergeK ks kvs)
  | [], [], _, _, .nil, r => r
  | (k, x) :: ps, (k', v) :: kvs, ds, ks, .cons ⟨e, h⟩ t, r => by
    have e : k = k' := e
    subst e
    show RKs K H (mergeD (dput ds k x) ps) (mergeK (putK ks k v) kvs)
    exact RKs.merge t (RKs.put h k r)
end

section
variable {X : Cx}
theorem call_lenDR : CallR X (.builtin "len") (fun xs H Q => ∃ a kvs, xs = [V.ref a] ∧ Rd H a (.dK kvs) ∧ Q (.int kvs.length) H) := by
  intro pins s σ H xs us Q I r h
  obtain ⟨a, kvs, rfl, ha, q⟩ := h
  obtain ⟨u, rfl, ru⟩ := vals1 r
  cases ru
  exact d_len I ha fun t s' I' => ⟨.int kvs.length, H, I', ⟨t, rfl⟩, q⟩
theorem CallR.or {f : Value} {r r' : List V → Hp → VK → Prop} (h : CallR X f r) (h' : CallR X f r') : CallR X f (fun xs H Q => r xs H Q ∨ r' xs H Q) := by
  intro pins s σ H xs us Q I rx q
  rcases q with q | q
  · exact h pins s σ H xs us Q I rx q
  · exact h' pins s σ H xs us Q I rx q
/-- repr(x), x data -/
theorem call_reprD (hu : X.A.units + 200 < cLine) (hg : X.A.guards = some []) : CallR X (.builtin "repr") (fun vs H Q => ∃ v sr w x, vs = [v] ∧ RelW X.K sr H w v ∧ w.data? = some x ∧ x.showable = true ∧ x.hasDict = false ∧ x.depth ≤ 100 ∧ x.shown.length ≤ sizeLine ∧ Q (.str x.shown) H) := by
  intro pins s σ H vs us Q I r h
  obtain ⟨v, sr, w, x, rfl, rw, e, h1, h2, h3, h4, q⟩ := h
  obtain ⟨u, rfl, ru⟩ := vals1 r
  obtain ⟨as, ra⟩ := rw.reads I e ru h2
  have fin : ∀ h' tk t, (∀ b o, s.heap.get? b = some o → h'.get? b = some o) → EP X pins σ Q (.str x.shown t) { s with heap := h', toks := tk } := fun h' tk t hk => ⟨.str x.shown, H, I.kept hk, ⟨_, rfl⟩, q⟩
  cases ra with
  | none => exact P.repr_of_none (fin s.heap _ _ fun _ _ e => e)
  | bool b => exact P.repr_of_bool (fin s.heap _ _ fun _ _ e => e)
  | int i t => exact P.repr_of_int (by simpa [PyData.showable] using h1) (fin s.heap _ _ fun _ _ e => e)
  | str i t => exact P.repr_of_str (fin s.heap _ _ fun _ _ e => e) (by simpa only [PyData.shown] using h4)
  | list a b c d => exact repr_of_reads' (.list a b c d) h1 (PyData.noDict_hsm h2) hg (by omega) (fun _ _ e => e) (fun h' u tk hk => fin h' tk u hk) h4
  | tuple a b c d => exact repr_of_reads' (.tuple a b c d) h1 (PyData.noDict_hsm h2) hg (by omega) (fun _ _ e => e) (fun h' u tk hk => fin h' tk u hk) h4
  | dict a b c d e => simp only [PyData.hasDict] at h2; cases h2
end
end Cal
set_option Elab.async false
set_option linter.all false
set_option maxRecDepth 100000
set_option maxHeartbeats 4000000
namespace Cal
open PySem PySem.Spec PyProof.Rows L2

section
variable {X : Cx} {Γ : Gam} {pos : Pos} {a b c : Expr} {ca cb cc : E} {p : Pos}
theorem s_len (G : Good X Γ) (hg : Gl X "len") (ha : PE X a (rdE Γ X.K ca)) (hs : nostar a = true) : PE X (.Call (.Name "len" p) [a] [] pos) (rdE Γ X.K (.blt .len ca)) := by
  refine s_callB G (call_len_seq.or call_lenDR) hg (by decide) PySem.boot_len ha hs (by decide) (by decide) fun r p h => ?_
  rcases h with h | h
  · replace h := ok_iff.mp h
    obtain ⟨xs, e, h⟩ := h
    obtain ⟨l, vs, rfl, q, rs⟩ := rw_seq e p.rw
    rw [rs.length] at h
    exact .inl ⟨l, vs, rfl, q, h _ _ (p.val (.int _) rfl)⟩
  · replace h := ok_iff.mp h
    obtain ⟨xs, e, h⟩ := h
    obtain ⟨l, vs, rfl, q, rs⟩ := rw_dict e p.rw
    rw [rs.length] at h
    exact .inr ⟨l, vs, rfl, q, h _ _ (p.val (.int _) rfl)⟩
theorem s_abs (G : Good X Γ) (hg : Gl X "abs") (ha : PE X a (rdE Γ X.K ca)) (hs : nostar a = true) : PE X (.Call (.Name "abs" p) [a] [] pos) (rdE Γ X.K (.blt .abs ca)) := by
  refine s_callB G call_abs hg (by decide) (by decide +kernel) ha hs (by decide) (by decide) fun r p h => ?_
  replace h := ok_iff.mp h
  obtain ⟨i, e, h⟩ := h
  have q := int?_some e
  subst q
  have e2 : (if i < 0 then -i else i) = (i.natAbs : Int) := by split <;> omega
  refine ⟨i, by rw [rw_int p.rw], ?_⟩
  rw [e2]
  exact h _ _ (p.val (.int _) rfl)
theorem s_int (G : Good X Γ) (hg : Gl X "int") (ha : PE X a (rdE Γ X.K ca)) (hs : nostar a = true) : PE X (.Call (.Name "int" p) [a] [] pos) (rdE Γ X.K (.blt .int ca)) := by
  refine s_callTy G call_int1 hg (by decide) (by decide +kernel) ha hs (by decide) (by decide) fun r p h => ?_
  rcases h with h | h
  · replace h := ok_iff.mp h
    obtain ⟨i, e, h⟩ := h
    have q := int?_some e
    subst q
    exact .inl ⟨i, by rw [rw_int p.rw], h _ _ (p.val (.int _) rfl)⟩
  · replace h := ok_iff.mp h
    obtain ⟨i, e, h⟩ := h
    have q := bool?_some e
    subst q
    exact .inr ⟨i, by rw [rw_bool p.rw], h _ _ (p.val (.int _) rfl)⟩
theorem s_sum (G : Good X Γ) (hg : Gl X "sum") (ha : PE X a (rdE Γ X.K ca)) (hs : nostar a = true) : PE X (.Call (.Name "sum" p) [a] [] pos) (rdE Γ X.K (.blt .sum ca)) := by
  refine s_callB G (cr_sum G.calm) hg (by decide) (by decide +kernel) ha hs (by decide) (by decide) fun r p h => ?_
  replace h := ok_iff.mp h
  obtain ⟨xs, e, h⟩ := h
  replace h := ok_iff.mp h
  obtain ⟨ns, e2, h⟩ := h
  obtain ⟨l, ev, q⟩ := rw_ints e e2 p.rw
  exact ⟨l, ns, by rw [ev], .inl q, h _ _ (p.val (.int _) rfl)⟩
theorem s_min (G : Good X Γ) (hg : Gl X "min") (ha : PE X a (rdE Γ X.K ca)) (hs : nostar a = true) : PE X (.Call (.Name "min" p) [a] [] pos) (rdE Γ X.K (.blt .min ca)) := by
  refine s_callB G (cr_min G.calm) hg (by decide) (by decide +kernel) ha hs (by decide) (by decide) fun r p h => ?_
  replace h := ok_iff.mp h
  obtain ⟨xs, e, h⟩ := h
  replace h := ok_iff.mp h
  obtain ⟨ns, e2, h⟩ := h
  obtain ⟨l, ev, q⟩ := rw_ints e e2 p.rw
  exact ⟨l, ns, by rw [ev], .inl q, List.length_pos_iff.mpr h.1, fun m h1 h2 => h.2 m h1 h2 _ _ (p.val (.int _) rfl)⟩
theorem s_max (G : Good X Γ) (hg : Gl X "max") (ha : PE X a (rdE Γ X.K ca)) (hs : nostar a = true) : PE X (.Call (.Name "max" p) [a] [] pos) (rdE Γ X.K (.blt .max ca)) := by
  refine s_callB G (cr_max G.calm) hg (by decide) (by decide +kernel) ha hs (by decide) (by decide) fun r p h => ?_
  replace h := ok_iff.mp h
  obtain ⟨xs, e, h⟩ := h
  replace h := ok_iff.mp h
  obtain ⟨ns, e2, h⟩ := h
  obtain ⟨l, ev, q⟩ := rw_ints e e2 p.rw
  exact ⟨l, ns, by rw [ev], .inl q, List.length_pos_iff.mpr h.1, fun m h1 h2 => h.2 m h1 h2 _ _ (p.val (.int _) rfl)⟩
theorem s_all (G : Good X Γ) (hg : Gl X "all") (ha : PE X a (rdE Γ X.K ca)) (hs : nostar a = true) : PE X (.Call (.Name "all" p) [a] [] pos) (rdE Γ X.K (.blt .all ca)) := by
  refine s_callB G (cr_all G.calm) hg (by decide) (by decide +kernel) ha hs (by decide) (by decide) fun r p h => ?_
  replace h := ok_iff.mp h
  obtain ⟨xs, e, h⟩ := h
  replace h := ok_iff.mp h
  obtain ⟨ns, e2, h⟩ := h
  obtain ⟨l, ev, q⟩ := rw_bools e e2 p.rw
  exact ⟨l, ns, by rw [ev], .inl q, h _ _ (p.val (.bool _) rfl)⟩
theorem s_any (G : Good X Γ) (hg : Gl X "any") (ha : PE X a (rdE Γ X.K ca)) (hs : nostar a = true) : PE X (.Call (.Name "any" p) [a] [] pos) (rdE Γ X.K (.blt .any ca)) := by
  refine s_callB G (cr_any G.calm) hg (by decide) (by decide +kernel) ha hs (by decide) (by decide) fun r p h => ?_
  replace h := ok_iff.mp h
  obtain ⟨xs, e, h⟩ := h
  replace h := ok_iff.mp h
  obtain ⟨ns, e2, h⟩ := h
  obtain ⟨l, ev, q⟩ := rw_bools e e2 p.rw
  exact ⟨l, ns, by rw [ev], .inl q, h _ _ (p.val (.bool _) rfl)⟩
theorem s_tuple (G : Good X Γ) (hg : Gl X "tuple") (ha : PE X a (rdE Γ X.K ca)) (hs : nostar a = true) : PE X (.Call (.Name "tuple" p) [a] [] pos) (rdE Γ X.K (.blt .tuple ca)) := by
  refine weakE (pe_tupleOf hg (G.blt _ (by decide)) ha (star_cons hs)) fun σ H Q ⟨sr, env, r, h⟩ => rdE_of G.mono r h fun w e1 v H1 h p => ?_
  replace h := ok_iff.mp h
  obtain ⟨xs, e, h⟩ := h
  obtain ⟨l, vs, rfl, q, rs⟩ := rw_seq e p.rw
  rcases q with q | q
  · exact .inl ⟨l, vs, rfl, q, fun t ht => h _ _ (p.new ht (.tuple (.inl (.inl upd_same)) (rs.per (Per.new ht))))⟩
  · exact .inr ⟨l, vs, rfl, q, h _ _ (p.val (.tuple q rs) rfl)⟩
theorem s_list (G : Good X Γ) (hg : Gl X "list") (ha : PE X a (rdE Γ X.K ca)) (hs : nostar a = true) : PE X (.Call (.Name "list" p) [a] [] pos) (rdE Γ X.K (.blt .list ca)) := by
  refine s_callTy G (call_list_of.or (call_listD G.calm)) hg (by decide) (by decide +kernel) ha hs (by decide) (by decide) fun r p h => ?_
  rcases h with h | h
  · replace h := ok_iff.mp h
    obtain ⟨xs, e, h⟩ := h
    obtain ⟨l, vs, rfl, q, rs⟩ := rw_seq e p.rw
    exact .inl ⟨l, vs, rfl, q, fun t ht => h _ _ (p.new ht ⟨t, _, rfl, upd_same, rs.per (Per.new ht)⟩)⟩
  · replace h := ok_iff.mp h
    obtain ⟨xs, e, h⟩ := h
    obtain ⟨l, vs, rfl, q, rs⟩ := rw_dict e p.rw
    refine .inr ⟨l, vs, rfl, q, fun t ht => h _ _ (p.new ht ⟨t, _, rfl, upd_same, ?_⟩)⟩
    rw [rs.keys]
    exact RDs.keys _
theorem paired_len {α β : Type} {R : α → β → Prop} : ∀ {xs : List α} {ys : List β}, Paired R xs ys → xs.length = ys.length
  | _, _, .nil => rfl
  | _, _, .cons _ r => congrArg (· + 1) (paired_len r)
theorem s_dict (G : Good X Γ) (hg : Gl X "dict") (ha : PE X a (rdE Γ X.K ca)) (hs : nostar a = true) : PE X (.Call (.Name "dict" p) [a] [] pos) (rdE Γ X.K (.blt .dict ca)) := by
  refine s_callTy G ((call_dictP G.calm).or call_dictD) hg (by decide) (by decide +kernel) ha hs (by decide) (by decide) fun r p h => ?_
  rcases h with h | h
  · replace h := ok_iff.mp h
    obtain ⟨xs, e, h⟩ := h
    replace h := ok_iff.mp h
    obtain ⟨ps, e2, h⟩ := h
    obtain ⟨l, vs, rfl, q, rs⟩ := rw_list e p.rw
    obtain ⟨as, kvs, ev, p1, p2⟩ := pairs_of e2 rs
    subst ev
    refine .inl ⟨l, as, kvs, rfl, .inl q, p1, fun t ht => h.2 _ _ (p.new ht ⟨t, _, rfl, upd_same, RKs.per (Per.new ht) (RKs.merge p2 .nil)⟩)⟩
  · replace h := ok_iff.mp h
    obtain ⟨xs, e, h⟩ := h
    obtain ⟨l, vs, rfl, q, rs⟩ := rw_dict e p.rw
    exact .inr ⟨l, vs, rfl, q, fun t ht => h _ _ (p.new ht ⟨t, _, rfl, upd_same, RKs.per (Per.new ht) rs⟩)⟩
theorem isort_of {ns ys : List Int} (h1 : ys.Perm ns) (h2 : ys.Pairwise (· ≤ ·)) : ys = isort ns := by
  have hp : (isort ns).Perm ns := List.mergeSort_perm _ _
  have ho : (isort ns).Pairwise (· ≤ ·) := by
    have := List.pairwise_mergeSort (le := fun (a b : Int) => decide (a ≤ b)) (fun a b c h1 h2 => decide_eq_true (Int.le_trans (of_decide_eq_true h1) (of_decide_eq_true h2))) (fun a b => by rcases Int.le_total a b with h | h <;> simp [h]) ns
    exact this.imp fun h => of_decide_eq_true h
  exact PySem.W.ksm_same (h1.trans hp.symm) h2 ho
theorem s_sorted (G : Good X Γ) (hg : Gl X "sorted") (ha : PE X a (rdE Γ X.K ca)) (hs : nostar a = true) : PE X (.Call (.Name "sorted" p) [a] [] pos) (rdE Γ X.K (.blt .sorted ca)) := by
  refine s_callB G ((call_sortedDI G.calm).or cr_sortedI) hg (by decide) (by decide +kernel) ha hs (by decide) (by decide) fun r p h => ?_
  rcases h with h | h
  · replace h := ok_iff.mp h
    obtain ⟨xs, e, h⟩ := h
    replace h := ok_iff.mp h
    obtain ⟨ns, e2, h⟩ := h
    obtain ⟨l, vs, rfl, q, rs⟩ := rw_dict e p.rw
    refine .inl ⟨l, vs, ns, rfl, q, keyD_int (rs.keys.symm.trans (ints_of e2)), h.1, fun ys t h1 h2 ht => ?_⟩
    rw [isort_of h1 h2]
    exact h.2 _ _ (p.new ht ⟨t, _, rfl, upd_same, RDs.of_ints _⟩)
  · replace h := ok_iff.mp h
    obtain ⟨xs, e, h⟩ := h
    replace h := ok_iff.mp h
    obtain ⟨ns, e2, h⟩ := h
    obtain ⟨l, ev, q⟩ := rw_ints e e2 p.rw
    refine .inr ⟨l, ns, by rw [ev], .inl q, fun ys t h1 h2 ht => ?_⟩
    rw [isort_of h1 h2]
    exact h _ _ (p.new ht ⟨t, _, rfl, upd_same, RDs.of_ints _⟩)
theorem s_repr (G : Good X Γ) (hg : Gl X "repr") (ha : PE X a (rdE Γ X.K ca)) (hs : nostar a = true) : PE X (.Call (.Name "repr" p) [a] [] pos) (rdE Γ X.K (.blt .repr ca)) := by
  refine s_callB G (call_reprD G.un G.guards) hg (by decide) (by decide +kernel) ha hs (by decide) (by decide) fun r p h => ?_
  replace h := ok_iff.mp h
  obtain ⟨x, e, h⟩ := h
  exact ⟨_, _, _, x, rfl, p.rw, e, h.1, h.2.1, h.2.2.1, h.2.2.2.1, h.2.2.2.2 _ _ (p.val (.str _) rfl)⟩
theorem s_max2 (G : Good X Γ) (hg : Gl X "max") (ha : PE X a (rdE Γ X.K ca)) (hb : PE X b (rdE Γ X.K cb)) (hs : nostar a = true) (hs2 : nostar b = true) : PE X (.Call (.Name "max" p) [a, b] [] pos) (rdE Γ X.K (.blt2 .max ca cb)) := by
  refine weakE (pe_callB (call_max2 G.calm) hg (G.blt _ (by decide)) (by decide +kernel) (pa_cons ha (pa_cons hb pa_nil (star_cons hs2)) (star_cons hs)) (by decide) (by decide) (star_cons hs) (by rw [star_cons hs2]; rfl)) fun σ H Q ⟨sr, env, r, h0⟩ => rdE_of G.mono r h0 fun w e1 v H1 h1 p => rdE_of G.mono p.rs h1 fun w2 e2 v2 H2 h p2 => ?_
  clear h1
  replace h := ok_iff.mp h
  obtain ⟨i, e, h⟩ := h
  replace h := ok_iff.mp h
  obtain ⟨j, e', h⟩ := h
  have q1 := int?_some e
  have q2 := int?_some e'
  subst q1; subst q2
  exact ⟨i, j, by rw [rw_int p.rw, rw_int p2.rw], h _ _ ((p.trans r p2).val (.int _) rfl)⟩
theorem s_min2 (G : Good X Γ) (hg : Gl X "min") (ha : PE X a (rdE Γ X.K ca)) (hb : PE X b (rdE Γ X.K cb)) (hs : nostar a = true) (hs2 : nostar b = true) : PE X (.Call (.Name "min" p) [a, b] [] pos) (rdE Γ X.K (.blt2 .min ca cb)) := by
  refine weakE (pe_callB (call_min2 G.calm) hg (G.blt _ (by decide)) (by decide +kernel) (pa_cons ha (pa_cons hb pa_nil (star_cons hs2)) (star_cons hs)) (by decide) (by decide) (star_cons hs) (by rw [star_cons hs2]; rfl)) fun σ H Q ⟨sr, env, r, h0⟩ => rdE_of G.mono r h0 fun w e1 v H1 h1 p => rdE_of G.mono p.rs h1 fun w2 e2 v2 H2 h p2 => ?_
  clear h1
  replace h := ok_iff.mp h
  obtain ⟨i, e, h⟩ := h
  replace h := ok_iff.mp h
  obtain ⟨j, e', h⟩ := h
  have q1 := int?_some e
  have q2 := int?_some e'
  subst q1; subst q2
  exact ⟨i, j, by rw [rw_int p.rw, rw_int p2.rw], h _ _ ((p.trans r p2).val (.int _) rfl)⟩
/-! ### in -/
def rInW (K : PySem.W.Frag) (neg : Bool) : R2 := fun x y H Q => ∃ sr w w2 dx ys, RelW K sr H w x ∧ RelW K sr H w2 y ∧ w.data? = some dx ∧ w2.seq? = some ys ∧ inOk dx ys ∧ Q (.bl (if neg = true then !ys.any fun z => PyData.eqv z dx else ys.any fun z => PyData.eqv z dx)) H
theorem seq_reads {pins : List (Addr × Obj)} {σ : St} {H : Hp} {s : Shared} {sr : Sr} {w : W} {xs : List PyData} {v : V} {u : Value} (I : Inv X pins σ H s) (h : RelW X.K sr H w v) (hx : w.seq? = some xs) (r : RelV v u) (hd : PyData.hasDictAll xs = false) :
    ∃ as, Reads s.heap u (.list xs) as ∨ Reads s.heap u (.tuple xs) as := by
  have k : w.data? = some (.list xs) ∨ w.data? = some (.tuple xs) := by
    cases w with
    | d x => cases x <;> first | (cases hx; first | exact .inl rfl | exact .inr rfl) | cases hx
    | lst xs => cases hx; exact .inl rfl
    | vlst xs => cases hx; exact .inl rfl
    | _ => cases hx
  rcases k with k | k
  · obtain ⟨as, q⟩ := h.reads I k r (by simpa only [PyData.hasDict] using hd)
    exact ⟨as, .inl q⟩
  · obtain ⟨as, q⟩ := h.reads I k r (by simpa only [PyData.hasDict] using hd)
    exact ⟨as, .inr q⟩
theorem op_inW (hu : X.A.units + 200 < cLine) : OpR X (compareOp .In) (rInW X.K false) := by
  intro pins s σ H x y v u Q I rx ry h
  obtain ⟨sr, w, w2, dx, ys, r1, r2, e1, e2, ⟨c1, c2, c3⟩, q⟩ := h
  obtain ⟨as, ra⟩ := r1.reads I e1 rx (PyData.hasDict_of_canLay _ c1)
  have hd : PyData.hasDictAll ys = false := by
    have := PyData.hasDict_of_canLay (.list ys) (by simpa only [PyData.canLay0] using c2)
    simpa only [PyData.hasDict] using this
  obtain ⟨bs, rb | rb⟩ := seq_reads I r2 e2 ry hd
  · exact SeqAt.in_list_reads rb ra c2 c1 (by omega) ⟨.bl _, H, I, rfl, q⟩
  · exact SeqAt.in_tuple_reads rb ra c2 c1 (by omega) ⟨.bl _, H, I, rfl, q⟩
theorem op_ninW (hu : X.A.units + 200 < cLine) : OpR X (compareOp .NotIn) (rInW X.K true) := by
  intro pins s σ H x y v u Q I rx ry h
  obtain ⟨sr, w, w2, dx, ys, r1, r2, e1, e2, ⟨c1, c2, c3⟩, q⟩ := h
  obtain ⟨as, ra⟩ := r1.reads I e1 rx (PyData.hasDict_of_canLay _ c1)
  have hd : PyData.hasDictAll ys = false := by
    have := PyData.hasDict_of_canLay (.list ys) (by simpa only [PyData.canLay0] using c2)
    simpa only [PyData.hasDict] using this
  obtain ⟨bs, rb | rb⟩ := seq_reads I r2 e2 ry hd
  · exact SeqAt.notIn_list_reads rb ra c2 c1 (by omega) ⟨.bl _, H, I, rfl, q⟩
  · exact SeqAt.notIn_tuple_reads rb ra c2 c1 (by omega) ⟨.bl _, H, I, rfl, q⟩
theorem k_in (G : Good X Γ) : CmpKey X .In .inn := by
  refine ⟨_, op_inW G.un, ?_⟩
  intro sr H σ env e2 w w2 v v2 H2 Q rs rw p h
  obtain ⟨dx, e1, h⟩ := ok_iff.mp h
  obtain ⟨ys, e3, h⟩ := ok_iff.mp h
  exact ⟨sr, w, w2, dx, ys, rw, p.rw, e1, e3, h.1, h.2 _ _ (p.val (.bool _) rfl)⟩
theorem k_nin (G : Good X Γ) : CmpKey X .NotIn .nin := by
  refine ⟨_, op_ninW G.un, ?_⟩
  intro sr H σ env e2 w w2 v v2 H2 Q rs rw p h
  obtain ⟨dx, e1, h⟩ := ok_iff.mp h
  obtain ⟨ys, e3, h⟩ := ok_iff.mp h
  exact ⟨sr, w, w2, dx, ys, rw, p.rw, e1, e3, h.1, h.2 _ _ (p.val (.bool _) rfl)⟩
/-! ### x[i] -/
def rIxD : R2 := fun x y H Q => ∃ a v, x = .ref a ∧ DGet H a y (some v) ∧ Q v H
theorem ix_dict (hu : X.A.units + 200 < cLine) : IxR X rIxD := by
  intro value slice pins s σ H x y v u Q I rx ry h hs
  obtain ⟨a, w, rfl, g, q⟩ := h
  cases rx
  exact tail_any (dict_typeIs I g) PySem.F.slot_dict_getitem.lookup (d_getItem (by omega) I g ry fun w' s3 I3 rw' => ⟨w, H, I3, rw', q⟩) hs
theorem atI_rds {K : PySem.W.Frag} {H : Hp} {xs : List PyData} {vs : List V} {i : Int} {x : PyData} (rs : RDs K H xs vs) (h : atI xs i = some x) : ∃ v, atI vs i = some v ∧ RD K H x v := by
  unfold atI at h ⊢
  rw [← rs.length]
  cases q : ixN xs.length i with
  | none => rw [q] at h; cases h
  | some j =>
    rw [q] at h
    exact rs.get (show xs[j]? = some x from h)
theorem s_idx (G : Good X Γ) (ha : PE X a (rdE Γ X.K ca)) (hb : PE X b (rdE Γ X.K cb)) (hs : PlainIx b) : PE X (.Subscript a b pos) (rdE Γ X.K (.bin .idx ca cb)) := by
  refine weakE (pe_ix ((ix_list.or ix_tup).or (ix_dict G.un)) ha hb hs) fun σ H Q ⟨sr, env, r, h0⟩ => rdE_of G.mono r h0 fun w e1 v H1 h1 p => rdE_of G.mono p.rs h1 fun w2 e2 v2 H2 h p2 => ?_
  clear h1
  have rw1 := p.later p2.ev r.sok r
  have p3 := p.trans r p2
  rcases h with h | h
  · replace h := ok_iff.mp h
    obtain ⟨xs, e, h⟩ := h
    replace h := ok_iff.mp h
    obtain ⟨i, e', h⟩ := h
    replace h := ok_iff.mp h
    obtain ⟨x, e3, h⟩ := h
    have q2 := int?_some e'
    subst q2
    obtain ⟨l, vs, rfl, q, rs⟩ := rw_seq e rw1
    obtain ⟨u, hu, ru⟩ := atI_rds rs e3
    rcases q with q | q
    · exact .inl (.inl ⟨l, vs, i, u, rfl, rw_int p2.rw, q, hu, h _ _ (p3.val ru rfl)⟩)
    · exact .inl (.inr ⟨l, vs, i, u, rfl, rw_int p2.rw, q, hu, h _ _ (p3.val ru rfl)⟩)
  · replace h := ok_iff.mp h
    obtain ⟨kvs, e, h⟩ := h
    replace h := ok_iff.mp h
    obtain ⟨y, e', h⟩ := h
    replace h := ok_iff.mp h
    obtain ⟨k, e3, h⟩ := h
    replace h := ok_iff.mp h
    obtain ⟨x, e4, h⟩ := h
    obtain ⟨l, ks, rfl, q, rs⟩ := rw_dict e rw1
    obtain ⟨u, hu, ru⟩ := (rs.look (k := k)).1 x e4
    have hk : v2 = kV k := by
      cases w2 with
      | d z => cases e'; exact rd_key e3 p2.rw
      | src => cases e'
      | lst z => cases e'; cases e3
      | vlst z => cases e'; cases e3
      | dct z => cases e'; cases e3
      | vdct z => cases e'; cases e3
    exact .inr ⟨l, u, rfl, .inl ⟨ks, k, q, hk, hu.symm⟩, h _ _ (p3.val ru rfl)⟩
end
end Cal
set_option Elab.async false
set_option linter.all false
set_option maxRecDepth 100000
set_option maxHeartbeats 4000000
namespace Cal
open PySem PySem.Spec PyProof.Rows L2

theorem backTo_cons {e : Expr} {es : List Expr} {env : Env} {pos : Pos} (h : nostar e = true) : backTo pos (starEach (e :: es) env) = (false, eval e env) :: backTo pos (starEach es env) := by rw [star_cons h]; rfl
theorem backTo_any : ∀ {es : List Expr} {env : Env} {pos : Pos}, es.all nostar = true → (backTo pos (starEach es env)).any (·.1) = false
  | [], _, _, _ => rfl
  | e :: es, _, _, h => by
    rw [List.all_cons, Bool.and_eq_true] at h
    rw [backTo_cons h.1, List.any_cons, backTo_any h.2]; rfl
/-! ### a tuple backwards -/
section
variable {prog : Program} {w : World} {A : Around} {E : Value → Shared → Prop} {s : Shared}
theorem sliceApplied_rev {sl : Addr} {vl vu vs : Value} {n : Nat} {Q : Int × Int × Nat → Shared → Prop} (hs : s.heap.IsSliceOf sl vl vu vs) (pl : IsPart vl none) (pu : IsPart vu none) (ps : IsPart vs (some (-1)))
    (h : Q ((n : Int) - 1, -1, n) s) : wpAny (model prog w) A (Builtin.Slice.sliceApplied (.ref sl) (pure (n : Int))) Q E s := by
  obtain ⟨os, hos, hcs, hds⟩ := id hs
  unfold Builtin.Slice.sliceApplied Builtin.Slice.sliceFields
  refine wpAny_bind (wpAny_bind (wpAny_field hos hds (x := vl) rfl (wpAny_bind (wpAny_field hos hds (x := vu) rfl (wpAny_bind (wpAny_field hos hds (x := vs) rfl (wpAny_pure ?_)))))))
  refine wpAny_bind (HT.slicePart_ ps ?_)
  show wpAny _ _ (if ((-1 : Int) == 0) = true then _ else _) _ _ s
  rw [if_neg (by decide)]
  refine wpAny_bind (HT.slicePart_ pl (wpAny_bind (HT.slicePart_ pu (wpAny_bind (wpAny_pure ?_)))))
  have e : Builtin.Slice.slicePlaces ((n : Int) - 1) (-1) (-1) = n := by
    unfold Builtin.Slice.slicePlaces
    rw [if_neg (by decide), show (-(-1) : Int) = 1 from rfl, Int.ediv_one]
    split <;> omega
  show wpAny _ _ (pure ((n : Int) - 1, (-1 : Int), Builtin.Slice.slicePlaces ((n : Int) - 1) (-1) (-1))) _ _ s
  rw [e]
  exact wpAny_pure h
theorem pick_rev (xs : Array Value) : ((List.range xs.size).filterMap fun (m : Nat) => xs[(((xs.size : Nat) : Int) - 1 + (m : Int) * -1).toNat]?).toArray = xs.toList.reverse.toArray := by
  have e : (List.range xs.size).filterMap (fun (m : Nat) => xs[(((xs.size : Nat) : Int) - 1 + (m : Int) * -1).toNat]?) = xs.toList.reverse := by
    refine List.ext_getElem? fun i => ?_
    have : (List.range xs.size).filterMap (fun (m : Nat) => xs[(((xs.size : Nat) : Int) - 1 + (m : Int) * -1).toNat]?) = (List.range xs.size).pmap (fun m (h : m < xs.size) => xs[xs.size - 1 - m]'(by omega)) (fun m hm => List.mem_range.mp hm) := by
      have gen : ∀ (l : List Nat) (hl : ∀ m ∈ l, m < xs.size), l.filterMap (fun (m : Nat) => xs[(((xs.size : Nat) : Int) - 1 + (m : Int) * -1).toNat]?) = l.pmap (fun m (h : m < xs.size) => xs[xs.size - 1 - m]'(by omega)) hl := by
        intro l
        induction l with
        | nil => intro _; rfl
        | cons m l ih =>
          intro hl
          have hm := hl m List.mem_cons_self
          have q : (((xs.size : Nat) : Int) - 1 + (m : Int) * -1).toNat = xs.size - 1 - m := by omega
          rw [List.pmap_cons, List.filterMap_cons, q, Array.getElem?_eq_getElem (by omega : xs.size - 1 - m < xs.size)]
          simp only
          rw [ih]
      exact gen _ _
    rw [this]
    by_cases hi : i < xs.size
    · rw [List.getElem?_eq_getElem (by simpa using hi), List.getElem?_eq_getElem (by simpa using hi)]
      simp
    · rw [List.getElem?_eq_none (by simpa using hi), List.getElem?_eq_none (by simpa using hi)]
  rw [e]
theorem getItem_tuple_rev {t sl : Addr} {items : Array Value} {vl vu vs : Value} {Q : Value → Shared → Prop} (ht : IsTup s.heap t items) (hs : s.heap.IsSliceOf sl vl vu vs) (pl : IsPart vl none) (pu : IsPart vu none) (ps : IsPart vs (some (-1)))
    (h : Q (.ref s.heap.objs.size) { s with heap := s.heap.push { cls := .type "tuple", data := .seq items.toList.reverse.toArray } })
    (hsz : items.size ≤ sizeLine) : wpAny (model prog w) A (getItem (.ref t) (.ref sl)) Q E s := by
  have htake : sizeOk (.seq items.toList.reverse.toArray) := by
    show items.toList.reverse.toArray.size ≤ sizeLine
    rw [List.size_toArray, List.length_reverse, Array.length_toList]
    exact hsz
  obtain ⟨os, hos, hcs, hds⟩ := id hs
  have hTs : s.TypeIs (.ref sl) "slice" := ⟨os, hos, hcs⟩
  unfold getItem
  try with_reducible refine wpAny_holding ?_
  first | refine wpAny_bind (wpAny_pure ?_) | skip
  refine wpAny_bind (wpAny_sequenceKey ht.typeIs (by decide) ?_)
  refine wpAny_bind (wpAny_callSpecial?_slot (name := Str.ofString "__getitem__") ht.typeIs PyProof.Rows.slot_tuple_getitem
    (wpAny_call_entry PyProof.Rows.slot_tuple_getitem ht.typeIs entry_tuple_getitem ?_ (args_tuple_getitem _ _)))
  show wpAny _ _ (Builtin.Tuple.tupleItemsOf (.ref t) >>= _) _ _ s
  refine wpAny_bind (tupleItemsOf_ ht ?_)
  refine wpAny_bind (wpAny_typeOf hTs ?_)
  rw [if_pos (by decide)]
  refine wpAny_bind (sliceApplied_rev hs pl pu ps ?_)
  have hno : ¬ ((((items.size : Nat) : Int) - 1 == 0 && (-1 : Int) == 1 && items.size == items.size) = true) := by simp
  show wpAny _ _ (if (((items.size : Nat) : Int) - 1 == 0 && (-1 : Int) == 1 && items.size == items.size) = true then _ else _) _ _ s
  rw [if_neg hno, pick_rev]
  first
    | exact wpAny_bind (m := Builtin.Tuple.tupleExact _) (wpAny_newObj_type (wpAny_pure ⟨_, rfl, wpAny_pure h⟩) htake)
    | exact wpAny_bind (m := Builtin.Tuple.tupleExact _) (wpAny_newObj_type (wpAny_bind (wpAny_pure (wpAny_pure ⟨_, rfl, wpAny_pure h⟩))) htake)
    | exact wpAny_bind (wpAny_bind (m := Builtin.Tuple.tupleExact _) (wpAny_newObj_type (wpAny_pure (wpAny_pure ⟨_, rfl, wpAny_pure h⟩)) htake))
    | exact wpAny_bind (wpAny_bind (m := Builtin.Tuple.tupleExact _) (wpAny_newObj_type (wpAny_pure ⟨_, rfl, wpAny_pure h⟩) htake))
end
def tRevA (K : PySem.W.Frag) (te : TE) : TE := fun σ H Q => te σ H fun x H1 => (∃ a xs, x = .ref a ∧ SqL K H1 a xs ∧ ∀ p, H1 p = none → Q (.ref p) (upd H1 p (.lst xs.reverse))) ∨ (∃ a xs, x = .ref a ∧ SqT K H1 a xs ∧ ∀ p, H1 p = none → Q (.ref p) (upd H1 p (.tup xs.reverse)))
theorem pe_revA {X : Cx} {e : Expr} {te : TE} {k : Nat} {p1 p2 p3 pos : Pos} (he : PE X e te) : PE X (.Subscript e (.Slice none none (some (.UnaryOp .USub (.Constant (.int 1) k p1) p2)) p3) pos) (tRevA X.K te) := by
  refine ⟨fun pins s σ H Q I h => ?_⟩
  refine Subscript_ (thn (he.run pins s σ H _ I h) fun v s1 ⟨x, H1, I1, r1, q1⟩ => ?_)
  have ex : ∃ a, x = .ref a := by rcases q1 with ⟨a, _, e, _⟩ | ⟨a, _, e, _⟩ <;> exact ⟨a, e⟩
  obtain ⟨a, ex⟩ := ex
  subst ex
  cases r1
  have hst : PO X (some (.UnaryOp .USub (.Constant (.int 1) k p1) p2)) (tPart (tUn (rU fun i => .int (-i)) (tC (.int 1)))) := po_some (pe_un un_neg pe_int)
  refine wpAny_Slice (thn (po_none.run pins s1 σ H1 (fun o H2 => o = none ∧ H2 = H1) I1 ⟨rfl, rfl⟩) fun vl s2 ⟨l, H2, I2, pl, el, e2⟩ => ?_)
  subst el e2
  refine thn (po_none.run pins s2 σ H2 (fun o H3 => o = none ∧ H3 = H2) I2 ⟨rfl, rfl⟩) fun vu s3 ⟨u, H3, I3, pu, eu, e3⟩ => ?_
  subst eu e3
  refine thn (hst.run pins s3 σ H3 (fun o H4 => o = some (-1) ∧ H4 = H3) I3 ⟨1, rfl, -1, rfl, rfl, rfl⟩) fun vs s4 ⟨o, H4, I4, ps, eo, e4⟩ => ?_
  subst eo e4
  have I5 : Inv X pins σ H4 { s4 with heap := s4.heap.push { cls := .type "slice", data := .fields #[vl, vu, vs] } } := I4.kept (t' := s4.toks) fun b ob q => Heap.get?_push_of_some _ q
  show wpAny (model X.prog X.w) X.A (subscriptTail e (.Slice none none (some (.UnaryOp .USub (.Constant (.int 1) k p1) p2)) p3) (.ref a) (.ref s4.heap.objs.size)) (EP X pins σ Q) X.xe { s4 with heap := s4.heap.push { cls := .type "slice", data := .fields #[vl, vu, vs] } }
  rcases q1 with ⟨a', xs, ex, hx, q⟩ | ⟨a', xs, ex, hx, q⟩
  · cases ex
    obtain ⟨its, r, ht, hz⟩ := I5.list hx
    have hlen := r.length
    refine tail_any (ops := [.ref a, .ref s4.heap.objs.size]) ht.isList.typeIs (PySem.slot_list_getitem.lookup) ?_ (by with_unfolding_all rfl)
    refine wpAny_getItem_list_slice ht.isList (Heap.IsSliceOf.new _ vl vu vs) pl pu ps (by decide) ?_ (by rw [List.size_toArray]; omega)
    rw [PySem.W.krv_pick]
    refine ⟨.ref _, _, I5.laid (t' := s4.toks) (o := .lst xs.reverse) (fun b ob q => Heap.get?_push_of_some _ q) (Nat.le_refl _) ?_, rfl, q _ (I5.hok.fresh (Nat.le_refl _))⟩
    exact ⟨by rw [List.length_reverse]; exact hz, _, 0, r.reverse, Heap.get?_push_size _ rfl⟩
  · cases ex
    obtain ⟨its, r, ht, hz⟩ := I5.tuple hx
    have hlen := r.length
    refine tail_any (ops := [.ref a, .ref s4.heap.objs.size]) ht.typeIs (PyProof.Rows.slot_tuple_getitem.lookup) ?_ (by with_unfolding_all rfl)
    refine getItem_tuple_rev ht (Heap.IsSliceOf.new _ vl vu vs) pl pu ps ?_ (by rw [List.size_toArray]; omega)
    refine ⟨.ref _, _, I5.laid (t' := s4.toks) (o := .tup xs.reverse) (fun b ob q => Heap.get?_push_of_some _ q) (Nat.le_refl _) ?_, rfl, q _ (I5.hok.fresh (Nat.le_refl _))⟩
    exact ⟨by rw [List.length_reverse]; exact hz, _, r.reverse, IsTup.new _ _⟩

section
variable {X : Cx} {Γ : Gam} {pos : Pos} {a b c : Expr} {ca cb cc : E} {p : Pos}
theorem s_rev (G : Good X Γ) {k : Nat} {p1 p2 p3 : Pos} (ha : PE X a (rdE Γ X.K ca)) : PE X (.Subscript a (.Slice none none (some (.UnaryOp .USub (.Constant (.int 1) k p1) p2)) p3) pos) (rdE Γ X.K (.rev ca)) := by
  refine weakE (pe_revA ha) fun σ H Q ⟨sr, env, r, h⟩ => rdE_of G.mono r h fun w e1 v H1 h p => ?_
  rcases h with h | h
  · replace h := ok_iff.mp h
    obtain ⟨xs, e, h⟩ := h
    obtain ⟨l, vs, rfl, q, rs⟩ := rw_list e p.rw
    exact .inl ⟨l, vs, rfl, .inl q, fun t ht => h _ _ (p.new ht ⟨t, _, rfl, upd_same, rs.reverse.per (Per.new ht)⟩)⟩
  · replace h := ok_iff.mp h
    obtain ⟨xs, e, h⟩ := h
    have e := tup?_some e
    subst e
    obtain ⟨l, vs, rfl, q, rs⟩ := rw_tup p.rw
    exact .inr ⟨l, vs, rfl, q, fun t ht => h _ _ (p.new ht (.tuple (.inl (.inl upd_same)) (rs.reverse.per (Per.new ht))))⟩
/-! ### slices -/
def rdO (Γ : Gam) (K : PySem.W.Frag) (c : Oe) : TO := fun σ H Q => ∃ sr env, RelS K sr H σ env ∧ wpO Γ c env fun w env' => ∀ H', Post K sr H σ env env' (.d .none) .non H' → Q w H'
theorem o_none : PO X none (rdO Γ X.K .none) := weakO po_none fun σ H Q ⟨sr, env, r, h⟩ => h H (Post.start r)
theorem o_some (G : Good X Γ) (ha : PE X a (rdE Γ X.K ca)) : PO X (some a) (rdO Γ X.K (.some ca)) := by
  refine weakO (po_some ha) fun σ H Q ⟨sr, env, r, h⟩ => rdE_of G.mono r h fun w e1 v H1 h p => ?_
  replace h := ok_iff.mp h
  obtain ⟨i, e, h⟩ := h
  have e := int?_some e
  subst e
  exact ⟨i, rw_int p.rw, h _ (p.val .none rfl)⟩
theorem sliceD_rds {K : PySem.W.Frag} {H : Hp} {xs : List PyData} {vs : List V} (rs : RDs K H xs vs) (l h : Option Int) : RDs K H (sliceD xs l h) (cutV vs l h) := by
  unfold sliceD cutV
  rw [rs.length]
  exact (rs.drop _).take _
theorem s_slice (G : Good X Γ) {lo hi : Option Expr} {cl ch : Oe} {p2 : Pos} (ha : PE X a (rdE Γ X.K ca)) (hl : PO X lo (rdO Γ X.K cl)) (hh : PO X hi (rdO Γ X.K ch)) : PE X (.Subscript a (.Slice lo hi none p2) pos) (rdE Γ X.K (.slice ca cl ch)) := by
  refine weakE (pe_slice (sl_list.or sl_tupA) ha hl hh) fun σ H Q ⟨sr, env, r, h0⟩ => rdE_of G.mono r h0 fun w e1 v H1 h1 p => ?_
  refine ⟨sr, e1, p.rs, wpO_mono G.mono cl h1 fun l e2 h2 H2 p2 => ⟨sr, e2, p2.rs, wpO_mono G.mono ch h2 fun u e3 h H3 p3 => ?_⟩⟩
  have p23 := p2.trans p.rs p3
  have rw1 := p.later p23.ev r.sok r
  have p4 := p.trans r p23
  clear h1 h2
  rcases h with h | h
  · replace h := ok_iff.mp h
    obtain ⟨xs, e, h⟩ := h
    obtain ⟨q, vs, rfl, hq, rs⟩ := rw_list e rw1
    exact .inl ⟨q, vs, rfl, .inl hq, fun t ht => h _ _ (p4.new ht ⟨t, _, rfl, upd_same, (sliceD_rds rs l u).per (Per.new ht)⟩)⟩
  · replace h := ok_iff.mp h
    obtain ⟨xs, e, h⟩ := h
    have e := tup?_some e
    subst e
    obtain ⟨q, vs, rfl, hq, rs⟩ := rw_tup rw1
    refine .inr ⟨q, vs, rfl, hq, fun ⟨z1, z2⟩ => ?_, fun _ t ht => h _ _ (p4.new ht (.tuple (.inl (.inl upd_same)) ((sliceD_rds rs l u).per (Per.new ht))))⟩
    have e : sliceD xs l u = xs := by
      unfold sliceD
      rw [rs.length, z1, z2, List.drop_zero, Nat.sub_zero, ← rs.length, List.take_length]
    rw [e] at h
    exact h _ _ (p4.val (.tuple hq rs) rfl)
/-! ### is None -/
theorem s_isN (G : Good X Γ) {j : Nat} {p1 : Pos} (ha : PE X a (rdE Γ X.K ca)) : PE X (.Compare a [.Is] [.Constant .none j p1] pos) (rdE Γ X.K (.isN false ca)) := by
  refine weakE (pe_cmpR op_isN ha pe_non (nomark _)) fun σ H Q ⟨sr, env, r, h⟩ => rdE_of G.mono r h fun w e1 v H1 h p => ⟨rfl, ?_⟩
  replace h := ok_iff.mp h
  obtain ⟨x, e, h⟩ := h
  have fin := fun (b : Bool) => fun (q : ∀ v H', Post X.K sr H σ env e1 (.d (.bool b)) v H' → Q v H') => q _ _ (p.val (.bool b) rfl)
  have ne : ∀ a, decide (V.ref a = V.non) = false := fun a => by simp
  cases w with
  | d y =>
    cases e
    have rw := p.rw
    have rw : RD X.K H1 x v := rw
    cases rw <;> exact fin _ h
  | lst xs => cases e; obtain ⟨q, vs, rfl, _⟩ := p.rw; exact fin _ h
  | dct xs => cases e; obtain ⟨q, vs, rfl, _⟩ := p.rw; exact fin _ h
  | vlst xs => cases e; obtain ⟨q, vs, rfl, _⟩ := p.rw; exact fin _ h
  | vdct xs => cases e; obtain ⟨q, vs, rfl, _⟩ := p.rw; exact fin _ h
  | src => cases e
theorem s_notN (G : Good X Γ) {j : Nat} {p1 : Pos} (ha : PE X a (rdE Γ X.K ca)) : PE X (.Compare a [.IsNot] [.Constant .none j p1] pos) (rdE Γ X.K (.isN true ca)) := by
  refine weakE (pe_cmpR op_notN ha pe_non (nomark _)) fun σ H Q ⟨sr, env, r, h⟩ => rdE_of G.mono r h fun w e1 v H1 h p => ⟨rfl, ?_⟩
  replace h := ok_iff.mp h
  obtain ⟨x, e, h⟩ := h
  have fin := fun (b : Bool) => fun (q : ∀ v H', Post X.K sr H σ env e1 (.d (.bool b)) v H' → Q v H') => q _ _ (p.val (.bool b) rfl)
  cases w with
  | d y =>
    cases e
    have rw := p.rw
    have rw : RD X.K H1 x v := rw
    cases rw <;> exact fin _ h
  | lst xs => cases e; obtain ⟨q, vs, rfl, _⟩ := p.rw; exact fin _ h
  | dct xs => cases e; obtain ⟨q, vs, rfl, _⟩ := p.rw; exact fin _ h
  | vlst xs => cases e; obtain ⟨q, vs, rfl, _⟩ := p.rw; exact fin _ h
  | vdct xs => cases e; obtain ⟨q, vs, rfl, _⟩ := p.rw; exact fin _ h
  | src => cases e
/-! ### d.get(k, x), list(d.items()) -/
theorem s_get (G : Good X Γ) {x : Str} {px apos cpos : Pos} {e f : Expr} {ce cf : E} (hm : M2 X (.Name x px) "get" apos e f cpos) (ho : PE X (.Name x px) (rdE Γ X.K ca)) (he : PE X e (rdE Γ X.K ce)) (hf : PE X f (rdE Γ X.K cf)) :
    PE X (.Call (.Attribute (.Name x px) "get" apos) [e, f] [] cpos) (rdE Γ X.K (.get ca ce cf)) := by
  refine weakE (pe_dget2 (by have := G.un; omega) ho he hf hm) fun σ H Q ⟨sr, env, r, h0⟩ => rdE_of G.mono r h0 fun w e1 v H1 h1 p => ?_
  replace h1 := ok_iff.mp h1
  obtain ⟨kvs, ek, h1⟩ := h1
  obtain ⟨l, ks, rfl, q, rs⟩ := rw_dict ek p.rw
  refine ⟨l, rfl, .inl ⟨ks, q⟩, rdE_of G.mono p.rs h1 fun w2 e2 v2 H2 h2 p2 => ?_⟩
  replace h2 := ok_iff.mp h2
  obtain ⟨y, ey, h2⟩ := h2
  replace h2 := ok_iff.mp h2
  obtain ⟨key, ekey, h2⟩ := h2
  refine rdE_of G.mono p2.rs h2 fun w3 e3 v3 H3 h p3 => ?_
  have p23 := p2.trans p.rs p3
  have rw1 := p.later p23.ev r.sok r
  have p4 := p.trans r p23
  obtain ⟨l', ks', el, q', rs'⟩ := rw_dict ek rw1
  cases el
  have hk : v2 = kV key := by
    cases w2 with
    | d z => cases ey; exact rd_key ekey p2.rw
    | src => cases ey
    | lst z => cases ey; cases ekey
    | vlst z => cases ey; cases ekey
    | dct z => cases ey; cases ekey
    | vdct z => cases ey; cases ekey
  refine ⟨valV ks' key, .inl ⟨ks', key, q', hk, rfl⟩, ?_⟩
  cases w3 <;> first | exact h.elim | skip
  rename_i z
  cases hl : dlook kvs key with
  | none =>
    rw [hl] at h
    rw [(rs'.look (k := key)).2 hl]
    exact h _ _ (p4.val p3.rw rfl)
  | some x =>
    obtain ⟨u, hu, ru⟩ := (rs'.look (k := key)).1 x hl
    rw [hl] at h
    rw [hu]
    exact h _ _ (p4.val ru rfl)
theorem s_itemsL (G : Good X Γ) {i : Nat} {x : Str} {px apos cpos : Pos} (hg : Gl X "list") (hN : X.N[i]? = some x) (hv : Vis X.env.scope x) (hd : (x == ("__debug__" : Str)) = false) (hcd : (x == ("__classdict__" : Str)) = false) (hline : (apos.endLine == cpos.line) = true) :
    PE X (.Call (.Name "list" p) [.Call (.Attribute (.Name x px) "items" apos) [] [] cpos] [] pos) (rdE Γ X.K (.itemsL i)) := by
  refine weakE (LiI.pe_listItems G.calm (pe_var hN hv hd hcd) hg (G.blt _ (by decide)) (by decide +kernel) (by rfl) hline (by rfl)) fun σ H Q ⟨sr, env, r, h⟩ => ?_
  obtain ⟨o, e1, h1⟩ := ok_iff.mp h
  obtain ⟨w, e2, h2⟩ := ok_iff.mp h1
  subst e2
  clear h h1
  have h := h2
  clear h2
  obtain ⟨hvw, v, ev, rw⟩ := r.ats i w e1
  cases w <;> first | exact h.elim | skip
  rename_i kvs
  obtain ⟨l, ks, rfl, q, rs⟩ := rw
  refine ⟨.ref l, ev, l, ks, rfl, q, fun H' t ts hk ht hts hnt hl hp => ?_⟩
  have per : Per H H' := ⟨fun a xs e => hk a _ e, fun a o u e => hk a _ e⟩
  have so : SrOk sr H' := by
    cases hs : sr with
    | none => trivial
    | some p =>
      have := r.sok
      rw [hs] at this
      obtain ⟨l, m, t, cs, e1, e2⟩ := this
      exact ⟨l, m, t, cs, hk _ _ e1, hk _ _ e2⟩
  refine h _ _ ⟨r.keep per so fun a u _ e => hk a u e, ⟨t, _, rfl, hl, ?_⟩, fun _ a e => by cases e; exact ht, ⟨per, fun a u e _ => .inl (hk a u e)⟩, fun _ z => z⟩
  have go : ∀ {ts : List Addr} {ks : List (Key × V)} {kvs : List (PyData × PyData)}, Paired (fun (t : Addr) (q : Key × V) => H' t = some (.tup [kV q.1, q.2])) ts ks → RKs X.K H kvs ks → RDs X.K H' (kvs.map fun kv => PyData.tuple [kv.1, kv.2]) (ts.map V.ref) := by
    intro ts ks kvs hp
    induction hp generalizing kvs with
    | nil => intro r; cases r; exact .nil
    | cons e _ ih =>
      intro r
      cases r with
      | cons h r => exact .cons (.tuple (.inl (.inl e)) (.cons (rd_keyD _) (.cons (h.per per) .nil))) (ih r)
  exact go hp rs
/-! ### calls of defs -/
theorem Paired.length' {α β : Type} {R : α → β → Prop} : ∀ {xs : List α} {ys : List β}, Paired R xs ys → xs.length = ys.length
  | _, _, .nil => rfl
  | _, _, .cons _ r => congrArg (· + 1) (Paired.length' r)
theorem s_call (G : Good X Γ) {f : Str} {sp : Spec} {e : Expr} {es : List Expr} {ces : Es} (hf : Γ f = some sp) (hg : Gl X f) (hdb : (f == ("__debug__" : Str)) = false) (hs : (e :: es).all nostar = true) (ha : PA X (e :: es) (rdEs Γ X.K ces)) :
    PE X (.Call (.Name f p) (e :: es) [] pos) (rdE Γ X.K (.call f ces)) := by
  obtain ⟨fa, fd, ps, k, F, hr, hm, hk, hb⟩ := (G.call f sp hf).is
  rw [List.all_cons, Bool.and_eq_true] at hs
  refine ⟨fun pins s σ H Q I ⟨sr, env, r, h⟩ => ?_⟩
  refine wpAny_Call_Name_kw (ld_glob I hg hm ?_ hdb)
  refine PySem.W.callWith_K (h₀ := X.base) I.ok.mod.kin hk (thn (ha.run pos pins s σ H _ I (rdEs_of (Q' := fun vs H1 => ∃ ws e1, PostL X.K sr H σ env e1 ws vs H1 ∧ ws.all W.arg = true ∧ sp ws fun w => w.gives = true ∧ ∀ v H', CPost X.K sr H1 w v H' → Q v H') G.mono r h fun ws e1 vs H1 h p => ?_)) fun us s1 ⟨vs, H1, I1, rv, ws, e1, p, harg, q⟩ => ⟨I1.kIn, ?_⟩) (star_cons hs.1) (backTo_any hs.2)
  · obtain ⟨harg, h⟩ := h
    replace h := ok_iff.mp h
    obtain ⟨sp', e, h⟩ := h
    rw [hf] at e
    cases e
    refine ⟨ws, e1, p, harg, G.mono f sp hf _ _ _ h fun w h => ⟨h.1, fun v H' c => h.2 v H' ?_⟩⟩
    exact ⟨p.rs.keep c.per c.sok fun a u ho e => c.keep a u e (p.rs.sno a ho), c.rw, fun ho a e => p.ev.none p.rs.sok (c.fr ho a e), p.ev.trans ⟨c.per, fun a u e n => .inl (c.keep a u e n)⟩ p.sub, p.sub⟩
  · have hl : (us ++ []).length = ps.length := by rw [List.append_nil, ← rv.length, ← Paired.length' p.rw, F.len _ _ q]
    have hb1 := hb s1 us I1.kIn hl
    rw [List.append_nil] at hb1
    refine wpAny_call (codeAny_mono (F.run X.A X.stack s1 H1 us vs Q sr ws hr G.guards I1.env0 hb1 rv p.rs.sok p.rw harg q) fun r s' hq => ?_)
    cases r with
    | error e => exact False.elim hq
    | ok fl =>
      cases fl with
      | ret u => exact I1.after hq
      | next => exact False.elim hq
      | brk => exact False.elim hq
      | cont => exact False.elim hq
end
end Cal
set_option Elab.async false
set_option linter.all false
set_option maxRecDepth 100000
set_option maxHeartbeats 4000000
namespace Cal
open PySem PySem.Spec PyProof.Rows L2

/-! ## targets, what is walked, comprehensions -/
section
variable {K : PySem.W.Frag} {sr : Sr} {H : Hp} {σ : St} {env : EnvC}
/-- a slot is stored -/
theorem RelS.setW (r : RelS K sr H σ env) {i : Nat} {w : W} {v : V} (hi : i < env.length) (hw : RelW K sr H w v) (hv : w.view = false) (ho : w.own = true → ∀ a, v = .ref a → ¬ inSr sr a ∧ ¬ OwnAt σ env a) :
    RelS K sr H (σ.set i (some v)) (env.set i (some w)) ∧ ∀ a, OwnAt (σ.set i (some v)) (env.set i (some w)) a → OwnAt σ env a ∨ (w.own = true ∧ v = .ref a) := by
  have hi2 : i < σ.length := by rw [← r.len]; exact hi
  have one : ∀ j a, OwnI (σ.set i (some v)) (env.set i (some w)) j a → (j = i ∧ w.own = true ∧ v = .ref a) ∨ (j ≠ i ∧ OwnI σ env j a) := fun j a ⟨w', e1, e2, e3⟩ => by
    by_cases hj : i = j
    · subst hj
      rw [List.getElem?_set_self hi] at e1
      rw [List.getElem?_set_self hi2] at e3
      cases e1; cases e3
      exact .inl ⟨rfl, e2, rfl⟩
    · rw [List.getElem?_set_ne hj] at e1 e3
      exact .inr ⟨fun z => hj z.symm, w', e1, e2, e3⟩
  refine ⟨⟨by rw [List.length_set, List.length_set]; exact r.len, fun j w' e => ?_, fun j k a h1 h2 => ?_, r.sok, fun a ⟨j, hj⟩ => ?_⟩, fun a ⟨j, hj⟩ => ?_⟩
  · by_cases hj : i = j
    · subst hj
      rw [List.getElem?_set_self hi] at e
      cases e
      exact ⟨hv, v, List.getElem?_set_self hi2, hw⟩
    · rw [List.getElem?_set_ne hj] at e
      obtain ⟨h1, v', h2, h3⟩ := r.ats j w' e
      exact ⟨h1, v', by rw [List.getElem?_set_ne hj]; exact h2, h3⟩
  · rcases one j a h1 with ⟨e1, o1, v1⟩ | ⟨n1, o1⟩
    · rcases one k a h2 with ⟨e2, _, _⟩ | ⟨n2, o2⟩
      · rw [e1, e2]
      · exact absurd ⟨k, o2⟩ (ho o1 a v1).2
    · rcases one k a h2 with ⟨e2, o2, v2⟩ | ⟨n2, o2⟩
      · exact absurd ⟨j, o1⟩ (ho o2 a v2).2
      · exact r.dis j k a o1 o2
  · rcases one j a hj with ⟨_, o1, v1⟩ | ⟨_, o1⟩
    · exact (ho o1 a v1).1
    · exact r.sno a ⟨j, o1⟩
  · rcases one j a hj with ⟨_, o1, v1⟩ | ⟨_, o1⟩
    · exact .inr ⟨o1, v1⟩
    · exact .inl ⟨j, o1⟩
/-- slots forgotten -/
theorem wipeC_get {own : List Nat} : ∀ {env : EnvC} {i : Nat} {w : W}, (wipeC env own)[i]? = some (some w) → env[i]? = some (some w) ∧ i ∉ own := by
  induction own with
  | nil => intro env i w h; exact ⟨h, by simp⟩
  | cons v vs ih =>
    intro env i w h
    unfold wipeC at h
    by_cases hi : v = i
    · subst hi
      by_cases hl : v < (wipeC env vs).length
      · rw [List.getElem?_set_self hl] at h; cases h
      · rw [List.getElem?_eq_none (by rw [List.length_set]; omega)] at h; cases h
    · rw [List.getElem?_set_ne hi] at h
      obtain ⟨h1, h2⟩ := ih h
      exact ⟨h1, by simp only [List.mem_cons, not_or]; exact ⟨fun z => hi z.symm, h2⟩⟩
theorem wipeC_length {own : List Nat} : ∀ {env : EnvC}, (wipeC env own).length = env.length := by
  induction own with
  | nil => intro env; rfl
  | cons v vs ih => intro env; unfold wipeC; rw [List.length_set, ih]
theorem wipe_other {own : List Nat} : ∀ {σ : L2.St} {i : Nat}, i ∉ own → (wipe σ own)[i]? = σ[i]? := by
  induction own with
  | nil => intro σ i _; rfl
  | cons v vs ih =>
    intro σ i h
    unfold wipe
    rw [List.mem_cons, not_or] at h
    rw [List.getElem?_set_ne (fun z => h.1 z.symm), ih h.2]
theorem RelS.wipe (r : RelS K sr H σ env) (own : List Nat) : RelS K sr H (L2.wipe σ own) (wipeC env own) ∧ ∀ a, OwnAt (L2.wipe σ own) (wipeC env own) a → OwnAt σ env a := by
  have one : ∀ j a, OwnI (L2.wipe σ own) (wipeC env own) j a → OwnI σ env j a := fun j a ⟨w', e1, e2, e3⟩ => by
    obtain ⟨h1, h2⟩ := wipeC_get e1
    rw [wipe_other h2] at e3
    exact ⟨w', h1, e2, e3⟩
  refine ⟨⟨by rw [wipeC_length, wipe_length]; exact r.len, fun j w' e => ?_, fun j k a h1 h2 => r.dis j k a (one j a h1) (one k a h2), r.sok, fun a ⟨j, hj⟩ => r.sno a ⟨j, one j a hj⟩⟩, fun a ⟨j, hj⟩ => ⟨j, one j a hj⟩⟩
  obtain ⟨h1, h2⟩ := wipeC_get e
  obtain ⟨h3, v, h4, h5⟩ := r.ats j w' h1
  exact ⟨h3, v, by rw [wipe_other h2]; exact h4, h5⟩
end

/-- behind a target: plain data are stored -/
structure PostG (K : PySem.W.Frag) (sr : Sr) (H : Hp) (σ : St) (env : EnvC) (sl : List Nat) (σ' : St) (env' : EnvC) : Prop where
  rs : RelS K sr H σ' env'
  sub : ∀ a, OwnAt σ' env' a → OwnAt σ env a
  len : σ'.length = σ.length
  out : ∀ j, j ∉ sl → σ'[j]? = σ[j]?
def rdG (K : PySem.W.Frag) (t : T) : TG := fun v σ H Q => ∃ sr env x, RelS K sr H σ env ∧ RD K H x v ∧ asgT t (.d x) env fun env' => ∀ σ', PostG K sr H σ env t.slots σ' env' → Q σ' H
def rdGs (K : PySem.W.Frag) (ts : Ts) : TGs := fun vs σ H Q => ∃ sr env xs, RelS K sr H σ env ∧ RDs K H xs vs ∧ asgTs ts xs env fun env' => ∀ σ', PostG K sr H σ env ts.slots σ' env' → Q σ' H
theorem PostG.refl {K : PySem.W.Frag} {sr : Sr} {H : Hp} {σ : St} {env : EnvC} {sl : List Nat} (r : RelS K sr H σ env) : PostG K sr H σ env sl σ env := ⟨r, fun _ z => z, rfl, fun _ _ => rfl⟩
theorem PostG.trans {K : PySem.W.Frag} {sr : Sr} {H : Hp} {σ σ1 σ2 : St} {env env1 env2 : EnvC} {s1 s2 : List Nat} (a : PostG K sr H σ env s1 σ1 env1) (b : PostG K sr H σ1 env1 s2 σ2 env2) : PostG K sr H σ env (s1 ++ s2) σ2 env2 :=
  ⟨b.rs, fun p z => a.sub p (b.sub p z), b.len.trans a.len, fun j h => by
    rw [List.mem_append, not_or] at h
    rw [b.out j h.2, a.out j h.1]⟩
section
variable {X : Cx} {Γ : Gam} {pos : Pos}
theorem weakG {tg : Expr} {t t' : TG} (h : PG X tg t) (f : ∀ v σ H Q, t' v σ H Q → t v σ H Q) : PG X tg t' := ⟨fun pins s σ H v u Q I r q => h.run pins s σ H v u Q I r (f v σ H Q q)⟩
theorem weakGs {tg : List Expr} {t t' : TGs} (h : PGs X tg t) (f : ∀ v σ H Q, t' v σ H Q → t v σ H Q) : PGs X tg t' := ⟨fun pins s σ H v u Q I r q => h.run pins s σ H v u Q I r (f v σ H Q q)⟩
theorem g_name (G : Good X Γ) {i : Nat} {x : Str} (hi : X.N[i]? = some x) (hx : Loc X.env.scope x) (hf : X.fn x = true ∨ X.env.scope.names.lookup x = some .local) : PG X (.Name x pos) (rdG X.K (.name i)) := by
  refine weakG (pg_name G.nd hi hx hf) fun v σ H Q ⟨sr, env, x, r, rd, h⟩ => ?_
  obtain ⟨h1, h2, h3⟩ := h
  have z := r.setW (w := .d x) h2 rd rfl (fun q => by cases q)
  refine h3 _ ⟨z.1, fun a ha => (z.2 a ha).elim id fun q => (by cases q.1), by rw [List.length_set], fun j hj => ?_⟩
  rw [List.getElem?_set_ne]
  intro e
  exact hj (by rw [← e]; exact List.mem_cons_self)
theorem gs_nil : PGs X [] (rdGs X.K .nil) := weakGs pgs_nil fun vs σ H Q ⟨sr, env, xs, r, rd, h⟩ => by
  obtain ⟨h1, h2⟩ := h
  subst h1
  cases rd
  exact ⟨rfl, h2 _ (PostG.refl r)⟩
def isName : Expr → Bool
  | .Name .. => true | .Tuple .. => true | _ => false
theorem each_cons {e : Expr} {es : List Expr} {env : Env} (h : isName e = true) : (assignEach (e :: es) env).map (·.2) = assign e env :: (assignEach es env).map (·.2) := by
  cases e <;> first | rfl | cases h
theorem each_len : ∀ {es : List Expr} {env : Env}, es.all isName = true → (assignEach es env).length = es.length ∧ (assignEach es env).findIdx? (·.1) = none
  | [], _, _ => ⟨rfl, rfl⟩
  | e :: es, env, h => by
    rw [List.all_cons, Bool.and_eq_true] at h
    have ih := each_len (env := env) h.2
    have : assignEach (e :: es) env = (false, assign e env) :: assignEach es env := by
      have h1 := h.1
      cases e <;> first | rfl | cases h1
    rw [this]
    refine ⟨by rw [List.length_cons, ih.1]; rfl, ?_⟩
    rw [List.findIdx?_cons]
    simp [ih.2]
theorem gs_cons {e : Expr} {es : List Expr} {t : T} {ts : Ts} (he : isName e = true) (h1 : PG X e (rdG X.K t)) (h2 : PGs X es (rdGs X.K ts)) : PGs X (e :: es) (rdGs X.K (.cons t ts)) := by
  refine weakGs (pgs_cons h1 h2 (each_cons he)) fun vs σ H Q ⟨sr, env, xs, r, rd, h⟩ => ?_
  cases rd with
  | nil => exact h.elim
  | cons hx hr =>
    refine ⟨_, _, rfl, sr, env, _, r, hx, asgT_mono h fun e1 h1 σ1 p => ⟨sr, e1, _, p.rs, hr, asgTs_mono h1 fun e2 h2 σ2 p2 => h2 σ2 (p.trans p2)⟩⟩
def Ts.len : Ts → Nat
  | .nil => 0
  | .cons _ r => r.len + 1
mutual
theorem asgT_ex : ∀ {t : T} {w : W} {env : EnvC} {Q : EnvC → Prop}, asgT t w env Q → ∃ e, Q e
  | .name i, w, env, Q, h => ⟨_, h.2.2⟩
  | .tup ts, w, env, Q, h => by
    obtain ⟨xs, e, h⟩ := ok_iff.mp h
    exact (asgTs_ex h).2
theorem asgTs_ex : ∀ {ts : Ts} {xs : List PyData} {env : EnvC} {Q : EnvC → Prop}, asgTs ts xs env Q → xs.length = ts.len ∧ ∃ e, Q e
  | .nil, xs, env, Q, h => ⟨by rw [h.1]; rfl, _, h.2⟩
  | .cons t r, [], env, Q, h => h.elim
  | .cons t r, x :: xs, env, Q, h => by
    obtain ⟨e, h⟩ := asgT_ex (t := t) h
    obtain ⟨h1, h2⟩ := asgTs_ex h
    exact ⟨by rw [List.length_cons, h1]; rfl, h2⟩
end
theorem g_tup (G : Good X Γ) {es : List Expr} {k : Nat} {ts : Ts} (he : es.all isName = true) (hl : ts.len = es.length) (h : PGs X es (rdGs X.K ts)) : PG X (.Tuple es k pos) (rdG X.K (.tup ts)) := by
  refine weakG (pg_tup (n := es.length) G.calm h (each_len he).1 (each_len he).2) fun v σ H Q ⟨sr, env, x, r, rd, h⟩ => ?_
  replace h := ok_iff.mp h
  obtain ⟨xs, e, h⟩ := h
  have e := tup?_some e
  cases e
  cases rd with
  | tuple ht hr =>
    refine ⟨_, _, rfl, ht, ?_, sr, env, _, r, hr, h⟩
    rw [← hr.length, (asgTs_ex h).1, hl]
end

/-! ### what is walked -/
structure EvL (sr : Sr) (O : Addr → Prop) (H H' : Hp) : Prop where
  per : Per H H'
  keep : ∀ a u, H a = some u → ¬ inSr sr a → ¬ O a → H' a = some u
def Grow (H H' : Hp) : Prop := ∀ a u, H a = some u → H' a = some u
/-- an iterator that yields the data xs, one after another -/
structure Yi (K : PySem.W.Frag) (sr : Sr) (O : Addr → Prop) (J : It) (xs : List PyData) (H1 : Hp) : Prop where
  go : ∀ i H, EvL sr O H1 H → i < xs.length → J.go i H
  yld : ∀ i H x H', EvL sr O H1 H → i < xs.length → J.yld i H x H' → Grow H H' ∧ ∃ d, xs[i]? = some d ∧ RD K H' d x
  stop : ∀ i H, EvL sr O H1 H → xs.length ≤ i → J.stop i H
structure PostI (K : PySem.W.Frag) (sr : Sr) (H : Hp) (σ : St) (env env' : EnvC) (xs : List PyData) (J : It) (H' : Hp) : Prop where
  rs : RelS K sr H' σ env'
  ev : Evo sr σ env H H'
  sub : ∀ a, OwnAt σ env' a → OwnAt σ env a
  yi : Yi K sr (OwnAt σ env') J xs H'
def rdI (Γ : Gam) (K : PySem.W.Frag) (c : I) : TI := fun σ H R => ∃ sr env, RelS K sr H σ env ∧ wpI Γ c env fun xs env' => ∀ J H', PostI K sr H σ env env' xs J H' → R J H'
section
variable {K : PySem.W.Frag} {sr : Sr} {O : Addr → Prop} {H : Hp}
theorem Yi.list {a : Addr} {vs : List V} {xs : List PyData} (h : Rd H a (.lst vs)) (rs : RDs K H xs vs) (n1 : ∀ u, H a = some u → (∀ o x, u ≠ .frz o x) → ¬ inSr sr a ∧ ¬ O a) : Yi K sr O (Itl K a) xs H := by
  have keep : ∀ {H'}, EvL sr O H H' → SqL K H' a vs ∧ RDs K H' xs vs := fun {H'} e => by
    refine ⟨.inl ?_, rs.per e.per⟩
    rcases h with h | ⟨o, h⟩
    · exact .inl (e.keep a _ h (n1 _ h (fun _ _ z => by cases z)).1 (n1 _ h (fun _ _ z => by cases z)).2)
    · exact .inr ⟨o, e.per.frz _ _ _ h⟩
  refine ⟨fun i H' e hi => ?_, fun i H' x H'' e hi y => ?_, fun i H' e hi => ⟨vs, (keep e).1, by rw [← rs.length]; exact hi⟩⟩
  · obtain ⟨v, hv, _⟩ := rs.get (List.getElem?_eq_getElem hi)
    exact ⟨vs, v, (keep e).1, hv⟩
  · obtain ⟨e1, e2⟩ := y
    subst e1
    refine ⟨fun _ _ z => z, ?_⟩
    exact (keep e).2.get' (e2 vs (keep e).1)
theorem Yi.tup {a : Addr} {vs : List V} {xs : List PyData} (h : SqT K H a vs) (rs : RDs K H xs vs) : Yi K sr O (Itt K a) xs H := by
  have keep : ∀ {H'}, EvL sr O H H' → SqT K H' a vs ∧ RDs K H' xs vs := fun {H'} e => ⟨e.per.sqT h, rs.per e.per⟩
  refine ⟨fun i H' e hi => ?_, fun i H' x H'' e hi y => ?_, fun i H' e hi => ⟨vs, (keep e).1, by rw [← rs.length]; exact hi⟩⟩
  · obtain ⟨v, hv, _⟩ := rs.get (List.getElem?_eq_getElem hi)
    exact ⟨vs, v, (keep e).1, hv⟩
  · obtain ⟨e1, e2⟩ := y
    subst e1
    refine ⟨fun _ _ z => z, ?_⟩
    exact (keep e).2.get' (e2 vs (keep e).1)
theorem Yi.keys {a : Addr} {o : Obj} {ks : List (Key × V)} {kvs : List (PyData × PyData)} (h : H a = some (.frz o (.dK ks))) (rs : RKs K H kvs ks) : Yi K sr O (Itk a o ks) (kvs.map (·.1)) H := by
  have hl := rs.length
  refine ⟨fun i H' e hi => ⟨e.per.frz _ _ _ h, by simpa [hl] using hi⟩, fun i H' x H'' e hi y => ?_, fun i H' e hi => ⟨e.per.frz _ _ _ h, by simpa [hl] using hi⟩⟩
  obtain ⟨e1, k, v, hk, ex⟩ := y
  subst e1 ex
  refine ⟨fun _ _ z => z, keyD k, ?_, rd_keyD k⟩
  rw [rs.keys, List.getElem?_map, hk]; rfl
theorem Yi.range {lo : Int} {n : Nat} : Yi K sr O (Itr lo n) ((List.range n).map fun (k : Nat) => PyData.int (lo + (k : Int))) H := by
  refine ⟨fun i H' e hi => (show i < n by simpa using hi), fun i H' x H'' e hi y => ?_, fun i H' e hi => (show n ≤ i by simpa using hi)⟩
  obtain ⟨e1, ex⟩ := y
  subst e1 ex
  refine ⟨fun _ _ z => z, _, ?_, .int _⟩
  rw [List.getElem?_map, List.getElem?_range (by simpa using hi)]; rfl
end
section
variable {X : Cx} {Γ : Gam} {pos : Pos} {a b : Expr} {ca cb : E} {tg : Expr} {p : Pos}
/-- a list, a tuple, a locked dict -/
def iAny (K : PySem.W.Frag) (tl : TE) : TI := fun σ H R => tl σ H fun x H1 => ∃ a, x = .ref a ∧ (((∃ xs, SqL K H1 a xs) ∧ R (Itl K a) H1) ∨ ((∃ xs, SqT K H1 a xs) ∧ R (Itt K a) H1) ∨ ∃ o kvs, H1 a = some (.frz o (.dK kvs)) ∧ R (Itk a o kvs) H1)
theorem pi_any (hl : PE X a tl) : PI X tg a (iAny X.K tl) := by
  refine ⟨fun pins s σ H R I h => ?_⟩
  refine thn (hl.run pins s σ H _ I h) fun v s1 ⟨x, H1, I1, r1, q1⟩ => ?_
  obtain ⟨d, e, q⟩ := q1
  subst e
  cases r1
  rcases q with ⟨⟨xs, hq⟩, q⟩ | ⟨⟨xs, hq⟩, q⟩ | ⟨o, kvs, hq, q⟩
  · obtain ⟨its, rv, p, hz⟩ := I1.list hq
    refine wpAny_pyIter_list p.isList ?_
    refine ⟨s1.heap.objs.size, [s1.heap.objs.size], _, _, H1, rfl, I1.kept (t' := s1.toks) fun b o e => Heap.get?_push_of_some _ e, turn_list d _, ⟨_, Heap.get?_push_size _ rfl, rfl, rfl⟩, fun b hb => ?_, q⟩
    have e : b = s1.heap.objs.size := by simpa using hb
    subst e
    exact I1.fpOk (Nat.le_refl _) (I1.hok.fresh (Nat.le_refl _))
  · obtain ⟨its, rv, p, hz⟩ := I1.tuple hq
    refine wpAny_pyIter_tuple (show s1.heap.IsTuple d its.toArray from p) ?_
    refine ⟨s1.heap.objs.size, [s1.heap.objs.size], _, _, H1, rfl, I1.kept (t' := s1.toks) fun b o e => Heap.get?_push_of_some _ e, turn_tuple d _, ⟨_, Heap.get?_push_size _ rfl, rfl, rfl⟩, fun b hb => ?_, q⟩
    have e : b = s1.heap.objs.size := by simpa using hb
    subst e
    exact I1.fpOk (Nat.le_refl _) (I1.hok.fresh (Nat.le_refl _))
  · obtain ⟨hs, hgd, hx, es, ep, vs, hdt, hsz, kv, hm⟩ := I1.frzK hq
    refine iter_keys hs hgd hx hdt (pi_one (tk := s1.toks) I1 _ (turn_keys _ hdt) ⟨_, Heap.get?_push_size _ rfl, rfl, ?_⟩ q)
    rw [hsz] <;> rfl
end
end Cal
set_option Elab.async false
set_option linter.all false
set_option maxRecDepth 100000
set_option maxHeartbeats 4000000
namespace Cal
open PySem PySem.Spec PyProof.Rows L2

/-! ## tests, chains, what is walked, comprehensions -/
def cmpO : CmpOp → Option Bo
  | .Eq => some .eq | .NotEq => some .ne | .Lt => some .lt | .LtE => some .le | .Gt => some .gt | .GtE => some .ge | .In => some .inn | .NotIn => some .nin | _ => none
section
variable {X : Cx} {Γ : Gam} {pos : Pos} {a b c : Expr} {ca cb cc : E}
theorem cmp_key (G : Good X Γ) {op : CmpOp} {o : Bo} (h : cmpO op = some o) : CmpKey X op o := by
  cases op <;> cases h
  · exact k_eq G
  · exact k_ne G
  · exact k_lt
  · exact k_le
  · exact k_gt
  · exact k_ge
  · exact k_in G
  · exact k_nin G
theorem s_cmpK (G : Good X Γ) {op : CmpOp} {o : Bo} (h : cmpO op = some o) (ha : PE X a (rdE Γ X.K ca)) (hb : PE X b (rdE Γ X.K cb)) (hm : behindInMarks op b = false) : PE X (.Compare a [op] [b] pos) (rdE Γ X.K (.bin o ca cb)) := by
  obtain ⟨r, ho, key⟩ := cmp_key G h
  exact s_cmp G ho ha hb hm key
def binO : Operator → Option Bo
  | .Add => some .add | .Sub => some .sub | .Mult => some .mul | .FloorDiv => some .fdiv | .Mod => some .mod | .Pow => some .pow | _ => none
theorem s_binK (G : Good X Γ) {op : Operator} {o : Bo} (h : binO op = some o) (ha : PE X a (rdE Γ X.K ca)) (hb : PE X b (rdE Γ X.K cb)) : PE X (.BinOp a op b pos) (rdE Γ X.K (.bin o ca cb)) := by
  cases op <;> cases h
  · exact s_add G ha hb
  · exact s_sub G ha hb
  · exact s_mul G ha hb
  · exact s_mod G ha hb
  · exact s_pow G ha hb
  · exact s_fdiv G ha hb
theorem t_cmpK (G : Good X Γ) {op : CmpOp} {o : Bo} (h : cmpO op = some o) (ha : PE X a (rdE Γ X.K ca)) (hb : PE X b (rdE Γ X.K cb)) (hm : behindInMarks op b = false) : PT X (.Compare a [op] [b] pos) (rdT Γ X.K (.bin o ca cb)) := by
  obtain ⟨r, ho, key⟩ := cmp_key G h
  refine weakT (pt_cmpR ho ha hb hm) fun σ H Q ⟨sr, env, r, h⟩ => rdE_of G.mono r h fun w e1 v H1 h p => rdE_of G.mono p.rs h fun w2 e2 v2 H2 h p2 => ?_
  exact key r (p.later p2.ev r.sok r) (p.trans r p2) h
theorem Post.same {K : PySem.W.Frag} {sr : Sr} {H : Hp} {σ : St} {env env' : EnvC} {w : W} {v : V} {H' : Hp} (p : Post K sr H σ env env' w v H') (ho : w.own = false) : Post K sr H' σ env' env' w v H' :=
  ⟨p.rs, p.rw, fun z => (by rw [ho] at z; cases z), Evo.refl, fun _ z => z⟩
theorem chain_key (G : Good X Γ) {op op' : CmpOp} {o o' : Bo} {r r' : R2} (key : BinKey X o r) (key' : BinKey X o' r') {σ : St} {H : Hp} {Q : VK} (h : rdE Γ X.K (.chain o o' ca cb cc) σ H Q) : tChain r r' (rdE Γ X.K ca) (rdE Γ X.K cb) (rdE Γ X.K cc) σ H Q := by
  obtain ⟨sr, env, r, h⟩ := h
  refine rdE_of G.mono r h fun w e1 v H1 h p => rdE_of G.mono p.rs h fun w2 e2 v2 H2 h p2 => ?_
  obtain ⟨ho, h⟩ := h
  refine key p2.rs (p.later p2.ev r.sok r) (p2.same ho) (boW_mono h fun u h v' H' p4 => ?_)
  replace h := ok_iff.mp h
  obtain ⟨k, e, h⟩ := h
  have q := bool?_some e
  subst q
  refine ⟨k, rw_bool p4.rw, ?_⟩
  have p24 := (p.trans r p2).trans r p4
  cases k with
  | false =>
    rw [if_neg Bool.false_ne_true] at h ⊢
    exact h _ _ (p24.val (.bool _) rfl)
  | true =>
    rw [if_pos rfl] at h ⊢
    refine rdE_of G.mono p4.rs h fun w3 e3 v3 H3 h p5 => ?_
    have z : ∀ {P : Prop}, w2.own = true → P := fun z => (by rw [ho] at z; cases z)
    have rw4 : RelW X.K sr H' w2 v2 := p2.rw.evo p4.ev p2.rs.sok fun q => z q
    have rw5 : RelW X.K sr H3 w2 v2 := rw4.evo p5.ev p4.rs.sok fun q => z q
    exact key' r rw5 (p24.trans r p5) h
theorem s_chain (G : Good X Γ) {op op' : CmpOp} {o o' : Bo} (h : cmpO op = some o) (h' : cmpO op' = some o') (ha : PE X a (rdE Γ X.K ca)) (hb : PE X b (rdE Γ X.K cb)) (hc : PE X c (rdE Γ X.K cc)) (hm : lastMarks [op, op'] [b, c] = false) :
    PE X (.Compare a [op, op'] [b, c] pos) (rdE Γ X.K (.chain o o' ca cb cc)) := by
  obtain ⟨r, ho, key⟩ := cmp_key G h
  obtain ⟨r', ho', key'⟩ := cmp_key G h'
  exact weakE (pe_chain ho ho' ha hb hc hm) fun σ H Q h => chain_key (op := op) (op' := op') G key key' h
theorem t_chain (G : Good X Γ) {op op' : CmpOp} {o o' : Bo} (h : cmpO op = some o) (h' : cmpO op' = some o') (ha : PE X a (rdE Γ X.K ca)) (hb : PE X b (rdE Γ X.K cb)) (hc : PE X c (rdE Γ X.K cc)) (hm : lastMarks [op, op'] [b, c] = false) :
    PT X (.Compare a [op, op'] [b, c] pos) (rdT Γ X.K (.chain o o' ca cb cc)) := by
  obtain ⟨r, ho, key⟩ := cmp_key G h
  obtain ⟨r', ho', key'⟩ := cmp_key G h'
  exact weakT (pt_chain ho ho' ha hb hc hm) fun σ H Q h => chain_key (op := op) (op' := op') G key key' h
theorem t_not (G : Good X Γ) (ha : PT X a (rdT Γ X.K ca)) : PT X (.UnaryOp .Not a pos) (rdT Γ X.K (.un .not ca)) := by
  refine weakT (pt_not ha) fun σ H Q ⟨sr, env, r, h⟩ => rdE_of G.mono r h fun w e1 v H1 h p => ?_
  replace h := ok_iff.mp h
  obtain ⟨i, e, h⟩ := h
  have e2 := bool?_some e
  subst e2
  obtain ⟨b, e, q⟩ := h _ _ (p.val (.bool _) rfl)
  cases e
  exact ⟨i, rw_bool p.rw, q⟩
theorem t_and (G : Good X Γ) {rest : List Expr} (ha : PT X a (rdT Γ X.K ca)) (hb : PW X (.BoolOp .And (b :: rest) pos) (rdT Γ X.K cb)) : PW X (.BoolOp .And (a :: b :: rest) pos) (rdT Γ X.K (.and ca cb)) := by
  have h0 := pw_and ha hb
  refine ⟨fun wh pins s σ H Q I hh => h0.run wh pins s σ H Q I ?_⟩
  obtain ⟨sr, env, r, h⟩ := hh
  refine rdE_of G.mono r h fun w e1 v H1 h p => ?_
  replace h := ok_iff.mp h
  obtain ⟨k, e, h⟩ := h
  have q := bool?_some e
  subst q
  refine ⟨k, rw_bool p.rw, ?_⟩
  cases k with
  | true =>
    rw [if_pos rfl] at h ⊢
    refine rdE_of G.mono p.rs h fun w2 e2 v2 H2 h p2 => ?_
    replace h := ok_iff.mp h
    obtain ⟨k2, e, h⟩ := h
    have q := bool?_some e
    subst q
    exact h _ _ (p.trans r p2)
  | false =>
    rw [if_neg Bool.false_ne_true] at h ⊢
    obtain ⟨b, e, q⟩ := h _ _ (p.val (.bool _) rfl)
    cases e
    exact q
theorem t_or (G : Good X Γ) {rest : List Expr} (ha : PT X a (rdT Γ X.K ca)) (hb : PW X (.BoolOp .Or (b :: rest) pos) (rdT Γ X.K cb)) : PW X (.BoolOp .Or (a :: b :: rest) pos) (rdT Γ X.K (.or ca cb)) := by
  have h0 := pw_or ha hb
  refine ⟨fun wh pins s σ H Q I hh => h0.run wh pins s σ H Q I ?_⟩
  obtain ⟨sr, env, r, h⟩ := hh
  refine rdE_of G.mono r h fun w e1 v H1 h p => ?_
  replace h := ok_iff.mp h
  obtain ⟨k, e, h⟩ := h
  have q := bool?_some e
  subst q
  refine ⟨k, rw_bool p.rw, ?_⟩
  cases k with
  | false =>
    rw [if_neg Bool.false_ne_true] at h ⊢
    refine rdE_of G.mono p.rs h fun w2 e2 v2 H2 h p2 => ?_
    replace h := ok_iff.mp h
    obtain ⟨k2, e, h⟩ := h
    have q := bool?_some e
    subst q
    exact h _ _ (p.trans r p2)
  | true =>
    rw [if_pos rfl] at h ⊢
    obtain ⟨b, e, q⟩ := h _ _ (p.val (.bool _) rfl)
    cases e
    exact q
/-! ### what is walked -/
theorem i_it (G : Good X Γ) {tg : Expr} (ha : PE X a (rdE Γ X.K ca)) : PI X tg a (rdI Γ X.K (.it ca)) := by
  refine weakI (pi_any ha) fun σ H R ⟨sr, env, r, h⟩ => rdE_of G.mono r h fun w e1 v H1 h p => ?_
  obtain ⟨hv, h⟩ := h
  have sr1 : ∀ a, v = .ref a → w.own = true → ¬ inSr sr a ∧ ¬ OwnAt σ e1 a := fun a e ho => ⟨r.sok.notIn (p.fr ho a e), fun z => r.notOwn (p.fr ho a e) (p.sub a z)⟩
  rcases h with h | ⟨kvs, e, h⟩
  · replace h := ok_iff.mp h
    obtain ⟨xs, e, h⟩ := h
    cases w with
    | d x =>
      cases x <;> first | cases e | skip
      · have q := p.rw
        have q : RD X.K H1 (.list _) v := q
        cases q with
        | list h1 h2 => exact ⟨_, rfl, .inl ⟨⟨_, .inl (.inr ⟨_, h1⟩)⟩, h _ _ ⟨p.rs, p.ev, p.sub, Yi.list (.inr ⟨_, h1⟩) h2 fun u e n => by rw [h1] at e; cases e; exact absurd rfl (n _ _)⟩⟩⟩
      · obtain ⟨l, vs, rfl, q, rs⟩ := rw_tup p.rw
        exact ⟨_, rfl, .inr (.inl ⟨⟨_, q⟩, h _ _ ⟨p.rs, p.ev, p.sub, Yi.tup q rs⟩⟩)⟩
    | lst xs =>
      cases e
      obtain ⟨l, vs, rfl, q, rs⟩ := p.rw
      exact ⟨_, rfl, .inl ⟨⟨_, .inl (.inl q)⟩, h _ _ ⟨p.rs, p.ev, p.sub, Yi.list (.inl q) rs fun u e n => sr1 l rfl rfl⟩⟩⟩
    | vlst xs => cases hv
    | _ => cases e
  · subst e
    have q := p.rw
    have q : RD X.K H1 (.dict _) v := q
    cases q with
    | dict h1 h2 => exact ⟨_, rfl, .inr (.inr ⟨_, _, h1, h _ _ ⟨p.rs, p.ev, p.sub, Yi.keys h1 h2⟩⟩)⟩
end
end Cal
set_option Elab.async false
set_option linter.all false
set_option maxRecDepth 100000
set_option maxHeartbeats 4000000
namespace Cal
open PySem PySem.Spec PyProof.Rows L2

/-! ## ranges, pairs, comprehensions -/
theorem rngD_zero (i : Int) : rngD 0 i = (List.range i.toNat).map fun (k : Nat) => PyData.int (0 + (k : Int)) := by unfold rngD; rw [Int.sub_zero]
section
variable {X : Cx} {Γ : Gam} {pos : Pos} {a b c : Expr} {ca cb cc : E} {p : Pos}
theorem i_rng1 (G : Good X Γ) {tg : Expr} (hg : Gl X "range") (ha : PE X a (rdE Γ X.K ca)) (hs : nostar a = true) : PI X tg (.Call (.Name "range" p) [a] [] pos) (rdI Γ X.K (.rng1 ca)) := by
  refine weakI (pi_range1 hg (G.blt _ (by decide)) (pa_cons ha pa_nil (star_cons hs)) (star_cons hs)) fun σ H R ⟨sr, env, r, h⟩ => rdE_of G.mono r h fun w e1 v H1 h p => ?_
  replace h := ok_iff.mp h
  obtain ⟨i, e, hf, h⟩ := h
  have e2 := int?_some e
  subst e2
  refine ⟨i, by rw [rw_int p.rw], hf.1, hf.2, h _ _ ⟨p.rs, p.ev, p.sub, ?_⟩⟩
  rw [rngD_zero]
  exact Yi.range
theorem i_rng2 (G : Good X Γ) {tg : Expr} (hg : Gl X "range") (ha : PE X a (rdE Γ X.K ca)) (hb : PE X b (rdE Γ X.K cb)) (hs : nostar a = true) (hs2 : nostar b = true) : PI X tg (.Call (.Name "range" p) [a, b] [] pos) (rdI Γ X.K (.rng2 ca cb)) := by
  refine weakI (pi_range2 hg (G.blt _ (by decide)) (pa_cons ha (pa_cons hb pa_nil (star_cons hs2)) (star_cons hs)) (by rw [star_cons hs, star_cons hs2]; rfl) (star_cons hs2)) fun σ H R ⟨sr, env, r, h⟩ =>
    rdE_of G.mono r h fun w e1 v H1 h0 p => rdE_of G.mono p.rs h0 fun w2 e2 v2 H2 h2 p2 => ?_
  clear h h0
  obtain ⟨i, e, h3⟩ := ok_iff.mp h2
  obtain ⟨j, e', hf, hf2, h⟩ := ok_iff.mp h3
  clear h2 h3
  have q1 := int?_some e
  have q2 := int?_some e'
  subst q1; subst q2
  have p3 := p.trans r p2
  refine ⟨i, j, by rw [rw_int p.rw, rw_int p2.rw], ⟨hf.1, hf.2, hf2.1, hf2.2⟩, h _ _ ⟨p3.rs, p3.ev, p3.sub, Yi.range⟩⟩
/-! ### a comprehension -/
def rdB (Γ : Gam) (K : PySem.W.Frag) (c : Oe) : TT := fun σ H Q => ∃ sr env, RelS K sr H σ env ∧ wpB Γ c env fun b env' => ∀ H', Post K sr H σ env env' (.d .none) .non H' → Q b H'
theorem b_none : PTs X [] (rdB Γ X.K .none) := ⟨fun pins s σ H Q I ⟨sr, env, r, h⟩ => pts_nil.run pins s σ H Q I (h H (Post.start r))⟩
theorem b_some (G : Good X Γ) (ha : PT X a (rdT Γ X.K ca)) : PTs X [a] (rdB Γ X.K (.some ca)) := by
  have h0 := pts_one ha
  refine ⟨fun pins s σ H Q I hh => h0.run pins s σ H Q I ?_⟩
  obtain ⟨sr, env, r, h⟩ := hh
  refine rdE_of G.mono r h fun w e1 v H1 h p => ?_
  replace h := ok_iff.mp h
  obtain ⟨k, e, h⟩ := h
  have q := bool?_some e
  subst q
  exact ⟨k, rw_bool p.rw, h _ (p.val .none rfl)⟩
theorem wipe_eq : ∀ (vs : List Nat) {σ σ2 : L2.St}, σ2.length = σ.length → (∀ j, j ∉ vs → σ2[j]? = σ[j]?) → wipe σ2 vs = wipe σ vs := by
  intro vs σ σ2 hl h
  refine List.ext_getElem? fun j => ?_
  by_cases hj : j ∈ vs
  · have key : ∀ (τ : L2.St) (vs : List Nat), j ∈ vs → j < τ.length → (wipe τ vs)[j]? = some none := by
      intro τ vs
      induction vs with
      | nil => intro h; cases h
      | cons v vs ih =>
        intro h hl
        unfold wipe
        by_cases hv : v = j
        · subst hv; rw [List.getElem?_set_self (by rw [wipe_length]; exact hl)]
        · rw [List.getElem?_set_ne hv]
          exact ih ((List.mem_cons.mp h).resolve_left fun z => hv z.symm) hl
    by_cases hlt : j < σ.length
    · rw [key σ vs hj hlt, key σ2 vs hj (by rw [hl]; exact hlt)]
    · rw [List.getElem?_eq_none (by rw [wipe_length]; omega), List.getElem?_eq_none (by rw [wipe_length]; omega)]
  · rw [wipe_other hj, wipe_other hj, h j hj]
/-- in a block every expression leaves the frame's things -/
theorem compW_drop {step : PyData → (Option PyData → Prop) → Prop} {xs acc : List PyData} {Q : List PyData → Prop} {i : Nat} {x : PyData} (h : compW step (xs.drop i) acc Q) (hx : xs[i]? = some x) :
    step x fun o => match o with
      | some y => acc.length < sizeLine ∧ compW step (xs.drop (i + 1)) (acc ++ [y]) Q
      | none => compW step (xs.drop (i + 1)) acc Q := by
  obtain ⟨hi, e⟩ := List.getElem?_eq_some_iff.mp hx
  rw [List.drop_eq_getElem_cons hi, e] at h
  exact h
/-- the frame's things through an expression that leaves its frame -/
theorem Evo.still {K : PySem.W.Frag} {sr : Sr} {σ : St} {env : EnvC} {H H' : Hp} (e : Evo sr σ env H H') (r : RelS K sr H' σ env) {a : Addr} {u : HO} (h : H a = Option.some u) (n : ¬ inSr sr a) : H' a = Option.some u := by
  rcases e.keep a u h n with z | ⟨z, o, z2⟩
  · exact z
  · obtain ⟨u', e', h'⟩ := r.ownAt z
    rw [z2] at e'
    cases e'
    rcases h' with ⟨_, h'⟩ | ⟨_, h'⟩ <;> cases h'
theorem comp_key (G : Good X Γ) {ct : T} {ci : I} {cond : Oe} {ce : E} {vs : List Nat} {σ : L2.St} {H : Hp} {Q : VK} (hh : rdE Γ X.K (.comp vs ct ci cond ce) σ H Q) :
    tLc (rdI Γ X.K ci) (rdG X.K ct) (rdB Γ X.K cond) (rdE Γ X.K ce) vs σ H Q := by
  obtain ⟨sr, env, r, h⟩ := hh
  refine ⟨sr, env, r, wpI_mono G.mono ci h fun xs e1 h J H1 p => ?_⟩
  obtain ⟨hsl, h⟩ := h
  intro D hD
  have nD : ¬ inSr sr D := p.rs.sok.notIn hD
  have oD : ¬ OwnAt σ e1 D := p.rs.notOwn hD
  refine ⟨fun i m H' => m = xs.length - i ∧ i ≤ xs.length ∧ ∃ acc avs, H' D = some (.lst avs) ∧ RDs X.K H' acc avs ∧ RelS X.K sr H' σ e1 ∧ Per H1 H' ∧ (∀ a u, H1 a = some u → ¬ inSr sr a → H' a = some u) ∧ compW _ (xs.drop i) acc _, ⟨xs.length, by omega, Nat.zero_le _, [], [], upd_same, .nil, p.rs.new hD, Per.new hD, fun a u e _ => by rw [upd_ne (ne_of_none e hD)]; exact e, h⟩, ?_⟩
  rintro i m H2 ⟨rfl, hi, acc, avs, hDl, hacc, rs2, per2, kp2, hc⟩
  have ev2 : EvL sr (OwnAt σ e1) H1 H2 := ⟨per2, fun a u e n _ => kp2 a u e n⟩
  by_cases hlt : i < xs.length
  · refine .inr ⟨p.yi.go i H2 ev2 hlt, fun H' => (i + 1) ≤ xs.length ∧ ∃ acc avs, H' D = some (.lst avs) ∧ RDs X.K H' acc avs ∧ RelS X.K sr H' σ e1 ∧ Per H1 H' ∧ (∀ a u, H1 a = some u → ¬ inSr sr a → H' a = some u) ∧ compW _ (xs.drop (i + 1)) acc _, fun H' ⟨z, q⟩ => ⟨xs.length - (i + 1), by omega, rfl, z, q⟩, fun x H3 hy => ?_⟩
    obtain ⟨gr, d, hd, rd⟩ := p.yi.yld i H2 x H3 ev2 hlt hy
    have per3 : Per H2 H3 := ⟨fun a xs e => gr a _ e, fun a o u e => gr a _ e⟩
    have so3 : SrOk sr H3 := by
      cases hs : sr with
      | none => trivial
      | some q =>
        have := rs2.sok
        rw [hs] at this
        obtain ⟨l, m, t, cs, e1, e2⟩ := this
        exact ⟨l, m, t, cs, gr _ _ e1, gr _ _ e2⟩
    have rs3 : RelS X.K sr H3 σ e1 := rs2.keep per3 so3 fun a u _ e => gr a u e
    obtain ⟨rsw, sbw⟩ := rs3.wipe vs
    have st := compW_drop hc hd
    refine ⟨sr, _, d, rsw, rd, asgT_mono st fun e2 h2 σ2 pg => ?_⟩
    refine ⟨wipe_eq _ ?_ ?_, sr, e2, pg.rs, wpB_mono G.mono cond h2 fun bb e3 h3 H4 p4 => ?_⟩
    · rw [pg.len, wipe_length]
    · intro j hj
      rw [pg.out j fun z => hj ?_, wipe_other hj]
      have := List.all_eq_true.mp hsl j z
      exact List.contains_iff_mem.mp this
    · obtain ⟨e32, h3⟩ := h3
      subst e32
      have sb2 : ∀ a, OwnAt σ2 e3 a → OwnAt σ e1 a := fun a z => sbw a (pg.sub a z)
      have k4 : ∀ a u, H3 a = some u → ¬ inSr sr a → H4 a = some u := fun a u e n => p4.ev.still p4.rs e n
      have rs4 : RelS X.K sr H4 σ e1 := rs3.keep p4.ev.per p4.rs.sok fun a u o e => k4 a u e (rs3.sno a o)
      have d4 : H4 D = some (.lst avs) := k4 D _ (gr _ _ hDl) nD
      have per4 : Per H1 H4 := (per2.trans per3).trans p4.ev.per
      have kp4 : ∀ a u, H1 a = some u → ¬ inSr sr a → H4 a = some u := fun a u e n => k4 a u (gr a u (kp2 a u e n)) n
      cases bb with
      | false =>
        rw [if_neg Bool.false_ne_true] at h3 ⊢
        exact ⟨hlt, acc, avs, d4, (hacc.per per3).per p4.ev.per, rs4, per4, kp4, h3⟩
      | true =>
        rw [if_pos rfl] at h3 ⊢
        refine rdE_of G.mono p4.rs h3 fun w e5 v H5 h5 p5 => ?_
        obtain ⟨e53, h5⟩ := h5
        subst e53
        have k5 : ∀ a u, H4 a = some u → ¬ inSr sr a → H5 a = some u := fun a u e n => p5.ev.still p5.rs e n
        have rs5 : RelS X.K sr H5 σ e1 := rs4.keep p5.ev.per p5.rs.sok fun a u o e => k5 a u e (rs4.sno a o)
        have d5 : H5 D = some (.lst avs) := k5 D _ d4 nD
        cases w <;> first | exact h5.elim | skip
        rename_i y
        have rdv : RD X.K H5 y v := p5.rw
        have hD5 : ∀ {a : Addr} {u : HO}, H1 a = some u → a ≠ D := fun e z => by rw [z, hD] at e; cases e
        have perU : Per H5 (upd H5 D (.lst (avs ++ [v]))) := ⟨fun a xs e => by rw [upd_ne (fun z => by rw [z, d5] at e; cases e)]; exact e, fun a o u e => by rw [upd_ne (fun z => by rw [z, d5] at e; cases e)]; exact e⟩
        refine ⟨avs, d5, ?_, hlt, acc ++ [y], avs ++ [v], upd_same, ?_, ?_, ?_, ?_, h5.2⟩
        · rw [← hacc.length]; exact h5.1
        · exact ((((hacc.per per3).per p4.ev.per).per p5.ev.per).per perU).append (.cons (rdv.per perU) .nil)
        · exact rs5.keep perU (rs5.sok.upd nD) fun a u o e => by rw [upd_ne (fun z => by rw [z] at o; exact oD o)]; exact e
        · exact (per4.trans p5.ev.per).trans perU
        · exact fun a u e n => by rw [upd_ne (hD5 e)]; exact k5 a u (kp4 a u e n) n
  · have e : i = xs.length := by omega
    subst e
    refine .inl ⟨p.yi.stop _ H2 ev2 (Nat.le_refl _), ?_⟩
    rw [List.drop_length] at hc
    refine hc _ _ ⟨rs2, ⟨D, avs, rfl, hDl, hacc⟩, fun _ a e => (by cases e; exact p.ev.none p.rs.sok hD), ⟨p.ev.per.trans per2, fun a u e n => ?_⟩, p.sub⟩
    rcases p.ev.keep a u e n with z | ⟨z, o, z2⟩
    · exact .inl (kp2 a u z n)
    · exact .inr ⟨z, o, per2.frz _ _ _ z2⟩
theorem s_comp (G : Good X Γ) {elt tg iter : Expr} {ifs : List Expr} {scope : Scope} {own : List (Str × Nat)} {ct : T} {ci : I} {cond : Oe} {ce : E} (hi : PI X tg iter (rdI Γ X.K ci)) (hok : BlkOk X.N X.env.scope scope own)
    (hg : ∀ (s : Shared) (H : Hp) (C : Addr) (cl : List (Str × Addr)) (fp : List Addr), PG (X.blk s H scope (compEnvC scope cl C X.env) fp) tg (rdG X.K ct))
    (ht : ∀ (s : Shared) (H : Hp) (C : Addr) (cl : List (Str × Addr)) (fp : List Addr), PTs (X.blk s H scope (compEnvC scope cl C X.env) fp) ifs (rdB Γ X.K cond))
    (he : ∀ (s : Shared) (H : Hp) (C : Addr) (cl : List (Str × Addr)) (fp : List Addr), PE (X.blk s H scope (compEnvC scope cl C X.env) fp) elt (rdE Γ X.K ce))
    (hs : ∀ x, foldedSetIterable iter X.env x = pure x) : PE X (.ListComp elt [⟨tg, iter, ifs, 0⟩] scope pos) (rdE Γ X.K (.comp (own.map (·.2)) ct ci cond ce)) :=
  weakE (pe_lc G.calm G.nd hi hok hg ht he hs) fun σ H Q h => comp_key G h
end
end Cal
set_option Elab.async false
set_option linter.all false
set_option maxRecDepth 100000
set_option maxHeartbeats 4000000
namespace Cal
open PySem PySem.Spec PyProof.Rows L2

/-! ## statements -/
/-- through statements -/
structure EvS (sr sr' : Sr) (σ : St) (env : EnvC) (σ' : St) (env' : EnvC) (H H' : Hp) : Prop where
  per : Per H H'
  keep : ∀ a u, H a = Option.some u → ¬ inSr sr a → ¬ OwnAt σ env a → H' a = Option.some u
  own : ∀ a, OwnAt σ' env' a → OwnAt σ env a ∨ H a = Option.none
  grow : ∀ a, H' a = Option.none → H a = Option.none
  src : sr' = sr ∨ ∀ a, inSr sr' a → H a = Option.none
  sok : SrOk sr H'
section
variable {K : PySem.W.Frag} {sr sr1 sr2 : Sr} {σ σ1 σ2 : St} {env env1 env2 : EnvC} {H H1 H2 : Hp}
theorem EvS.refl (r : SrOk sr H) : EvS sr sr σ env σ env H H := ⟨Per.refl, fun _ _ e _ _ => e, fun _ z => .inl z, fun _ e => e, .inl rfl, r⟩
theorem SrOk.kept {H' : Hp} (r : SrOk sr H) (h : ∀ a u, inSr sr a → H a = some u → H' a = some u) : SrOk sr H' := by
  cases sr with
  | none => trivial
  | some p =>
    obtain ⟨b, q⟩ := p
    obtain ⟨l, m, t, cs, e1, e2⟩ := r
    exact ⟨l, m, t, cs, h _ _ (.inl rfl) e1, h _ _ (.inr rfl) e2⟩
theorem EvS.trans (a : EvS sr sr1 σ env σ1 env1 H H1) (b : EvS sr1 sr2 σ1 env1 σ2 env2 H1 H2) (r : RelS K sr H σ env) : EvS sr sr2 σ env σ2 env2 H H2 := by
  have n1 : ∀ p, inSr sr1 p → inSr sr p ∨ H p = Option.none := fun p z => by
    rcases a.src with e | e
    · exact .inl (e ▸ z)
    · exact .inr (e p z)
  refine ⟨a.per.trans b.per, fun p u e h1 h2 => ?_, fun p z => ?_, fun p e => a.grow p (b.grow p e), ?_, ?_⟩
  · refine b.keep p u (a.keep p u e h1 h2) (fun z => ?_) (fun z => ?_)
    · rcases n1 p z with z | z
      · exact h1 z
      · rw [e] at z; cases z
    · rcases a.own p z with z | z
      · exact h2 z
      · rw [e] at z; cases z
  · rcases b.own p z with z | z
    · exact a.own p z
    · exact .inr (a.grow p z)
  · rcases b.src with e | e
    · rw [e]; exact a.src
    · exact .inr fun p z => a.grow p (e p z)
  · rcases a.src with e | e
    · rw [← e]; exact b.sok
    · refine a.sok.kept fun p u z hu => ?_
      obtain ⟨u0, e0, _⟩ := r.sok.got z
      refine b.keep p u hu (fun z2 => ?_) (fun z2 => ?_)
      · have := e p z2
        rw [e0] at this; cases this
      · rcases a.own p z2 with z3 | z3
        · exact r.sno p z3 z
        · rw [e0] at z3; cases z3
theorem Post.evs {w : W} {v : V} (p : Post K sr H σ env env1 w v H1) : EvS sr sr σ env σ env1 H H1 :=
  ⟨p.ev.per, fun a u e n o => (p.ev.keep a u e n).resolve_right fun z => o z.1, fun a z => .inl (p.sub a z), fun a e => p.ev.none p.rs.sok e, .inl rfl, p.rs.sok⟩
theorem PostL.evs {w : List W} {v : List V} (p : PostL K sr H σ env env1 w v H1) : EvS sr sr σ env σ env1 H H1 :=
  ⟨p.ev.per, fun a u e n o => (p.ev.keep a u e n).resolve_right fun z => o z.1, fun a z => .inl (p.sub a z), fun a e => p.ev.none p.rs.sok e, .inl rfl, p.rs.sok⟩
/-- a slot is stored -/
theorem RelS.setS (r : RelS K sr H σ env) {i : Nat} {w : W} {v : V} (hi : i < env.length) (hw : RelW K sr H w v) (hv : w.view = false) (ho : w.own = true → ∀ a, v = .ref a → ¬ inSr sr a ∧ ¬ OwnAt σ env a) : RelS K sr H (σ.set i (some v)) (env.set i (some w)) := (r.setW hi hw hv ho).1
end
/-- behind a statement that goes on -/
structure PostS (K : PySem.W.Frag) (sr : Sr) (H : Hp) (σ : St) (env : EnvC) (σ' : St) (env' : EnvC) (H' : Hp) : Prop where
  ex : ∃ sr', RelS K sr' H' σ' env' ∧ EvS sr sr' σ env σ' env' H H'
/-- behind a return -/
structure PostR (K : PySem.W.Frag) (sr : Sr) (H : Hp) (σ : St) (env : EnvC) (w : W) (v : V) (H' : Hp) : Prop where
  rw : (w.gives = true ∧ RelW K sr H' w v) ∨ (w = .src ∧ ∃ a q, v = .ref a ∧ H a = none ∧ H q = none ∧ SrcAt H' a q)
  fr : w.own = true → ∀ a, v = .ref a → H a = none ∨ OwnAt σ env a
  per : Per H H'
  keep : ∀ a u, H a = some u → ¬ inSr sr a → ¬ OwnAt σ env a → H' a = some u
  sok : SrOk sr H'
theorem RelW.sr {K : PySem.W.Frag} {sr sr' : Sr} {H : Hp} {w : W} {v : V} (h : RelW K sr H w v) (g : w.gives = true) : RelW K sr' H w v := by
  cases w <;> first | exact h | cases g
section
variable {K : PySem.W.Frag} {sr sr1 : Sr} {σ σ1 σ2 : St} {env env1 env2 : EnvC} {H H1 H2 : Hp} {w : W} {v : V}
theorem EvS.ret (a : EvS sr sr1 σ env σ1 env1 H H1) (b : PostR K sr1 H1 σ1 env1 w v H2) (r : RelS K sr H σ env) : PostR K sr H σ env w v H2 := by
  have n1 : ∀ p, inSr sr1 p → inSr sr p ∨ H p = Option.none := fun p z => by
    rcases a.src with e | e
    · exact .inl (e ▸ z)
    · exact .inr (e p z)
  refine ⟨b.rw.imp (fun h => ⟨h.1, h.2.sr h.1⟩) (fun ⟨e, x, q, e1, e2, e3, e4⟩ => ⟨e, x, q, e1, a.grow x e2, a.grow q e3, e4⟩), fun ho p e => ?_, a.per.trans b.per, fun p u e h1 h2 => ?_, ?_⟩
  · rcases b.fr ho p e with z | z
    · exact .inl (a.grow p z)
    · exact (a.own p z).symm
  · refine b.keep p u (a.keep p u e h1 h2) (fun z => ?_) (fun z => ?_)
    · rcases n1 p z with z | z
      · exact h1 z
      · rw [e] at z; cases z
    · rcases a.own p z with z | z
      · exact h2 z
      · rw [e] at z; cases z
  · rcases a.src with e | e
    · rw [← e]; exact b.sok
    · refine a.sok.kept fun p u z hu => ?_
      obtain ⟨u0, e0, _⟩ := r.sok.got z
      refine b.keep p u hu (fun z2 => ?_) (fun z2 => ?_)
      · have := e p z2
        rw [e0] at this; cases this
      · rcases a.own p z2 with z3 | z3
        · exact r.sno p z3 z
        · rw [e0] at z3; cases z3
theorem EvS.post (a : EvS sr sr1 σ env σ1 env1 H H1) (b : PostS K sr1 H1 σ1 env1 σ2 env2 H2) (r : RelS K sr H σ env) : PostS K sr H σ env σ2 env2 H2 := by
  obtain ⟨sr2, r2, e2⟩ := b.ex
  exact ⟨sr2, r2, a.trans e2 r⟩
end
/-- the ends of plain data, through those of the machine -/
structure EndsOk (K : PySem.W.Frag) (sr : Sr) (H : Hp) (σ : St) (env : EnvC) (DC : EndsC) (D : Ends) : Prop where
  nx : ∀ σ' H' env', PostS K sr H σ env σ' env' H' → DC.nx env' → D.nx σ' H'
  bk : ∀ σ' H' env', PostS K sr H σ env σ' env' H' → DC.bk env' → D.bk σ' H'
  ct : ∀ σ' H' env', PostS K sr H σ env σ' env' H' → DC.ct env' → D.ct σ' H'
  rt : ∀ w v H', PostR K sr H σ env w v H' → DC.rt w → D.rt v H'
theorem EndsOk.later {K : PySem.W.Frag} {sr sr1 : Sr} {H H1 : Hp} {σ σ1 : St} {env env1 : EnvC} {DC : EndsC} {D : Ends} (r : RelS K sr H σ env) (a : EvS sr sr1 σ env σ1 env1 H H1) (e : EndsOk K sr H σ env DC D) : EndsOk K sr1 H1 σ1 env1 DC D :=
  ⟨fun σ' H' env' p q => e.nx σ' H' env' (a.post p r) q, fun σ' H' env' p q => e.bk σ' H' env' (a.post p r) q, fun σ' H' env' p q => e.ct σ' H' env' (a.post p r) q, fun w v H' p q => e.rt w v H' (a.ret p r) q⟩
def rdS (Γ : Gam) (K : PySem.W.Frag) (c : S) : TS := fun D σ H => ∃ sr env DC, RelS K sr H σ env ∧ wpS Γ c env DC ∧ EndsOk K sr H σ env DC D
def rdSs (Γ : Gam) (K : PySem.W.Frag) (c : Ss) : TS := fun D σ H => ∃ sr env DC, RelS K sr H σ env ∧ wpSs Γ c env DC ∧ EndsOk K sr H σ env DC D
section
variable {X : Cx} {Γ : Gam} {pos : Pos} {a b c e : Expr} {ca cb cc ce : E} {p : Pos}
/-! ### blocks -/
theorem ss_nil : PSs X [] (rdSs Γ X.K .nil) := weakSs pss_nil fun D σ H ⟨sr, env, DC, r, h, ok⟩ => ok.nx _ _ _ ⟨_, r, EvS.refl r.sok⟩ h
theorem ss_cons {st : Stmt} {rest : List Stmt} {cs : S} {cr : Ss} (h1 : PS X st (rdS Γ X.K cs)) (h2 : PSs X rest (rdSs Γ X.K cr)) : PSs X (st :: rest) (rdSs Γ X.K (.cons cs cr)) :=
  weakSs (pss_cons h1 h2) fun D σ H ⟨sr, env, DC, r, h, ok⟩ =>
    ⟨sr, env, { DC with nx := fun e => wpSs Γ cr e DC }, r, h, ⟨fun σ' H' env' p q => by
      obtain ⟨sr', r', ev⟩ := p.ex
      exact ⟨sr', env', DC, r', q, ok.later r ev⟩, ok.bk, ok.ct, ok.rt⟩⟩
theorem s_pass : PS X (.Pass pos) (rdS Γ X.K .pass) := weakS ps_pass fun D σ H ⟨sr, env, DC, r, h, ok⟩ => ok.nx _ _ _ ⟨_, r, EvS.refl r.sok⟩ h
theorem s_doc {x : Str} {j : Nat} {pos' : Pos} : PS X (.Expr (.Constant (.str x) j pos) pos') (rdS Γ X.K .pass) := weakS ps_doc fun D σ H ⟨sr, env, DC, r, h, ok⟩ => ok.nx _ _ _ ⟨_, r, EvS.refl r.sok⟩ h
theorem s_brk : PS X (.Break pos) (rdS Γ X.K .brk) := weakS ps_break fun D σ H ⟨sr, env, DC, r, h, ok⟩ => ok.bk _ _ _ ⟨_, r, EvS.refl r.sok⟩ h
theorem s_cnt : PS X (.Continue pos) (rdS Γ X.K .cnt) := weakS ps_continue fun D σ H ⟨sr, env, DC, r, h, ok⟩ => ok.ct _ _ _ ⟨_, r, EvS.refl r.sok⟩ h
theorem s_ret (G : Good X Γ) (he : PE X e (rdE Γ X.K ce)) : PS X (.Return (some e) pos) (rdS Γ X.K (.ret ce)) :=
  weakS (ps_ret he) fun D σ H ⟨sr, env, DC, r, h, ok⟩ => rdE_of G.mono r h fun w e1 v H1 h p => ok.rt w v H1 ⟨.inl ⟨h.1, p.rw⟩, fun ho a e => .inl (p.fr ho a e), p.ev.per, p.evs.keep, p.rs.sok⟩ h.2
theorem s_retv {i : Nat} {x : Str} {p : Pos} (hN : X.N[i]? = some x) (hv : Vis X.env.scope x) (hd : (x == ("__debug__" : Str)) = false) (hcd : (x == ("__classdict__" : Str)) = false) : PS X (.Return (some (.Name x p)) pos) (rdS Γ X.K (.retv i)) := by
  refine weakS (ps_ret (pe_var hN hv hd hcd)) fun D σ H ⟨sr, env, DC, r, h, ok⟩ => ?_
  obtain ⟨o, e1, h1⟩ := ok_iff.mp h
  obtain ⟨w, e2, g, h2⟩ := ok_iff.mp h1
  subst e2
  obtain ⟨hvw, v, ev, rw⟩ := r.ats i w e1
  exact ⟨v, ev, ok.rt w v H ⟨.inl ⟨g, rw⟩, fun ho a e => .inr ⟨i, w, e1, ho, by rw [ev, e]⟩, Per.refl, fun _ _ e _ _ => e, r.sok⟩ h2⟩
theorem s_retN : PS X (.Return none pos) (rdS Γ X.K (.ret (.lit .none))) :=
  weakS ps_retN fun D σ H ⟨sr, env, DC, r, h, ok⟩ => ok.rt (.d .none) .non H ⟨.inl ⟨rfl, .none⟩, fun z => (by cases z), Per.refl, fun _ _ e _ _ => e, r.sok⟩ h.2
theorem s_if (G : Good X Γ) {p q : List Stmt} {cp cq : Ss} (hc : PT X c (rdT Γ X.K cc)) (hp : PSs X p (rdSs Γ X.K cp)) (hq : PSs X q (rdSs Γ X.K cq)) : PS X (.If c p q pos) (rdS Γ X.K (.ife cc cp cq)) := by
  refine weakS (ps_if hc hp hq) fun D σ H ⟨sr, env, DC, r, h, ok⟩ => rdE_of G.mono r h fun w e1 v H1 h p => ?_
  replace h := ok_iff.mp h
  obtain ⟨k, e, h⟩ := h
  have q := bool?_some e
  subst q
  refine ⟨k, rw_bool p.rw, ?_⟩
  cases k with
  | true =>
    rw [if_pos rfl] at h ⊢
    exact ⟨sr, e1, DC, p.rs, h, ok.later r p.evs⟩
  | false =>
    rw [if_neg Bool.false_ne_true] at h ⊢
    exact ⟨sr, e1, DC, p.rs, h, ok.later r p.evs⟩
theorem s_exp (G : Good X Γ) (he : PE X e (rdE Γ X.K ce)) (hs : swapsWith e none pos.line X.env = pure false) : PS X (.Expr e pos) (rdS Γ X.K (.exp ce)) :=
  weakS (ps_expr he hs) fun D σ H ⟨sr, env, DC, r, h, ok⟩ => rdE_of G.mono r h fun w e1 v H1 h p => ok.nx _ _ _ ⟨_, p.rs, p.evs⟩ h
/-! ### stores -/
theorem Post.store {K : PySem.W.Frag} {sr : Sr} {H H1 : Hp} {σ : St} {env e1 : EnvC} {w : W} {v : V} (r : RelS K sr H σ env) (p : Post K sr H σ env e1 w v H1) {i : Nat} (hi : i < e1.length) (hv : w.view = false) : PostS K sr H σ env (σ.set i (some v)) (e1.set i (some w)) H1 := by
  have fr : w.own = true → ∀ a, v = .ref a → ¬ inSr sr a ∧ ¬ OwnAt σ e1 a := fun ho a e => ⟨r.sok.notIn (p.fr ho a e), fun z => r.notOwn (p.fr ho a e) (p.sub a z)⟩
  obtain ⟨r2, o2⟩ := p.rs.setW hi p.rw hv fr
  refine ⟨sr, r2, ⟨p.ev.per, p.evs.keep, fun a z => ?_, p.evs.grow, .inl rfl, p.rs.sok⟩⟩
  rcases o2 a z with z | ⟨ho, e⟩
  · exact .inl (p.sub a z)
  · exact .inr (p.fr ho a e)
theorem set_core {i : Nat} (G : Good X Γ) {st : Stmt} (h : PS X st (tAsg (rdE Γ X.K ce) (gName i))) : PS X st (rdS Γ X.K (.asg (.name i) ce)) :=
  weakS h fun D σ H ⟨sr, env, DC, r, h, ok⟩ => rdE_of G.mono r h fun w e1 v H1 h p => ok.nx _ _ _ (p.store r h.2.1 h.1) h.2.2
theorem s_set (G : Good X Γ) {i : Nat} {x : Str} {pos' : Pos} (hi : X.N[i]? = some x) (hx : Loc X.env.scope x) (hf : X.fn x = true ∨ X.env.scope.names.lookup x = some .local) (he : PE X e (rdE Γ X.K ce)) (hs : swapsWith e (some (.Name x pos')) pos.line X.env = pure false) :
    PS X (.Assign [.Name x pos'] e pos) (rdS Γ X.K (.asg (.name i) ce)) := set_core G (ps_set G.nd hi hx he hs hf)
/-- (a, b, ..) = plain data -/
theorem s_unpack (G : Good X Γ) {tg : Expr} {t : T} (he : PE X e (rdE Γ X.K ce)) (hg : PG X tg (rdG X.K t)) (ht : ∀ i, t ≠ .name i) (hs : swapsWithSole [tg] e pos.line X.env = pure false) (hw : swappedStores [tg] e X.env = pure none)
    (h1 : (assignEach [tg] X.env).map (·.2) = [assign tg X.env]) : PS X (.Assign [tg] e pos) (rdS Γ X.K (.asg t ce)) := by
  refine weakS (ps_asg he hg hs hw h1) fun D σ H ⟨sr, env, DC, r, h, ok⟩ => rdE_of G.mono r h fun w e1 v H1 h p => ?_
  cases t with
  | name i => exact absurd rfl (ht i)
  | tup ts =>
    obtain ⟨xs, e, _⟩ := ok_iff.mp h
    have e := tup?_some e
    subst e
    refine ⟨sr, e1, _, p.rs, p.rw, asgT_mono h fun e2 h2 σ2 pg => ok.nx _ _ _ (p.evs.post ⟨sr, pg.rs, ?_⟩ r) h2⟩
    exact ⟨Per.refl, fun _ _ e _ _ => e, fun a z => .inl (pg.sub a z), fun _ e => e, .inl rfl, p.rs.sok⟩
end
end Cal
set_option Elab.async false
set_option linter.all false
set_option maxRecDepth 100000
set_option maxHeartbeats 4000000
namespace Cal
open PySem PySem.Spec PyProof.Rows L2

/-! ## more statements -/
section
variable {X : Cx} {Γ : Gam} {pos : Pos} {a b c e : Expr} {ca cb cc ce : E} {p : Pos}
/-- name = [..] on one line -/
theorem s_setLc (G : Good X Γ) {i : Nat} {y : Str} {py : Pos} {elt tg iter : Expr} {ifs : List Expr} {scope : Scope} {own : List (Str × Nat)} {spos : Pos} {ct : T} {ci : I} {cond : Oe} (hy : X.N[i]? = some y) (hyl : X.env.scope.names.lookup y = some .local)
    (hsw : swapsWith (.ListComp elt [⟨tg, iter, ifs, 0⟩] scope pos) (some (.Name y py)) spos.line X.env = pure true) (hi : PI X tg iter (rdI Γ X.K ci)) (hok : BlkOk X.N X.env.scope scope own)
    (hg : ∀ (s : Shared) (H : Hp) (C : Addr) (cl : List (Str × Addr)) (fp : List Addr), PG (X.blk s H scope (compEnvC scope cl C X.env) fp) tg (rdG X.K ct))
    (ht : ∀ (s : Shared) (H : Hp) (C : Addr) (cl : List (Str × Addr)) (fp : List Addr), PTs (X.blk s H scope (compEnvC scope cl C X.env) fp) ifs (rdB Γ X.K cond))
    (he : ∀ (s : Shared) (H : Hp) (C : Addr) (cl : List (Str × Addr)) (fp : List Addr), PE (X.blk s H scope (compEnvC scope cl C X.env) fp) elt (rdE Γ X.K ce))
    (hs : ∀ x, foldedSetIterable iter X.env x = pure x) : PS X (.Assign [.Name y py] (.ListComp elt [⟨tg, iter, ifs, 0⟩] scope pos) spos) (rdS Γ X.K (.asg (.name i) (.comp (own.map (·.2)) ct ci cond ce))) := by
  exact set_core G (weakS (ps_setLc G.calm G.nd hy hyl hsw hi hok hg ht he hs) fun D σ H h => comp_key G h)
/-- a, b = .. of one def's own names -/
theorem Paired2 {α β : Type} {R : α → β → Prop} {x y : α} {vs : List β} (h : Paired R [x, y] vs) : ∃ u v, vs = [u, v] ∧ R x u ∧ R y v := by
  cases h with
  | cons h1 h => cases h with
    | cons h2 h => cases h; exact ⟨_, _, rfl, h1, h2⟩
theorem Paired3 {α β : Type} {R : α → β → Prop} {x y z : α} {vs : List β} (h : Paired R [x, y, z] vs) : ∃ u v w, vs = [u, v, w] ∧ R x u ∧ R y v ∧ R z w := by
  cases h with
  | cons h1 h => cases h with
    | cons h2 h => cases h with
      | cons h3 h => cases h; exact ⟨_, _, _, rfl, h1, h2, h3⟩
theorem PostL.free {K : PySem.W.Frag} {sr : Sr} {H H1 : Hp} {σ : St} {env e1 : EnvC} {ws : List W} {vs : List V} (r : RelS K sr H σ env) (p : PostL K sr H σ env e1 ws vs H1) {i : Nat} {w : W} {v : V} (hw : ws[i]? = some w) (hv : vs[i]? = some v) (ho : w.own = true) {a : Addr} (e : v = .ref a) :
    H a = none ∧ ¬ inSr sr a ∧ ¬ OwnAt σ e1 a := by
  subst e
  have h := p.fr i w a hw ho hv
  exact ⟨h, r.sok.notIn h, fun z => r.notOwn h (p.sub a z)⟩
theorem s_par2 (G : Good X Γ) {i j : Nat} {x y : Str} {ces : Es} {px py pt : Pos} {kt : Nat} {k2 : Nat} {pt2 : Pos} (hi : X.N[i]? = some x) (hj : X.N[j]? = some y) (hij : i ≠ j) (hx : X.env.scope.names.lookup x = some .local) (hy : X.env.scope.names.lookup y = some .local)
    (ha : PA X [a, b] (rdEs Γ X.K ces)) (hw : swappedStores [.Tuple [.Name x px, .Name y py] kt pt] (.Tuple [a, b] k2 pt2) X.env = pure (some [x, y]))
    (hs : swapsWithSole [.Tuple [.Name x px, .Name y py] kt pt] (.Tuple [a, b] k2 pt2) pos.line X.env = pure false) : PS X (.Assign [.Tuple [.Name x px, .Name y py] kt pt] (.Tuple [a, b] k2 pt2) pos) (rdS Γ X.K (.par [i, j] ces)) := by
  refine weakS (ps_par G.calm G.nd hi hj hij hx hy ha hw hs) fun D σ H ⟨sr, env, DC, r, h, ok⟩ => rdEs_of G.mono r h fun ws e1 vs H1 h p => ?_
  match ws, h, p with
  | [w1, w2], h, p =>
    obtain ⟨g1, g2, l1, l2, h⟩ := h
    obtain ⟨v1, v2, ev, r1, r2⟩ := Paired2 p.rw
    subst ev
    have le : e1.length = env.length := by rw [p.rs.len, r.len]
    have A := p.rs.setW (i := i) (by omega) r1 g1 fun ho a e => (p.free r (i := 0) rfl rfl ho e).2
    have B := A.1.setW (i := j) (by rw [List.length_set]; omega) r2 g2 fun ho a e => ⟨(p.free r (i := 1) rfl rfl ho e).2.1, fun z => (A.2 a z).elim (p.free r (i := 1) rfl rfl ho e).2.2 fun q => absurd (p.dis 0 1 _ _ a rfl q.1 (by rw [q.2]; rfl) rfl ho (by rw [e]; rfl)) (by decide)⟩
    refine ⟨v1, v2, rfl, ok.nx _ _ _ ⟨sr, B.1, ⟨p.ev.per, p.evs.keep, fun a z => ?_, p.evs.grow, .inl rfl, p.rs.sok⟩⟩ h⟩
    rcases B.2 a z with z | ⟨ho, e⟩
    · rcases A.2 a z with z | ⟨ho, e⟩
      · exact .inl (p.sub a z)
      · exact .inr (p.free r (i := 0) rfl rfl ho e).1
    · exact .inr (p.free r (i := 1) rfl rfl ho e).1
  | [], h, p => exact h.elim
  | [_], h, p => exact h.elim
  | _ :: _ :: _ :: _, h, p => exact h.elim
theorem s_par3 (G : Good X Γ) {i j l : Nat} {x y z : Str} {ces : Es} {px py pz pt : Pos} {kt : Nat} {k2 : Nat} {pt2 : Pos} (hi : X.N[i]? = some x) (hj : X.N[j]? = some y) (hl : X.N[l]? = some z) (hij : i ≠ j) (hil : i ≠ l) (hjl : j ≠ l)
    (hx : X.env.scope.names.lookup x = some .local) (hy : X.env.scope.names.lookup y = some .local) (hz : X.env.scope.names.lookup z = some .local)
    (ha : PA X [a, b, c] (rdEs Γ X.K ces)) (hw : swappedStores [.Tuple [.Name x px, .Name y py, .Name z pz] kt pt] (.Tuple [a, b, c] k2 pt2) X.env = pure (some [x, y, z]))
    (hs : swapsWithSole [.Tuple [.Name x px, .Name y py, .Name z pz] kt pt] (.Tuple [a, b, c] k2 pt2) pos.line X.env = pure false) : PS X (.Assign [.Tuple [.Name x px, .Name y py, .Name z pz] kt pt] (.Tuple [a, b, c] k2 pt2) pos) (rdS Γ X.K (.par [i, j, l] ces)) := by
  refine weakS (ps_par3 G.calm G.nd hi hj hl hij hil hjl hx hy hz ha hw hs) fun D σ H ⟨sr, env, DC, r, h, ok⟩ => rdEs_of G.mono r h fun ws e1 vs H1 h p => ?_
  match ws, h, p with
  | [w1, w2, w3], h, p =>
    obtain ⟨g1, g2, g3, l1, l2, l3, h⟩ := h
    obtain ⟨v1, v2, v3, ev, r1, r2, r3⟩ := Paired3 p.rw
    subst ev
    have le : e1.length = env.length := by rw [p.rs.len, r.len]
    have A := p.rs.setW (i := i) (by omega) r1 g1 fun ho a e => (p.free r (i := 0) rfl rfl ho e).2
    have B := A.1.setW (i := j) (by rw [List.length_set]; omega) r2 g2 fun ho a e => ⟨(p.free r (i := 1) rfl rfl ho e).2.1, fun z => (A.2 a z).elim (p.free r (i := 1) rfl rfl ho e).2.2 fun q => absurd (p.dis 0 1 _ _ a rfl q.1 (by rw [q.2]; rfl) rfl ho (by rw [e]; rfl)) (by decide)⟩
    have C := B.1.setW (i := l) (by rw [List.length_set, List.length_set]; omega) r3 g3 fun ho a e => ⟨(p.free r (i := 2) rfl rfl ho e).2.1, fun z => (B.2 a z).elim
      (fun z => (A.2 a z).elim (p.free r (i := 2) rfl rfl ho e).2.2 fun q => absurd (p.dis 0 2 _ _ a rfl q.1 (by rw [q.2]; rfl) rfl ho (by rw [e]; rfl)) (by decide))
      fun q => absurd (p.dis 1 2 _ _ a rfl q.1 (by rw [q.2]; rfl) rfl ho (by rw [e]; rfl)) (by decide)⟩
    refine ⟨v1, v2, v3, rfl, ok.nx _ _ _ ⟨sr, C.1, ⟨p.ev.per, p.evs.keep, fun a z => ?_, p.evs.grow, .inl rfl, p.rs.sok⟩⟩ h⟩
    rcases C.2 a z with z | ⟨ho, e⟩
    · rcases B.2 a z with z | ⟨ho, e⟩
      · rcases A.2 a z with z | ⟨ho, e⟩
        · exact .inl (p.sub a z)
        · exact .inr (p.free r (i := 0) rfl rfl ho e).1
      · exact .inr (p.free r (i := 1) rfl rfl ho e).1
    · exact .inr (p.free r (i := 2) rfl rfl ho e).1
  | [], h, p => exact h.elim
  | [_], h, p => exact h.elim
  | [_, _], h, p => exact h.elim
  | _ :: _ :: _ :: _ :: _, h, p => exact h.elim
/-! ### changes in place -/
/-- a slot's own thing is changed -/
theorem RelS.change {K : PySem.W.Frag} {sr : Sr} {H : Hp} {σ : St} {env : EnvC} (r : RelS K sr H σ env) {i : Nat} {w u : W} {q : Addr} {o o' : HO} (e : env[i]? = some (some w)) (hw : w.own = true) (ev : σ[i]? = some (some (.ref q))) (eh : H q = some o) (mu : Mut (some o)) (hu : u.own = true)
    (hr : Per H (upd H q o') → RelW K sr (upd H q o') u (.ref q)) : PostS K sr H σ env σ (env.set i (some u)) (upd H q o') := by
  have hl : i < env.length := (List.getElem?_eq_some_iff.mp e).1
  have own : OwnAt σ env q := ⟨i, w, e, hw, ev⟩
  have per : Per H (upd H q o') := by
    refine ⟨fun b xs h => ?_, fun b o' u' h => ?_⟩
    · rw [upd_ne]; exact h
      intro z; subst z; rw [eh] at h; cases h; exact mu
    · rw [upd_ne]; exact h
      intro z; subst z; rw [eh] at h; cases h; exact mu
  have sub1 : ∀ j b, OwnI σ (env.set i (some u)) j b → OwnI σ env j b := fun j b ⟨w', e1, e2, e3⟩ => by
    by_cases hj : i = j
    · subst hj
      exact ⟨w, e, hw, e3⟩
    · rw [List.getElem?_set_ne hj] at e1
      exact ⟨w', e1, e2, e3⟩
  have so := r.sok.upd (o := o') (r.sno q own)
  refine ⟨sr, ⟨by rw [List.length_set]; exact r.len, fun j w' e' => ?_, fun j k b h1 h2 => r.dis j k b (sub1 j b h1) (sub1 k b h2), so, fun b ⟨j, hj⟩ => r.sno b ⟨j, sub1 j b hj⟩⟩, ⟨per, fun b x eb _ nb => ?_, fun b ⟨j, hj⟩ => .inl ⟨j, sub1 j b hj⟩, fun b eb => ?_, .inl rfl, so⟩⟩
  · by_cases hj : i = j
    · subst hj
      rw [List.getElem?_set_self hl] at e'
      cases e'
      refine ⟨?_, _, ev, hr per⟩
      cases u <;> first | rfl | cases hu
    · rw [List.getElem?_set_ne hj] at e'
      obtain ⟨v1, v', e2, rw'⟩ := r.ats j w' e'
      refine ⟨v1, v', e2, rw'.upd per v1 fun ho' z => hj ?_⟩
      subst z
      exact r.dis i j q ⟨w, e, hw, ev⟩ ⟨w', e', ho', e2⟩
  · rw [upd_ne (fun z => nb (by rw [z]; exact own))]; exact eb
  · by_cases hb : b = q
    · subst hb; rw [upd_same] at eb; cases eb
    · rw [upd_ne hb] at eb; exact eb
theorem s_put (G : Good X Γ) {i : Nat} {x : Str} {k : Expr} {ck : E} {px pos' : Pos} (hN : X.N[i]? = some x) (hv : Vis X.env.scope x) (hd : (x == ("__debug__" : Str)) = false) (hcd : (x == ("__classdict__" : Str)) = false) (he : PE X e (rdE Γ X.K ce)) (hk : PE X k (rdE Γ X.K ck))
    (ha : ∀ v, assign (.Subscript (.Name x px) k pos') X.env v = (do
      let ov ← holding [v] (eval (.Name x px) X.env)
      let iv ← holding [v, ov] (eval k X.env)
      standAt pos'
      holding [v, ov, iv] (setItem ov iv v)
      release [v, ov, iv] []))
    (hs : swapsWithSole [.Subscript (.Name x px) k pos'] e pos.line X.env = pure false) (hw : swappedStores [.Subscript (.Name x px) k pos'] e X.env = pure none) : PS X (.Assign [.Subscript (.Name x px) k pos'] e pos) (rdS Γ X.K (.put i ck ce)) := by
  have hset : PSet X (fun o i v H Q => rSetL o i v H Q ∨ rSetD o i v H Q) := fun pins s σ H o i v ov iv u Q I ro ri rv h => by
    rcases h with h | h
    · exact set_list pins s σ H o i v ov iv u Q I ro ri rv h
    · exact set_dict (by have := G.un; omega) pins s σ H o i v ov iv u Q I ro ri rv h
  refine weakS (ps_asg he (pg_sub (pe_var hN hv hd hcd) hk hset ha) hs hw rfl) fun D σ H ⟨sr, env, DC, r, h, ok⟩ => rdE_of G.mono r h fun w e1 v H1 h1 p => ?_
  replace h1 := ok_iff.mp h1
  obtain ⟨o, g1, h1⟩ := h1
  replace h1 := ok_iff.mp h1
  obtain ⟨u0, g2, h1⟩ := h1
  subst g2
  obtain ⟨-, v0, ev0, -⟩ := p.rs.ats i u0 g1
  refine ⟨v0, ev0, rdE_of G.mono p.rs h1 fun w2 e2 v2 H2 h p2 => ?_⟩
  clear h1
  cases w <;> first | exact h.elim | skip
  rename_i y
  have rdy : RD X.K H2 y v := RD.per p2.ev.per p.rw
  replace h := ok_iff.mp h
  obtain ⟨o, g3, h⟩ := h
  replace h := ok_iff.mp h
  obtain ⟨u, g4, h⟩ := h
  subst g4
  obtain ⟨-, v0', ev0', rwu⟩ := p2.rs.ats i u g3
  rw [ev0] at ev0'
  cases ev0'
  have ev := (p.evs.trans p2.evs r)
  cases u <;> first | exact h.elim | skip
  · rename_i xs
    replace h := ok_iff.mp h
    obtain ⟨n, e1', h⟩ := h
    replace h := ok_iff.mp h
    obtain ⟨j, e2', h⟩ := h
    have q2 := int?_some e1'
    subst q2
    obtain ⟨q, vs, rfl, hq, rs⟩ := rwu
    refine .inl ⟨q, vs, n, j, rfl, rw_int p2.rw, hq, by rw [← rs.length]; exact e2', ok.nx _ _ _ (ev.post (p2.rs.change (u := .lst (xs.set j y)) g3 rfl ev0 hq trivial rfl fun per => ⟨q, _, rfl, upd_same, ?_⟩) r) h⟩
    exact ((rs.per per).set (rdy.per per) j)
  · rename_i kvs
    replace h := ok_iff.mp h
    obtain ⟨z, e1', h⟩ := h
    replace h := ok_iff.mp h
    obtain ⟨key, e2', hl, h⟩ := h
    obtain ⟨q, ks, rfl, hq, rs⟩ := rwu
    have hk2 : v2 = kV key := by
      cases w2 with
      | d z => cases e1'; exact rd_key e2' p2.rw
      | src => cases e1'
      | lst z => cases e1'; cases e2'
      | vlst z => cases e1'; cases e2'
      | dct z => cases e1'; cases e2'
      | vdct z => cases e1'; cases e2'
    subst hk2
    refine .inr ⟨q, _, rfl, .inl ⟨ks, key, hq, rfl, by rw [← rs.length]; exact hl, rfl⟩, ok.nx _ _ _ (ev.post (p2.rs.change (u := .dct (dput kvs key y)) g3 rfl ev0 hq trivial rfl fun per => ⟨q, _, rfl, upd_same, ?_⟩) r) h⟩
    exact RKs.put (rdy.per per) key (rs.per per)
theorem own_list {K : PySem.W.Frag} {sr : Sr} {H : Hp} {w : W} {v : V} (h : RelW K sr H w v) (g : w.list?.isSome = true) (ho : w.own = true) : ∃ q vs, v = .ref q ∧ SqL K H q vs := by
  cases w <;> first | cases ho | skip
  · obtain ⟨q, vs, e, hq, _⟩ := h; exact ⟨q, vs, e, .inl (.inl hq)⟩
  · cases g
theorem s_app (G : Good X Γ) {i : Nat} {x : Str} {px apos cpos : Pos} (hN : X.N[i]? = some x) (hv : Vis X.env.scope x) (hd : (x == ("__debug__" : Str)) = false) (hcd : (x == ("__classdict__" : Str)) = false) (he : PE X e (rdE Γ X.K ce)) (hs : nostar e = true)
    (hbase : attributeBase (.Name x px) "append" X.env (eval (.Name x px) X.env) = eval (.Name x px) X.env) (hline : (apos.endLine == cpos.line) = true) : PS X (.Expr (.Call (.Attribute (.Name x px) "append" apos) [e] [] cpos) pos) (rdS Γ X.K (.app i ce)) := by
  refine weakS (ps_expr (pe_bm PySem.F.plainAttrs_list PySem.F.slot_list_append PySem.F.type_list_append mt_append (pe_var hN hv hd hcd) (pa_cons he pa_nil (star_cons hs)) hbase (by rw [star_cons hs]; rfl) hline (star_cons hs))) fun D σ H ⟨sr, env, DC, r, h, ok⟩ => ?_
  replace h := ok_iff.mp h
  obtain ⟨o, g1, h⟩ := h
  replace h := ok_iff.mp h
  obtain ⟨u0, g2, ho, hl, h⟩ := h
  subst g2
  obtain ⟨-, v0, ev0, rw0⟩ := r.ats i u0 g1
  obtain ⟨q, vs0, rfl, hq0⟩ := own_list rw0 hl ho
  refine ⟨.ref q, ev0, .inl ⟨rfl, vs0, hq0⟩, rdE_of G.mono r h fun w e1 v H1 h p => ?_⟩
  cases w <;> first | exact h.elim | skip
  rename_i y
  replace h := ok_iff.mp h
  obtain ⟨o, g3, h⟩ := h
  replace h := ok_iff.mp h
  obtain ⟨u, g4, h⟩ := h
  subst g4
  obtain ⟨-, v0', ev0', rwu⟩ := p.rs.ats i u g3
  rw [ev0] at ev0'
  cases ev0'
  cases u <;> first | exact h.elim | skip
  rename_i xs
  obtain ⟨q', vs, eq, hq, rs⟩ := rwu
  cases eq
  refine ⟨q, vs, v, rfl, rfl, hq, by rw [← rs.length]; exact h.1, ok.nx _ _ _ (p.evs.post (p.rs.change (u := .lst (xs ++ [y])) g3 rfl ev0 hq trivial rfl fun per => ⟨q, _, rfl, upd_same, ?_⟩) r) h.2⟩
  exact (rs.per per).append (.cons (RD.per per p.rw) .nil)
theorem s_ext (G : Good X Γ) {i : Nat} {x : Str} {px apos cpos : Pos} (hN : X.N[i]? = some x) (hv : Vis X.env.scope x) (hd : (x == ("__debug__" : Str)) = false) (hcd : (x == ("__classdict__" : Str)) = false) (he : PE X e (rdE Γ X.K ce)) (hs : nostar e = true)
    (hbase : attributeBase (.Name x px) "extend" X.env (eval (.Name x px) X.env) = eval (.Name x px) X.env) (hline : (apos.endLine == cpos.line) = true) : PS X (.Expr (.Call (.Attribute (.Name x px) "extend" apos) [e] [] cpos) pos) (rdS Γ X.K (.ext i ce)) := by
  refine weakS (ps_expr (pe_bm PySem.F.plainAttrs_list PySem.F.slot_list_extend PySem.F.type_list_extend mt_extend (pe_var hN hv hd hcd) (pa_cons he pa_nil (star_cons hs)) hbase (by rw [star_cons hs]; rfl) hline (star_cons hs))) fun D σ H ⟨sr, env, DC, r, h, ok⟩ => ?_
  replace h := ok_iff.mp h
  obtain ⟨o, g1, h⟩ := h
  replace h := ok_iff.mp h
  obtain ⟨u0, g2, ho, hl, h⟩ := h
  subst g2
  obtain ⟨-, v0, ev0, rw0⟩ := r.ats i u0 g1
  obtain ⟨q, vs0, rfl, hq0⟩ := own_list rw0 hl ho
  refine ⟨.ref q, ev0, .inl ⟨rfl, vs0, hq0⟩, rdE_of G.mono r h fun w e1 v H1 h p => ?_⟩
  cases w <;> first | exact h.elim | skip
  rename_i ys
  replace h := ok_iff.mp h
  obtain ⟨o, g3, h⟩ := h
  replace h := ok_iff.mp h
  obtain ⟨u, g4, h⟩ := h
  subst g4
  obtain ⟨-, v0', ev0', rwu⟩ := p.rs.ats i u g3
  rw [ev0] at ev0'
  cases ev0'
  cases u <;> first | exact h.elim | skip
  rename_i xs
  obtain ⟨q', vs, eq, hq, rs⟩ := rwu
  cases eq
  obtain ⟨l, zs, rfl, hl2, rs2⟩ := p.rw
  refine ⟨q, l, vs, zs, rfl, rfl, hq, hl2, by rw [← rs.length, ← rs2.length]; exact h.1, ok.nx _ _ _ (p.evs.post (p.rs.change (u := .lst (xs ++ ys)) g3 rfl ev0 hq trivial rfl fun per => ⟨q, _, rfl, upd_same, ?_⟩) r) h.2⟩
  exact (rs.per per).append (rs2.per per)
end
end Cal
set_option Elab.async false
set_option linter.all false
set_option maxRecDepth 100000
set_option maxHeartbeats 4000000
namespace Cal
open PySem PySem.Spec PyProof.Rows L2

/-! ## loops, defs -/
section
variable {X : Cx} {Γ : Gam} {pos : Pos} {a b c e : Expr} {ca cb cc ce : E} {p : Pos}
theorem forW_drop {step : PyData → EnvC → (EnvC → Prop) → Prop} {xs : List PyData} {env : EnvC} {Q : EnvC → Prop} {i : Nat} {x : PyData} (h : forW step (xs.drop i) env Q) (hx : xs[i]? = some x) : step x env fun e => forW step (xs.drop (i + 1)) e Q := by
  obtain ⟨hi, e⟩ := List.getElem?_eq_some_iff.mp hx
  rw [List.drop_eq_getElem_cons hi, e] at h
  exact h
theorem EvS.grown {K : PySem.W.Frag} {sr : Sr} {σ : St} {env : EnvC} {H H' : Hp} (g : Grow H H') (r : RelS K sr H σ env) : RelS K sr H' σ env ∧ EvS sr sr σ env σ env H H' := by
  have per : Per H H' := ⟨fun a xs e => g a _ e, fun a o u e => g a _ e⟩
  have so : SrOk sr H' := r.sok.kept fun a u _ e => g a u e
  refine ⟨r.keep per so fun a u _ e => g a u e, ⟨per, fun a u e _ _ => g a u e, fun a z => .inl z, fun a e => ?_, .inl rfl, so⟩⟩
  cases q : H a with
  | none => rfl
  | some u => rw [g a u q] at e; cases e
theorem PostG.evs {K : PySem.W.Frag} {sr : Sr} {H : Hp} {σ σ' : St} {env env' : EnvC} {sl : List Nat} (p : PostG K sr H σ env sl σ' env') : EvS sr sr σ env σ' env' H H :=
  ⟨Per.refl, fun _ _ e _ _ => e, fun a z => .inl (p.sub a z), fun _ e => e, .inl rfl, p.rs.sok⟩
theorem s_for (G : Good X Γ) {tg iter : Expr} {body : List Stmt} {t : T} {ci : I} {cbd : Ss} (hi : PI X tg iter (rdI Γ X.K ci)) (hg : PG X tg (rdG X.K t)) (hb : PSs X body (rdSs Γ X.K cbd)) (hs : ∀ x, foldedSetIterable iter X.env x = pure x) :
    PS X (.For tg iter body [] pos) (rdS Γ X.K (.for t ci cbd)) := by
  have hp : PassesOwn (model X.prog X.w) X.A X.env X.xe := by rw [G.nox]; exact PassesOwn.never
  refine weakS (ps_for hp G.calm hi hg hb hs) fun D σ H ⟨sr, env, DC, r, h, ok⟩ => ⟨sr, env, r, wpI_mono G.mono ci h fun xs e1 h J H1 p => ?_⟩
  have ev1 : EvS sr sr σ env σ e1 H H1 := ⟨p.ev.per, fun a u e n o => (p.ev.keep a u e n).resolve_right fun z => o z.1, fun a z => .inl (p.sub a z), fun a e => p.ev.none p.rs.sok e, .inl rfl, p.rs.sok⟩
  have ok1 := ok.later r ev1
  have r1 := p.rs
  refine ⟨fun i m σ' H' => m = xs.length - i ∧ i ≤ xs.length ∧ ∃ sr' env', RelS X.K sr' H' σ' env' ∧ EvS sr sr' σ e1 σ' env' H1 H' ∧ forW (fun x e k => asgT t (.d x) e fun e2 => wpSs Γ cbd e2 ⟨k, DC.rt, DC.nx, k⟩) (xs.drop i) env' DC.nx, ⟨xs.length, by omega, Nat.zero_le _, sr, e1, r1, EvS.refl r1.sok, h⟩, ?_⟩
  rintro i m σ2 H2 ⟨rfl, hi, sr2, env2, r2, ev2, h2⟩
  have evl : EvL sr (OwnAt σ e1) H1 H2 := ⟨ev2.per, ev2.keep⟩
  by_cases hlt : i < xs.length
  · refine .inr ⟨p.yi.go i H2 evl hlt, fun σ' H' => (i + 1) ≤ xs.length ∧ ∃ sr' env', RelS X.K sr' H' σ' env' ∧ EvS sr sr' σ e1 σ' env' H1 H' ∧ forW (fun x e k => asgT t (.d x) e fun e2 => wpSs Γ cbd e2 ⟨k, DC.rt, DC.nx, k⟩) (xs.drop (i + 1)) env' DC.nx, fun σ' H' ⟨z, q⟩ => ⟨xs.length - (i + 1), by omega, rfl, z, q⟩, fun x H3 hy => ?_⟩
    obtain ⟨gr, d, hd, rd⟩ := p.yi.yld i H2 x H3 evl hlt hy
    obtain ⟨r3, ev3⟩ := EvS.grown gr r2
    refine ⟨sr2, env2, d, r3, rd, asgT_mono (forW_drop h2 hd) fun e4 h4 σ4 pg => ?_⟩
    have ev24 := ev3.trans pg.evs r2
    have ev14 := ev2.trans ev24 r1
    have ok4 := ok1.later r1 ev14
    have again : ∀ σ' H' env', PostS X.K sr2 H3 σ4 e4 σ' env' H' → forW (fun x e k => asgT t (.d x) e fun e2 => wpSs Γ cbd e2 ⟨k, DC.rt, DC.nx, k⟩) (xs.drop (i + 1)) env' DC.nx → (i + 1) ≤ xs.length ∧ ∃ sr' env', RelS X.K sr' H' σ' env' ∧ EvS sr sr' σ e1 σ' env' H1 H' ∧ forW (fun x e k => asgT t (.d x) e fun e2 => wpSs Γ cbd e2 ⟨k, DC.rt, DC.nx, k⟩) (xs.drop (i + 1)) env' DC.nx := fun σ' H' env' q k => by
      obtain ⟨sr5, r5, ev5⟩ := q.ex
      exact ⟨hlt, sr5, env', r5, ev14.trans ev5 r1, k⟩
    exact ⟨sr2, e4, _, pg.rs, h4, ⟨again, ok4.nx, again, ok4.rt⟩⟩
  · have e : i = xs.length := by omega
    subst e
    rw [List.drop_length] at h2
    exact .inl ⟨p.yi.stop _ H2 evl (Nat.le_refl _), ok1.nx _ _ _ ⟨sr2, r2, ev2⟩ h2⟩
theorem s_whl (G : Good X Γ) {body : List Stmt} {cbd : Ss} (hc : PT X c (rdT Γ X.K cc)) (hb : PSs X body (rdSs Γ X.K cbd)) : PS X (.While c body [] pos) (rdS Γ X.K (.whl cc cbd)) := by
  have hp : PassesOwn (model X.prog X.w) X.A X.env X.xe := by rw [G.nox]; exact PassesOwn.never
  refine weakS (ps_while hp hc hb) fun D σ H ⟨sr, env, DC, r, h, ok⟩ => ?_
  obtain ⟨J, ⟨m0, j0⟩, step⟩ := h
  refine ⟨fun m σ' H' => ∃ sr' env', RelS X.K sr' H' σ' env' ∧ EvS sr sr' σ env σ' env' H H' ∧ J m env', ⟨m0, sr, env, r, EvS.refl r.sok, j0⟩, ?_⟩
  rintro m σ2 H2 ⟨sr2, env2, r2, ev2, j2⟩
  refine rdE_of G.mono r2 (step m env2 j2) fun w e3 v H3 h p => ?_
  replace h := ok_iff.mp h
  obtain ⟨k, e, h⟩ := h
  have q := bool?_some e
  subst q
  have ev3 := ev2.trans p.evs r
  have ok3 := ok.later r ev3
  refine ⟨k, rw_bool p.rw, ?_⟩
  cases k with
  | true =>
    rw [if_pos rfl] at h ⊢
    have again : ∀ σ' H' env', PostS X.K sr2 H3 σ2 e3 σ' env' H' → (∃ m', m' < m ∧ J m' env') → ∃ m', m' < m ∧ ∃ sr' env', RelS X.K sr' H' σ' env' ∧ EvS sr sr' σ env σ' env' H H' ∧ J m' env' := fun σ' H' env' q ⟨m', hm, k⟩ => by
      obtain ⟨sr5, r5, ev5⟩ := q.ex
      exact ⟨m', hm, sr5, env', r5, ev3.trans ev5 r, k⟩
    exact ⟨fun σ' H' => ∃ m', m' < m ∧ ∃ sr' env', RelS X.K sr' H' σ' env' ∧ EvS sr sr' σ env σ' env' H H' ∧ J m' env', fun σ' H' z => z, sr2, e3, _, p.rs, h, ⟨again, ok3.nx, again, ok3.rt⟩⟩
  | false =>
    rw [if_neg Bool.false_ne_true] at h ⊢
    exact ok3.nx _ _ _ ⟨sr2, p.rs, EvS.refl p.rs.sok⟩ h
end
/-! ### a def by its body -/
def startC (N : List Str) (ws : List W) : EnvC := ws.map some ++ List.replicate (N.length - ws.length) none
theorem paired_get {α β : Type} {R : α → β → Prop} : ∀ {xs : List α} {ys : List β} {i : Nat} {x : α}, Paired R xs ys → xs[i]? = some x → ∃ y, ys[i]? = some y ∧ R x y
  | _, _, _, _, .nil, e => by simp at e
  | _, _, 0, _, .cons h _, e => by simp at e; subst e; exact ⟨_, rfl, h⟩
  | _, _, i + 1, x, .cons _ r, e => by
    obtain ⟨v, h1, h2⟩ := paired_get (i := i) (x := x) r (by simpa using e)
    exact ⟨v, by simpa using h1, h2⟩
theorem startC_get {N : List Str} {ws : List W} {i : Nat} {w : W} (h : (startC N ws)[i]? = some (some w)) : ws[i]? = some w := by
  unfold startC at h
  by_cases hi : i < ws.length
  · rw [List.getElem?_append_left (by simpa using hi), List.getElem?_map] at h
    cases q : ws[i]? with
    | none => rw [q] at h; cases h
    | some a => rw [q] at h; cases h; rfl
  · rw [List.getElem?_append_right (by simpa using hi), List.getElem?_replicate] at h
    split at h <;> cases h
theorem arg_own {w : W} (h : w.arg = true) : w.own = false ∧ w.view = false := by cases w <;> first | exact ⟨rfl, rfl⟩ | cases h
theorem start_own {N : List Str} {ws : List W} {σ : St} (ha : ws.all W.arg = true) {i : Nat} {a : Addr} (h : OwnI σ (startC N ws) i a) : False := by
  obtain ⟨w, e1, e2, _⟩ := h
  have := (arg_own (List.all_eq_true.mp ha w (List.mem_of_getElem? (startC_get e1)))).1
  rw [this] at e2
  cases e2
theorem RelS.start {K : PySem.W.Frag} {sr : Sr} {H : Hp} {N : List Str} {ws : List W} {vs : List V} (hs : SrOk sr H) (hp : Paired (RelW K sr H) ws vs) (ha : ws.all W.arg = true) : RelS K sr H (L2.start N vs) (startC N ws) := by
  have hl := Paired.length' hp
  refine ⟨by unfold startC L2.start; simp [hl], fun i w e => ?_, fun i j a h => (start_own ha h).elim, hs, fun a ⟨i, h⟩ => (start_own ha h).elim⟩
  have e1 := startC_get e
  obtain ⟨v, e2, rw⟩ := paired_get hp e1
  refine ⟨(arg_own (List.all_eq_true.mp ha w (List.mem_of_getElem? e1))).2, v, ?_, rw⟩
  unfold L2.start
  rw [List.getElem?_append_left (by simpa using (List.getElem?_eq_some_iff.mp e2).1), List.getElem?_map, e2]
  rfl
theorem FnC.mono {P : Program} {w : World} {K : PySem.W.Frag} {mg : Str → Option Value} {base : Heap} {j k : Nat} {f : Addr} {fd : FuncData} {ps : List Str} {sp : Spec} (F : FnC P w K mg base j f fd ps sp) (h : j ≤ k) : FnC P w K mg base k f fd ps sp :=
  ⟨F.len, fun A outer s H us vs Q sr ws hr => F.run A outer s H us vs Q sr ws (hr.mono h)⟩
theorem fn_run {P : Program} {w : World} {K : PySem.W.Frag} {mg : Str → Option Value} {base : Heap} {x qual : Str} {st : Stmt} {f : Addr} {fd : FuncData} {N ps : List Str} {k : Nat} {Γ : Gam} {tree : Ss} (F : Fun K x qual st f fd) (S : FnScope N ps (defScope st))
    (hbody : ∀ (cdv : Value) (A : Around) (outer : List Env) (s : Shared) (H : Hp), Room k (A.deeper (envOfC qual (defScope st) s.heap.objs.size f cdv)) → (A.deeper (envOfC qual (defScope st) s.heap.objs.size f cdv)).guards = some [] →
      PSs (cxOf CX0 P w K mg base N qual (defScope st) f cdv A outer s H E0).nox (defBody st) (rdSs Γ K tree))
    {A : Around} {outer : List Env} {s : Shared} {H : Hp} {us : List Value} {vs : List V} {Q : VK} {sr : Sr} {ws : List W} {Rn : Prop} {R : W → Prop} (hr : Room (k + 1) A) (hgd : A.guards = some []) (e0 : Env0 P w K mg base A outer s H) (hb : BindsTo s fd ⟨us, []⟩ (ps.zip us)) (r : Vals vs us)
    (hs : SrOk sr H) (hp : Paired (RelW K sr H) ws vs) (ha : ws.all W.arg = true) (hl : ws.length = ps.length) (hw : wpSs Γ tree (startC N ws) { nx := fun _ => Rn, rt := R })
    (h1 : Rn → ∀ v H', PostR K sr H (L2.start N vs) (startC N ws) (.d .none) v H' → Q v H') (h2 : ∀ w v H', PostR K sr H (L2.start N vs) (startC N ws) w v H' → R w → Q v H') : codeAny (model P w) A (.call (.ref f) ⟨us, []⟩) (CR CX0 outer P w H s Q E0) s := by
  obtain ⟨oc, od, kV, doc, pm, an, cdv, ct, osl, rfl, lk, hcd⟩ := F.ex
  have hl : vs.length = ps.length := by rw [← Paired.length' hp]; exact hl
  have KX : K.In s.heap := e0.mod.kin.keeps fun b o e => (e0.bs b o e).1
  have lim : s.heap.NoLimit := e0.mod.nolimit.keeps fun b o e => (e0.bs b o e).1
  have hkind : ∀ y ∈ ps.zip us, (defScope st).names.lookup y.1 = some .local ∨ ((defScope st).names.lookup y.1 = some .cell ∧ ((cellsFrom (s.heap.objs.size + 1) (defScope st).names []).lookup y.1).isSome = true) := fun ⟨n, v⟩ hy => by
    rcases S.par n (List.of_mem_zip hy).1 with q | q
    · exact .inl q
    · exact .inr ⟨q, PySem.W.cellsFrom_some _ _ _ (.inl q)⟩
  refine codeAny_call_function hr.depth (KX _ _ lk) rfl S.co S.gen rfl (PySem.W.codeRec_of KX hcd) (hb _ _ _ _ ?_)
  refine wpAny_newFunctionEnv_cells S.kind hkind fun env he s1 x => ?_
  subst he
  refine ⟨lim.keeps x.toInCall.keep, codeAny_func ?_⟩
  have ht := (hbody cdv A outer s H (hr.deeper _) (by simpa [Around.deeper] using hgd)).nox
  have I : Inv (cxOf CX0 P w K mg base N qual (defScope st) f cdv A outer s H E0) [] (L2.start N vs) H s1 := inv_start S hr.hd e0 hl r x
  have rs : RelS K sr H (L2.start N vs) (startC N ws) := RelS.start hs hp ha
  have fin : ∀ {σ' : L2.St} {H' : Hp} {v : V} {u : Value} {s' : Shared}, Inv (cxOf CX0 P w K mg base N qual (defScope st) f cdv A outer s H E0) [] σ' H' s' → RelV v u → Q v H' → CE outer P w H s Q u s' :=
    fun {σ' H' v u s'} J rv q => ⟨v, H', J.os, J.bare, J.base, J.hok, rv, q⟩
  refine wpAny_mono (ht.run [] s1 (L2.start N vs) H { nx := fun _ H' => Q .non H', rt := Q } I ⟨sr, startC N ws, _, rs, hw, ⟨fun σ' H' env' p q => ?_, fun _ _ _ _ q => q.elim, fun _ _ _ _ q => q.elim, fun w v H' p q => h2 w v H' p q⟩⟩) (fun fl s' hs => ?_) fun e s' hs => hs
  · obtain ⟨sr', r', ev⟩ := p.ex
    exact h1 q .non H' ⟨.inl ⟨rfl, .none⟩, fun z => (by cases z), ev.per, ev.keep, ev.sok⟩
  · cases fl with
    | ret u =>
      obtain ⟨v, σ', H', J, rv, q⟩ := hs
      exact fin J rv q
    | next =>
      obtain ⟨σ', H', J, q⟩ := hs
      exact fin (v := V.non) (u := Value.none) J rfl q
    | brk =>
      obtain ⟨_, _, _, q⟩ := hs
      exact False.elim q
    | cont =>
      obtain ⟨_, _, _, q⟩ := hs
      exact False.elim q
theorem fnC {P : Program} {w : World} {K : PySem.W.Frag} {mg : Str → Option Value} {base : Heap} {x qual : Str} {st : Stmt} {f : Addr} {fd : FuncData} {N ps : List Str} {k : Nat} {sp : Spec} {Γ : Gam} {tree : Ss} (F : Fun K x qual st f fd) (S : FnScope N ps (defScope st))
    (hlen : ∀ ws Q, sp ws Q → ws.length = ps.length)
    (hbody : ∀ (cdv : Value) (A : Around) (outer : List Env) (s : Shared) (H : Hp), Room k (A.deeper (envOfC qual (defScope st) s.heap.objs.size f cdv)) → (A.deeper (envOfC qual (defScope st) s.heap.objs.size f cdv)).guards = some [] →
      PSs (cxOf CX0 P w K mg base N qual (defScope st) f cdv A outer s H E0).nox (defBody st) (rdSs Γ K tree))
    (hsp : ∀ ws Q, sp ws Q → wpSs Γ tree (startC N ws) { nx := fun _ => Q (.d .none), rt := Q }) : FnC P w K mg base (k + 1) f fd ps sp := by
  refine ⟨hlen, fun A outer s H us vs Q sr ws hr hgd e0 hb r hs hp ha hq => ?_⟩
  have no : ∀ a, ¬ OwnAt (L2.start N vs) (startC N ws) a := fun a ⟨i, z⟩ => start_own ha z
  have key : ∀ (w : W) (v : V) (H' : Hp), PostR K sr H (L2.start N vs) (startC N ws) w v H' → (w.gives = true ∧ ∀ v H', CPost K sr H w v H' → Q v H') → Q v H' := fun w v H' p q => by
    rcases p.rw with ⟨g, rw⟩ | ⟨e, _⟩
    · exact q.2 v H' ⟨rw, fun ho a e => (p.fr ho a e).resolve_right (no a), p.sok, p.per, fun a u e n => p.keep a u e n (no a)⟩
    · rw [e] at q; cases q.1
  exact fn_run F S hbody hr hgd e0 hb r hs hp ha (hlen _ _ hq) (hsp ws _ hq) (fun q v H' p => key _ v H' p q) fun w v H' p q => key w v H' p q
/-- a def that makes a source of draws out of a list of ints -/
structure FnM (P : Program) (w : World) (K : PySem.W.Frag) (mg : Str → Option Value) (base : Heap) (k : Nat) (f : Addr) (fd : FuncData) (ps : List Str) : Prop where
  len : ps.length = 1
  run : ∀ (A : Around) (outer : List Env) (s : Shared) (H : Hp) (us : List Value) (v : V) (Q : VK) (sr : Sr) (ns : List Int), ns.length ≤ 1000 → Room k A → A.guards = some [] → Env0 P w K mg base A outer s H → BindsTo s fd ⟨us, []⟩ (ps.zip us) → Vals [v] us →
    SrOk sr H → RelW K sr H (.d (.list (ns.map PyData.int))) v → (∀ a q H', H a = none → H q = none → SrcAt H' a q → SrOk sr H' → Per H H' → (∀ b u, H b = some u → ¬ inSr sr b → H' b = some u) → Q (.ref a) H') → codeAny (model P w) A (.call (.ref f) ⟨us, []⟩) (CR CX0 outer P w H s Q E0) s
theorem fnM {P : Program} {w : World} {K : PySem.W.Frag} {mg : Str → Option Value} {base : Heap} {x qual : Str} {st : Stmt} {f : Addr} {fd : FuncData} {N ps : List Str} {k : Nat} {Γ : Gam} {tree : Ss} (F : Fun K x qual st f fd) (S : FnScope N ps (defScope st))
    (hlen : ps.length = 1)
    (hbody : ∀ (cdv : Value) (A : Around) (outer : List Env) (s : Shared) (H : Hp), Room k (A.deeper (envOfC qual (defScope st) s.heap.objs.size f cdv)) → (A.deeper (envOfC qual (defScope st) s.heap.objs.size f cdv)).guards = some [] →
      PSs (cxOf CX0 P w K mg base N qual (defScope st) f cdv A outer s H E0).nox (defBody st) (rdSs Γ K tree))
    (hsp : ∀ ns : List Int, ns.length ≤ 1000 → wpSs Γ tree (startC N [.d (.list (ns.map PyData.int))]) { nx := fun _ => False, rt := fun w => w = .src }) : FnM P w K mg base (k + 1) f fd ps := by
  refine ⟨hlen, fun A outer s H us v Q sr ns hz hr hgd e0 hb r hs hp hq => ?_⟩
  have no : ∀ a, ¬ OwnAt (L2.start N [v]) (startC N [.d (.list (ns.map PyData.int))]) a := fun a ⟨i, z⟩ => start_own rfl z
  refine fn_run F S hbody hr hgd e0 hb r hs (.cons hp .nil) rfl hlen.symm (hsp ns hz) (fun q => q.elim) fun w v H' p q => ?_
  subst q
  rcases p.rw with ⟨g, _⟩ | ⟨_, a, q, rfl, h1, h2, h3⟩
  · cases g
  · exact hq a q H' h1 h2 h3 p.sok p.per fun b u e n => p.keep b u e n (no b)
end Cal
set_option Elab.async false
set_option linter.all false
set_option maxRecDepth 100000
set_option maxHeartbeats 4000000
namespace Cal
open PySem PySem.Spec PyProof.Rows L2

/-! ## a law's source of draws; contexts -/
section
variable {X : Cx} {Γ : Gam} {pos : Pos} {a b c e : Expr} {ca cb cc ce : E} {p : Pos}
theorem srcRd (l m t : Int) (q : Addr) (H : Hp) (a : Addr) (h : H a = some (.dK [(.inr "cells", .ref q), (.inr "left", .int l), (.inr "mixed", .int m), (.inr "turn", .int t)])) {key : Str} (hk : key = "left" ∨ key = "mixed" ∨ key = "turn") : ∃ n : Int, DGet H a (.str key) (some (.int n)) := by
  rcases hk with rfl | rfl | rfl
  · exact ⟨l, .inl ⟨_, .inr "left", .inl h, rfl, rfl⟩⟩
  · exact ⟨m, .inl ⟨_, .inr "mixed", .inl h, rfl, rfl⟩⟩
  · exact ⟨t, .inl ⟨_, .inr "turn", .inl h, rfl, rfl⟩⟩
/-- source['left'] -/
theorem s_sget (G : Good X Γ) {i : Nat} {x key : Str} {px pk : Pos} {j : Nat} (hN : X.N[i]? = some x) (hv : Vis X.env.scope x) (hd : (x == ("__debug__" : Str)) = false) (hcd : (x == ("__classdict__" : Str)) = false) (hk : key = "left" ∨ key = "mixed" ∨ key = "turn") :
    PE X (.Subscript (.Name x px) (.Constant (.str key) j pk) pos) (rdE Γ X.K (.sget i)) := by
  refine weakE (pe_ix (ix_dict G.un) (pe_var hN hv hd hcd) pe_str (fun _ _ => rfl)) fun σ H Q ⟨sr, env, r, h⟩ => ?_
  replace h := ok_iff.mp h
  obtain ⟨o, e1, h⟩ := h
  replace h := ok_iff.mp h
  obtain ⟨w, e2, h⟩ := h
  subst e2
  obtain ⟨-, v, ev, rw⟩ := r.ats i w e1
  cases w <;> first | exact h.elim | skip
  obtain ⟨a, q, es, rfl⟩ := rw
  have hs := r.sok
  subst es
  obtain ⟨l, m, t, cs, ha, hq⟩ := hs
  obtain ⟨n, hn⟩ := srcRd l m t q H a ha hk
  exact ⟨.ref a, ev, a, _, rfl, hn, h n _ _ ⟨r, .int n, fun z => (by cases z), Evo.refl, fun _ z => z⟩⟩
/-- the source is changed -/
theorem RelS.srcUpd {K : PySem.W.Frag} {sr : Sr} {H H' : Hp} {σ : St} {env : EnvC} (r : RelS K sr H σ env) (so : SrOk sr H') (hk : ∀ b, ¬ inSr sr b → H' b = H b) : PostS K sr H σ env σ env H' := by
  have per : Per H H' := by
    refine ⟨fun b xs e => ?_, fun b o u e => ?_⟩
    · rw [hk b (r.sok.notTup e)]; exact e
    · rw [hk b (r.sok.notFrz e)]; exact e
  refine ⟨sr, r.keep per so fun b u hb e => by rw [hk b (r.sno b hb)]; exact e, ⟨per, fun b u e n _ => by rw [hk b n]; exact e, fun b z => .inl z, fun b e => ?_, .inl rfl, so⟩⟩
  by_cases hb : inSr sr b
  · obtain ⟨u, z, _⟩ := so.got hb
    rw [e] at z; cases z
  · rw [← hk b hb]; exact e
theorem srcNe {H : Hp} {a q : Addr} (h : SrcAt H a q) : q ≠ a := fun z => by
  obtain ⟨l, m, t, cs, h1, h2⟩ := h
  rw [z, h1] at h2; cases h2
theorem srcPut {H : Hp} {a q : Addr} (h : SrcAt H a q) {key : Str} (hk : key = "left" ∨ key = "mixed" ∨ key = "turn") (n : Int) : ∃ o, DPut H a (.str key) (.int n) (upd H a o) ∧ SrcAt (upd H a o) a q := by
  have ne := srcNe h
  obtain ⟨l, m, t, cs, h1, h2⟩ := h
  have h2' : ∀ o, upd H a o q = some (.lst (cs.map V.int)) := fun o => by rw [upd_ne ne]; exact h2
  have len : ([(.inr "cells", .ref q), (.inr "left", .int l), (.inr "mixed", .int m), (.inr "turn", .int t)] : List (Key × V)).length < sizeLine := by rw [sizeLine_eq]; show 4 < 16777216; decide
  rcases hk with rfl | rfl | rfl
  · exact ⟨_, .inl ⟨_, .inr "left", h1, rfl, len, rfl⟩, n, m, t, cs, upd_same, h2' _⟩
  · exact ⟨_, .inl ⟨_, .inr "mixed", h1, rfl, len, rfl⟩, l, n, t, cs, upd_same, h2' _⟩
  · exact ⟨_, .inl ⟨_, .inr "turn", h1, rfl, len, rfl⟩, l, m, n, cs, upd_same, h2' _⟩
/-- source['left'] = e -/
theorem s_sput (G : Good X Γ) {i : Nat} {x key : Str} {px pk pos' : Pos} {j : Nat} (hN : X.N[i]? = some x) (hv : Vis X.env.scope x) (hd : (x == ("__debug__" : Str)) = false) (hcd : (x == ("__classdict__" : Str)) = false) (hk : key = "left" ∨ key = "mixed" ∨ key = "turn") (he : PE X e (rdE Γ X.K ce))
    (hs : swapsWith e (some (.Subscript (.Name x px) (.Constant (.str key) j pk) pos')) pos.line X.env = pure false) : PS X (.Assign [.Subscript (.Name x px) (.Constant (.str key) j pk) pos'] e pos) (rdS Γ X.K (.sput i ce)) := by
  refine weakS (ps_dput (by have := G.un; omega) (pe_var hN hv hd hcd) pe_str he hs) fun D σ H ⟨sr, env, DC, r, h, ok⟩ => rdE_of G.mono r h fun w e1 v H1 h p => ?_
  replace h := ok_iff.mp h
  obtain ⟨n, en, h⟩ := h
  have q2 := int?_some en
  subst q2
  replace h := ok_iff.mp h
  obtain ⟨o, g1, h⟩ := h
  replace h := ok_iff.mp h
  obtain ⟨u, g2, h⟩ := h
  subst g2
  obtain ⟨-, v0, ev0, rw0⟩ := p.rs.ats i u g1
  cases u <;> first | exact h.elim | skip
  obtain ⟨a, q, es, rfl⟩ := rw0
  have evs := p.evs
  have rs := p.rs
  have hs := rs.sok
  have hv := rw_int p.rw
  subst es
  subst hv
  obtain ⟨o, hp, hs2⟩ := srcPut hs hk n
  refine ⟨.ref a, ev0, a, _, rfl, hp, ok.nx _ _ _ (evs.post (rs.srcUpd hs2 fun b hb => upd_ne fun z => hb (.inl z)) r) h⟩
/-- while source['left'] < 2 and len(source['cells']) > 0: source['left'] = source['cells'].pop() -/
theorem drain_core {X : Cx} {D : Ends} {σ : St} {sr : Sr} {env : EnvC} {H : Hp} {tc : TT} {tb : TS} (r : RelS X.K sr H σ env) {a q : Addr} (es : sr = some (a, q)) (ok : ∀ H', PostS X.K sr H σ env σ env H' → D.nx σ H')
    (hc : ∀ (H : Hp) (l m t : Int) (cs : List Int) (Q : Bool → Hp → Prop), H a = some (.dK [(.inr "cells", .ref q), (.inr "left", .int l), (.inr "mixed", .int m), (.inr "turn", .int t)]) → H q = some (.lst (cs.map V.int)) → Q (decide (l < 2) && decide (0 < cs.length)) H → tc σ H Q)
    (hb : ∀ (D : Ends) (H : Hp) (l m t : Int) (cs : List Int) (y : Int), H a = some (.dK [(.inr "cells", .ref q), (.inr "left", .int l), (.inr "mixed", .int m), (.inr "turn", .int t)]) → H q = some (.lst ((cs ++ [y]).map V.int)) →
      D.nx σ (upd (upd H q (.lst (cs.map V.int))) a (.dK [(.inr "cells", .ref q), (.inr "left", .int y), (.inr "mixed", .int m), (.inr "turn", .int t)])) → tb D σ H) : tWhile tc tb D σ H := by
  subst es
  have so := r.sok
  obtain ⟨l0, m0, t0, cs0, ha0, hq0⟩ := so
  refine ⟨fun n σ' H' => σ' = σ ∧ ∃ (l m t : Int) (cs : List Int), H' a = some (.dK [(.inr "cells", .ref q), (.inr "left", .int l), (.inr "mixed", .int m), (.inr "turn", .int t)]) ∧ H' q = some (.lst (cs.map V.int)) ∧ n = cs.length ∧ ∀ b, b ≠ a → b ≠ q → H' b = H b, ⟨_, rfl, l0, m0, t0, cs0, ha0, hq0, rfl, fun _ _ _ => rfl⟩, ?_⟩
  rintro n σ2 H2 ⟨rfl, l, m, t, cs, ha, hq, rfl, hk⟩
  have ne : q ≠ a := srcNe ⟨l, m, t, cs, ha, hq⟩
  refine hc H2 l m t cs _ ha hq ?_
  cases hb1 : (decide (l < 2) && decide (0 < cs.length)) with
  | true =>
    rw [if_pos rfl]
    rw [Bool.and_eq_true, decide_eq_true_eq, decide_eq_true_eq] at hb1
    obtain ⟨cs', y, rfl⟩ : ∃ cs' y, cs = cs' ++ [y] := ⟨cs.dropLast, cs.getLast (fun z => by rw [z] at hb1; exact absurd hb1.2 (by decide)), (List.dropLast_concat_getLast _).symm⟩
    refine ⟨fun σ' H' => ∃ m', m' < (cs' ++ [y]).length ∧ (σ' = σ2 ∧ ∃ (l m t : Int) (cs : List Int), H' a = some (.dK [(.inr "cells", .ref q), (.inr "left", .int l), (.inr "mixed", .int m), (.inr "turn", .int t)]) ∧ H' q = some (.lst (cs.map V.int)) ∧ m' = cs.length ∧ ∀ b, b ≠ a → b ≠ q → H' b = H b), fun σ' H' z => z, hb _ H2 l m t cs' y ha hq ?_⟩
    refine ⟨cs'.length, by rw [List.length_append]; exact Nat.lt_succ_self _, rfl, y, m, t, cs', upd_same, ?_, rfl, fun b h1 h2 => by rw [upd_ne h1, upd_ne h2]; exact hk b h1 h2⟩
    rw [upd_ne ne, upd_same]
  | false =>
    rw [if_neg Bool.false_ne_true]
    exact ok H2 (r.srcUpd ⟨l, m, t, cs, ha, hq⟩ fun b hb => hk b (fun z => hb (.inl z)) fun z => hb (.inr z))
theorem pk_cells (l m t : Int) (q : Addr) (H : Hp) (a : Addr) (h : H a = some (.dK [(.inr "cells", .ref q), (.inr "left", .int l), (.inr "mixed", .int m), (.inr "turn", .int t)])) : DGet H a (.str "cells") (some (.ref q)) ∧ DGet H a (.str "left") (some (.int l)) :=
  ⟨.inl ⟨_, .inr "cells", .inl h, rfl, rfl⟩, .inl ⟨_, .inr "left", .inl h, rfl, rfl⟩⟩
theorem s_drain1 (G : Good X Γ) {i : Nat} {x : Str} {p1 p2 p3 p4 p5 p6 p7 p8 p9 p10 p11 p12 p13 p14 p15 p16 p17 p18 p19 p20 p21 p22 : Pos} {j1 j2 j3 j4 j5 j6 : Nat} (hN : X.N[i]? = some x) (hv : Vis X.env.scope x) (hd : (x == ("__debug__" : Str)) = false) (hcd : (x == ("__classdict__" : Str)) = false) (hg : Gl X "len")
    (hbase : attributeBase (.Subscript (.Name x p15) (.Constant (.str "cells") j5 p16) p17) "pop" X.env (eval (.Subscript (.Name x p15) (.Constant (.str "cells") j5 p16) p17) X.env) = eval (.Subscript (.Name x p15) (.Constant (.str "cells") j5 p16) p17) X.env) (hline : (p18.endLine == p19.line) = true) :
    PS X (.While (.BoolOp .And [.Compare (.Subscript (.Name x p1) (.Constant (.str "left") j1 p2) p3) [.Lt] [.Constant (.int 2) j2 p4] p5, .Compare (.Call (.Name "len" p6) [.Subscript (.Name x p7) (.Constant (.str "cells") j3 p8) p9] [] p10) [.Gt] [.Constant (.int 0) j4 p11] p12] p13)
      [.Assign [.Subscript (.Name x p20) (.Constant (.str "left") j6 p21) p22] (.Call (.Attribute (.Subscript (.Name x p15) (.Constant (.str "cells") j5 p16) p17) "pop" p18) [] [] p19) p14] [] pos) (rdS Γ X.K (.drain i none)) := by
  have hp : PassesOwn (model X.prog X.w) X.A X.env X.xe := by rw [G.nox]; exact PassesOwn.never
  have pvx := fun (p : Pos) => pe_var (X := X) (pos := p) hN hv hd hcd
  have cst := fun (s : Str) (j : Nat) (p : Pos) => (pe_str : PE X (.Constant (.str s) j p) (tC (.str s)))
  have cin := fun (s : Int) (j : Nat) (p : Pos) => (pe_int : PE X (.Constant (.int s) j p) (tC (.int s)))
  have hcond := pw_and (pos := p13) (pt_cmpR (pos := p5) op_lt (pe_ix (pos := p3) (ix_dict G.un) (pvx p1) (cst "left" j1 p2) (fun _ _ => rfl)) (cin 2 j2 p4) (nomark _))
    (pw_and1 (pos := p13) (pt_cmpR (pos := p12) op_gt (pe_callB (pos := p10) (p := p6) call_len_seq hg (G.blt _ (by decide)) PySem.boot_len (pa_cons (pe_ix (pos := p9) (ix_dict G.un) (pvx p7) (cst "cells" j3 p8) (fun _ _ => rfl)) pa_nil)) (cin 0 j4 p11) (nomark _)))
  have hbody := pss_one (ps_dput (pos := p14) (pos' := p22) (by have := G.un; omega) (pvx p20) (cst "left" j6 p21) (pe_bm0 (cpos := p19) (apos := p18) PySem.F.plainAttrs_list PySem.F.slot_list_pop PySem.F.type_list_pop mt_pop (pe_ix (pos := p17) (ix_dict G.un) (pvx p15) (cst "cells" j5 p16) (fun _ _ => rfl)) hbase hline) rfl)
  refine weakS (ps_while hp hcond.pt hbody) fun D σ H ⟨sr, env, DC, r, h, ok⟩ => ?_
  replace h := ok_iff.mp h
  obtain ⟨o, g1, h⟩ := h
  replace h := ok_iff.mp h
  obtain ⟨u, g2, h⟩ := h
  subst g2
  obtain ⟨-, v0, ev0, rw0⟩ := r.ats i u g1
  cases u <;> first | exact h.elim | skip
  obtain ⟨a, q, es, rfl⟩ := rw0
  refine drain_core r es (fun H' ps => ok.nx _ _ _ ps h) ?_ ?_
  · intro H l m t cs Q ha hq hQ
    obtain ⟨dc, dl⟩ := pk_cells l m t q H a ha
    refine ⟨.ref a, ev0, a, _, rfl, dl, l, 2, rfl, rfl, _, rfl, ?_⟩
    show (if decide (l < 2) = true then _ else _)
    by_cases hl : l < 2
    · rw [if_pos (decide_eq_true hl)]
      refine ⟨.ref a, ev0, a, _, rfl, dc, q, _, rfl, .inl (.inl (.inl hq)), _, 0, rfl, rfl, _, rfl, ?_⟩
      have e : (decide (((0 : Int)) < (((cs.map V.int).length : Nat) : Int))) = (decide (l < 2) && decide (0 < cs.length)) := by
        rw [decide_eq_true hl, Bool.true_and, List.length_map]
        by_cases h0 : 0 < cs.length
        · rw [decide_eq_true h0, decide_eq_true (by omega)]
        · rw [decide_eq_false h0, decide_eq_false (by omega)]
      first | exact e ▸ hQ | (rw [← e] at hQ; exact hQ)
    · rw [decide_eq_false hl] at hQ ⊢
      rw [if_neg Bool.false_ne_true]
      exact hQ
  · intro D H l m t cs y ha hq hQ
    obtain ⟨dc, dl⟩ := pk_cells l m t q H a ha
    have ne : q ≠ a := fun z => by rw [z, ha] at hq; cases hq
    refine ⟨.ref a, ev0, a, _, rfl, dc, .inl ⟨rfl, _, .inl (.inl hq)⟩, q, _, .int y, rfl, rfl, hq, ?_, .ref a, ev0, a, _, rfl, .inl ⟨_, .inr "left", (by rw [upd_ne (Ne.symm ne)]; exact ha), rfl, (by rw [sizeLine_eq]; show 4 < 16777216; decide), rfl⟩, ?_⟩
    · rw [List.map_append, List.length_append]
      simp
    · rw [List.map_append, List.map_cons, List.map_nil, List.dropLast_concat]
      exact hQ
end
end Cal
set_option Elab.async false
set_option linter.all false
set_option maxRecDepth 100000
set_option maxHeartbeats 4000000
namespace Cal
open PySem PySem.Spec PyProof.Rows L2

/-! ## displays; contexts -/
section
variable {X : Cx} {Γ : Gam} {pos : Pos} {a b c e : Expr} {ca cb cc ce : E} {p : Pos}
/-- {k: v} -/
theorem s_dsp (G : Good X Γ) {k v : Expr} {ck cv : E} (hk : PE X k (rdE Γ X.K ck)) (hv : PE X v (rdE Γ X.K cv)) : PE X (.Dict [some k] [v] pos) (rdE Γ X.K (.dsp ck cv)) := by
  refine weakE (pe_disp (pps_cons hk hv pps_nil) rfl rfl (by simp) (by simp)) fun σ H Q ⟨sr, env, r, h⟩ => ?_
  intro q hq
  have r0 := r.new (o := .dK []) hq
  have nq : ¬ inSr sr q := r.sok.notIn hq
  have oq : ¬ OwnAt σ env q := r.notOwn hq
  have p0 : Post X.K sr H σ env env (.d .none) .non (upd H q (.dK [])) := ⟨r0, .none, fun z => (by cases z), ⟨Per.new hq, fun a u e _ => .inl (by rw [upd_ne (ne_of_none e hq)]; exact e)⟩, fun _ z => z⟩
  refine rdE_of G.mono r0 h fun w e1 x H1 h1 p => rdE_of G.mono p.rs h1 fun w2 e2 y H2 h2 p2 => ?_
  have p12 := p.trans r0 p2
  have hq2 : H2 q = some (.dK []) := (p12.ev.keep q _ upd_same nq).resolve_right fun z => oq z.1
  obtain ⟨y0, ey, h3⟩ := ok_iff.mp h2
  obtain ⟨key, ek, h4⟩ := ok_iff.mp h3
  clear h h1 h2 h3
  have hk2 : x = kV key := by
    cases w with
    | d z => cases ey; exact rd_key ek p.rw
    | src => cases ey
    | lst z => cases ey; cases ek
    | vlst z => cases ey; cases ek
    | dct z => cases ey; cases ek
    | vdct z => cases ey; cases ek
  subst hk2
  cases w2 <;> first | exact h4.elim | skip
  rename_i z
  refine ⟨hq2, [(key, y)], rfl, by simp, h4 _ _ ?_⟩
  have rdz : RD X.K H2 z y := p2.rw
  have pp := p0.trans r p12
  have perU : Per H2 (upd H2 q (.dK (mergeK [] [(key, y)]))) := ⟨fun a xs e => by rw [upd_ne (fun z => by rw [z, hq2] at e; cases e)]; exact e, fun a o u e => by rw [upd_ne (fun z => by rw [z, hq2] at e; cases e)]; exact e⟩
  have so := pp.rs.sok.upd (o := .dK (mergeK [] [(key, y)])) nq
  have o2 : ∀ b, OwnAt σ e2 b → b ≠ q := fun b hb z => oq (by rw [← z]; exact pp.sub b hb)
  refine ⟨pp.rs.keep perU so fun b u hb e => by rw [upd_ne (o2 b hb)]; exact e, ⟨q, _, rfl, upd_same, ?_⟩, fun _ b e => by cases e; exact hq, ⟨pp.ev.per.trans perU, fun b u e n => ?_⟩, pp.sub⟩
  · exact .cons (rdz.per perU) .nil
  · have hb : b ≠ q := fun z => by rw [z, hq] at e; cases e
    rw [upd_ne hb]
    exact pp.ev.keep b u e n
/-- return {'cells': .., 'left': .., 'mixed': .., 'turn': ..} -/
theorem s_mkret (G : Good X Γ) {ec em : Expr} {cm : E} {l t : Int} {j1 j2 j3 j4 j5 j6 : Nat} {p1 p2 p3 p4 p5 p6 pd : Pos} (hc : PE X ec (rdE Γ X.K cc)) (hm : PE X em (rdE Γ X.K cm)) :
    PS X (.Return (some (.Dict [some (.Constant (.str "cells") j1 p1), some (.Constant (.str "left") j2 p2), some (.Constant (.str "mixed") j3 p3), some (.Constant (.str "turn") j4 p4)] [ec, .Constant (.int l) j5 p5, em, .Constant (.int t) j6 p6] pd)) pos) (rdS Γ X.K (.mkret cc cm)) := by
  refine weakS (ps_ret (pe_disp (pps_cons pe_str hc (pps_cons pe_str pe_int (pps_cons pe_str hm (pps_cons pe_str pe_int pps_nil)))) rfl rfl (by simp) (by simp))) fun D σ H ⟨sr, env, DC, r, h, ok⟩ => ?_
  intro q hq
  have r0 := r.new (o := .dK []) hq
  have nq : ¬ inSr sr q := r.sok.notIn hq
  have oq : ¬ OwnAt σ env q := r.notOwn hq
  have p0 : Post X.K sr H σ env env (.d .none) .non (upd H q (.dK [])) := ⟨r0, .none, fun z => (by cases z), ⟨Per.new hq, fun a u e _ => .inl (by rw [upd_ne (ne_of_none e hq)]; exact e)⟩, fun _ z => z⟩
  refine rdE_of G.mono r0 h fun w e1 x H1 h1 p => rdE_of G.mono p.rs h1 fun w2 e2 y H2 h2 p2 => ?_
  have p12 := p.trans r0 p2
  have hq2 : H2 q = some (.dK []) := (p12.ev.keep q _ upd_same nq).resolve_right fun z => oq z.1
  obtain ⟨ho, h3⟩ := h2
  obtain ⟨xs, ex, h4⟩ := ok_iff.mp h3
  obtain ⟨ns, en, h5⟩ := ok_iff.mp h4
  obtain ⟨m, em, h6⟩ := ok_iff.mp h5
  clear h h1 h3 h4 h5
  have q2 := int?_some em
  subst q2
  have rw1 := p.later p2.ev r0.sok r0
  cases w <;> first | cases ho | skip
  · cases ex
    obtain ⟨cq, vs, rfl, hcq, rs⟩ := rw1
    have fresh := p.fr rfl cq rfl
    have e1 := ints_of en
    subst e1
    have e2 := rs.ints
    subst e2
    have hc0 : H cq = none := p0.ev.none p0.rs.sok fresh
    have ncq : cq ≠ q := fun z => by rw [z, upd_same] at fresh; cases fresh
    have hy := rw_int p2.rw
    subst hy
    have pp := p0.trans r p12
    refine ⟨hq2, [(.inr "cells", .ref cq), (.inr "left", .int l), (.inr "mixed", .int m), (.inr "turn", .int t)], rfl, by simp, ok.rt .src _ _ ⟨.inr ⟨rfl, q, cq, rfl, hq, hc0, l, m, t, ns, upd_same, ?_⟩, fun z => (by cases z), ?_, fun b u e n o => ?_, pp.rs.sok.upd nq⟩ h6⟩
    · rw [upd_ne ncq]; exact hcq
    · exact pp.ev.per.trans ⟨fun a xs e => by rw [upd_ne (fun z => by rw [z, hq2] at e; cases e)]; exact e, fun a o u e => by rw [upd_ne (fun z => by rw [z, hq2] at e; cases e)]; exact e⟩
    · have hb : b ≠ q := fun z => by rw [z, hq] at e; cases e
      rw [upd_ne hb]
      exact (pp.ev.keep b u e n).resolve_right fun z => o z.1
  · cases ex
/-- a def that makes the source, as it is known in a body -/
structure Maker (X : Cx) (f : Str) : Prop where
  is : ∃ (fa : Addr) (fd : FuncData) (ps : List Str) (k : Nat), FnM X.prog X.w X.K X.mg X.base k fa fd ps ∧ Room k X.A ∧ X.mg f = some (.ref fa) ∧ PySem.W.keepIn X.K (.ref fa) = true ∧ Binds X.K fd ps []
/-- source = _law_source(script) -/
theorem s_mk (G : Good X Γ) {f : Str} (M : Maker X f) {i : Nat} {x : Str} {px pf pc : Pos} (hi : X.N[i]? = some x) (hx : Loc X.env.scope x) (hf : X.fn x = true ∨ X.env.scope.names.lookup x = some .local) (hg : Gl X f) (hdb : (f == ("__debug__" : Str)) = false) (hs : nostar e = true) (he : PE X e (rdE Γ X.K ce)) :
    PS X (.Assign [.Name x px] (.Call (.Name f pf) [e] [] pc) pos) (rdS Γ X.K (.mk i f ce)) := by
  obtain ⟨fa, fd, ps, k, F, hr, hm, hk, hb⟩ := M.is
  have he2 : PE X (.Call (.Name f pf) [e] [] pc) (fun σ H Q => ∃ sr env, RelS X.K sr H σ env ∧ wpE Γ ce env fun w e1 => ok w.list? fun xs => ok (intsOf xs) fun ns => w.arg = true ∧ ns.length ≤ 1000 ∧ ∀ H1 v, Post X.K sr H σ env e1 w v H1 → ∀ a q H', H1 a = none → H1 q = none → SrcAt H' a q → SrOk sr H' → Per H1 H' → (∀ b u, H1 b = some u → ¬ inSr sr b → H' b = some u) → Q (.ref a) H') := by
    refine ⟨fun pins s σ H Q I ⟨sr, env, r, h⟩ => ?_⟩
    refine wpAny_Call_Name_kw (ld_glob I hg hm ?_ hdb)
    refine PySem.W.callWith_K (h₀ := X.base) I.ok.mod.kin hk (thn ((pa_cons he pa_nil (star_cons hs)).run pc pins s σ H (fun vs H1 => ∃ (w : W) (e1 : EnvC) (v : V) (ns : List Int), vs = [v] ∧ Post X.K sr H σ env e1 w v H1 ∧ w = .d (.list (ns.map PyData.int)) ∧ ns.length ≤ 1000 ∧ ∀ a q H', H1 a = none → H1 q = none → SrcAt H' a q → SrOk sr H' → Per H1 H' → (∀ b u, H1 b = some u → ¬ inSr sr b → H' b = some u) → Q (.ref a) H') I (rdE_of G.mono r h fun w e1 v H1 h p => ?_)) fun us s1 ⟨vs, H1, I1, rv, w, e1, v, ns, evs, p, ew, hz, q⟩ => ⟨I1.kIn, ?_⟩) (star_cons hs) rfl
    · replace h := ok_iff.mp h
      obtain ⟨xs, e1, h⟩ := h
      replace h := ok_iff.mp h
      obtain ⟨ns, e2, harg, hz, h⟩ := h
      refine ⟨w, _, v, ns, rfl, p, ?_, hz, h H1 v p⟩
      have e3 := ints_of e2
      subst e3
      cases w <;> first | cases harg | skip
      · rename_i x; cases x <;> first | (cases e1; rfl) | cases e1
      · cases e1
    · subst evs
      subst ew
      have hl : (us ++ []).length = ps.length := by rw [List.append_nil, ← rv.length, F.len]; rfl
      have hb1 := hb s1 us I1.kIn hl
      rw [List.append_nil] at hb1
      refine wpAny_call (codeAny_mono (F.run X.A X.stack s1 H1 us v Q sr ns hz hr G.guards I1.env0 hb1 rv p.rs.sok p.rw q) fun r s' hq => ?_)
      cases r with
      | error e => exact False.elim hq
      | ok fl =>
        cases fl with
        | ret u => exact I1.after hq
        | next => exact False.elim hq
        | brk => exact False.elim hq
        | cont => exact False.elim hq
  refine weakS (ps_set G.nd hi hx he2 rfl hf) fun D σ H ⟨sr, env, DC, r, h, ok⟩ => ⟨sr, env, r, wpE_mono G.mono ce h fun w e1 h => ?_⟩
  replace h := ok_iff.mp h
  obtain ⟨xs, e2, h⟩ := h
  replace h := ok_iff.mp h
  obtain ⟨ns, e3, harg, hz, hl, hno, h⟩ := h
  refine ok_iff.mpr ⟨xs, e2, ok_iff.mpr ⟨ns, e3, harg, hz, fun H1 v p a q H' ha hq hsrc hso per kp => ok.nx _ _ (e1.set i (some .src)) (p.evs.post ⟨some (a, q), ?_, ?_⟩ r) h⟩⟩
  · have hl2 : i < σ.length := by rw [← p.rs.len]; exact hl
    have sub1 : ∀ j b, OwnI (σ.set i (some (V.ref a))) (e1.set i (some W.src)) j b → OwnI σ e1 j b := fun j b ⟨w', x1, x2, x3⟩ => by
      by_cases hj : i = j
      · subst hj
        rw [List.getElem?_set_self hl] at x1
        cases x1
        cases x2
      · rw [List.getElem?_set_ne hj] at x1 x3
        exact ⟨w', x1, x2, x3⟩
    refine ⟨by rw [List.length_set, List.length_set]; exact p.rs.len, fun j w' x1 => ?_, fun j k b h1 h2 => p.rs.dis j k b (sub1 j b h1) (sub1 k b h2), hsrc, fun b ⟨j, hj⟩ z => ?_⟩
    · by_cases hj : i = j
      · subst hj
        rw [List.getElem?_set_self hl] at x1
        cases x1
        exact ⟨rfl, .ref a, List.getElem?_set_self hl2, a, q, rfl, rfl⟩
      · have hn : w' ≠ .src := fun z => by
          subst z
          have hj2 : (e1.set i none)[j]? = some (some W.src) := by
            rw [List.getElem?_set_ne hj] at x1 ⊢
            exact x1
          have := List.all_eq_true.mp hno _ (List.mem_of_getElem? hj2)
          cases this
        rw [List.getElem?_set_ne hj] at x1
        obtain ⟨v1, v', x2, rw'⟩ := p.rs.ats j w' x1
        refine ⟨v1, v', by rw [List.getElem?_set_ne hj]; exact x2, ?_⟩
        have own : ∀ (ho : w'.own = true) (b : Addr) (u : HO), v' = .ref b → H1 b = some u → H' b = some u := fun ho b u e hb => kp b u hb (p.rs.sno b ⟨j, w', x1, ho, by rw [x2, e]⟩)
        cases w' with
        | d x => exact RD.per per rw'
        | lst xs => obtain ⟨b, vs, e, h1, h2⟩ := rw'; exact ⟨b, vs, e, own rfl b _ e h1, RDs.per per h2⟩
        | dct xs => obtain ⟨b, vs, e, h1, h2⟩ := rw'; exact ⟨b, vs, e, own rfl b _ e h1, RKs.per per h2⟩
        | vlst xs => cases v1
        | vdct xs => cases v1
        | src => exact absurd rfl hn
    · obtain ⟨u, hu, _⟩ := p.rs.ownAt ⟨j, sub1 j b hj⟩
      rcases z with z | z
      · rw [z, ha] at hu; cases hu
      · rw [z, hq] at hu; cases hu
  · have sub1 : ∀ b, OwnAt (σ.set i (some (V.ref a))) (e1.set i (some W.src)) b → OwnAt σ e1 b := fun b ⟨j, w', x1, x2, x3⟩ => by
      by_cases hj : i = j
      · subst hj
        rw [List.getElem?_set_self hl] at x1
        cases x1
        cases x2
      · rw [List.getElem?_set_ne hj] at x1 x3
        exact ⟨j, w', x1, x2, x3⟩
    refine ⟨per, fun b u e n _ => kp b u e n, fun b z => .inl (sub1 b z), fun b e => ?_, .inr fun b z => ?_, hso⟩
    · cases hb : H1 b with
      | none => rfl
      | some u =>
        by_cases hi : inSr sr b
        · obtain ⟨u', z, _⟩ := hso.got hi
          rw [e] at z; cases z
        · rw [kp b u hb hi] at e; cases e
    · rcases z with z | z
      · rw [z]; exact ha
      · rw [z]; exact hq
/-! ### contexts -/
/-- the defs that a body may call -/
structure Defs (P : Program) (w : World) (K : PySem.W.Frag) (mg : Str → Option Value) (base : Heap) (k : Nat) (Γ : Gam) : Prop where
  mono : GMono Γ
  call : ∀ f sp, Γ f = some sp → ∃ (fa : Addr) (fd : FuncData) (ps : List Str), FnC P w K mg base k fa fd ps sp ∧ mg f = some (.ref fa) ∧ PySem.W.keepIn K (.ref fa) = true ∧ Binds K fd ps []
def noΓ : Gam := fun _ => none
def addΓ (Γ : Gam) (f : Str) (sp : Spec) : Gam := fun x => if x = f then some sp else Γ x
def SpMono (sp : Spec) : Prop := ∀ ws P P', sp ws P → (∀ w, P w → P' w) → sp ws P'
section
variable {P : Program} {w : World} {K : PySem.W.Frag} {mg : Str → Option Value} {base : Heap} {k : Nat} {Γ : Gam}
theorem Defs.none : Defs P w K mg base k noΓ := ⟨fun _ _ h => (by cases h), fun _ _ h => (by cases h)⟩
theorem Defs.up {j : Nat} (D : Defs P w K mg base j Γ) (h : j ≤ k) : Defs P w K mg base k Γ := ⟨D.mono, fun f sp e => by
  obtain ⟨fa, fd, ps, F, r⟩ := D.call f sp e
  exact ⟨fa, fd, ps, F.mono h, r⟩⟩
theorem Defs.add (D : Defs P w K mg base k Γ) {f : Str} {sp : Spec} {fa : Addr} {fd : FuncData} {ps : List Str} (hm : SpMono sp) (F : FnC P w K mg base k fa fd ps sp) (h1 : mg f = some (.ref fa)) (h2 : PySem.W.keepIn K (.ref fa) = true) (h3 : Binds K fd ps []) : Defs P w K mg base k (addΓ Γ f sp) := by
  refine ⟨fun g sp' e => ?_, fun g sp' e => ?_⟩
  · unfold addΓ at e
    split at e
    · cases e; exact hm
    · exact D.mono g sp' e
  · unfold addΓ at e
    split at e
    · rename_i hg
      cases e; subst hg
      exact ⟨fa, fd, ps, F, h1, h2, h3⟩
    · exact D.call g sp' e
theorem good_def {N ps : List Str} {qual : Str} {scope : Scope} {f : Addr} {cd : Value} {A : Around} {outer : List Env} {s : Shared} {H : Hp} {E : XK} (S : FnScope N ps scope) (hr : Room k (A.deeper (envOfC qual scope s.heap.objs.size f cd)))
    (hg : (A.deeper (envOfC qual scope s.heap.objs.size f cd)).guards = some []) (D : Defs P w K mg base k Γ) (hb : ∀ x ∈ served, mg x = Option.none) : Good (cxOf CX0 P w K mg base N qual scope f cd A outer s H E).nox Γ :=
  ⟨S.nd, rfl, rfl, by have := hr.un; show (A.deeper (envOfC qual scope s.heap.objs.size f cd)).units + 200 < cLine; omega, hb, fun g sp e => by
    obtain ⟨fa, fd, ps, F, h1, h2, h3⟩ := D.call g sp e
    exact ⟨fa, fd, ps, k, F, hr, h1, h2, h3⟩, D.mono, hg⟩
theorem good_blk {X : Cx} (G : Good X Γ) (s : Shared) (H : Hp) (scope : Scope) (cenv : Env) (fp : List Addr) : Good (X.blk s H scope cenv fp) Γ :=
  ⟨G.nd, G.calm, rfl, G.un, G.blt, fun g sp e => let ⟨h⟩ := G.call g sp e; ⟨h⟩, G.mono, G.guards⟩
end
end
end Cal
set_option Elab.async false
set_option linter.all false
set_option maxRecDepth 100000
set_option maxHeartbeats 4000000
namespace Cal
open PySem PySem.Spec PyProof.Rows L2

/-! ## the law's call -/
def noList (K : PySem.W.Frag) : Bool := K.all fun p => !(p.2.cls == .type "list")
theorem mem_of_look : ∀ (K : List (Addr × Obj)) (a : Addr) (o : Obj), K.lookup a = some o → (a, o) ∈ K := by
  intro K
  induction K with
  | nil => intro a o h; simp at h
  | cons p r ih =>
    intro a o h
    rw [List.lookup_cons] at h
    by_cases hb : (a == p.1) = true
    · simp only [hb] at h
      have e1 : a = p.1 := by simpa using hb
      have e2 : p.2 = o := by simpa using h
      rw [e1, ← e2]
      exact List.mem_cons_self
    · have hb2 : (a == p.1) = false := by simpa using hb
      simp only [hb2] at h
      exact List.mem_cons_of_mem _ (ih a o h)
theorem noList_no {K : PySem.W.Frag} (h : noList K = true) {a : Addr} {o : Obj} (e : K.lookup a = some o) : o.cls ≠ .type "list" := fun z => by
  have := List.all_eq_true.mp h (a, o) (mem_of_look _ _ _ e)
  rw [Bool.not_eq_true', beq_eq_false_iff_ne] at this
  exact this z
theorem law_callC {P : Program} {w : World} {K : PySem.W.Frag} {mg mb : Str → Option Value} {k : Nat} {fa a : Addr} {fd : FuncData} {x : Str} {sp : Spec} {s₁ : Shared} {vs : List Value} {ns : List Int}
    (KX : K.In s₁.heap) (hns : s₁.heap.Ns mainGlobals mg) (hb : s₁.heap.Ns builtinsNs mb) (hbb : ∀ x : Str, x ≠ "__name__" → mb x = bootBuiltins x) (hlim : s₁.heap.NoLimit) (hg : s₁.gens = #[])
    (ha : s₁.heap.get? a = some { cls := .type "list", data := .seq vs.toArray }) (hi : IntsAre vs ns) (hl : ns.length ≤ sizeLine) (hr : Room k callerA) (hno : noList K = true) (hm : SpMono sp)
    (F : ∀ base : Heap, K.In base → base.Ns mainGlobals mg → FnC P w K mg base k fa fd [x] sp) (hbind : ∀ (s : Shared) (u : Value), BindsTo s fd ⟨[u], []⟩ [(x, u)])
    (hsp : sp [.d (.list (ns.map PyData.int))] fun w => w = .d (.bool true)) :
    codeAny (model P w) callerA (.call (.ref fa) ⟨[.ref a], []⟩) (fun r s' => r = .ok (.ret (.bool true)) ∧ OldK s₁.heap s'.heap ∧ s'.os = s₁.os ∧ AllBare s'.gens) s₁ := by
  have rv := vals_ints hi
  have lenV := hi.length
  have hk : K.lookup a = none := by
    cases hk : K.lookup a with
    | none => rfl
    | some o =>
      have e := KX a o hk
      rw [ha] at e
      cases e
      exact absurd rfl (noList_no hno hk)
  obtain ⟨H, hHa, hHn⟩ : ∃ H : Hp, H a = some (.frz { cls := .type "list", data := .seq vs.toArray } (.lst (ns.map V.int))) ∧ ∀ b, b ≠ a → H b = none := ⟨fun b => if b = a then some (.frz { cls := .type "list", data := .seq vs.toArray } (.lst (ns.map V.int))) else none, if_pos rfl, fun b hb => if_neg hb⟩
  have hA : ∀ b, H b ≠ none → b = a := fun b z => by
    by_cases hb : b = a
    · exact hb
    · exact absurd (hHn b hb) z
  have hok : HOk P w H s₁.heap := fun b u z => by
    by_cases hb : b = a
    · subst hb
      rw [hHa] at z
      cases z
      exact ⟨ha, by rw [List.length_map]; exact hl, vs, _, rv, ha⟩
    · rw [hHn b hb] at z
      cases z
  have base_of : ∀ {b : Addr} {o : Obj}, s₁.heap.get? b = some o → H b = none → (hidT s₁.heap H).get? b = some o := fun e n => hidT_get e n
  have noA : ∀ {b : Addr} {o : Obj} {es : Array DictEntry} {ep : Nat}, s₁.heap.get? b = some o → o.data = .dict es ep → H b = none := fun {b o es ep} e d => by
    cases q : H b with
    | none => rfl
    | some u =>
      have e' : b = a := hA b (by rw [q]; simp)
      subst e'
      rw [ha] at e; cases e
      have d' : Data.seq vs.toArray _ = Data.dict es ep := d
      cases d'
  have nsK : ∀ {b : Addr} {m : Str → Option Value}, s₁.heap.Ns b m → (hidT s₁.heap H).Ns b m := fun {b m} ⟨o, es, ep, e, d, r⟩ => ⟨o, es, ep, base_of e (noA e d), d, r⟩
  have hKb : K.In (hidT s₁.heap H) := fun b o e => base_of (KX b o e) (by
    cases q : H b with
    | none => rfl
    | some u =>
      have e' : b = a := hA b (by rw [q]; simp)
      subst e'
      rw [hk] at e; cases e)
  have hM : Mod K mg (hidT s₁.heap H) := ⟨hKb, nsK hns, ⟨mb, nsK hb, hbb⟩, let ⟨mc, h1, h2⟩ := hlim; ⟨mc, nsK h1, h2⟩⟩
  have e0 : Env0 P w K mg (hidT s₁.heap H) callerA [] s₁ H := ⟨rfl, hM, fun b o e => of_hidT e, Nat.le_of_eq (hidT_size _ _), trivial, fun b hb => absurd (show b ∈ ([] : List Addr) from hb) (by simp), hok, .of_eq hg⟩
  refine codeAny_mono ((F _ hKb (nsK hns)).run callerA [] s₁ H [.ref a] [.ref a] (fun v _ => v = .bl true) none [.d (.list (ns.map PyData.int))] hr rfl e0 (hbind s₁ (.ref a)) (.cons rfl .nil) trivial (.cons (RD.list hHa (RDs.of_ints ns)) .nil) rfl (hm _ _ _ hsp fun w e => ⟨by rw [e]; rfl, fun v H' c => by
    have c := c.rw
    rw [e] at c
    exact rw_bool c⟩)) fun r s' h => ?_
  cases r with
  | error e => exact False.elim h
  | ok fl =>
    cases fl with
    | next => exact False.elim h
    | brk => exact False.elim h
    | cont => exact False.elim h
    | ret u =>
      obtain ⟨v, H', os, bare, un, hok', r', q⟩ := h
      have q' : v = .bl true := q
      subst q'
      obtain rfl : u = Value.bool true := r'
      refine ⟨rfl, OldK.of_keep fun b o e => ?_, os, bare⟩
      cases q : H b with
      | none => exact un.keep b o e q (by intro z; exact absurd (show b ∈ ([] : List Addr) from z) (by simp)) (by simp)
      | some u =>
        have hb := hA b (by rw [q]; simp)
        subst hb
        have z2 := un.frzs b _ _ hHa
        obtain ⟨e2, _⟩ := hok' b _ z2
        rw [ha] at e; cases e
        exact e2
theorem walk_ofC {l : PySem.W.OpenLaw} {n k : Nat} {q : Program} {loose : List Str} {XP : (Str → Option Value) → Heap → Prop} {YP : World → Heap → Prop} {d : DefRec} {K : Params → PySem.W.Frag} {sp : Spec} {x : Str}
    (hn : l.most = some n) (hn2 : n ≤ sizeLine) (hdf : d.params.defaults = []) (hr : Room k callerA) (hm : SpMono sp) (hsp : ∀ ns : List Int, ns.length ≤ n → sp [.d (.list (ns.map PyData.int))] fun w => w = .d (.bool true))
    (hY : ∀ (w : World) (h : Heap), YP w h → (K w.params).In h)
    (F : ∀ (w : World) (mg : Str → Option Value) (fa : Addr) (h : Heap), (K w.params).In h → h.Ns mainGlobals mg → mg d.name = some (.ref fa) →
      noList (K w.params) = true ∧ ∃ fd : FuncData, (∀ (s : Shared) (u : Value), BindsTo s fd ⟨[u], []⟩ [(x, u)]) ∧
        ∀ base : Heap, (K w.params).In base → base.Ns mainGlobals mg → FnC l.prog w (K w.params) mg base k fa fd [x] sp) :
    PySem.W.WalkO q loose XP YP l.row.toRowW d [] (fun f vs => PySem.call f vs) := by
  refine Att.attach_call hn hdf fun w s₀ s₁ mg mb fa o pm cd doc a vs ns G Y ho hd hcd hmg hobj hints hlen hg => ?_
  have KX := hY w _ Y
  obtain ⟨hno, fd, hb, hF⟩ := F w mg fa _ KX G.T.g hmg
  exact law_callC KX G.T.g G.T.b G.T.builtins G.T.nolimit hg hobj hints (Nat.le_trans hlen hn2) hr hno hm hF hb (hsp ns hlen)
end Cal
set_option Elab.async false
set_option linter.all false
set_option maxRecDepth 100000
set_option maxHeartbeats 4000000
namespace Cal
open PySem PySem.Spec PyProof.Rows L2

/-! ## the rules in short, as a small program prints them -/
section
variable {X : Cx} {Γ : Gam} {pos : Pos} {a b c e : Expr} {ca cb cc ce : E} {p : Pos}
theorem xv (i : Nat) {x : Str} (hN : X.N[i]? = some x := by rfl) (hv : Vis X.env.scope x := by first | exact Or.inl rfl | exact Or.inr (Or.inl rfl) | exact Or.inr (Or.inr rfl)) (hd : (x == ("__debug__" : Str)) = false := by decide) (hcd : (x == ("__classdict__" : Str)) = false := by decide) : PE X (.Name x pos) (rdE Γ X.K (.var i)) := s_var hN hv hd hcd
theorem xk (i : Nat) {x : Str} (hN : X.N[i]? = some x := by rfl) (hv : Vis X.env.scope x := by first | exact Or.inl rfl | exact Or.inr (Or.inl rfl) | exact Or.inr (Or.inr rfl)) (hd : (x == ("__debug__" : Str)) = false := by decide) (hcd : (x == ("__classdict__" : Str)) = false := by decide) : PE X (.Name x pos) (rdE Γ X.K (.peek i)) := s_peek hN hv hd hcd
theorem xs (i : Nat) {x key : Str} {px pk : Pos} {j : Nat} (G : Good X Γ) (hk : key = "left" ∨ key = "mixed" ∨ key = "turn") (hN : X.N[i]? = some x := by rfl) (hv : Vis X.env.scope x := by first | exact Or.inl rfl | exact Or.inr (Or.inl rfl) | exact Or.inr (Or.inr rfl)) (hd : (x == ("__debug__" : Str)) = false := by decide) (hcd : (x == ("__classdict__" : Str)) = false := by decide) :
    PE X (.Subscript (.Name x px) (.Constant (.str key) j pk) pos) (rdE Γ X.K (.sget i)) := s_sget G hN hv hd hcd hk
theorem xg (i : Nat) {x : Str} (G : Good X Γ) (hi : X.N[i]? = some x := by rfl) (hx : Loc X.env.scope x := by first | exact Or.inl rfl | exact Or.inr rfl) (hf : X.fn x = true ∨ X.env.scope.names.lookup x = some .local := by first | exact Or.inl rfl | exact Or.inr rfl) : PG X (.Name x pos) (rdG X.K (.name i)) := g_name G hi hx hf
theorem xset (i : Nat) {x : Str} {pos' : Pos} (G : Good X Γ) (he : PE X e (rdE Γ X.K ce)) (hi : X.N[i]? = some x := by rfl) (hx : Loc X.env.scope x := by first | exact Or.inl rfl | exact Or.inr rfl) (hf : X.fn x = true ∨ X.env.scope.names.lookup x = some .local := by first | exact Or.inl rfl | exact Or.inr rfl) (hs : swapsWith e (some (.Name x pos')) pos.line X.env = pure false := by rfl) :
    PS X (.Assign [.Name x pos'] e pos) (rdS Γ X.K (.asg (.name i) ce)) := s_set G hi hx hf he hs
theorem xunp {tg : Expr} {ts : Ts} (G : Good X Γ) (he : PE X e (rdE Γ X.K ce)) (hg : PG X tg (rdG X.K (.tup ts))) (hs : swapsWithSole [tg] e pos.line X.env = pure false := by rfl) (hw : swappedStores [tg] e X.env = pure none := by rfl)
    (h1 : (assignEach [tg] X.env).map (·.2) = [assign tg X.env] := by rfl) : PS X (.Assign [tg] e pos) (rdS Γ X.K (.asg (.tup ts) ce)) := s_unpack G he hg (fun _ h => by cases h) hs hw h1
theorem xput (i : Nat) {x : Str} {k : Expr} {ck : E} {px pos' : Pos} (G : Good X Γ) (hk : PE X k (rdE Γ X.K ck)) (he : PE X e (rdE Γ X.K ce)) (hN : X.N[i]? = some x := by rfl) (hv : Vis X.env.scope x := by first | exact Or.inl rfl | exact Or.inr (Or.inl rfl) | exact Or.inr (Or.inr rfl)) (hd : (x == ("__debug__" : Str)) = false := by decide) (hcd : (x == ("__classdict__" : Str)) = false := by decide)
    (ha : ∀ v, assign (.Subscript (.Name x px) k pos') X.env v = (do
      let ov ← holding [v] (eval (.Name x px) X.env)
      let iv ← holding [v, ov] (eval k X.env)
      standAt pos'
      holding [v, ov, iv] (setItem ov iv v)
      release [v, ov, iv] []) := by intro _; rfl)
    (hs : swapsWithSole [.Subscript (.Name x px) k pos'] e pos.line X.env = pure false := by rfl) (hw : swappedStores [.Subscript (.Name x px) k pos'] e X.env = pure none := by rfl) : PS X (.Assign [.Subscript (.Name x px) k pos'] e pos) (rdS Γ X.K (.put i ck ce)) := s_put G hN hv hd hcd he hk ha hs hw
theorem xsput (i : Nat) {x key : Str} {px pk pos' : Pos} {j : Nat} (G : Good X Γ) (hk : key = "left" ∨ key = "mixed" ∨ key = "turn") (he : PE X e (rdE Γ X.K ce)) (hN : X.N[i]? = some x := by rfl) (hv : Vis X.env.scope x := by first | exact Or.inl rfl | exact Or.inr (Or.inl rfl) | exact Or.inr (Or.inr rfl)) (hd : (x == ("__debug__" : Str)) = false := by decide) (hcd : (x == ("__classdict__" : Str)) = false := by decide)
    (hs : swapsWith e (some (.Subscript (.Name x px) (.Constant (.str key) j pk) pos')) pos.line X.env = pure false := by rfl) : PS X (.Assign [.Subscript (.Name x px) (.Constant (.str key) j pk) pos'] e pos) (rdS Γ X.K (.sput i ce)) := s_sput G hN hv hd hcd hk he hs
theorem xapp (i : Nat) {x : Str} {px apos cpos : Pos} (G : Good X Γ) (he : PE X e (rdE Γ X.K ce)) (hN : X.N[i]? = some x := by rfl) (hv : Vis X.env.scope x := by first | exact Or.inl rfl | exact Or.inr (Or.inl rfl) | exact Or.inr (Or.inr rfl)) (hd : (x == ("__debug__" : Str)) = false := by decide) (hcd : (x == ("__classdict__" : Str)) = false := by decide) (hs : nostar e = true := by rfl)
    (hbase : attributeBase (.Name x px) "append" X.env (eval (.Name x px) X.env) = eval (.Name x px) X.env := by rfl) (hline : (apos.endLine == cpos.line) = true := by rfl) : PS X (.Expr (.Call (.Attribute (.Name x px) "append" apos) [e] [] cpos) pos) (rdS Γ X.K (.app i ce)) := s_app G hN hv hd hcd he hs hbase hline
theorem xext (i : Nat) {x : Str} {px apos cpos : Pos} (G : Good X Γ) (he : PE X e (rdE Γ X.K ce)) (hN : X.N[i]? = some x := by rfl) (hv : Vis X.env.scope x := by first | exact Or.inl rfl | exact Or.inr (Or.inl rfl) | exact Or.inr (Or.inr rfl)) (hd : (x == ("__debug__" : Str)) = false := by decide) (hcd : (x == ("__classdict__" : Str)) = false := by decide) (hs : nostar e = true := by rfl)
    (hbase : attributeBase (.Name x px) "extend" X.env (eval (.Name x px) X.env) = eval (.Name x px) X.env := by rfl) (hline : (apos.endLine == cpos.line) = true := by rfl) : PS X (.Expr (.Call (.Attribute (.Name x px) "extend" apos) [e] [] cpos) pos) (rdS Γ X.K (.ext i ce)) := s_ext G hN hv hd hcd he hs hbase hline
theorem xretv (i : Nat) {x : Str} {p : Pos} (hN : X.N[i]? = some x := by rfl) (hv : Vis X.env.scope x := by first | exact Or.inl rfl | exact Or.inr (Or.inl rfl) | exact Or.inr (Or.inr rfl)) (hd : (x == ("__debug__" : Str)) = false := by decide) (hcd : (x == ("__classdict__" : Str)) = false := by decide) : PS X (.Return (some (.Name x p)) pos) (rdS Γ X.K (.retv i)) := s_retv hN hv hd hcd
theorem xpar2 (i j : Nat) {x y : Str} {ces : Es} {px py pt : Pos} {kt : Nat} {k2 : Nat} {pt2 : Pos} (G : Good X Γ) (ha : PA X [a, b] (rdEs Γ X.K ces)) (hi : X.N[i]? = some x := by rfl) (hj : X.N[j]? = some y := by rfl) (hij : i ≠ j := by decide) (hx : X.env.scope.names.lookup x = some .local := by rfl) (hy : X.env.scope.names.lookup y = some .local := by rfl)
    (hw : swappedStores [.Tuple [.Name x px, .Name y py] kt pt] (.Tuple [a, b] k2 pt2) X.env = pure (some [x, y]) := by rfl)
    (hs : swapsWithSole [.Tuple [.Name x px, .Name y py] kt pt] (.Tuple [a, b] k2 pt2) pos.line X.env = pure false := by rfl) : PS X (.Assign [.Tuple [.Name x px, .Name y py] kt pt] (.Tuple [a, b] k2 pt2) pos) (rdS Γ X.K (.par [i, j] ces)) := s_par2 G hi hj hij hx hy ha hw hs
theorem xpar3 (i j l : Nat) {x y z : Str} {ces : Es} {px py pz pt : Pos} {kt : Nat} {k2 : Nat} {pt2 : Pos} (G : Good X Γ) (ha : PA X [a, b, c] (rdEs Γ X.K ces)) (hi : X.N[i]? = some x := by rfl) (hj : X.N[j]? = some y := by rfl) (hl : X.N[l]? = some z := by rfl) (hij : i ≠ j := by decide) (hil : i ≠ l := by decide) (hjl : j ≠ l := by decide)
    (hx : X.env.scope.names.lookup x = some .local := by rfl) (hy : X.env.scope.names.lookup y = some .local := by rfl) (hz : X.env.scope.names.lookup z = some .local := by rfl)
    (hw : swappedStores [.Tuple [.Name x px, .Name y py, .Name z pz] kt pt] (.Tuple [a, b, c] k2 pt2) X.env = pure (some [x, y, z]) := by rfl)
    (hs : swapsWithSole [.Tuple [.Name x px, .Name y py, .Name z pz] kt pt] (.Tuple [a, b, c] k2 pt2) pos.line X.env = pure false := by rfl) : PS X (.Assign [.Tuple [.Name x px, .Name y py, .Name z pz] kt pt] (.Tuple [a, b, c] k2 pt2) pos) (rdS Γ X.K (.par [i, j, l] ces)) := s_par3 G hi hj hl hij hil hjl hx hy hz ha hw hs
theorem xmk (i : Nat) {f : Str} {x : Str} {px pf pc : Pos} (G : Good X Γ) (M : Maker X f) (he : PE X e (rdE Γ X.K ce)) (hi : X.N[i]? = some x := by rfl) (hx : Loc X.env.scope x := by first | exact Or.inl rfl | exact Or.inr rfl) (hf : X.fn x = true ∨ X.env.scope.names.lookup x = some .local := by first | exact Or.inl rfl | exact Or.inr rfl) (hg : Gl X f := by rfl) (hdb : (f == ("__debug__" : Str)) = false := by decide) (hs : nostar e = true := by rfl) :
    PS X (.Assign [.Name x px] (.Call (.Name f pf) [e] [] pc) pos) (rdS Γ X.K (.mk i f ce)) := s_mk G M hi hx hf hg hdb hs he
theorem xdr1 (i : Nat) {x : Str} {p1 p2 p3 p4 p5 p6 p7 p8 p9 p10 p11 p12 p13 p14 p15 p16 p17 p18 p19 p20 p21 p22 : Pos} {j1 j2 j3 j4 j5 j6 : Nat} (G : Good X Γ) (hN : X.N[i]? = some x := by rfl) (hv : Vis X.env.scope x := by first | exact Or.inl rfl | exact Or.inr (Or.inl rfl) | exact Or.inr (Or.inr rfl)) (hd : (x == ("__debug__" : Str)) = false := by decide) (hcd : (x == ("__classdict__" : Str)) = false := by decide) (hg : Gl X "len" := by rfl)
    (hbase : attributeBase (.Subscript (.Name x p15) (.Constant (.str "cells") j5 p16) p17) "pop" X.env (eval (.Subscript (.Name x p15) (.Constant (.str "cells") j5 p16) p17) X.env) = eval (.Subscript (.Name x p15) (.Constant (.str "cells") j5 p16) p17) X.env := by rfl) (hline : (p18.endLine == p19.line) = true := by rfl) :
    PS X (.While (.BoolOp .And [.Compare (.Subscript (.Name x p1) (.Constant (.str "left") j1 p2) p3) [.Lt] [.Constant (.int 2) j2 p4] p5, .Compare (.Call (.Name "len" p6) [.Subscript (.Name x p7) (.Constant (.str "cells") j3 p8) p9] [] p10) [.Gt] [.Constant (.int 0) j4 p11] p12] p13)
      [.Assign [.Subscript (.Name x p20) (.Constant (.str "left") j6 p21) p22] (.Call (.Attribute (.Subscript (.Name x p15) (.Constant (.str "cells") j5 p16) p17) "pop" p18) [] [] p19) p14] [] pos) (rdS Γ X.K (.drain i none)) := s_drain1 G hN hv hd hcd hg hbase hline
theorem xcall {f : Str} {sp : Spec} {e : Expr} {es : List Expr} {ces : Es} (G : Good X Γ) (hf : Γ f = some sp) (ha : PA X (e :: es) (rdEs Γ X.K ces)) (hg : Gl X f := by rfl) (hdb : (f == ("__debug__" : Str)) = false := by decide) (hs : (e :: es).all nostar = true := by rfl) : PE X (.Call (.Name f p) (e :: es) [] pos) (rdE Γ X.K (.call f ces)) := s_call G hf hg hdb hs ha
theorem xget {x : Str} {px apos cpos : Pos} {e f : Expr} {ca ce cf : E} (G : Good X Γ) (ho : PE X (.Name x px) (rdE Γ X.K ca)) (he : PE X e (rdE Γ X.K ce)) (hf : PE X f (rdE Γ X.K cf)) (hm : M2 X (.Name x px) "get" apos e f cpos := by exact ⟨rfl, rfl, rfl, rfl⟩) : PE X (.Call (.Attribute (.Name x px) "get" apos) [e, f] [] cpos) (rdE Γ X.K (.get ca ce cf)) := s_get G hm ho he hf
theorem xitl (i : Nat) {x : Str} {px apos cpos : Pos} (G : Good X Γ) (hg : Gl X "list" := by rfl) (hN : X.N[i]? = some x := by rfl) (hv : Vis X.env.scope x := by first | exact Or.inl rfl | exact Or.inr (Or.inl rfl) | exact Or.inr (Or.inr rfl)) (hd : (x == ("__debug__" : Str)) = false := by decide) (hcd : (x == ("__classdict__" : Str)) = false := by decide) (hline : (apos.endLine == cpos.line) = true := by rfl) :
    PE X (.Call (.Name "list" p) [.Call (.Attribute (.Name x px) "items" apos) [] [] cpos] [] pos) (rdE Γ X.K (.itemsL i)) := s_itemsL G hg hN hv hd hcd hline
theorem add_here {f : Str} {sp : Spec} : addΓ Γ f sp f = some sp := if_pos rfl
theorem add_there {f g : Str} {sp : Spec} {o : Option Spec} (h : g ≠ f) (e : Γ g = o) : addΓ Γ f sp g = o := (if_neg h).trans e
end
/-- a def's context -/
abbrev cxD (P : Program) (w : World) (K : PySem.W.Frag) (mg : Str → Option Value) (base : Heap) (N : List Str) (qual : Str) (st : Stmt) (f : Addr) (cd : Value) (A : Around) (outer : List Env) (s : Shared) (H : Hp) : Cx := (cxOf CX0 P w K mg base N qual (defScope st) f cd A outer s H E0).nox
end Cal
set_option Elab.async false
set_option linter.all false
set_option maxRecDepth 100000
set_option maxHeartbeats 4000000
namespace Cal
open PySem PySem.Spec PyProof.Rows L2

/-! ## stepping through what is asked, over plain data -/
theorem ok_intro {α : Type} {o : Option α} {k : α → Prop} {a : α} (h : o = some a) (hk : k a) : ok o k := ⟨a, h, hk⟩
theorem ite_dec {p : Prop} [Decidable p] {A B : Prop} (h1 : p → A) (h2 : ¬ p → B) : if decide p = true then A else B := by
  by_cases h : p
  · rw [if_pos (decide_eq_true h)]; exact h1 h
  · rw [if_neg (by rw [decide_eq_false h]; exact Bool.false_ne_true)]; exact h2 h
theorem ite_ndec {p : Prop} [Decidable p] {A B : Prop} (h1 : ¬ p → A) (h2 : p → B) : if (!decide p) = true then A else B := by
  by_cases h : p
  · rw [if_neg (by rw [decide_eq_true h]; exact Bool.false_ne_true)]; exact h2 h
  · rw [if_pos (by rw [decide_eq_false h]; rfl)]; exact h1 h
theorem ite_bool {k : Bool} {A B : Prop} (h1 : k = true → A) (h2 : k = false → B) : if k = true then A else B := by
  cases k with
  | true => exact h1 rfl
  | false => exact h2 rfl
theorem ite_t {A B : Prop} (h : A) : if true = true then A else B := h
theorem ite_f {A B : Prop} (h : B) : if false = true then A else B := h
theorem eqOk_int {i j : Int} : eqOk (.int i) (.int j) := ⟨rfl, rfl, Nat.zero_le _⟩
theorem eqv_int {i j : Int} : PyData.eqv (.int i) (.int j) = decide (i = j) := by simp only [PyData.eqv]; by_cases h : i = j <;> simp [h]
theorem eqOk_bool {i j : Bool} : eqOk (.bool i) (.bool j) := ⟨rfl, rfl, Nat.zero_le _⟩
theorem eqv_bool {i j : Bool} : PyData.eqv (.bool i) (.bool j) = decide (i = j) := by cases i <;> cases j <;> rfl
theorem lt_len {α : Type} {xs : List α} {i : Nat} (h : Nat.ble (i + 1) xs.length = true) : i < xs.length := Nat.le_of_ble_eq_true h
/-! ### powers -/
theorem pow_le {q : Int} {a : Nat} (h : q.natAbs ≤ 2 ^ a) (e : Nat) : (q ^ e).natAbs ≤ 2 ^ (a * e) := by
  rw [Int.natAbs_pow, Nat.pow_mul]
  exact Nat.pow_le_pow_left h e
theorem mulOk_of {i j : Int} {x y : Nat} (h1 : i.natAbs ≤ 2 ^ x) (h2 : j.natAbs ≤ 2 ^ y) (hx : x < 400000) (hy : y < 400000) : MulOk i j :=
  .inr ⟨Nat.lt_of_le_of_lt h1 (Nat.pow_lt_pow_right (by decide) hx), Nat.lt_of_le_of_lt h2 (Nat.pow_lt_pow_right (by decide) hy)⟩
/-! ### loops -/
theorem forW_inv {step : PyData → EnvC → (EnvC → Prop) → Prop} {Q : EnvC → Prop} (xs : List PyData) {env : EnvC} (J : List PyData → EnvC → Prop) (h0 : J [] env)
    (hs : ∀ pre x suf e k, xs = pre ++ x :: suf → J pre e → (∀ e', J (pre ++ [x]) e' → k e') → step x e k) (hd : ∀ e, J xs e → Q e) : forW step xs env Q := by
  have go : ∀ (suf pre : List PyData) (e : EnvC), xs = pre ++ suf → J pre e → forW step suf e Q := by
    intro suf
    induction suf with
    | nil =>
      intro pre e hx hj
      rw [List.append_nil] at hx
      subst hx
      exact hd e hj
    | cons x r ih =>
      intro pre e hx hj
      exact hs pre x r e _ hx hj fun e' h' => ih (pre ++ [x]) e' (by rw [hx, List.append_assoc]; rfl) h'
  exact go xs [] env rfl h0
theorem compW_map {step : PyData → (Option PyData → Prop) → Prop} {Q : List PyData → Prop} (f : PyData → Option PyData) : ∀ (xs acc : List PyData), (∀ x ∈ xs, ∀ k, k (f x) → step x k) → acc.length + xs.length ≤ sizeLine → Q (acc ++ xs.filterMap f) → compW step xs acc Q := by
  intro xs
  induction xs with
  | nil => intro acc _ _ h; rw [List.filterMap_nil, List.append_nil] at h; exact h
  | cons x r ih =>
    intro acc hs hl h
    rw [List.length_cons] at hl
    refine hs x List.mem_cons_self _ ?_
    cases e : f x with
    | none =>
      rw [List.filterMap_cons_none e] at h
      exact ih acc (fun y hy => hs y (List.mem_cons_of_mem _ hy)) (by omega) h
    | some y =>
      rw [List.filterMap_cons_some e] at h
      exact ⟨by omega, ih (acc ++ [y]) (fun y hy => hs y (List.mem_cons_of_mem _ hy)) (by rw [List.length_append, List.length_singleton]; omega) (by rw [List.append_assoc]; exact h)⟩
/-- each turn gives some value of which P holds -/
theorem compW_rel {step : PyData → (Option PyData → Prop) → Prop} {Q : List PyData → Prop} (P : PyData → Prop) : ∀ (xs acc : List PyData), (∀ x ∈ xs, ∀ k, (∀ y, P y → k (some y)) → step x k) → acc.length + xs.length ≤ sizeLine → (∀ ys : List PyData, ys.length = xs.length → (∀ y ∈ ys, P y) → Q (acc ++ ys)) → compW step xs acc Q := by
  intro xs
  induction xs with
  | nil => intro acc _ _ h; have := h [] rfl (fun _ z => by cases z); rw [List.append_nil] at this; exact this
  | cons x r ih =>
    intro acc hs hl h
    rw [List.length_cons] at hl
    refine hs x List.mem_cons_self _ fun y hy => ?_
    refine ⟨by omega, ih (acc ++ [y]) (fun y hy => hs y (List.mem_cons_of_mem _ hy)) (by rw [List.length_append, List.length_singleton]; omega) fun ys h1 h2 => ?_⟩
    rw [List.append_assoc]
    exact h (y :: ys) (by rw [List.length_cons, h1]; rfl) fun z hz => (List.mem_cons.mp hz).elim (fun e => by rw [e]; exact hy) (h2 z)
theorem compW_enc {α : Type} (enc : α → PyData) (g : α → Option PyData) {step : PyData → (Option PyData → Prop) → Prop} {Q : List PyData → Prop} : ∀ (as : List α) (acc : List PyData), (∀ a ∈ as, ∀ k, k (g a) → step (enc a) k) → acc.length + as.length ≤ sizeLine → Q (acc ++ as.filterMap g) → compW step (as.map enc) acc Q := by
  intro as
  induction as with
  | nil => intro acc _ _ h; rw [List.filterMap_nil, List.append_nil] at h; exact h
  | cons x r ih =>
    intro acc hs hl h
    rw [List.length_cons] at hl
    refine hs x List.mem_cons_self _ ?_
    cases e : g x with
    | none =>
      rw [List.filterMap_cons_none e] at h
      exact ih acc (fun y hy => hs y (List.mem_cons_of_mem _ hy)) (by omega) h
    | some y =>
      rw [List.filterMap_cons_some e] at h
      exact ⟨by omega, ih (acc ++ [y]) (fun y hy => hs y (List.mem_cons_of_mem _ hy)) (by rw [List.length_append, List.length_singleton]; omega) (by rw [List.append_assoc]; exact h)⟩
theorem forW_enc {α : Type} (enc : α → PyData) {step : PyData → EnvC → (EnvC → Prop) → Prop} {Q : EnvC → Prop} (as : List α) {env : EnvC} (J : List α → EnvC → Prop) (h0 : J [] env)
    (hs : ∀ pre x suf e k, as = pre ++ x :: suf → J pre e → (∀ e', J (pre ++ [x]) e' → k e') → step (enc x) e k) (hd : ∀ e, J as e → Q e) : forW step (as.map enc) env Q := by
  have go : ∀ (suf pre : List α) (e : EnvC), as = pre ++ suf → J pre e → forW step (suf.map enc) e Q := by
    intro suf
    induction suf with
    | nil =>
      intro pre e hx hj
      rw [List.append_nil] at hx
      subst hx
      exact hd e hj
    | cons x r ih =>
      intro pre e hx hj
      exact hs pre x r e _ hx hj fun e' h' => ih (pre ++ [x]) e' (by rw [hx, List.append_assoc]; rfl) h'
  exact go as [] env rfl h0
theorem intsOf_map : ∀ ns : List Int, intsOf (ns.map PyData.int) = some ns
  | [] => rfl
  | n :: ns => by rw [List.map_cons]; unfold intsOf; rw [intsOf_map ns]; rfl
theorem boolsOf_map : ∀ ns : List Bool, boolsOf (ns.map PyData.bool) = some ns
  | [] => rfl
  | n :: ns => by rw [List.map_cons]; unfold boolsOf; rw [boolsOf_map ns]; rfl
theorem size_ok {n : Nat} (h : n ≤ 1000000) : n ≤ sizeLine := by rw [sizeLine_eq]; omega
end Cal
set_option Elab.async false
set_option linter.all false
set_option maxRecDepth 100000
set_option maxHeartbeats 8000000
namespace Cal
open PySem PySem.Spec PyProof.Rows L2
namespace K54
def topS (i : Nat) : Stmt := PySem.Challenge.pw_mapvalues_k54_whole_signs_for_all_n.main.body.getD i (.Pass ⟨0, 0, 0, 0⟩)
/-! ### raised -/
abbrev st_raised : Stmt := topS 1
abbrev N_raised : List Str := ["q", "n", "found", "square"]
abbrev P_raised : List Str := ["q", "n"]
theorem sc_raised : FnScope N_raised P_raised (defScope st_raised) := ⟨rfl, rfl, rfl, by decide +kernel, rfl, by decide +kernel, by decide +kernel⟩
def T_raised : Ss := (.cons (.par [2, 3] (.cons (.lit (.int 1)) (.cons (.var 0) .nil))) (.cons (.whl (.bin .gt (.var 1) (.lit (.int 0))) (.cons (.ife (.bin .eq (.bin .mod (.var 1) (.lit (.int 2))) (.lit (.int 1))) (.cons (.asg (.name 2) (.bin .mul (.var 2) (.var 3))) .nil) .nil) (.cons (.par [3, 1] (.cons (.bin .mul (.var 3) (.var 3)) (.cons (.bin .fdiv (.var 1) (.lit (.int 2))) .nil))) .nil))) (.cons (.ret (.var 2)) .nil)))
theorem b_raised {P : Program} {w : World} {K : PySem.W.Frag} {mg : Str → Option Value} {base : Heap} {Γ : Gam} {f : Addr} {cd : Value} {A : Around} {outer : List Env} {s : Shared} {H : Hp} (G : Good (cxD P w K mg base N_raised "raised" st_raised f cd A outer s H) Γ) :
    PSs (cxD P w K mg base N_raised "raised" st_raised f cd A outer s H) (defBody st_raised) (rdSs Γ K T_raised) :=
  (ss_cons (xpar2 2 3 G (s_cons G (s_lit rfl) (s_cons G (xv 0) s_nil rfl) rfl))
    (ss_cons (s_whl G (t_cmpK G rfl (xv 1) (s_lit rfl) rfl) (ss_cons (s_if G (t_cmpK G rfl (s_binK G rfl (xv 1) (s_lit rfl)) (s_lit rfl) rfl) (ss_cons (xset 2 G (s_binK G rfl (xv 2) (xv 3)))
    ss_nil) ss_nil)
    (ss_cons (xpar2 3 1 G (s_cons G (s_binK G rfl (xv 3) (xv 3)) (s_cons G (s_binK G rfl (xv 1) (s_lit rfl)) s_nil rfl) rfl))
    ss_nil)))
    (ss_cons (s_ret G (xv 2))
    ss_nil)))
/-! ### sign_at -/
abbrev st_sign_at : Stmt := topS 2
abbrev N_sign_at : List Str := ["p", "powers", "n", "total", "above", "q", "i", "c"]
abbrev P_sign_at : List Str := ["p", "powers", "n"]
theorem sc_sign_at : FnScope N_sign_at P_sign_at (defScope st_sign_at) := ⟨rfl, rfl, rfl, by decide +kernel, rfl, by decide +kernel, by decide +kernel⟩
def T_sign_at : Ss := (.cons (.par [3, 4, 5] (.cons (.lit (.int 0)) (.cons (.ite (.bin .ne (.var 1) (.tup .nil)) (.bin .idx (.bin .idx (.var 1) (.un .neg (.lit (.int 1)))) (.lit (.int 0))) (.lit (.int 0))) (.cons (.per (.call "raised" (.cons (.var 0) (.cons (.var 2) .nil)))) .nil)))) (.cons (.for (.tup (.cons (.name 6) (.cons (.name 7) .nil))) (.it (.rev (.var 1))) (.cons (.par [3, 4] (.cons (.bin .add (.bin .mul (.var 3) (.call "raised" (.cons (.var 5) (.cons (.bin .sub (.var 4) (.var 6)) .nil)))) (.var 7)) (.cons (.var 6) .nil))) .nil)) (.cons (.ret (.bin .sub (.blt .int (.bin .gt (.var 3) (.lit (.int 0)))) (.blt .int (.bin .lt (.var 3) (.lit (.int 0)))))) .nil)))
theorem b_sign_at {P : Program} {w : World} {K : PySem.W.Frag} {mg : Str → Option Value} {base : Heap} {Γ : Gam} {f : Addr} {cd : Value} {A : Around} {outer : List Env} {s : Shared} {H : Hp} (G : Good (cxD P w K mg base N_sign_at "sign_at" st_sign_at f cd A outer s H) Γ) {sp_raised : Spec} (h_raised : Γ "raised" = some sp_raised) :
    PSs (cxD P w K mg base N_sign_at "sign_at" st_sign_at f cd A outer s H) (defBody st_sign_at) (rdSs Γ K T_sign_at) :=
  (ss_cons (xpar3 3 4 5 G (s_cons G (s_lit rfl) (s_cons G (s_ite G (t_cmpK G rfl (xv 1) (s_tup G s_nil) rfl) (s_idx G (s_idx G (xv 1) (s_neg G (s_lit rfl)) (fun _ _ => rfl)) (s_lit rfl) (fun _ _ => rfl)) (s_lit rfl)) (s_cons G (s_per G (xcall G h_raised (s_cons G (xv 0) (s_cons G (xv 2) s_nil rfl) rfl))) s_nil rfl) rfl) rfl))
    (ss_cons (s_for G (i_it G (s_rev G (xv 1))) (g_tup G rfl rfl (gs_cons rfl (xg 6 G) (gs_cons rfl (xg 7 G) gs_nil))) (ss_cons (xpar2 3 4 G (s_cons G (s_binK G rfl (s_binK G rfl (xv 3) (xcall G h_raised (s_cons G (xv 5) (s_cons G (s_binK G rfl (xv 4) (xv 6)) s_nil rfl) rfl))) (xv 7)) (s_cons G (xv 6) s_nil rfl) rfl))
    ss_nil) (fun _ => rfl))
    (ss_cons (s_ret G (s_binK G rfl (s_int G (by rfl) (s_cmpK G rfl (xv 3) (s_lit rfl) rfl) rfl) (s_int G (by rfl) (s_cmpK G rfl (xv 3) (s_lit rfl) rfl) rfl)))
    ss_nil)))
/-! ### weight_against -/
abbrev st_weight_against : Stmt := topS 3
abbrev N_weight_against : List Str := ["powers", "i", "c"]
abbrev P_weight_against : List Str := ["powers"]
theorem sc_weight_against : FnScope N_weight_against P_weight_against (defScope st_weight_against) := ⟨rfl, rfl, rfl, by decide +kernel, rfl, by decide +kernel, by decide +kernel⟩
def T_weight_against : Ss := (.cons (.ret (.blt .sum (.comp [1, 2] (.tup (.cons (.name 1) (.cons (.name 2) .nil))) (.it (.var 0)) (.some (.bin .lt (.bin .mul (.var 2) (.bin .idx (.bin .idx (.var 0) (.un .neg (.lit (.int 1)))) (.lit (.int 1)))) (.lit (.int 0)))) (.blt .abs (.var 2))))) .nil)
theorem b_weight_against {P : Program} {w : World} {K : PySem.W.Frag} {mg : Str → Option Value} {base : Heap} {Γ : Gam} {f : Addr} {cd : Value} {A : Around} {outer : List Env} {s : Shared} {H : Hp} (G : Good (cxD P w K mg base N_weight_against "weight_against" st_weight_against f cd A outer s H) Γ) :
    PSs (cxD P w K mg base N_weight_against "weight_against" st_weight_against f cd A outer s H) (defBody st_weight_against) (rdSs Γ K T_weight_against) :=
  (ss_cons (s_ret G (s_sum G (by rfl) (s_comp G (i_it G (xv 0)) (own := [("i", 1), ("c", 2)]) (blkOk_by (show blkC N_weight_against (defScope st_weight_against) _ _ = true by decide +kernel)) (fun s H C cl fp => (g_tup (good_blk G s H _ _ fp) rfl rfl (gs_cons rfl (xg 1 (good_blk G s H _ _ fp)) (gs_cons rfl (xg 2 (good_blk G s H _ _ fp)) gs_nil)))) (fun s H C cl fp => (b_some (good_blk G s H _ _ fp) (t_cmpK (good_blk G s H _ _ fp) rfl (s_binK (good_blk G s H _ _ fp) rfl (xv 2) (s_idx (good_blk G s H _ _ fp) (s_idx (good_blk G s H _ _ fp) (xv 0) (s_neg (good_blk G s H _ _ fp) (s_lit rfl)) (fun _ _ => rfl)) (s_lit rfl) (fun _ _ => rfl))) (s_lit rfl) rfl))) (fun s H C cl fp => (s_abs (good_blk G s H _ _ fp) (by rfl) (xv 2) rfl)) (fun _ => rfl)) rfl))
    ss_nil)
/-! ### is_settled -/
abbrev st_is_settled : Stmt := topS 4
abbrev N_is_settled : List Str := ["p", "powers", "n"]
abbrev P_is_settled : List Str := ["p", "powers", "n"]
theorem sc_is_settled : FnScope N_is_settled P_is_settled (defScope st_is_settled) := ⟨rfl, rfl, rfl, by decide +kernel, rfl, by decide +kernel, by decide +kernel⟩
def T_is_settled : Ss := (.cons (.ret (.or (.bin .eq (.var 1) (.tup .nil)) (.bin .gt (.bin .mul (.blt .abs (.bin .idx (.bin .idx (.var 1) (.un .neg (.lit (.int 1)))) (.lit (.int 1)))) (.call "raised" (.cons (.var 0) (.cons (.var 2) .nil)))) (.call "weight_against" (.cons (.var 1) .nil))))) .nil)
theorem b_is_settled {P : Program} {w : World} {K : PySem.W.Frag} {mg : Str → Option Value} {base : Heap} {Γ : Gam} {f : Addr} {cd : Value} {A : Around} {outer : List Env} {s : Shared} {H : Hp} (G : Good (cxD P w K mg base N_is_settled "is_settled" st_is_settled f cd A outer s H) Γ) {sp_raised : Spec} (h_raised : Γ "raised" = some sp_raised) {sp_weight_against : Spec} (h_weight_against : Γ "weight_against" = some sp_weight_against) :
    PSs (cxD P w K mg base N_is_settled "is_settled" st_is_settled f cd A outer s H) (defBody st_is_settled) (rdSs Γ K T_is_settled) :=
  (ss_cons (s_ret G (s_or G (s_cmpK G rfl (xv 1) (s_tup G s_nil) rfl) (pe_one (s_cmpK G rfl (s_binK G rfl (s_abs G (by rfl) (s_idx G (s_idx G (xv 1) (s_neg G (s_lit rfl)) (fun _ _ => rfl)) (s_lit rfl) (fun _ _ => rfl)) rfl) (xcall G h_raised (s_cons G (xv 0) (s_cons G (xv 2) s_nil rfl) rfl))) (xcall G h_weight_against (s_cons G (xv 1) s_nil rfl)) rfl))))
    ss_nil)
/-! ### is_seen -/
abbrev st_is_seen : Stmt := topS 5
abbrev N_is_seen : List Str := ["p", "powers", "n"]
abbrev P_is_seen : List Str := ["p", "powers", "n"]
theorem sc_is_seen : FnScope N_is_seen P_is_seen (defScope st_is_seen) := ⟨rfl, rfl, rfl, by decide +kernel, rfl, by decide +kernel, by decide +kernel⟩
def T_is_seen : Ss := (.cons (.ret (.or (.bin .eq (.var 1) (.tup .nil)) (.and (.bin .gt (.bin .idx (.bin .idx (.var 1) (.un .neg (.lit (.int 1)))) (.lit (.int 1))) (.lit (.int 0))) (.bin .ge (.bin .mul (.bin .idx (.bin .idx (.var 1) (.un .neg (.lit (.int 1)))) (.lit (.int 1))) (.call "raised" (.cons (.var 0) (.cons (.var 2) .nil)))) (.call "weight_against" (.cons (.var 1) .nil)))))) .nil)
theorem b_is_seen {P : Program} {w : World} {K : PySem.W.Frag} {mg : Str → Option Value} {base : Heap} {Γ : Gam} {f : Addr} {cd : Value} {A : Around} {outer : List Env} {s : Shared} {H : Hp} (G : Good (cxD P w K mg base N_is_seen "is_seen" st_is_seen f cd A outer s H) Γ) {sp_raised : Spec} (h_raised : Γ "raised" = some sp_raised) {sp_weight_against : Spec} (h_weight_against : Γ "weight_against" = some sp_weight_against) :
    PSs (cxD P w K mg base N_is_seen "is_seen" st_is_seen f cd A outer s H) (defBody st_is_seen) (rdSs Γ K T_is_seen) :=
  (ss_cons (s_ret G (s_or G (s_cmpK G rfl (xv 1) (s_tup G s_nil) rfl) (pe_one (s_and G (s_cmpK G rfl (s_idx G (s_idx G (xv 1) (s_neg G (s_lit rfl)) (fun _ _ => rfl)) (s_lit rfl) (fun _ _ => rfl)) (s_lit rfl) rfl) (pe_one (s_cmpK G rfl (s_binK G rfl (s_idx G (s_idx G (xv 1) (s_neg G (s_lit rfl)) (fun _ _ => rfl)) (s_lit rfl) (fun _ _ => rfl)) (xcall G h_raised (s_cons G (xv 0) (s_cons G (xv 2) s_nil rfl) rfl))) (xcall G h_weight_against (s_cons G (xv 1) s_nil rfl)) rfl))))))
    ss_nil)
/-! ### signs_of -/
abbrev st_signs_of : Stmt := topS 6
abbrev N_signs_of : List Str := ["p", "powers", "found", "n"]
abbrev P_signs_of : List Str := ["p", "powers"]
theorem sc_signs_of : FnScope N_signs_of P_signs_of (defScope st_signs_of) := ⟨rfl, rfl, rfl, by decide +kernel, rfl, by decide +kernel, by decide +kernel⟩
def T_signs_of : Ss := (.cons (.par [2, 3] (.cons (.lst (.cons (.tup (.cons (.lit (.int 0)) (.cons (.per (.call "sign_at" (.cons (.var 0) (.cons (.var 1) (.cons (.lit (.int 0)) .nil))))) .nil))) .nil)) (.cons (.lit (.int 0)) .nil))) (.cons (.whl (.un .not (.call "is_settled" (.cons (.var 0) (.cons (.var 1) (.cons (.var 3) .nil))))) (.cons (.asg (.name 3) (.bin .add (.var 3) (.lit (.int 1)))) (.cons (.ife (.bin .ne (.call "sign_at" (.cons (.var 0) (.cons (.var 1) (.cons (.var 3) .nil)))) (.bin .idx (.bin .idx (.peek 2) (.un .neg (.lit (.int 1)))) (.lit (.int 1)))) (.cons (.app 2 (.tup (.cons (.var 3) (.cons (.per (.call "sign_at" (.cons (.var 0) (.cons (.var 1) (.cons (.var 3) .nil))))) .nil)))) .nil) .nil) .nil))) (.cons (.ret (.blt .tuple (.peek 2))) .nil)))
theorem b_signs_of {P : Program} {w : World} {K : PySem.W.Frag} {mg : Str → Option Value} {base : Heap} {Γ : Gam} {f : Addr} {cd : Value} {A : Around} {outer : List Env} {s : Shared} {H : Hp} (G : Good (cxD P w K mg base N_signs_of "signs_of" st_signs_of f cd A outer s H) Γ) {sp_sign_at : Spec} (h_sign_at : Γ "sign_at" = some sp_sign_at) {sp_is_settled : Spec} (h_is_settled : Γ "is_settled" = some sp_is_settled) :
    PSs (cxD P w K mg base N_signs_of "signs_of" st_signs_of f cd A outer s H) (defBody st_signs_of) (rdSs Γ K T_signs_of) :=
  (ss_cons (xpar2 2 3 G (s_cons G (s_lst G (s_cons G (s_tup G (s_cons G (s_lit rfl) (s_cons G (s_per G (xcall G h_sign_at (s_cons G (xv 0) (s_cons G (xv 1) (s_cons G (s_lit rfl) s_nil rfl) rfl) rfl))) s_nil rfl) rfl)) s_nil rfl)) (s_cons G (s_lit rfl) s_nil rfl) rfl))
    (ss_cons (s_whl G (t_not G (t_val (xcall G h_is_settled (s_cons G (xv 0) (s_cons G (xv 1) (s_cons G (xv 3) s_nil rfl) rfl) rfl)) (fun _ => rfl))) (ss_cons (xset 3 G (s_binK G rfl (xv 3) (s_lit rfl)))
    (ss_cons (s_if G (t_cmpK G rfl (xcall G h_sign_at (s_cons G (xv 0) (s_cons G (xv 1) (s_cons G (xv 3) s_nil rfl) rfl) rfl)) (s_idx G (s_idx G (xk 2) (s_neg G (s_lit rfl)) (fun _ _ => rfl)) (s_lit rfl) (fun _ _ => rfl)) rfl) (ss_cons (xapp 2 G (s_tup G (s_cons G (xv 3) (s_cons G (s_per G (xcall G h_sign_at (s_cons G (xv 0) (s_cons G (xv 1) (s_cons G (xv 3) s_nil rfl) rfl) rfl))) s_nil rfl) rfl)))
    ss_nil) ss_nil)
    ss_nil)))
    (ss_cons (s_ret G (s_tuple G (by rfl) (xk 2) rfl))
    ss_nil)))
/-! ### _law_source -/
abbrev st__law_source : Stmt := topS 8
abbrev N__law_source : List Str := ["script", "mixed", "cell"]
abbrev P__law_source : List Str := ["script"]
theorem sc__law_source : FnScope N__law_source P__law_source (defScope st__law_source) := ⟨rfl, rfl, rfl, by decide +kernel, rfl, by decide +kernel, by decide +kernel⟩
def T__law_source : Ss := (.cons (.asg (.name 1) (.lit (.int 31))) (.cons (.for (.name 2) (.it (.var 0)) (.cons (.asg (.name 1) (.bin .mod (.blt .int (.bin .add (.bin .add (.bin .mul (.var 1) (.lit (.int 48271))) (.bin .mul (.var 2) (.lit (.int 41)))) (.lit (.int 13)))) (.lit (.int 2147483629)))) .nil)) (.cons (.mkret (.rev (.comp [2] (.name 2) (.it (.var 0)) .none (.blt .abs (.var 2)))) (.var 1)) .nil)))
theorem b__law_source {P : Program} {w : World} {K : PySem.W.Frag} {mg : Str → Option Value} {base : Heap} {Γ : Gam} {f : Addr} {cd : Value} {A : Around} {outer : List Env} {s : Shared} {H : Hp} (G : Good (cxD P w K mg base N__law_source "_law_source" st__law_source f cd A outer s H) Γ) :
    PSs (cxD P w K mg base N__law_source "_law_source" st__law_source f cd A outer s H) (defBody st__law_source) (rdSs Γ K T__law_source) :=
  (ss_cons (xset 1 G (s_lit rfl))
    (ss_cons (s_for G (i_it G (xv 0)) (xg 2 G) (ss_cons (xset 1 G (s_binK G rfl (s_int G (by rfl) (s_binK G rfl (s_binK G rfl (s_binK G rfl (xv 1) (s_lit rfl)) (s_binK G rfl (xv 2) (s_lit rfl))) (s_lit rfl)) rfl) (s_lit rfl)))
    ss_nil) (fun _ => rfl))
    (ss_cons (s_mkret G (s_rev G (s_comp G (i_it G (xv 0)) (own := [("cell", 2)]) (blkOk_by (show blkC N__law_source (defScope st__law_source) _ _ = true by decide +kernel)) (fun s H C cl fp => (xg 2 (good_blk G s H _ _ fp))) (fun s H C cl fp => b_none) (fun s H C cl fp => (s_abs (good_blk G s H _ _ fp) (by rfl) (xv 2) rfl)) (fun _ => rfl))) (xv 1))
    ss_nil)))
/-! ### _law_pick -/
abbrev st__law_pick : Stmt := topS 9
abbrev N__law_pick : List Str := ["source", "many", "left", "mixed"]
abbrev P__law_pick : List Str := ["source", "many"]
theorem sc__law_pick : FnScope N__law_pick P__law_pick (defScope st__law_pick) := ⟨rfl, rfl, rfl, by decide +kernel, rfl, by decide +kernel, by decide +kernel⟩
def T__law_pick : Ss := (.cons (.ife (.bin .lt (.var 1) (.lit (.int 2))) (.cons (.ret (.lit (.int 0))) .nil) .nil) (.cons (.drain 0 none) (.cons (.asg (.name 2) (.sget 0)) (.cons (.ife (.bin .gt (.var 2) (.lit (.int 1))) (.cons (.sput 0 (.bin .fdiv (.var 2) (.var 1))) (.cons (.ret (.bin .mod (.blt .int (.var 2)) (.var 1))) .nil)) .nil) (.cons (.sput 0 (.bin .add (.sget 0) (.lit (.int 1)))) (.cons (.asg (.name 3) (.bin .mod (.blt .int (.bin .add (.sget 0) (.bin .mul (.sget 0) (.lit (.int 92821))))) (.lit (.int 998244353)))) (.cons (.asg (.name 3) (.bin .mod (.blt .int (.bin .add (.bin .mul (.var 3) (.var 3)) (.bin .mul (.sget 0) (.lit (.int 29))))) (.lit (.int 2147483647)))) (.cons (.ret (.bin .mod (.blt .int (.bin .fdiv (.var 3) (.lit (.int 16)))) (.var 1))) .nil))))))))
theorem b__law_pick {P : Program} {w : World} {K : PySem.W.Frag} {mg : Str → Option Value} {base : Heap} {Γ : Gam} {f : Addr} {cd : Value} {A : Around} {outer : List Env} {s : Shared} {H : Hp} (G : Good (cxD P w K mg base N__law_pick "_law_pick" st__law_pick f cd A outer s H) Γ) :
    PSs (cxD P w K mg base N__law_pick "_law_pick" st__law_pick f cd A outer s H) (defBody st__law_pick) (rdSs Γ K T__law_pick) :=
  (ss_cons (s_if G (t_cmpK G rfl (xv 1) (s_lit rfl) rfl) (ss_cons (s_ret G (s_lit rfl))
    ss_nil) ss_nil)
    (ss_cons (xdr1 0 G)
    (ss_cons (xset 2 G (xs 0 G (.inl rfl)))
    (ss_cons (s_if G (t_cmpK G rfl (xv 2) (s_lit rfl) rfl) (ss_cons (xsput 0 G (.inl rfl) (s_binK G rfl (xv 2) (xv 1)))
    (ss_cons (s_ret G (s_binK G rfl (s_int G (by rfl) (xv 2) rfl) (xv 1)))
    ss_nil)) ss_nil)
    (ss_cons (xsput 0 G (.inr (.inr rfl)) (s_binK G rfl (xs 0 G (.inr (.inr rfl))) (s_lit rfl)))
    (ss_cons (xset 3 G (s_binK G rfl (s_int G (by rfl) (s_binK G rfl (xs 0 G (.inr (.inl rfl))) (s_binK G rfl (xs 0 G (.inr (.inr rfl))) (s_lit rfl))) rfl) (s_lit rfl)))
    (ss_cons (xset 3 G (s_binK G rfl (s_int G (by rfl) (s_binK G rfl (s_binK G rfl (xv 3) (xv 3)) (s_binK G rfl (xs 0 G (.inr (.inr rfl))) (s_lit rfl))) rfl) (s_lit rfl)))
    (ss_cons (s_ret G (s_binK G rfl (s_int G (by rfl) (s_binK G rfl (xv 3) (s_lit rfl)) rfl) (xv 1)))
    ss_nil))))))))
/-! ### _law_of -/
abbrev st__law_of : Stmt := topS 10
abbrev N__law_of : List Str := ["source", "some"]
abbrev P__law_of : List Str := ["source", "some"]
theorem sc__law_of : FnScope N__law_of P__law_of (defScope st__law_of) := ⟨rfl, rfl, rfl, by decide +kernel, rfl, by decide +kernel, by decide +kernel⟩
def T__law_of : Ss := (.cons (.ret (.bin .idx (.var 1) (.call "_law_pick" (.cons (.var 0) (.cons (.blt .len (.var 1)) .nil))))) .nil)
theorem b__law_of {P : Program} {w : World} {K : PySem.W.Frag} {mg : Str → Option Value} {base : Heap} {Γ : Gam} {f : Addr} {cd : Value} {A : Around} {outer : List Env} {s : Shared} {H : Hp} (G : Good (cxD P w K mg base N__law_of "_law_of" st__law_of f cd A outer s H) Γ) {sp__law_pick : Spec} (h__law_pick : Γ "_law_pick" = some sp__law_pick) :
    PSs (cxD P w K mg base N__law_of "_law_of" st__law_of f cd A outer s H) (defBody st__law_of) (rdSs Γ K T__law_of) :=
  (ss_cons (s_ret G (s_idx G (xv 1) (xcall G h__law_pick (s_cons G (xv 0) (s_cons G (s_len G (by rfl) (xv 1) rfl) s_nil rfl) rfl)) (fun _ _ => rfl)))
    ss_nil)
/-! ### _law_power -/
abbrev st__law_power : Stmt := topS 11
abbrev N__law_power : List Str := ["p", "n", "found", "turn"]
abbrev P__law_power : List Str := ["p", "n"]
theorem sc__law_power : FnScope N__law_power P__law_power (defScope st__law_power) := ⟨rfl, rfl, rfl, by decide +kernel, rfl, by decide +kernel, by decide +kernel⟩
def T__law_power : Ss := (.cons (.asg (.name 2) (.lit (.int 1))) (.cons (.for (.name 3) (.rng1 (.var 1)) (.cons (.asg (.name 2) (.bin .mul (.var 2) (.var 0))) .nil)) (.cons (.ret (.var 2)) .nil)))
theorem b__law_power {P : Program} {w : World} {K : PySem.W.Frag} {mg : Str → Option Value} {base : Heap} {Γ : Gam} {f : Addr} {cd : Value} {A : Around} {outer : List Env} {s : Shared} {H : Hp} (G : Good (cxD P w K mg base N__law_power "_law_power" st__law_power f cd A outer s H) Γ) :
    PSs (cxD P w K mg base N__law_power "_law_power" st__law_power f cd A outer s H) (defBody st__law_power) (rdSs Γ K T__law_power) :=
  (ss_cons (xset 2 G (s_lit rfl))
    (ss_cons (s_for G (i_rng1 G (by rfl) (xv 1) rfl) (xg 3 G) (ss_cons (xset 2 G (s_binK G rfl (xv 2) (xv 0)))
    ss_nil) (fun _ => rfl))
    (ss_cons (s_ret G (xv 2))
    ss_nil)))
/-! ### _law_cut -/
abbrev st__law_cut : Stmt := topS 12
abbrev N__law_cut : List Str := ["a", "b", "one", "other"]
abbrev P__law_cut : List Str := ["a", "b"]
theorem sc__law_cut : FnScope N__law_cut P__law_cut (defScope st__law_cut) := ⟨rfl, rfl, rfl, by decide +kernel, rfl, by decide +kernel, by decide +kernel⟩
def T__law_cut : Ss := (.cons (.par [2, 3] (.cons (.blt .abs (.var 0)) (.cons (.var 1) .nil))) (.cons (.whl (.bin .gt (.var 3) (.lit (.int 0))) (.cons (.par [2, 3] (.cons (.var 3) (.cons (.bin .sub (.var 2) (.bin .mul (.bin .fdiv (.var 2) (.var 3)) (.var 3))) .nil))) .nil)) (.cons (.ret (.tup (.cons (.bin .fdiv (.var 0) (.var 2)) (.cons (.bin .fdiv (.var 1) (.var 2)) .nil)))) .nil)))
theorem b__law_cut {P : Program} {w : World} {K : PySem.W.Frag} {mg : Str → Option Value} {base : Heap} {Γ : Gam} {f : Addr} {cd : Value} {A : Around} {outer : List Env} {s : Shared} {H : Hp} (G : Good (cxD P w K mg base N__law_cut "_law_cut" st__law_cut f cd A outer s H) Γ) :
    PSs (cxD P w K mg base N__law_cut "_law_cut" st__law_cut f cd A outer s H) (defBody st__law_cut) (rdSs Γ K T__law_cut) :=
  (ss_cons (xpar2 2 3 G (s_cons G (s_abs G (by rfl) (xv 0) rfl) (s_cons G (xv 1) s_nil rfl) rfl))
    (ss_cons (s_whl G (t_cmpK G rfl (xv 3) (s_lit rfl) rfl) (ss_cons (xpar2 2 3 G (s_cons G (xv 3) (s_cons G (s_binK G rfl (xv 2) (s_binK G rfl (s_binK G rfl (xv 2) (xv 3)) (xv 3))) s_nil rfl) rfl))
    ss_nil))
    (ss_cons (s_ret G (s_tup G (s_cons G (s_binK G rfl (xv 0) (xv 2)) (s_cons G (s_binK G rfl (xv 1) (xv 2)) s_nil rfl) rfl)))
    ss_nil)))
/-! ### _law_at -/
abbrev st__law_at : Stmt := topS 13
abbrev N__law_at : List Str := ["p", "powers", "n", "least", "i", "c"]
abbrev P__law_at : List Str := ["p", "powers", "n"]
theorem sc__law_at : FnScope N__law_at P__law_at (defScope st__law_at) := ⟨rfl, rfl, rfl, by decide +kernel, rfl, by decide +kernel, by decide +kernel⟩
def T__law_at : Ss := (.cons (.asg (.name 3) (.blt .min (.bin .add (.lst (.cons (.lit (.int 0)) .nil)) (.comp [4, 5] (.tup (.cons (.name 4) (.cons (.name 5) .nil))) (.it (.var 1)) .none (.var 4))))) (.cons (.ret (.call "_law_cut" (.cons (.blt .sum (.comp [4, 5] (.tup (.cons (.name 4) (.cons (.name 5) .nil))) (.it (.var 1)) .none (.bin .mul (.var 5) (.call "_law_power" (.cons (.var 0) (.cons (.bin .mul (.bin .sub (.var 4) (.var 3)) (.var 2)) .nil)))))) (.cons (.per (.call "_law_power" (.cons (.var 0) (.cons (.bin .sub (.lit (.int 0)) (.bin .mul (.var 3) (.var 2))) .nil)))) .nil)))) .nil))
theorem b__law_at {P : Program} {w : World} {K : PySem.W.Frag} {mg : Str → Option Value} {base : Heap} {Γ : Gam} {f : Addr} {cd : Value} {A : Around} {outer : List Env} {s : Shared} {H : Hp} (G : Good (cxD P w K mg base N__law_at "_law_at" st__law_at f cd A outer s H) Γ) {sp__law_cut : Spec} (h__law_cut : Γ "_law_cut" = some sp__law_cut) {sp__law_power : Spec} (h__law_power : Γ "_law_power" = some sp__law_power) :
    PSs (cxD P w K mg base N__law_at "_law_at" st__law_at f cd A outer s H) (defBody st__law_at) (rdSs Γ K T__law_at) :=
  (ss_cons (xset 3 G (s_min G (by rfl) (s_binK G rfl (s_lst G (s_cons G (s_lit rfl) s_nil rfl)) (s_comp G (i_it G (xv 1)) (own := [("i", 4), ("c", 5)]) (blkOk_by (show blkC N__law_at (defScope st__law_at) _ _ = true by decide +kernel)) (fun s H C cl fp => (g_tup (good_blk G s H _ _ fp) rfl rfl (gs_cons rfl (xg 4 (good_blk G s H _ _ fp)) (gs_cons rfl (xg 5 (good_blk G s H _ _ fp)) gs_nil)))) (fun s H C cl fp => b_none) (fun s H C cl fp => (xv 4)) (fun _ => rfl))) rfl))
    (ss_cons (s_ret G (xcall G h__law_cut (s_cons G (s_sum G (by rfl) (s_comp G (i_it G (xv 1)) (own := [("i", 4), ("c", 5)]) (blkOk_by (show blkC N__law_at (defScope st__law_at) _ _ = true by decide +kernel)) (fun s H C cl fp => (g_tup (good_blk G s H _ _ fp) rfl rfl (gs_cons rfl (xg 4 (good_blk G s H _ _ fp)) (gs_cons rfl (xg 5 (good_blk G s H _ _ fp)) gs_nil)))) (fun s H C cl fp => b_none) (fun s H C cl fp => (s_binK (good_blk G s H _ _ fp) rfl (xv 5) (xcall (good_blk G s H _ _ fp) h__law_power (s_cons (good_blk G s H _ _ fp) (xv 0) (s_cons (good_blk G s H _ _ fp) (s_binK (good_blk G s H _ _ fp) rfl (s_binK (good_blk G s H _ _ fp) rfl (xv 4) (xv 3)) (xv 2)) s_nil rfl) rfl)))) (fun _ => rfl)) rfl) (s_cons G (s_per G (xcall G h__law_power (s_cons G (xv 0) (s_cons G (s_binK G rfl (s_lit rfl) (s_binK G rfl (xv 3) (xv 2))) s_nil rfl) rfl))) s_nil rfl) rfl)))
    ss_nil))
/-! ### _law_less -/
abbrev st__law_less : Stmt := topS 14
abbrev N__law_less : List Str := ["a", "b", "found", "i", "c"]
abbrev P__law_less : List Str := ["a", "b"]
theorem sc__law_less : FnScope N__law_less P__law_less (defScope st__law_less) := ⟨rfl, rfl, rfl, by decide +kernel, rfl, by decide +kernel, by decide +kernel⟩
def T__law_less : Ss := (.cons (.asg (.name 2) (.blt .dict (.blt .list (.var 0)))) (.cons (.for (.tup (.cons (.name 3) (.cons (.name 4) .nil))) (.it (.var 1)) (.cons (.put 2 (.var 3) (.bin .sub (.get (.peek 2) (.var 3) (.lit (.int 0))) (.var 4))) .nil)) (.cons (.ret (.blt .tuple (.frz 2 (.comp [3] (.name 3) (.it (.blt .sorted (.peek 2))) (.some (.bin .ne (.bin .idx (.peek 2) (.var 3)) (.lit (.int 0)))) (.tup (.cons (.var 3) (.cons (.bin .idx (.peek 2) (.var 3)) .nil))))))) .nil)))
theorem b__law_less {P : Program} {w : World} {K : PySem.W.Frag} {mg : Str → Option Value} {base : Heap} {Γ : Gam} {f : Addr} {cd : Value} {A : Around} {outer : List Env} {s : Shared} {H : Hp} (G : Good (cxD P w K mg base N__law_less "_law_less" st__law_less f cd A outer s H) Γ) :
    PSs (cxD P w K mg base N__law_less "_law_less" st__law_less f cd A outer s H) (defBody st__law_less) (rdSs Γ K T__law_less) :=
  (ss_cons (xset 2 G (s_dict G (by rfl) (s_list G (by rfl) (xv 0) rfl) rfl))
    (ss_cons (s_for G (i_it G (xv 1)) (g_tup G rfl rfl (gs_cons rfl (xg 3 G) (gs_cons rfl (xg 4 G) gs_nil))) (ss_cons (xput 2 G (xv 3) (s_binK G rfl (xget G (xk 2) (xv 3) (s_lit rfl)) (xv 4)))
    ss_nil) (fun _ => rfl))
    (ss_cons (s_ret G (s_tuple G (by rfl) (s_frz G (s_comp G (i_it G (s_sorted G (by rfl) (xk 2) rfl)) (own := [("i", 3)]) (blkOk_by (show blkC N__law_less (defScope st__law_less) _ _ = true by decide +kernel)) (fun s H C cl fp => (xg 3 (good_blk G s H _ _ fp))) (fun s H C cl fp => (b_some (good_blk G s H _ _ fp) (t_cmpK (good_blk G s H _ _ fp) rfl (s_idx (good_blk G s H _ _ fp) (xk 2) (xv 3) (fun _ _ => rfl)) (s_lit rfl) rfl))) (fun s H C cl fp => (s_tup (good_blk G s H _ _ fp) (s_cons (good_blk G s H _ _ fp) (xv 3) (s_cons (good_blk G s H _ _ fp) (s_idx (good_blk G s H _ _ fp) (xk 2) (xv 3) (fun _ _ => rfl)) s_nil rfl) rfl))) (fun _ => rfl))) rfl))
    ss_nil)))
/-! ### _law_sign -/
abbrev st__law_sign : Stmt := topS 15
abbrev N__law_sign : List Str := ["p", "powers", "n", "top"]
abbrev P__law_sign : List Str := ["p", "powers", "n"]
theorem sc__law_sign : FnScope N__law_sign P__law_sign (defScope st__law_sign) := ⟨rfl, rfl, rfl, by decide +kernel, rfl, by decide +kernel, by decide +kernel⟩
def T__law_sign : Ss := (.cons (.asg (.name 3) (.bin .idx (.call "_law_at" (.cons (.var 0) (.cons (.var 1) (.cons (.var 2) .nil)))) (.lit (.int 0)))) (.cons (.ret (.bin .sub (.blt .int (.bin .gt (.var 3) (.lit (.int 0)))) (.blt .int (.bin .lt (.var 3) (.lit (.int 0)))))) .nil))
theorem b__law_sign {P : Program} {w : World} {K : PySem.W.Frag} {mg : Str → Option Value} {base : Heap} {Γ : Gam} {f : Addr} {cd : Value} {A : Around} {outer : List Env} {s : Shared} {H : Hp} (G : Good (cxD P w K mg base N__law_sign "_law_sign" st__law_sign f cd A outer s H) Γ) {sp__law_at : Spec} (h__law_at : Γ "_law_at" = some sp__law_at) :
    PSs (cxD P w K mg base N__law_sign "_law_sign" st__law_sign f cd A outer s H) (defBody st__law_sign) (rdSs Γ K T__law_sign) :=
  (ss_cons (xset 3 G (s_idx G (xcall G h__law_at (s_cons G (xv 0) (s_cons G (xv 1) (s_cons G (xv 2) s_nil rfl) rfl) rfl)) (s_lit rfl) (fun _ _ => rfl)))
    (ss_cons (s_ret G (s_binK G rfl (s_int G (by rfl) (s_cmpK G rfl (xv 3) (s_lit rfl) rfl) rfl) (s_int G (by rfl) (s_cmpK G rfl (xv 3) (s_lit rfl) rfl) rfl)))
    ss_nil))
/-! ### _law_weights -/
abbrev st__law_weights : Stmt := topS 16
abbrev N__law_weights : List Str := ["p", "powers", "n", "last", "i", "c"]
abbrev P__law_weights : List Str := ["p", "powers", "n"]
theorem sc__law_weights : FnScope N__law_weights P__law_weights (defScope st__law_weights) := ⟨rfl, rfl, rfl, by decide +kernel, rfl, by decide +kernel, by decide +kernel⟩
def T__law_weights : Ss := (.cons (.asg (.name 3) (.bin .idx (.bin .idx (.var 1) (.un .neg (.lit (.int 1)))) (.lit (.int 1)))) (.cons (.ret (.tup (.cons (.bin .mul (.blt .abs (.var 3)) (.call "_law_power" (.cons (.var 0) (.cons (.var 2) .nil)))) (.cons (.blt .sum (.comp [4, 5] (.tup (.cons (.name 4) (.cons (.name 5) .nil))) (.it (.var 1)) (.some (.bin .ne (.bin .gt (.var 5) (.lit (.int 0))) (.bin .gt (.var 3) (.lit (.int 0))))) (.blt .abs (.var 5)))) .nil)))) .nil))
theorem b__law_weights {P : Program} {w : World} {K : PySem.W.Frag} {mg : Str → Option Value} {base : Heap} {Γ : Gam} {f : Addr} {cd : Value} {A : Around} {outer : List Env} {s : Shared} {H : Hp} (G : Good (cxD P w K mg base N__law_weights "_law_weights" st__law_weights f cd A outer s H) Γ) {sp__law_power : Spec} (h__law_power : Γ "_law_power" = some sp__law_power) :
    PSs (cxD P w K mg base N__law_weights "_law_weights" st__law_weights f cd A outer s H) (defBody st__law_weights) (rdSs Γ K T__law_weights) :=
  (ss_cons (xset 3 G (s_idx G (s_idx G (xv 1) (s_neg G (s_lit rfl)) (fun _ _ => rfl)) (s_lit rfl) (fun _ _ => rfl)))
    (ss_cons (s_ret G (s_tup G (s_cons G (s_binK G rfl (s_abs G (by rfl) (xv 3) rfl) (xcall G h__law_power (s_cons G (xv 0) (s_cons G (xv 2) s_nil rfl) rfl))) (s_cons G (s_sum G (by rfl) (s_comp G (i_it G (xv 1)) (own := [("i", 4), ("c", 5)]) (blkOk_by (show blkC N__law_weights (defScope st__law_weights) _ _ = true by decide +kernel)) (fun s H C cl fp => (g_tup (good_blk G s H _ _ fp) rfl rfl (gs_cons rfl (xg 4 (good_blk G s H _ _ fp)) (gs_cons rfl (xg 5 (good_blk G s H _ _ fp)) gs_nil)))) (fun s H C cl fp => (b_some (good_blk G s H _ _ fp) (t_cmpK (good_blk G s H _ _ fp) rfl (s_cmpK (good_blk G s H _ _ fp) rfl (xv 5) (s_lit rfl) rfl) (s_cmpK (good_blk G s H _ _ fp) rfl (xv 3) (s_lit rfl) rfl) rfl))) (fun s H C cl fp => (s_abs (good_blk G s H _ _ fp) (by rfl) (xv 5) rfl)) (fun _ => rfl)) rfl) s_nil rfl) rfl)))
    ss_nil))
/-! ### _law_is_settled -/
abbrev st__law_is_settled : Stmt := topS 17
abbrev N__law_is_settled : List Str := ["p", "powers", "n", "one", "other"]
abbrev P__law_is_settled : List Str := ["p", "powers", "n"]
theorem sc__law_is_settled : FnScope N__law_is_settled P__law_is_settled (defScope st__law_is_settled) := ⟨rfl, rfl, rfl, by decide +kernel, rfl, by decide +kernel, by decide +kernel⟩
def T__law_is_settled : Ss := (.cons (.ife (.bin .eq (.var 1) (.tup .nil)) (.cons (.ret (.lit (.bool true))) .nil) .nil) (.cons (.asg (.tup (.cons (.name 3) (.cons (.name 4) .nil))) (.per (.call "_law_weights" (.cons (.var 0) (.cons (.var 1) (.cons (.var 2) .nil)))))) (.cons (.ret (.bin .gt (.var 3) (.var 4))) .nil)))
theorem b__law_is_settled {P : Program} {w : World} {K : PySem.W.Frag} {mg : Str → Option Value} {base : Heap} {Γ : Gam} {f : Addr} {cd : Value} {A : Around} {outer : List Env} {s : Shared} {H : Hp} (G : Good (cxD P w K mg base N__law_is_settled "_law_is_settled" st__law_is_settled f cd A outer s H) Γ) {sp__law_weights : Spec} (h__law_weights : Γ "_law_weights" = some sp__law_weights) :
    PSs (cxD P w K mg base N__law_is_settled "_law_is_settled" st__law_is_settled f cd A outer s H) (defBody st__law_is_settled) (rdSs Γ K T__law_is_settled) :=
  (ss_cons (s_if G (t_cmpK G rfl (xv 1) (s_tup G s_nil) rfl) (ss_cons (s_ret G (s_lit rfl))
    ss_nil) ss_nil)
    (ss_cons (xunp G (s_per G (xcall G h__law_weights (s_cons G (xv 0) (s_cons G (xv 1) (s_cons G (xv 2) s_nil rfl) rfl) rfl))) (g_tup G rfl rfl (gs_cons rfl (xg 3 G) (gs_cons rfl (xg 4 G) gs_nil))))
    (ss_cons (s_ret G (s_cmpK G rfl (xv 3) (xv 4) rfl))
    ss_nil)))
/-! ### _law_is_seen -/
abbrev st__law_is_seen : Stmt := topS 18
abbrev N__law_is_seen : List Str := ["p", "powers", "n", "one", "other"]
abbrev P__law_is_seen : List Str := ["p", "powers", "n"]
theorem sc__law_is_seen : FnScope N__law_is_seen P__law_is_seen (defScope st__law_is_seen) := ⟨rfl, rfl, rfl, by decide +kernel, rfl, by decide +kernel, by decide +kernel⟩
def T__law_is_seen : Ss := (.cons (.ife (.bin .eq (.var 1) (.tup .nil)) (.cons (.ret (.lit (.bool true))) .nil) .nil) (.cons (.asg (.tup (.cons (.name 3) (.cons (.name 4) .nil))) (.per (.call "_law_weights" (.cons (.var 0) (.cons (.var 1) (.cons (.var 2) .nil)))))) (.cons (.ret (.and (.bin .gt (.bin .idx (.bin .idx (.var 1) (.un .neg (.lit (.int 1)))) (.lit (.int 1))) (.lit (.int 0))) (.bin .ge (.var 3) (.var 4)))) .nil)))
theorem b__law_is_seen {P : Program} {w : World} {K : PySem.W.Frag} {mg : Str → Option Value} {base : Heap} {Γ : Gam} {f : Addr} {cd : Value} {A : Around} {outer : List Env} {s : Shared} {H : Hp} (G : Good (cxD P w K mg base N__law_is_seen "_law_is_seen" st__law_is_seen f cd A outer s H) Γ) {sp__law_weights : Spec} (h__law_weights : Γ "_law_weights" = some sp__law_weights) :
    PSs (cxD P w K mg base N__law_is_seen "_law_is_seen" st__law_is_seen f cd A outer s H) (defBody st__law_is_seen) (rdSs Γ K T__law_is_seen) :=
  (ss_cons (s_if G (t_cmpK G rfl (xv 1) (s_tup G s_nil) rfl) (ss_cons (s_ret G (s_lit rfl))
    ss_nil) ss_nil)
    (ss_cons (xunp G (s_per G (xcall G h__law_weights (s_cons G (xv 0) (s_cons G (xv 1) (s_cons G (xv 2) s_nil rfl) rfl) rfl))) (g_tup G rfl rfl (gs_cons rfl (xg 3 G) (gs_cons rfl (xg 4 G) gs_nil))))
    (ss_cons (s_ret G (s_and G (s_cmpK G rfl (s_idx G (s_idx G (xv 1) (s_neg G (s_lit rfl)) (fun _ _ => rfl)) (s_lit rfl) (fun _ _ => rfl)) (s_lit rfl) rfl) (pe_one (s_cmpK G rfl (xv 3) (xv 4) rfl))))
    ss_nil)))
/-! ### _law_powers -/
abbrev st__law_powers : Stmt := topS 19
abbrev N__law_powers : List Str := ["source", "found", "turn", "i"]
abbrev P__law_powers : List Str := ["source"]
theorem sc__law_powers : FnScope N__law_powers P__law_powers (defScope st__law_powers) := ⟨rfl, rfl, rfl, by decide +kernel, rfl, by decide +kernel, by decide +kernel⟩
def T__law_powers : Ss := (.cons (.asg (.name 1) .dnew) (.cons (.for (.name 2) (.rng1 (.call "_law_pick" (.cons (.var 0) (.cons (.lit (.int 5)) .nil)))) (.cons (.put 1 (.bin .sub (.call "_law_pick" (.cons (.var 0) (.cons (.lit (.int 8)) .nil))) (.lit (.int 4))) (.per (.call "_law_of" (.cons (.var 0) (.cons (.per (.lst (.cons (.lit (.int 1)) (.cons (.un .neg (.lit (.int 1))) (.cons (.lit (.int 2)) (.cons (.un .neg (.lit (.int 2))) (.cons (.lit (.int 3)) (.cons (.un .neg (.lit (.int 3))) (.cons (.un .neg (.lit (.int 4))) (.cons (.lit (.int 6)) (.cons (.lit (.int 8)) (.cons (.un .neg (.lit (.int 8))) (.cons (.lit (.int 12)) (.cons (.un .neg (.lit (.int 20))) (.cons (.lit (.int 100)) (.cons (.un .neg (.lit (.int 100))) .nil)))))))))))))))) .nil))))) .nil)) (.cons (.ret (.blt .tuple (.frz 1 (.comp [3] (.name 3) (.it (.blt .sorted (.peek 1))) .none (.tup (.cons (.var 3) (.cons (.bin .idx (.peek 1) (.var 3)) .nil))))))) .nil)))
theorem b__law_powers {P : Program} {w : World} {K : PySem.W.Frag} {mg : Str → Option Value} {base : Heap} {Γ : Gam} {f : Addr} {cd : Value} {A : Around} {outer : List Env} {s : Shared} {H : Hp} (G : Good (cxD P w K mg base N__law_powers "_law_powers" st__law_powers f cd A outer s H) Γ) {sp__law_pick : Spec} (h__law_pick : Γ "_law_pick" = some sp__law_pick) {sp__law_of : Spec} (h__law_of : Γ "_law_of" = some sp__law_of) :
    PSs (cxD P w K mg base N__law_powers "_law_powers" st__law_powers f cd A outer s H) (defBody st__law_powers) (rdSs Γ K T__law_powers) :=
  (ss_cons (xset 1 G s_dnew)
    (ss_cons (s_for G (i_rng1 G (by rfl) (xcall G h__law_pick (s_cons G (xv 0) (s_cons G (s_lit rfl) s_nil rfl) rfl)) rfl) (xg 2 G) (ss_cons (xput 1 G (s_binK G rfl (xcall G h__law_pick (s_cons G (xv 0) (s_cons G (s_lit rfl) s_nil rfl) rfl)) (s_lit rfl)) (s_per G (xcall G h__law_of (s_cons G (xv 0) (s_cons G (s_per G (s_lst G (s_cons G (s_lit rfl) (s_cons G (s_neg G (s_lit rfl)) (s_cons G (s_lit rfl) (s_cons G (s_neg G (s_lit rfl)) (s_cons G (s_lit rfl) (s_cons G (s_neg G (s_lit rfl)) (s_cons G (s_neg G (s_lit rfl)) (s_cons G (s_lit rfl) (s_cons G (s_lit rfl) (s_cons G (s_neg G (s_lit rfl)) (s_cons G (s_lit rfl) (s_cons G (s_neg G (s_lit rfl)) (s_cons G (s_lit rfl) (s_cons G (s_neg G (s_lit rfl)) s_nil rfl) rfl) rfl) rfl) rfl) rfl) rfl) rfl) rfl) rfl) rfl) rfl) rfl) rfl))) s_nil rfl) rfl))))
    ss_nil) (fun _ => rfl))
    (ss_cons (s_ret G (s_tuple G (by rfl) (s_frz G (s_comp G (i_it G (s_sorted G (by rfl) (xk 1) rfl)) (own := [("i", 3)]) (blkOk_by (show blkC N__law_powers (defScope st__law_powers) _ _ = true by decide +kernel)) (fun s H C cl fp => (xg 3 (good_blk G s H _ _ fp))) (fun s H C cl fp => b_none) (fun s H C cl fp => (s_tup (good_blk G s H _ _ fp) (s_cons (good_blk G s H _ _ fp) (xv 3) (s_cons (good_blk G s H _ _ fp) (s_idx (good_blk G s H _ _ fp) (xk 1) (xv 3) (fun _ _ => rfl)) s_nil rfl) rfl))) (fun _ => rfl))) rfl))
    ss_nil)))
/-! ### _law_rooted -/
abbrev st__law_rooted : Stmt := topS 20
abbrev N__law_rooted : List Str := ["source", "p", "found", "turn", "root", "late", "i", "shift"]
abbrev P__law_rooted : List Str := ["source", "p"]
theorem sc__law_rooted : FnScope N__law_rooted P__law_rooted (defScope st__law_rooted) := ⟨rfl, rfl, rfl, by decide +kernel, rfl, by decide +kernel, by decide +kernel⟩
def T__law_rooted : Ss := (.cons (.asg (.name 2) (.per (.dsp (.lit (.int 0)) (.per (.call "_law_of" (.cons (.var 0) (.cons (.per (.lst (.cons (.lit (.int 1)) (.cons (.un .neg (.lit (.int 1))) (.cons (.lit (.int 2)) (.cons (.un .neg (.lit (.int 3))) .nil)))))) .nil))))))) (.cons (.for (.name 3) (.rng1 (.bin .add (.lit (.int 1)) (.call "_law_pick" (.cons (.var 0) (.cons (.lit (.int 3)) .nil))))) (.cons (.par [4, 5] (.cons (.per (.call "_law_power" (.cons (.var 1) (.cons (.per (.call "_law_pick" (.cons (.var 0) (.cons (.lit (.int 5)) .nil)))) .nil)))) (.cons .dnew .nil))) (.cons (.for (.name 6) (.it (.var 2)) (.cons (.put 5 (.bin .add (.var 6) (.lit (.int 1))) (.bin .add (.get (.peek 5) (.bin .add (.var 6) (.lit (.int 1))) (.lit (.int 0))) (.bin .idx (.var 2) (.var 6)))) (.cons (.put 5 (.var 6) (.bin .sub (.get (.peek 5) (.var 6) (.lit (.int 0))) (.bin .mul (.bin .idx (.var 2) (.var 6)) (.var 4)))) .nil))) (.cons (.asg (.name 2) (.per (.blt .dict (.itemsL 5)))) .nil)))) (.cons (.asg (.name 7) (.per (.call "_law_pick" (.cons (.var 0) (.cons (.lit (.int 4)) .nil))))) (.cons (.ret (.blt .tuple (.comp [6] (.name 6) (.it (.blt .sorted (.var 2))) (.some (.bin .ne (.bin .idx (.var 2) (.var 6)) (.lit (.int 0)))) (.tup (.cons (.bin .sub (.var 6) (.var 7)) (.cons (.bin .idx (.var 2) (.var 6)) .nil)))))) .nil))))
theorem b__law_rooted {P : Program} {w : World} {K : PySem.W.Frag} {mg : Str → Option Value} {base : Heap} {Γ : Gam} {f : Addr} {cd : Value} {A : Around} {outer : List Env} {s : Shared} {H : Hp} (G : Good (cxD P w K mg base N__law_rooted "_law_rooted" st__law_rooted f cd A outer s H) Γ) {sp__law_of : Spec} (h__law_of : Γ "_law_of" = some sp__law_of) {sp__law_pick : Spec} (h__law_pick : Γ "_law_pick" = some sp__law_pick) {sp__law_power : Spec} (h__law_power : Γ "_law_power" = some sp__law_power) :
    PSs (cxD P w K mg base N__law_rooted "_law_rooted" st__law_rooted f cd A outer s H) (defBody st__law_rooted) (rdSs Γ K T__law_rooted) :=
  (ss_cons (xset 2 G (s_per G (s_dsp G (s_lit rfl) (s_per G (xcall G h__law_of (s_cons G (xv 0) (s_cons G (s_per G (s_lst G (s_cons G (s_lit rfl) (s_cons G (s_neg G (s_lit rfl)) (s_cons G (s_lit rfl) (s_cons G (s_neg G (s_lit rfl)) s_nil rfl) rfl) rfl) rfl))) s_nil rfl) rfl))))))
    (ss_cons (s_for G (i_rng1 G (by rfl) (s_binK G rfl (s_lit rfl) (xcall G h__law_pick (s_cons G (xv 0) (s_cons G (s_lit rfl) s_nil rfl) rfl))) rfl) (xg 3 G) (ss_cons (xpar2 4 5 G (s_cons G (s_per G (xcall G h__law_power (s_cons G (xv 1) (s_cons G (s_per G (xcall G h__law_pick (s_cons G (xv 0) (s_cons G (s_lit rfl) s_nil rfl) rfl))) s_nil rfl) rfl))) (s_cons G s_dnew s_nil rfl) rfl))
    (ss_cons (s_for G (i_it G (xv 2)) (xg 6 G) (ss_cons (xput 5 G (s_binK G rfl (xv 6) (s_lit rfl)) (s_binK G rfl (xget G (xk 5) (s_binK G rfl (xv 6) (s_lit rfl)) (s_lit rfl)) (s_idx G (xv 2) (xv 6) (fun _ _ => rfl))))
    (ss_cons (xput 5 G (xv 6) (s_binK G rfl (xget G (xk 5) (xv 6) (s_lit rfl)) (s_binK G rfl (s_idx G (xv 2) (xv 6) (fun _ _ => rfl)) (xv 4))))
    ss_nil)) (fun _ => rfl))
    (ss_cons (xset 2 G (s_per G (s_dict G (by rfl) (xitl 5 G) rfl)))
    ss_nil))) (fun _ => rfl))
    (ss_cons (xset 7 G (s_per G (xcall G h__law_pick (s_cons G (xv 0) (s_cons G (s_lit rfl) s_nil rfl) rfl))))
    (ss_cons (s_ret G (s_tuple G (by rfl) (s_comp G (i_it G (s_sorted G (by rfl) (xv 2) rfl)) (own := [("i", 6)]) (blkOk_by (show blkC N__law_rooted (defScope st__law_rooted) _ _ = true by decide +kernel)) (fun s H C cl fp => (xg 6 (good_blk G s H _ _ fp))) (fun s H C cl fp => (b_some (good_blk G s H _ _ fp) (t_cmpK (good_blk G s H _ _ fp) rfl (s_idx (good_blk G s H _ _ fp) (xv 2) (xv 6) (fun _ _ => rfl)) (s_lit rfl) rfl))) (fun s H C cl fp => (s_tup (good_blk G s H _ _ fp) (s_cons (good_blk G s H _ _ fp) (s_binK (good_blk G s H _ _ fp) rfl (xv 6) (xv 7)) (s_cons (good_blk G s H _ _ fp) (s_idx (good_blk G s H _ _ fp) (xv 2) (xv 6) (fun _ _ => rfl)) s_nil rfl) rfl))) (fun _ => rfl)) rfl))
    ss_nil))))
/-! ### _law_signs -/
abbrev st__law_signs : Stmt := topS 21
abbrev N__law_signs : List Str := ["p", "powers", "found", "n"]
abbrev P__law_signs : List Str := ["p", "powers"]
theorem sc__law_signs : FnScope N__law_signs P__law_signs (defScope st__law_signs) := ⟨rfl, rfl, rfl, by decide +kernel, rfl, by decide +kernel, by decide +kernel⟩
def T__law_signs : Ss := (.cons (.par [2, 3] (.cons (.lst (.cons (.tup (.cons (.lit (.int 0)) (.cons (.per (.call "_law_sign" (.cons (.var 0) (.cons (.var 1) (.cons (.lit (.int 0)) .nil))))) .nil))) .nil)) (.cons (.lit (.int 0)) .nil))) (.cons (.whl (.un .not (.call "_law_is_settled" (.cons (.var 0) (.cons (.var 1) (.cons (.var 3) .nil))))) (.cons (.asg (.name 3) (.bin .add (.var 3) (.lit (.int 1)))) (.cons (.ife (.bin .ne (.call "_law_sign" (.cons (.var 0) (.cons (.var 1) (.cons (.var 3) .nil)))) (.bin .idx (.bin .idx (.peek 2) (.un .neg (.lit (.int 1)))) (.lit (.int 1)))) (.cons (.app 2 (.tup (.cons (.var 3) (.cons (.per (.call "_law_sign" (.cons (.var 0) (.cons (.var 1) (.cons (.var 3) .nil))))) .nil)))) .nil) .nil) .nil))) (.cons (.ret (.blt .tuple (.peek 2))) .nil)))
theorem b__law_signs {P : Program} {w : World} {K : PySem.W.Frag} {mg : Str → Option Value} {base : Heap} {Γ : Gam} {f : Addr} {cd : Value} {A : Around} {outer : List Env} {s : Shared} {H : Hp} (G : Good (cxD P w K mg base N__law_signs "_law_signs" st__law_signs f cd A outer s H) Γ) {sp__law_sign : Spec} (h__law_sign : Γ "_law_sign" = some sp__law_sign) {sp__law_is_settled : Spec} (h__law_is_settled : Γ "_law_is_settled" = some sp__law_is_settled) :
    PSs (cxD P w K mg base N__law_signs "_law_signs" st__law_signs f cd A outer s H) (defBody st__law_signs) (rdSs Γ K T__law_signs) :=
  (ss_cons (xpar2 2 3 G (s_cons G (s_lst G (s_cons G (s_tup G (s_cons G (s_lit rfl) (s_cons G (s_per G (xcall G h__law_sign (s_cons G (xv 0) (s_cons G (xv 1) (s_cons G (s_lit rfl) s_nil rfl) rfl) rfl))) s_nil rfl) rfl)) s_nil rfl)) (s_cons G (s_lit rfl) s_nil rfl) rfl))
    (ss_cons (s_whl G (t_not G (t_val (xcall G h__law_is_settled (s_cons G (xv 0) (s_cons G (xv 1) (s_cons G (xv 3) s_nil rfl) rfl) rfl)) (fun _ => rfl))) (ss_cons (xset 3 G (s_binK G rfl (xv 3) (s_lit rfl)))
    (ss_cons (s_if G (t_cmpK G rfl (xcall G h__law_sign (s_cons G (xv 0) (s_cons G (xv 1) (s_cons G (xv 3) s_nil rfl) rfl) rfl)) (s_idx G (s_idx G (xk 2) (s_neg G (s_lit rfl)) (fun _ _ => rfl)) (s_lit rfl) (fun _ _ => rfl)) rfl) (ss_cons (xapp 2 G (s_tup G (s_cons G (xv 3) (s_cons G (s_per G (xcall G h__law_sign (s_cons G (xv 0) (s_cons G (xv 1) (s_cons G (xv 3) s_nil rfl) rfl) rfl))) s_nil rfl) rfl)))
    ss_nil) ss_nil)
    ss_nil)))
    (ss_cons (s_ret G (s_tuple G (by rfl) (xk 2) rfl))
    ss_nil)))
/-! ### law -/
abbrev st_law : Stmt := topS 22
abbrev N_law : List Str := ["script", "source", "lap", "p", "powers", "way", "shown", "due", "n", "turn", "told", "right", "at", "sign", "late", "far", "great"]
abbrev P_law : List Str := ["script"]
theorem sc_law : FnScope N_law P_law (defScope st_law) := ⟨rfl, rfl, rfl, by decide +kernel, rfl, by decide +kernel, by decide +kernel⟩
def T_law : Ss := (.cons (.mk 1 "_law_source" (.var 0)) (.cons (.for (.name 2) (.rng1 (.lit (.int 6))) (.cons (.asg (.tup (.cons (.name 3) (.cons (.name 4) .nil))) (.tup (.cons (.bin .add (.lit (.int 2)) (.call "_law_pick" (.cons (.var 1) (.cons (.lit (.int 2)) .nil)))) (.cons (.per (.call "_law_powers" (.cons (.var 1) .nil))) .nil)))) (.cons (.asg (.name 5) (.per (.call "_law_pick" (.cons (.var 1) (.cons (.lit (.int 4)) .nil))))) (.cons (.ife (.bin .lt (.var 5) (.lit (.int 2))) (.cons (.asg (.name 4) (.per (.call "_law_rooted" (.cons (.var 1) (.cons (.var 3) .nil))))) .nil) .nil) (.cons (.ife (.bin .eq (.var 5) (.lit (.int 2))) (.cons (.asg (.name 4) (.per (.call "_law_less" (.cons (.var 4) (.cons (.tup (.cons (.tup (.cons (.lit (.int 4)) (.cons (.un .neg (.lit (.int 1))) .nil))) (.cons (.tup (.cons (.lit (.int 3)) (.cons (.per (.call "_law_of" (.cons (.var 1) (.cons (.per (.lst (.cons (.bin .pow (.lit (.int 10)) (.lit (.int 6))) (.cons (.lit (.int 1)) (.cons (.un .neg (.bin .pow (.lit (.int 10)) (.lit (.int 9)))) (.cons (.bin .pow (.lit (.int 10)) (.lit (.int 3))) .nil)))))) .nil)))) .nil))) .nil))) .nil))))) .nil) .nil) (.cons (.par [6, 7] (.cons (.blt .repr (.var 4)) (.cons (.per (.call "_law_signs" (.cons (.var 3) (.cons (.var 4) .nil)))) .nil))) (.cons (.ife (.or (.bin .ne (.blt .repr (.call "signs_of" (.cons (.var 3) (.cons (.var 4) .nil)))) (.blt .repr (.var 7))) (.bin .ne (.blt .repr (.var 4)) (.var 6))) (.cons (.ret (.lit (.bool false))) .nil) .nil) (.cons (.for (.name 8) (.it (.bin .add (.comp [9] (.name 9) (.rng1 (.lit (.int 4))) .none (.per (.call "_law_pick" (.cons (.var 1) (.cons (.lit (.int 12)) .nil))))) (.lst (.cons (.lit (.int 0)) (.cons (.lit (.int 1)) .nil))))) (.cons (.asg (.name 10) (.per (.lst (.cons (.per (.call "sign_at" (.cons (.var 3) (.cons (.var 4) (.cons (.var 8) .nil))))) (.cons (.per (.call "is_settled" (.cons (.var 3) (.cons (.var 4) (.cons (.var 8) .nil))))) (.cons (.per (.call "is_seen" (.cons (.var 3) (.cons (.var 4) (.cons (.var 8) .nil))))) .nil)))))) (.cons (.asg (.name 11) (.per (.lst (.cons (.per (.call "_law_sign" (.cons (.var 3) (.cons (.var 4) (.cons (.var 8) .nil))))) (.cons (.per (.call "_law_is_settled" (.cons (.var 3) (.cons (.var 4) (.cons (.var 8) .nil))))) (.cons (.per (.call "_law_is_seen" (.cons (.var 3) (.cons (.var 4) (.cons (.var 8) .nil))))) .nil)))))) (.cons (.ife (.or (.bin .ne (.blt .repr (.var 10)) (.blt .repr (.var 11))) (.bin .ne (.bin .idx (.comp [12, 13] (.tup (.cons (.name 12) (.cons (.name 13) .nil))) (.it (.var 7)) (.some (.bin .le (.var 12) (.var 8))) (.var 13)) (.un .neg (.lit (.int 1)))) (.bin .idx (.var 11) (.lit (.int 0))))) (.cons (.ret (.lit (.bool false))) .nil) .nil) (.cons (.ife (.and (.bin .idx (.var 11) (.lit (.int 2))) (.bin .inn (.un .neg (.lit (.int 1))) (.comp [14] (.name 14) (.rng2 (.var 8) (.bin .add (.var 8) (.lit (.int 4)))) .none (.per (.call "_law_sign" (.cons (.var 3) (.cons (.var 4) (.cons (.var 14) .nil)))))))) (.cons (.ret (.lit (.bool false))) .nil) .nil) (.cons (.ife (.and (.bin .idx (.var 11) (.lit (.int 1))) (.bin .ne (.comp [14] (.name 14) (.rng2 (.var 8) (.bin .add (.var 8) (.lit (.int 4)))) (.some (.bin .ne (.call "_law_sign" (.cons (.var 3) (.cons (.var 4) (.cons (.var 14) .nil)))) (.bin .idx (.var 11) (.lit (.int 0))))) (.var 14)) (.lst .nil))) (.cons (.ret (.lit (.bool false))) .nil) .nil) .nil)))))) .nil)))))))) (.cons (.asg (.name 15) (.bin .add (.lit (.int 200)) (.call "_law_pick" (.cons (.var 1) (.cons (.lit (.int 90)) .nil))))) (.cons (.asg (.name 16) (.tup (.cons (.tup (.cons (.lit (.int 0)) (.cons (.bin .sub (.lit (.int 0)) (.call "_law_power" (.cons (.lit (.int 2)) (.cons (.var 15) .nil)))) .nil))) (.cons (.tup (.cons (.lit (.int 1)) (.cons (.lit (.int 1)) .nil))) .nil)))) (.cons (.ret (.and (.bin .eq (.call "signs_of" (.cons (.lit (.int 2)) (.cons (.var 16) .nil))) (.tup (.cons (.tup (.cons (.lit (.int 0)) (.cons (.un .neg (.lit (.int 1))) .nil))) (.cons (.tup (.cons (.var 15) (.cons (.lit (.int 0)) .nil))) (.cons (.tup (.cons (.bin .add (.var 15) (.lit (.int 1))) (.cons (.lit (.int 1)) .nil))) .nil))))) (.bin .eq (.call "signs_of" (.cons (.lit (.int 2)) (.cons (.tup .nil) .nil))) (.tup (.cons (.tup (.cons (.lit (.int 0)) (.cons (.lit (.int 0)) .nil))) .nil))))) .nil)))))
theorem b_law {P : Program} {w : World} {K : PySem.W.Frag} {mg : Str → Option Value} {base : Heap} {Γ : Gam} {f : Addr} {cd : Value} {A : Around} {outer : List Env} {s : Shared} {H : Hp} (G : Good (cxD P w K mg base N_law "law" st_law f cd A outer s H) Γ) {sp__law_powers : Spec} (h__law_powers : Γ "_law_powers" = some sp__law_powers) {sp__law_pick : Spec} (h__law_pick : Γ "_law_pick" = some sp__law_pick) {sp__law_rooted : Spec} (h__law_rooted : Γ "_law_rooted" = some sp__law_rooted) {sp__law_less : Spec} (h__law_less : Γ "_law_less" = some sp__law_less) {sp__law_of : Spec} (h__law_of : Γ "_law_of" = some sp__law_of) {sp__law_signs : Spec} (h__law_signs : Γ "_law_signs" = some sp__law_signs) {sp_signs_of : Spec} (h_signs_of : Γ "signs_of" = some sp_signs_of) {sp_is_seen : Spec} (h_is_seen : Γ "is_seen" = some sp_is_seen) {sp_is_settled : Spec} (h_is_settled : Γ "is_settled" = some sp_is_settled) {sp_sign_at : Spec} (h_sign_at : Γ "sign_at" = some sp_sign_at) {sp__law_is_seen : Spec} (h__law_is_seen : Γ "_law_is_seen" = some sp__law_is_seen) {sp__law_is_settled : Spec} (h__law_is_settled : Γ "_law_is_settled" = some sp__law_is_settled) {sp__law_sign : Spec} (h__law_sign : Γ "_law_sign" = some sp__law_sign) {sp__law_power : Spec} (h__law_power : Γ "_law_power" = some sp__law_power) (M__law_source : Maker (cxD P w K mg base N_law "law" st_law f cd A outer s H) "_law_source") :
    PSs (cxD P w K mg base N_law "law" st_law f cd A outer s H) (defBody st_law) (rdSs Γ K T_law) :=
  (ss_cons (xmk 1 G M__law_source (xv 0))
    (ss_cons (s_for G (i_rng1 G (by rfl) (s_lit rfl) rfl) (xg 2 G) (ss_cons (xunp G (s_tup G (s_cons G (s_binK G rfl (s_lit rfl) (xcall G h__law_pick (s_cons G (xv 1) (s_cons G (s_lit rfl) s_nil rfl) rfl))) (s_cons G (s_per G (xcall G h__law_powers (s_cons G (xv 1) s_nil rfl))) s_nil rfl) rfl)) (g_tup G rfl rfl (gs_cons rfl (xg 3 G) (gs_cons rfl (xg 4 G) gs_nil))))
    (ss_cons (xset 5 G (s_per G (xcall G h__law_pick (s_cons G (xv 1) (s_cons G (s_lit rfl) s_nil rfl) rfl))))
    (ss_cons (s_if G (t_cmpK G rfl (xv 5) (s_lit rfl) rfl) (ss_cons (xset 4 G (s_per G (xcall G h__law_rooted (s_cons G (xv 1) (s_cons G (xv 3) s_nil rfl) rfl))))
    ss_nil) ss_nil)
    (ss_cons (s_if G (t_cmpK G rfl (xv 5) (s_lit rfl) rfl) (ss_cons (xset 4 G (s_per G (xcall G h__law_less (s_cons G (xv 4) (s_cons G (s_tup G (s_cons G (s_tup G (s_cons G (s_lit rfl) (s_cons G (s_neg G (s_lit rfl)) s_nil rfl) rfl)) (s_cons G (s_tup G (s_cons G (s_lit rfl) (s_cons G (s_per G (xcall G h__law_of (s_cons G (xv 1) (s_cons G (s_per G (s_lst G (s_cons G (s_binK G rfl (s_lit rfl) (s_lit rfl)) (s_cons G (s_lit rfl) (s_cons G (s_neg G (s_binK G rfl (s_lit rfl) (s_lit rfl))) (s_cons G (s_binK G rfl (s_lit rfl) (s_lit rfl)) s_nil rfl) rfl) rfl) rfl))) s_nil rfl) rfl))) s_nil rfl) rfl)) s_nil rfl) rfl)) s_nil rfl) rfl))))
    ss_nil) ss_nil)
    (ss_cons (xpar2 6 7 G (s_cons G (s_repr G (by rfl) (xv 4) rfl) (s_cons G (s_per G (xcall G h__law_signs (s_cons G (xv 3) (s_cons G (xv 4) s_nil rfl) rfl))) s_nil rfl) rfl))
    (ss_cons (s_if G (t_or G (t_cmpK G rfl (s_repr G (by rfl) (xcall G h_signs_of (s_cons G (xv 3) (s_cons G (xv 4) s_nil rfl) rfl)) rfl) (s_repr G (by rfl) (xv 7) rfl) rfl) (pw_or1 (t_cmpK G rfl (s_repr G (by rfl) (xv 4) rfl) (xv 6) rfl))).pt (ss_cons (s_ret G (s_lit rfl))
    ss_nil) ss_nil)
    (ss_cons (s_for G (i_it G (s_binK G rfl (s_comp G (i_rng1 G (by rfl) (s_lit rfl) rfl) (own := [("turn", 9)]) (blkOk_by (show blkC N_law (defScope st_law) _ _ = true by decide +kernel)) (fun s H C cl fp => (xg 9 (good_blk G s H _ _ fp))) (fun s H C cl fp => b_none) (fun s H C cl fp => (s_per (good_blk G s H _ _ fp) (xcall (good_blk G s H _ _ fp) h__law_pick (s_cons (good_blk G s H _ _ fp) (xv 1) (s_cons (good_blk G s H _ _ fp) (s_lit rfl) s_nil rfl) rfl)))) (fun _ => rfl)) (s_lst G (s_cons G (s_lit rfl) (s_cons G (s_lit rfl) s_nil rfl) rfl)))) (xg 8 G) (ss_cons (xset 10 G (s_per G (s_lst G (s_cons G (s_per G (xcall G h_sign_at (s_cons G (xv 3) (s_cons G (xv 4) (s_cons G (xv 8) s_nil rfl) rfl) rfl))) (s_cons G (s_per G (xcall G h_is_settled (s_cons G (xv 3) (s_cons G (xv 4) (s_cons G (xv 8) s_nil rfl) rfl) rfl))) (s_cons G (s_per G (xcall G h_is_seen (s_cons G (xv 3) (s_cons G (xv 4) (s_cons G (xv 8) s_nil rfl) rfl) rfl))) s_nil rfl) rfl) rfl))))
    (ss_cons (xset 11 G (s_per G (s_lst G (s_cons G (s_per G (xcall G h__law_sign (s_cons G (xv 3) (s_cons G (xv 4) (s_cons G (xv 8) s_nil rfl) rfl) rfl))) (s_cons G (s_per G (xcall G h__law_is_settled (s_cons G (xv 3) (s_cons G (xv 4) (s_cons G (xv 8) s_nil rfl) rfl) rfl))) (s_cons G (s_per G (xcall G h__law_is_seen (s_cons G (xv 3) (s_cons G (xv 4) (s_cons G (xv 8) s_nil rfl) rfl) rfl))) s_nil rfl) rfl) rfl))))
    (ss_cons (s_if G (t_or G (t_cmpK G rfl (s_repr G (by rfl) (xv 10) rfl) (s_repr G (by rfl) (xv 11) rfl) rfl) (pw_or1 (t_cmpK G rfl (s_idx G (s_comp G (i_it G (xv 7)) (own := [("at", 12), ("sign", 13)]) (blkOk_by (show blkC N_law (defScope st_law) _ _ = true by decide +kernel)) (fun s H C cl fp => (g_tup (good_blk G s H _ _ fp) rfl rfl (gs_cons rfl (xg 12 (good_blk G s H _ _ fp)) (gs_cons rfl (xg 13 (good_blk G s H _ _ fp)) gs_nil)))) (fun s H C cl fp => (b_some (good_blk G s H _ _ fp) (t_cmpK (good_blk G s H _ _ fp) rfl (xv 12) (xv 8) rfl))) (fun s H C cl fp => (xv 13)) (fun _ => rfl)) (s_neg G (s_lit rfl)) (fun _ _ => rfl)) (s_idx G (xv 11) (s_lit rfl) (fun _ _ => rfl)) rfl))).pt (ss_cons (s_ret G (s_lit rfl))
    ss_nil) ss_nil)
    (ss_cons (s_if G (t_and G (t_val (s_idx G (xv 11) (s_lit rfl) (fun _ _ => rfl)) (fun _ => rfl)) (pw_and1 (t_cmpK G rfl (s_neg G (s_lit rfl)) (s_comp G (i_rng2 G (by rfl) (xv 8) (s_binK G rfl (xv 8) (s_lit rfl)) rfl rfl) (own := [("late", 14)]) (blkOk_by (show blkC N_law (defScope st_law) _ _ = true by decide +kernel)) (fun s H C cl fp => (xg 14 (good_blk G s H _ _ fp))) (fun s H C cl fp => b_none) (fun s H C cl fp => (s_per (good_blk G s H _ _ fp) (xcall (good_blk G s H _ _ fp) h__law_sign (s_cons (good_blk G s H _ _ fp) (xv 3) (s_cons (good_blk G s H _ _ fp) (xv 4) (s_cons (good_blk G s H _ _ fp) (xv 14) s_nil rfl) rfl) rfl)))) (fun _ => rfl)) rfl))).pt (ss_cons (s_ret G (s_lit rfl))
    ss_nil) ss_nil)
    (ss_cons (s_if G (t_and G (t_val (s_idx G (xv 11) (s_lit rfl) (fun _ _ => rfl)) (fun _ => rfl)) (pw_and1 (t_cmpK G rfl (s_comp G (i_rng2 G (by rfl) (xv 8) (s_binK G rfl (xv 8) (s_lit rfl)) rfl rfl) (own := [("late", 14)]) (blkOk_by (show blkC N_law (defScope st_law) _ _ = true by decide +kernel)) (fun s H C cl fp => (xg 14 (good_blk G s H _ _ fp))) (fun s H C cl fp => (b_some (good_blk G s H _ _ fp) (t_cmpK (good_blk G s H _ _ fp) rfl (xcall (good_blk G s H _ _ fp) h__law_sign (s_cons (good_blk G s H _ _ fp) (xv 3) (s_cons (good_blk G s H _ _ fp) (xv 4) (s_cons (good_blk G s H _ _ fp) (xv 14) s_nil rfl) rfl) rfl)) (s_idx (good_blk G s H _ _ fp) (xv 11) (s_lit rfl) (fun _ _ => rfl)) rfl))) (fun s H C cl fp => (xv 14)) (fun _ => rfl)) (s_lst G s_nil) rfl))).pt (ss_cons (s_ret G (s_lit rfl))
    ss_nil) ss_nil)
    ss_nil))))) (fun _ => rfl))
    ss_nil))))))) (fun _ => rfl))
    (ss_cons (xset 15 G (s_binK G rfl (s_lit rfl) (xcall G h__law_pick (s_cons G (xv 1) (s_cons G (s_lit rfl) s_nil rfl) rfl))))
    (ss_cons (xset 16 G (s_tup G (s_cons G (s_tup G (s_cons G (s_lit rfl) (s_cons G (s_binK G rfl (s_lit rfl) (xcall G h__law_power (s_cons G (s_lit rfl) (s_cons G (xv 15) s_nil rfl) rfl))) s_nil rfl) rfl)) (s_cons G (s_tup G (s_cons G (s_lit rfl) (s_cons G (s_lit rfl) s_nil rfl) rfl)) s_nil rfl) rfl)))
    (ss_cons (s_ret G (s_and G (s_cmpK G rfl (xcall G h_signs_of (s_cons G (s_lit rfl) (s_cons G (xv 16) s_nil rfl) rfl)) (s_tup G (s_cons G (s_tup G (s_cons G (s_lit rfl) (s_cons G (s_neg G (s_lit rfl)) s_nil rfl) rfl)) (s_cons G (s_tup G (s_cons G (xv 15) (s_cons G (s_lit rfl) s_nil rfl) rfl)) (s_cons G (s_tup G (s_cons G (s_binK G rfl (xv 15) (s_lit rfl)) (s_cons G (s_lit rfl) s_nil rfl) rfl)) s_nil rfl) rfl) rfl)) rfl) (pe_one (s_cmpK G rfl (xcall G h_signs_of (s_cons G (s_lit rfl) (s_cons G (s_tup G s_nil) s_nil rfl) rfl)) (s_tup G (s_cons G (s_tup G (s_cons G (s_lit rfl) (s_cons G (s_lit rfl) s_nil rfl) rfl)) s_nil rfl)) rfl))))
    ss_nil)))))
end K54
end Cal
set_option Elab.async false
set_option linter.all false
set_option maxRecDepth 100000
set_option maxHeartbeats 4000000
namespace Cal
namespace K54
open PySem PySem.Spec PyProof.Rows L2
def spRaised : Spec := fun ws Q => ∃ (q : Int) (n a : Nat), ws = [.d (.int q), .d (.int n)] ∧ q.natAbs ≤ 2 ^ a ∧ a * n < 400000 ∧ Q (.d (.int (q ^ n)))
theorem w_raised {Γ : Gam} (ws : List W) (Q : W → Prop) (h : spRaised ws Q) : wpSs Γ T_raised (startC N_raised ws) { nx := fun _ => Q (.d .none), rt := Q } := by
  obtain ⟨q, n, a, rfl, hq, hn, h⟩ := h
  (repeat (first | refine ok_intro rfl ?_ | refine Or.inl (ok_intro rfl (ok_intro rfl ?_)) | refine Or.inl (ok_intro rfl ?_) | refine Or.inr (ok_intro rfl ?_) | refine Or.inr (Or.inl (ok_intro rfl (ok_intro rfl ?_))) | refine Or.inr (Or.inr (ok_intro rfl (ok_intro rfl ?_))) | refine And.intro (rfl : W.view _ = false) ?_ | (refine And.intro eqOk_int ?_; rw [eqv_int]) | (refine And.intro eqOk_bool ?_; rw [eqv_bool]) | refine And.intro (lt_len rfl) ?_ | refine And.intro (rfl : ([] : List PyData) = []) ?_ | refine And.intro (size_ok (Nat.le_of_ble_eq_true rfl)) ?_ | refine And.intro (rfl : W.gives _ = true) ?_ | refine And.intro (rfl : List.all _ W.arg = true) ?_))
  refine ⟨fun m env => ∃ (r e : Nat) (f s : Int), env = [some (.d (.int q)), some (.d (.int m)), some (.d (.int f)), some (.d (.int s))] ∧ f = q ^ r ∧ s = q ^ e ∧ r + e * m = n, ⟨n, 0, 1, 1, q, rfl, (Int.pow_zero q).symm, (Int.pow_one q).symm, by rw [Nat.zero_add, Nat.one_mul]⟩, ?_⟩
  rintro m env ⟨r, e, f, s, rfl, rfl, rfl, hr⟩
  (repeat (first | refine ok_intro rfl ?_ | refine Or.inl (ok_intro rfl (ok_intro rfl ?_)) | refine Or.inl (ok_intro rfl ?_) | refine Or.inr (ok_intro rfl ?_) | refine Or.inr (Or.inl (ok_intro rfl (ok_intro rfl ?_))) | refine Or.inr (Or.inr (ok_intro rfl (ok_intro rfl ?_))) | refine And.intro (rfl : W.view _ = false) ?_ | (refine And.intro eqOk_int ?_; rw [eqv_int]) | (refine And.intro eqOk_bool ?_; rw [eqv_bool]) | refine And.intro (lt_len rfl) ?_ | refine And.intro (rfl : ([] : List PyData) = []) ?_ | refine And.intro (size_ok (Nat.le_of_ble_eq_true rfl)) ?_ | refine And.intro (rfl : W.gives _ = true) ?_ | refine And.intro (rfl : List.all _ W.arg = true) ?_))
  refine ite_dec (fun hm => ?_) fun hm => ?_
  · have hm : 0 < m := by omega
    have he : e ≤ n := by have := Nat.mul_le_mul_left e hm; omega
    have b1 : (q ^ e).natAbs ≤ 2 ^ (a * n) := Nat.le_trans (pow_le hq e) (Nat.pow_le_pow_right (by decide) (Nat.mul_le_mul_left a he))
    have b2 : (q ^ r).natAbs ≤ 2 ^ (a * n) := Nat.le_trans (pow_le hq r) (Nat.pow_le_pow_right (by decide) (Nat.mul_le_mul_left a (by omega)))
    have h2 : 0 < m / 2 ∨ m / 2 = 0 := by omega
    (repeat (first | refine ok_intro rfl ?_ | refine Or.inl (ok_intro rfl (ok_intro rfl ?_)) | refine Or.inl (ok_intro rfl ?_) | refine Or.inr (ok_intro rfl ?_) | refine Or.inr (Or.inl (ok_intro rfl (ok_intro rfl ?_))) | refine Or.inr (Or.inr (ok_intro rfl (ok_intro rfl ?_))) | refine And.intro (rfl : W.view _ = false) ?_ | (refine And.intro eqOk_int ?_; rw [eqv_int]) | (refine And.intro eqOk_bool ?_; rw [eqv_bool]) | refine And.intro (lt_len rfl) ?_ | refine And.intro (rfl : ([] : List PyData) = []) ?_ | refine And.intro (size_ok (Nat.le_of_ble_eq_true rfl)) ?_ | refine And.intro (rfl : W.gives _ = true) ?_ | refine And.intro (rfl : List.all _ W.arg = true) ?_))
    refine ⟨by decide, ?_⟩
    (repeat (first | refine ok_intro rfl ?_ | refine Or.inl (ok_intro rfl (ok_intro rfl ?_)) | refine Or.inl (ok_intro rfl ?_) | refine Or.inr (ok_intro rfl ?_) | refine Or.inr (Or.inl (ok_intro rfl (ok_intro rfl ?_))) | refine Or.inr (Or.inr (ok_intro rfl (ok_intro rfl ?_))) | refine And.intro (rfl : W.view _ = false) ?_ | (refine And.intro eqOk_int ?_; rw [eqv_int]) | (refine And.intro eqOk_bool ?_; rw [eqv_bool]) | refine And.intro (lt_len rfl) ?_ | refine And.intro (rfl : ([] : List PyData) = []) ?_ | refine And.intro (size_ok (Nat.le_of_ble_eq_true rfl)) ?_ | refine And.intro (rfl : W.gives _ = true) ?_ | refine And.intro (rfl : List.all _ W.arg = true) ?_))
    have e2 : ((m : Int) / 2) = ((m / 2 : Nat) : Int) := by omega
    refine ite_dec (fun h1 => ?_) fun h1 => ?_
    · (repeat (first | refine ok_intro rfl ?_ | refine Or.inl (ok_intro rfl (ok_intro rfl ?_)) | refine Or.inl (ok_intro rfl ?_) | refine Or.inr (ok_intro rfl ?_) | refine Or.inr (Or.inl (ok_intro rfl (ok_intro rfl ?_))) | refine Or.inr (Or.inr (ok_intro rfl (ok_intro rfl ?_))) | refine And.intro (rfl : W.view _ = false) ?_ | (refine And.intro eqOk_int ?_; rw [eqv_int]) | (refine And.intro eqOk_bool ?_; rw [eqv_bool]) | refine And.intro (lt_len rfl) ?_ | refine And.intro (rfl : ([] : List PyData) = []) ?_ | refine And.intro (size_ok (Nat.le_of_ble_eq_true rfl)) ?_ | refine And.intro (rfl : W.gives _ = true) ?_ | refine And.intro (rfl : List.all _ W.arg = true) ?_))
      refine ⟨mulOk_of b2 b1 hn hn, ?_⟩
      (repeat (first | refine ok_intro rfl ?_ | refine Or.inl (ok_intro rfl (ok_intro rfl ?_)) | refine Or.inl (ok_intro rfl ?_) | refine Or.inr (ok_intro rfl ?_) | refine Or.inr (Or.inl (ok_intro rfl (ok_intro rfl ?_))) | refine Or.inr (Or.inr (ok_intro rfl (ok_intro rfl ?_))) | refine And.intro (rfl : W.view _ = false) ?_ | (refine And.intro eqOk_int ?_; rw [eqv_int]) | (refine And.intro eqOk_bool ?_; rw [eqv_bool]) | refine And.intro (lt_len rfl) ?_ | refine And.intro (rfl : ([] : List PyData) = []) ?_ | refine And.intro (size_ok (Nat.le_of_ble_eq_true rfl)) ?_ | refine And.intro (rfl : W.gives _ = true) ?_ | refine And.intro (rfl : List.all _ W.arg = true) ?_))
      refine ⟨mulOk_of b1 b1 hn hn, ?_⟩
      (repeat (first | refine ok_intro rfl ?_ | refine Or.inl (ok_intro rfl (ok_intro rfl ?_)) | refine Or.inl (ok_intro rfl ?_) | refine Or.inr (ok_intro rfl ?_) | refine Or.inr (Or.inl (ok_intro rfl (ok_intro rfl ?_))) | refine Or.inr (Or.inr (ok_intro rfl (ok_intro rfl ?_))) | refine And.intro (rfl : W.view _ = false) ?_ | (refine And.intro eqOk_int ?_; rw [eqv_int]) | (refine And.intro eqOk_bool ?_; rw [eqv_bool]) | refine And.intro (lt_len rfl) ?_ | refine And.intro (rfl : ([] : List PyData) = []) ?_ | refine And.intro (size_ok (Nat.le_of_ble_eq_true rfl)) ?_ | refine And.intro (rfl : W.gives _ = true) ?_ | refine And.intro (rfl : List.all _ W.arg = true) ?_))
      refine ⟨⟨by decide, by decide⟩, ?_⟩
      (repeat (first | refine ok_intro rfl ?_ | refine Or.inl (ok_intro rfl (ok_intro rfl ?_)) | refine Or.inl (ok_intro rfl ?_) | refine Or.inr (ok_intro rfl ?_) | refine Or.inr (Or.inl (ok_intro rfl (ok_intro rfl ?_))) | refine Or.inr (Or.inr (ok_intro rfl (ok_intro rfl ?_))) | refine And.intro (rfl : W.view _ = false) ?_ | (refine And.intro eqOk_int ?_; rw [eqv_int]) | (refine And.intro eqOk_bool ?_; rw [eqv_bool]) | refine And.intro (lt_len rfl) ?_ | refine And.intro (rfl : ([] : List PyData) = []) ?_ | refine And.intro (size_ok (Nat.le_of_ble_eq_true rfl)) ?_ | refine And.intro (rfl : W.gives _ = true) ?_ | refine And.intro (rfl : List.all _ W.arg = true) ?_))
      refine ⟨m / 2, by omega, r + e, e + e, q ^ r * q ^ e, q ^ e * q ^ e, by rw [e2]; rfl, (Int.pow_add q r e).symm, (Int.pow_add q e e).symm, ?_⟩
      have : m = 2 * (m / 2) + 1 := by omega
      rw [← hr]
      generalize m / 2 = k at this
      subst this
      rw [Nat.add_mul, Nat.mul_add, Nat.mul_one, ← Nat.mul_assoc, Nat.mul_comm e 2, Nat.two_mul, Nat.add_mul]; omega
    · (repeat (first | refine ok_intro rfl ?_ | refine Or.inl (ok_intro rfl (ok_intro rfl ?_)) | refine Or.inl (ok_intro rfl ?_) | refine Or.inr (ok_intro rfl ?_) | refine Or.inr (Or.inl (ok_intro rfl (ok_intro rfl ?_))) | refine Or.inr (Or.inr (ok_intro rfl (ok_intro rfl ?_))) | refine And.intro (rfl : W.view _ = false) ?_ | (refine And.intro eqOk_int ?_; rw [eqv_int]) | (refine And.intro eqOk_bool ?_; rw [eqv_bool]) | refine And.intro (lt_len rfl) ?_ | refine And.intro (rfl : ([] : List PyData) = []) ?_ | refine And.intro (size_ok (Nat.le_of_ble_eq_true rfl)) ?_ | refine And.intro (rfl : W.gives _ = true) ?_ | refine And.intro (rfl : List.all _ W.arg = true) ?_))
      refine ⟨mulOk_of b1 b1 hn hn, ?_⟩
      (repeat (first | refine ok_intro rfl ?_ | refine Or.inl (ok_intro rfl (ok_intro rfl ?_)) | refine Or.inl (ok_intro rfl ?_) | refine Or.inr (ok_intro rfl ?_) | refine Or.inr (Or.inl (ok_intro rfl (ok_intro rfl ?_))) | refine Or.inr (Or.inr (ok_intro rfl (ok_intro rfl ?_))) | refine And.intro (rfl : W.view _ = false) ?_ | (refine And.intro eqOk_int ?_; rw [eqv_int]) | (refine And.intro eqOk_bool ?_; rw [eqv_bool]) | refine And.intro (lt_len rfl) ?_ | refine And.intro (rfl : ([] : List PyData) = []) ?_ | refine And.intro (size_ok (Nat.le_of_ble_eq_true rfl)) ?_ | refine And.intro (rfl : W.gives _ = true) ?_ | refine And.intro (rfl : List.all _ W.arg = true) ?_))
      refine ⟨⟨by decide, by decide⟩, ?_⟩
      (repeat (first | refine ok_intro rfl ?_ | refine Or.inl (ok_intro rfl (ok_intro rfl ?_)) | refine Or.inl (ok_intro rfl ?_) | refine Or.inr (ok_intro rfl ?_) | refine Or.inr (Or.inl (ok_intro rfl (ok_intro rfl ?_))) | refine Or.inr (Or.inr (ok_intro rfl (ok_intro rfl ?_))) | refine And.intro (rfl : W.view _ = false) ?_ | (refine And.intro eqOk_int ?_; rw [eqv_int]) | (refine And.intro eqOk_bool ?_; rw [eqv_bool]) | refine And.intro (lt_len rfl) ?_ | refine And.intro (rfl : ([] : List PyData) = []) ?_ | refine And.intro (size_ok (Nat.le_of_ble_eq_true rfl)) ?_ | refine And.intro (rfl : W.gives _ = true) ?_ | refine And.intro (rfl : List.all _ W.arg = true) ?_))
      refine ⟨m / 2, by omega, r, e + e, q ^ r, q ^ e * q ^ e, by rw [e2]; rfl, rfl, (Int.pow_add q e e).symm, ?_⟩
      have : m = 2 * (m / 2) := by omega
      rw [← hr]
      generalize m / 2 = k at this
      subst this
      rw [Nat.add_mul, ← Nat.mul_assoc, Nat.mul_comm e 2, Nat.two_mul, Nat.add_mul]
  · (repeat (first | refine ok_intro rfl ?_ | refine Or.inl (ok_intro rfl (ok_intro rfl ?_)) | refine Or.inl (ok_intro rfl ?_) | refine Or.inr (ok_intro rfl ?_) | refine Or.inr (Or.inl (ok_intro rfl (ok_intro rfl ?_))) | refine Or.inr (Or.inr (ok_intro rfl (ok_intro rfl ?_))) | refine And.intro (rfl : W.view _ = false) ?_ | (refine And.intro eqOk_int ?_; rw [eqv_int]) | (refine And.intro eqOk_bool ?_; rw [eqv_bool]) | refine And.intro (lt_len rfl) ?_ | refine And.intro (rfl : ([] : List PyData) = []) ?_ | refine And.intro (size_ok (Nat.le_of_ble_eq_true rfl)) ?_ | refine And.intro (rfl : W.gives _ = true) ?_ | refine And.intro (rfl : List.all _ W.arg = true) ?_))
    have : m = 0 := by omega
    subst this
    rw [Nat.mul_zero, Nat.add_zero] at hr
    subst hr
    exact h
def pr (ic : Int × Int) : PyData := .tuple [.int ic.1, .int ic.2]
def pD (ps : List (Int × Int)) : PyData := .tuple (ps.map pr)
structure Pows (ps : List (Int × Int)) : Prop where
  srt : ps.Pairwise fun a b => a.1 < b.1
  rng : ∀ ic ∈ ps, -4 ≤ ic.1 ∧ ic.1 ≤ 4
  nz : ∀ ic ∈ ps, ic.2 ≠ 0
  big : ∀ ic ∈ ps, ic.2.natAbs ≤ 2 ^ 300
  len : ps.length ≤ 9
def ev (q l : Int) (ps : List (Int × Int)) : Int := (ps.map fun ic => ic.2 * q ^ (ic.1 - l).toNat).sum
def sg (t : Int) : Int := b2i (decide (0 < t)) - b2i (decide (t < 0))
theorem canLay_prs : ∀ ps : List (Int × Int), PyData.canLayAll0 (ps.map pr) = true
  | [] => rfl
  | p :: ps => by rw [List.map_cons]; unfold PyData.canLayAll0; rw [canLay_prs ps]; rfl
theorem eqOk_nil (ps : List (Int × Int)) : eqOk (pD ps) (.tuple []) := ⟨by unfold pD PyData.canLay0; exact canLay_prs ps, rfl, Nat.le_trans (Nat.min_le_right _ _) (by decide)⟩
theorem eqv_nil (ps : List (Int × Int)) : PyData.eqv (pD ps) (.tuple []) = decide (ps = []) := by
  cases ps with
  | nil => rfl
  | cons p ps => rfl
theorem last_split {α : Type} (l : List α) : l = [] ∨ ∃ r x, l = r ++ [x] := by
  rcases List.eq_nil_or_concat l with h | ⟨r, x, h⟩
  · exact .inl h
  · exact .inr ⟨r, x, by rw [h, List.concat_eq_append]⟩
theorem atI_pD (ps : List (Int × Int)) (ic : Int × Int) : atI ((ps ++ [ic]).map pr) (-1) = some (pr ic) := by
  rw [List.map_append]
  exact atI_last _ _
def PN (p n : Nat) : Prop := (p = 2 ∨ p = 3) ∧ n ≤ 320
theorem PN.pow {p n : Nat} (h : PN p n) : ((p : Int) ^ n).natAbs ≤ 2 ^ 640 := by
  have h1 : ((p : Int)).natAbs ≤ 2 ^ 2 := by rcases h.1 with e | e <;> subst e <;> decide
  exact Nat.le_trans (pow_le h1 n) (Nat.pow_le_pow_right (by decide) (by have := h.2; omega))
theorem PN.pos {p n : Nat} (h : PN p n) : 0 < (p : Int) ^ n := Int.pow_pos (by rcases h.1 with e | e <;> subst e <;> decide)
def spSign : Spec := fun ws Q => ∃ (p n : Nat) (ps : List (Int × Int)), ws = [.d (.int p), .d (pD ps), .d (.int n)] ∧ PN p n ∧ Pows ps ∧ Q (.d (.int (sg (ev ((p : Int) ^ n) (-4) ps))))
theorem ev_bound {q : Int} {l : Int} (hq : q.natAbs ≤ 2 ^ 640) : ∀ {ps : List (Int × Int)}, (∀ ic ∈ ps, ic.2.natAbs ≤ 2 ^ 300) → (∀ ic ∈ ps, (ic.1 - l).toNat ≤ 8) → (ev q l ps).natAbs ≤ ps.length * 2 ^ 5420
  | [], _, _ => by simp [ev]
  | ic :: ps, h1, h2 => by
    have ih := ev_bound (l := l) hq (ps := ps) (fun x hx => h1 x (List.mem_cons_of_mem _ hx)) fun x hx => h2 x (List.mem_cons_of_mem _ hx)
    have e : ev q l (ic :: ps) = ic.2 * q ^ (ic.1 - l).toNat + ev q l ps := by simp [ev]
    have b : (ic.2 * q ^ (ic.1 - l).toNat).natAbs ≤ 2 ^ 5420 := by
      rw [Int.natAbs_mul]
      have b1 := h1 ic List.mem_cons_self
      have b2 := Nat.le_trans (pow_le hq (ic.1 - l).toNat) (Nat.pow_le_pow_right (by decide) (Nat.mul_le_mul_left 640 (h2 ic List.mem_cons_self)))
      have b3 := Nat.mul_le_mul b1 b2
      rw [← Nat.pow_add] at b3
      exact b3
    rw [e, List.length_cons, Nat.add_mul, Nat.one_mul]
    have := Int.natAbs_add_le (ic.2 * q ^ (ic.1 - l).toNat) (ev q l ps)
    omega
theorem ev_shift {q l m : Int} (h : m ≤ l) : ∀ {ps : List (Int × Int)}, (∀ ic ∈ ps, l ≤ ic.1) → ev q m ps = ev q l ps * q ^ (l - m).toNat
  | [], _ => by simp [ev]
  | ic :: ps, h1 => by
    have ih := ev_shift (q := q) h (ps := ps) fun x hx => h1 x (List.mem_cons_of_mem _ hx)
    have h2 := h1 ic List.mem_cons_self
    have e : ∀ l, ev q l (ic :: ps) = ic.2 * q ^ (ic.1 - l).toNat + ev q l ps := fun l => by simp [ev]
    have e2 : (ic.1 - m).toNat = (ic.1 - l).toNat + (l - m).toNat := by omega
    rw [e, e, ih, e2, Int.pow_add, Int.add_mul, Int.mul_assoc]
theorem sg_mul {t q : Int} (h : 0 < q) (k : Nat) : sg (t * q ^ k) = sg t := by
  have hk : 0 < q ^ k := Int.pow_pos h
  unfold sg
  have e1 : decide (0 < t * q ^ k) = decide (0 < t) := by
    by_cases ht : 0 < t
    · rw [decide_eq_true ht, decide_eq_true (Int.mul_pos ht hk)]
    · rw [decide_eq_false ht, decide_eq_false (fun z => ht (by
        rcases Int.lt_or_le 0 t with y | y
        · exact y
        · exact absurd (Int.mul_nonpos_of_nonpos_of_nonneg y (Int.le_of_lt hk)) (by omega)))]
  have e2 : decide (t * q ^ k < 0) = decide (t < 0) := by
    by_cases ht : t < 0
    · rw [decide_eq_true ht, decide_eq_true (Int.mul_neg_of_neg_of_pos ht hk)]
    · rw [decide_eq_false ht, decide_eq_false (fun z => ht (by
        rcases Int.lt_or_le t 0 with y | y
        · exact y
        · exact absurd (Int.mul_nonneg y (Int.le_of_lt hk)) (by omega)))]
  rw [e1, e2]
theorem w_sign_at {Γ : Gam} (hr : Γ "raised" = some spRaised) (ws : List W) (Q : W → Prop) (h : spSign ws Q) : wpSs Γ T_sign_at (startC N_sign_at ws) { nx := fun _ => Q (.d .none), rt := Q } := by
  obtain ⟨p, n, ps, rfl, hp, hps, h⟩ := h
  have hq := hp.pow
  have hp0 := hp.pos
  have hp2 : ((p : Int)).natAbs ≤ 2 ^ 2 := by rcases hp.1 with e | e <;> subst e <;> decide
  -- behind the first line
  have rest : ∀ a : Int, (∀ r x, ps = r ++ [x] → a = x.1) → wpSs Γ (match T_sign_at with | .cons _ r => r | r => r) [some (.d (.int p)), some (.d (pD ps)), some (.d (.int n)), some (.d (.int 0)), some (.d (.int a)), some (.d (.int ((p : Int) ^ n))), none, none] { nx := fun _ => Q (.d .none), rt := Q } := by
    intro a ha
    generalize hgq : (p : Int) ^ n = q at *
    (repeat (first | refine ok_intro rfl ?_ | refine Or.inl (ok_intro rfl (ok_intro rfl ?_)) | refine Or.inl (ok_intro rfl ?_) | refine Or.inr (ok_intro rfl ?_) | refine Or.inr (Or.inl (ok_intro rfl (ok_intro rfl ?_))) | refine Or.inr (Or.inr (ok_intro rfl (ok_intro rfl ?_))) | refine And.intro (rfl : W.view _ = false) ?_ | (refine And.intro eqOk_int ?_; rw [eqv_int]) | (refine And.intro eqOk_bool ?_; rw [eqv_bool]) | refine And.intro (lt_len rfl) ?_ | refine And.intro (rfl : ([] : List PyData) = []) ?_ | refine And.intro (size_ok (Nat.le_of_ble_eq_true rfl)) ?_ | refine And.intro (rfl : W.gives _ = true) ?_ | refine And.intro (rfl : List.all _ W.arg = true) ?_))
    refine forW_inv _ (fun pre e => ∃ r suf x y b, ps = r ++ suf ∧ pre = (suf.map pr).reverse ∧ e = [some (.d (.int p)), some (.d (pD ps)), some (.d (.int n)), some (.d (.int (ev q b suf))), some (.d (.int b)), some (.d (.int q)), x, y] ∧ (∀ ic ∈ suf, b ≤ ic.1) ∧ (suf = [] → b = a) ∧ (suf ≠ [] → ∃ ic ∈ suf, ic.1 = b)) ⟨ps, [], none, none, a, by simp, rfl, rfl, by simp, by simp, by simp⟩ ?_ ?_
    · rintro pre xd rest e k hx ⟨r, suf, x0, y0, b, hr2, rfl, rfl, hb, hb0, hb1⟩ hk
      have e1 : (ps.map pr).reverse = (suf.map pr).reverse ++ xd :: rest := hx
      rw [hr2, List.map_append, List.reverse_append, List.append_cancel_left_eq] at e1
      rcases last_split r with hr3 | ⟨r2, ic, hr3⟩
      · subst hr3
        simp at e1
      · subst hr3
        rw [List.map_append, List.reverse_append] at e1
        have e2 : xd = pr ic := by
          have := List.head_eq_of_cons_eq e1
          exact this.symm
        subst e2
        have hmem : ic ∈ ps := by rw [hr2]; simp
        have hrng := hps.rng ic hmem
        have hbr : ic.1 ≤ b := by
          by_cases hsuf : suf = []
          · subst hsuf
            have := ha r2 ic (by rw [hr2]; simp)
            rw [hb0 rfl, this]; exact Int.le_refl _
          · obtain ⟨jc, hj, e⟩ := hb1 hsuf
            have := hps.srt
            rw [hr2, List.append_assoc, List.pairwise_append] at this
            have := (List.pairwise_append.mp (List.pairwise_append.mp (by rw [← List.append_assoc, ← hr2]; exact hps.srt) |>.2.1)).2.2 ic (by simp) jc hj
            omega
        have hev := ev_bound (l := b) hq (ps := suf) (fun x hx => hps.big x (by rw [hr2]; simp [hx])) (fun x hx => by
          have h1 := hps.rng x (by rw [hr2]; simp [hx])
          by_cases hsuf : suf = []
          · subst hsuf; cases hx
          · obtain ⟨jc, hj, e⟩ := hb1 hsuf
            have h2 := hps.rng jc (by rw [hr2]; simp [hj])
            omega)
        have hlen : suf.length ≤ 9 := by
          have := hps.len
          rw [hr2] at this
          simp at this
          omega
        have hev2 : (ev q b suf).natAbs ≤ 2 ^ 5424 := by
          refine Nat.le_trans hev (Nat.le_trans (Nat.mul_le_mul_right _ (show suf.length ≤ 2 ^ 4 by omega)) ?_)
          rw [← Nat.pow_add]
          exact Nat.le_refl _
        have hb8 : (b - ic.1).toNat ≤ 8 := by
          by_cases hsuf : suf = []
          · subst hsuf
            have := ha r2 ic (by rw [hr2]; simp)
            rw [hb0 rfl, this]; omega
          · obtain ⟨jc, hj, e⟩ := hb1 hsuf
            have h2 := hps.rng jc (by rw [hr2]; simp [hj])
            omega
        (repeat (first | refine ok_intro rfl ?_ | refine Or.inl (ok_intro rfl (ok_intro rfl ?_)) | refine Or.inl (ok_intro rfl ?_) | refine Or.inr (ok_intro rfl ?_) | refine Or.inr (Or.inl (ok_intro rfl (ok_intro rfl ?_))) | refine Or.inr (Or.inr (ok_intro rfl (ok_intro rfl ?_))) | refine And.intro (rfl : W.view _ = false) ?_ | (refine And.intro eqOk_int ?_; rw [eqv_int]) | (refine And.intro eqOk_bool ?_; rw [eqv_bool]) | refine And.intro (lt_len rfl) ?_ | refine And.intro (rfl : ([] : List PyData) = []) ?_ | refine And.intro (size_ok (Nat.le_of_ble_eq_true rfl)) ?_ | refine And.intro (rfl : W.gives _ = true) ?_ | refine And.intro (rfl : List.all _ W.arg = true) ?_))
        refine ok_intro hr ?_
        refine ⟨q, (b - ic.1).toNat, 640, by rw [Int.toNat_of_nonneg (by omega)], hq, by omega, ?_⟩
        (repeat (first | refine ok_intro rfl ?_ | refine Or.inl (ok_intro rfl (ok_intro rfl ?_)) | refine Or.inl (ok_intro rfl ?_) | refine Or.inr (ok_intro rfl ?_) | refine Or.inr (Or.inl (ok_intro rfl (ok_intro rfl ?_))) | refine Or.inr (Or.inr (ok_intro rfl (ok_intro rfl ?_))) | refine And.intro (rfl : W.view _ = false) ?_ | (refine And.intro eqOk_int ?_; rw [eqv_int]) | (refine And.intro eqOk_bool ?_; rw [eqv_bool]) | refine And.intro (lt_len rfl) ?_ | refine And.intro (rfl : ([] : List PyData) = []) ?_ | refine And.intro (size_ok (Nat.le_of_ble_eq_true rfl)) ?_ | refine And.intro (rfl : W.gives _ = true) ?_ | refine And.intro (rfl : List.all _ W.arg = true) ?_))
        refine ⟨mulOk_of hev2 (pow_le hq _) (by decide) (by omega), ?_⟩
        (repeat (first | refine ok_intro rfl ?_ | refine Or.inl (ok_intro rfl (ok_intro rfl ?_)) | refine Or.inl (ok_intro rfl ?_) | refine Or.inr (ok_intro rfl ?_) | refine Or.inr (Or.inl (ok_intro rfl (ok_intro rfl ?_))) | refine Or.inr (Or.inr (ok_intro rfl (ok_intro rfl ?_))) | refine And.intro (rfl : W.view _ = false) ?_ | (refine And.intro eqOk_int ?_; rw [eqv_int]) | (refine And.intro eqOk_bool ?_; rw [eqv_bool]) | refine And.intro (lt_len rfl) ?_ | refine And.intro (rfl : ([] : List PyData) = []) ?_ | refine And.intro (size_ok (Nat.le_of_ble_eq_true rfl)) ?_ | refine And.intro (rfl : W.gives _ = true) ?_ | refine And.intro (rfl : List.all _ W.arg = true) ?_))
        refine hk _ ⟨r2, ic :: suf, some (.d (.int ic.1)), some (.d (.int ic.2)), ic.1, ?_, ?_, ?_, ?_, ?_, ?_⟩
        · rw [hr2]; simp
        · simp
        · have : ev q ic.1 (ic :: suf) = ev q b suf * q ^ (b - ic.1).toNat + ic.2 := by
            have e1 : ev q ic.1 (ic :: suf) = ic.2 * q ^ (ic.1 - ic.1).toNat + ev q ic.1 suf := by simp [ev]
            rw [e1, ev_shift hbr hb, Int.sub_self]
            show ic.2 * q ^ 0 + _ = _
            rw [Int.pow_zero, Int.mul_one, Int.add_comm]
          rw [this]
          rfl
        · intro jc hj
          rcases List.mem_cons.mp hj with e | hj
          · rw [e]; exact Int.le_refl _
          · exact Int.le_trans hbr (hb jc hj)
        · intro z; cases z
        · intro _; exact ⟨ic, List.mem_cons_self, rfl⟩
    · rintro e ⟨r, suf, x0, y0, b, hr2, hpre, rfl, hb, hb0, hb1⟩
      have hlen := congrArg List.length hpre
      have : r = [] := by
        have h1 : ps.length = r.length + suf.length := by rw [hr2, List.length_append]
        simp at hlen
        exact List.eq_nil_of_length_eq_zero (by omega)
      subst this
      rw [List.nil_append] at hr2
      subst hr2
      (repeat (first | refine ok_intro rfl ?_ | refine Or.inl (ok_intro rfl (ok_intro rfl ?_)) | refine Or.inl (ok_intro rfl ?_) | refine Or.inr (ok_intro rfl ?_) | refine Or.inr (Or.inl (ok_intro rfl (ok_intro rfl ?_))) | refine Or.inr (Or.inr (ok_intro rfl (ok_intro rfl ?_))) | refine And.intro (rfl : W.view _ = false) ?_ | (refine And.intro eqOk_int ?_; rw [eqv_int]) | (refine And.intro eqOk_bool ?_; rw [eqv_bool]) | refine And.intro (lt_len rfl) ?_ | refine And.intro (rfl : ([] : List PyData) = []) ?_ | refine And.intro (size_ok (Nat.le_of_ble_eq_true rfl)) ?_ | refine And.intro (rfl : W.gives _ = true) ?_ | refine And.intro (rfl : List.all _ W.arg = true) ?_))
      have e : sg (ev q (-4) ps) = sg (ev q b ps) := by
        by_cases hsuf : ps = []
        · subst hsuf; rfl
        · obtain ⟨jc, hj, e⟩ := hb1 hsuf
          have h2 := hps.rng jc hj
          rw [ev_shift (l := b) (by omega) hb, sg_mul hp0]
      rw [e] at h
      exact h
  (repeat (first | refine ok_intro rfl ?_ | refine Or.inl (ok_intro rfl (ok_intro rfl ?_)) | refine Or.inl (ok_intro rfl ?_) | refine Or.inr (ok_intro rfl ?_) | refine Or.inr (Or.inl (ok_intro rfl (ok_intro rfl ?_))) | refine Or.inr (Or.inr (ok_intro rfl (ok_intro rfl ?_))) | refine And.intro (rfl : W.view _ = false) ?_ | (refine And.intro eqOk_int ?_; rw [eqv_int]) | (refine And.intro eqOk_bool ?_; rw [eqv_bool]) | refine And.intro (lt_len rfl) ?_ | refine And.intro (rfl : ([] : List PyData) = []) ?_ | refine And.intro (size_ok (Nat.le_of_ble_eq_true rfl)) ?_ | refine And.intro (rfl : W.gives _ = true) ?_ | refine And.intro (rfl : List.all _ W.arg = true) ?_))
  refine And.intro (eqOk_nil _) ?_
  rw [eqv_nil]
  (repeat (first | refine ok_intro rfl ?_ | refine Or.inl (ok_intro rfl (ok_intro rfl ?_)) | refine Or.inl (ok_intro rfl ?_) | refine Or.inr (ok_intro rfl ?_) | refine Or.inr (Or.inl (ok_intro rfl (ok_intro rfl ?_))) | refine Or.inr (Or.inr (ok_intro rfl (ok_intro rfl ?_))) | refine And.intro (rfl : W.view _ = false) ?_ | (refine And.intro eqOk_int ?_; rw [eqv_int]) | (refine And.intro eqOk_bool ?_; rw [eqv_bool]) | refine And.intro (lt_len rfl) ?_ | refine And.intro (rfl : ([] : List PyData) = []) ?_ | refine And.intro (size_ok (Nat.le_of_ble_eq_true rfl)) ?_ | refine And.intro (rfl : W.gives _ = true) ?_ | refine And.intro (rfl : List.all _ W.arg = true) ?_))
  refine ite_ndec (fun hne => ?_) fun he => ?_
  · rcases last_split ps with e | ⟨r, x, e⟩
    · exact absurd e hne
    · have hat := atI_pD r x
      rw [← e] at hat
      (repeat (first | refine ok_intro rfl ?_ | refine Or.inl (ok_intro rfl (ok_intro rfl ?_)) | refine Or.inl (ok_intro rfl ?_) | refine Or.inr (ok_intro rfl ?_) | refine Or.inr (Or.inl (ok_intro rfl (ok_intro rfl ?_))) | refine Or.inr (Or.inr (ok_intro rfl (ok_intro rfl ?_))) | refine And.intro (rfl : W.view _ = false) ?_ | (refine And.intro eqOk_int ?_; rw [eqv_int]) | (refine And.intro eqOk_bool ?_; rw [eqv_bool]) | refine And.intro (lt_len rfl) ?_ | refine And.intro (rfl : ([] : List PyData) = []) ?_ | refine And.intro (size_ok (Nat.le_of_ble_eq_true rfl)) ?_ | refine And.intro (rfl : W.gives _ = true) ?_ | refine And.intro (rfl : List.all _ W.arg = true) ?_))
      refine ok_intro hat ?_
      (repeat (first | refine ok_intro rfl ?_ | refine Or.inl (ok_intro rfl (ok_intro rfl ?_)) | refine Or.inl (ok_intro rfl ?_) | refine Or.inr (ok_intro rfl ?_) | refine Or.inr (Or.inl (ok_intro rfl (ok_intro rfl ?_))) | refine Or.inr (Or.inr (ok_intro rfl (ok_intro rfl ?_))) | refine And.intro (rfl : W.view _ = false) ?_ | (refine And.intro eqOk_int ?_; rw [eqv_int]) | (refine And.intro eqOk_bool ?_; rw [eqv_bool]) | refine And.intro (lt_len rfl) ?_ | refine And.intro (rfl : ([] : List PyData) = []) ?_ | refine And.intro (size_ok (Nat.le_of_ble_eq_true rfl)) ?_ | refine And.intro (rfl : W.gives _ = true) ?_ | refine And.intro (rfl : List.all _ W.arg = true) ?_))
      refine ok_intro hr ?_
      refine ⟨p, n, 2, rfl, hp2, by have := hp.2; omega, ?_⟩
      refine ⟨rfl, ok_intro rfl ⟨rfl, rfl, rfl, lt_len rfl, lt_len rfl, lt_len rfl, ?_⟩⟩
      exact rest x.1 fun r' x' e' => by
        rw [e] at e'
        have := List.append_inj_right' e' rfl
        simp at this
        rw [this]
  · (repeat (first | refine ok_intro rfl ?_ | refine Or.inl (ok_intro rfl (ok_intro rfl ?_)) | refine Or.inl (ok_intro rfl ?_) | refine Or.inr (ok_intro rfl ?_) | refine Or.inr (Or.inl (ok_intro rfl (ok_intro rfl ?_))) | refine Or.inr (Or.inr (ok_intro rfl (ok_intro rfl ?_))) | refine And.intro (rfl : W.view _ = false) ?_ | (refine And.intro eqOk_int ?_; rw [eqv_int]) | (refine And.intro eqOk_bool ?_; rw [eqv_bool]) | refine And.intro (lt_len rfl) ?_ | refine And.intro (rfl : ([] : List PyData) = []) ?_ | refine And.intro (size_ok (Nat.le_of_ble_eq_true rfl)) ?_ | refine And.intro (rfl : W.gives _ = true) ?_ | refine And.intro (rfl : List.all _ W.arg = true) ?_))
    refine ok_intro hr ?_
    refine ⟨p, n, 2, rfl, hp2, by have := hp.2; omega, ?_⟩
    refine ⟨rfl, ok_intro rfl ⟨rfl, rfl, rfl, lt_len rfl, lt_len rfl, lt_len rfl, ?_⟩⟩
    exact rest 0 fun r' x' e' => by rw [he] at e'; simp at e'
end K54
end Cal
set_option Elab.async false
set_option linter.all false
set_option maxRecDepth 100000
set_option maxHeartbeats 4000000
namespace Cal
namespace K54
open PySem PySem.Spec PyProof.Rows L2
def wt (l : Int) (ps : List (Int × Int)) : Int := ((ps.filter fun ic => decide (ic.2 * l < 0)).map fun ic => (ic.2.natAbs : Int)).sum
theorem filterMap_if {α β : Type} (p : α → Bool) (f : α → β) (as : List α) : as.filterMap (fun a => if p a = true then some (f a) else none) = (as.filter p).map f := by
  induction as with
  | nil => rfl
  | cons a r ih =>
    cases h : p a with
    | true => rw [List.filterMap_cons_some (by rw [h]; rfl), List.filter_cons_of_pos h, List.map_cons, ih]
    | false => rw [List.filterMap_cons_none (by rw [h]; rfl), List.filter_cons_of_neg (by rw [h]; exact Bool.false_ne_true), ih]
def spWt : Spec := fun ws Q => ∃ (ps r : List (Int × Int)) (x : Int × Int), ws = [.d (pD ps)] ∧ ps = r ++ [x] ∧ Pows ps ∧ Q (.d (.int (wt x.2 ps)))
theorem mul300 {i j : Int} (h1 : i.natAbs ≤ 2 ^ 300) (h2 : j.natAbs ≤ 2 ^ 300) : MulOk i j := mulOk_of h1 h2 (by decide) (by decide)
theorem w_weight_against {Γ : Gam} (ws : List W) (Q : W → Prop) (h : spWt ws Q) : wpSs Γ T_weight_against (startC N_weight_against ws) { nx := fun _ => Q (.d .none), rt := Q } := by
  obtain ⟨ps, r, x, rfl, hr, hps, h⟩ := h
  have hat := atI_pD r x
  rw [← hr] at hat
  (repeat (first | refine ok_intro rfl ?_ | refine Or.inl (ok_intro rfl (ok_intro rfl ?_)) | refine Or.inl (ok_intro rfl ?_) | refine Or.inr (ok_intro rfl ?_) | refine Or.inr (Or.inl (ok_intro rfl (ok_intro rfl ?_))) | refine Or.inr (Or.inr (ok_intro rfl (ok_intro rfl ?_))) | refine And.intro (rfl : W.view _ = false) ?_ | (refine And.intro eqOk_int ?_; rw [eqv_int]) | (refine And.intro eqOk_bool ?_; rw [eqv_bool]) | refine And.intro (lt_len rfl) ?_ | refine And.intro (rfl : ([] : List PyData) = []) ?_ | refine And.intro (size_ok (Nat.le_of_ble_eq_true rfl)) ?_ | refine And.intro (rfl : W.gives _ = true) ?_ | refine And.intro (rfl : List.all _ W.arg = true) ?_))
  refine ⟨rfl, ?_⟩
  refine compW_enc pr (fun ic => if decide (ic.2 * x.2 < 0) = true then some (.int (ic.2.natAbs : Int)) else none) ps [] (fun ic hic k hk => ?_) ?_ ?_
  · (repeat (first | refine ok_intro rfl ?_ | refine Or.inl (ok_intro rfl (ok_intro rfl ?_)) | refine Or.inl (ok_intro rfl ?_) | refine Or.inr (ok_intro rfl ?_) | refine Or.inr (Or.inl (ok_intro rfl (ok_intro rfl ?_))) | refine Or.inr (Or.inr (ok_intro rfl (ok_intro rfl ?_))) | refine And.intro (rfl : W.view _ = false) ?_ | (refine And.intro eqOk_int ?_; rw [eqv_int]) | (refine And.intro eqOk_bool ?_; rw [eqv_bool]) | refine And.intro (lt_len rfl) ?_ | refine And.intro (rfl : ([] : List PyData) = []) ?_ | refine And.intro (size_ok (Nat.le_of_ble_eq_true rfl)) ?_ | refine And.intro (rfl : W.gives _ = true) ?_ | refine And.intro (rfl : List.all _ W.arg = true) ?_))
    refine ok_intro hat ?_
    (repeat (first | refine ok_intro rfl ?_ | refine Or.inl (ok_intro rfl (ok_intro rfl ?_)) | refine Or.inl (ok_intro rfl ?_) | refine Or.inr (ok_intro rfl ?_) | refine Or.inr (Or.inl (ok_intro rfl (ok_intro rfl ?_))) | refine Or.inr (Or.inr (ok_intro rfl (ok_intro rfl ?_))) | refine And.intro (rfl : W.view _ = false) ?_ | (refine And.intro eqOk_int ?_; rw [eqv_int]) | (refine And.intro eqOk_bool ?_; rw [eqv_bool]) | refine And.intro (lt_len rfl) ?_ | refine And.intro (rfl : ([] : List PyData) = []) ?_ | refine And.intro (size_ok (Nat.le_of_ble_eq_true rfl)) ?_ | refine And.intro (rfl : W.gives _ = true) ?_ | refine And.intro (rfl : List.all _ W.arg = true) ?_))
    refine ⟨mul300 (hps.big ic hic) (hps.big x (by rw [hr]; simp)), ?_⟩
    (repeat (first | refine ok_intro rfl ?_ | refine Or.inl (ok_intro rfl (ok_intro rfl ?_)) | refine Or.inl (ok_intro rfl ?_) | refine Or.inr (ok_intro rfl ?_) | refine Or.inr (Or.inl (ok_intro rfl (ok_intro rfl ?_))) | refine Or.inr (Or.inr (ok_intro rfl (ok_intro rfl ?_))) | refine And.intro (rfl : W.view _ = false) ?_ | (refine And.intro eqOk_int ?_; rw [eqv_int]) | (refine And.intro eqOk_bool ?_; rw [eqv_bool]) | refine And.intro (lt_len rfl) ?_ | refine And.intro (rfl : ([] : List PyData) = []) ?_ | refine And.intro (size_ok (Nat.le_of_ble_eq_true rfl)) ?_ | refine And.intro (rfl : W.gives _ = true) ?_ | refine And.intro (rfl : List.all _ W.arg = true) ?_))
    refine ⟨rfl, ?_⟩
    refine ite_dec (fun hc => ?_) fun hc => ?_
    · (repeat (first | refine ok_intro rfl ?_ | refine Or.inl (ok_intro rfl (ok_intro rfl ?_)) | refine Or.inl (ok_intro rfl ?_) | refine Or.inr (ok_intro rfl ?_) | refine Or.inr (Or.inl (ok_intro rfl (ok_intro rfl ?_))) | refine Or.inr (Or.inr (ok_intro rfl (ok_intro rfl ?_))) | refine And.intro (rfl : W.view _ = false) ?_ | (refine And.intro eqOk_int ?_; rw [eqv_int]) | (refine And.intro eqOk_bool ?_; rw [eqv_bool]) | refine And.intro (lt_len rfl) ?_ | refine And.intro (rfl : ([] : List PyData) = []) ?_ | refine And.intro (size_ok (Nat.le_of_ble_eq_true rfl)) ?_ | refine And.intro (rfl : W.gives _ = true) ?_ | refine And.intro (rfl : List.all _ W.arg = true) ?_))
      refine ⟨rfl, ?_⟩
      rw [if_pos (decide_eq_true hc)] at hk
      exact hk
    · rw [if_neg (by simpa using hc)] at hk
      exact hk
  · exact size_ok (by have := hps.len; simp; omega)
  · rw [List.nil_append, filterMap_if]
    have e : ((ps.filter fun ic => decide (ic.2 * x.2 < 0)).map fun ic => PyData.int (ic.2.natAbs : Int)) = ((ps.filter fun ic => decide (ic.2 * x.2 < 0)).map fun ic => (ic.2.natAbs : Int)).map PyData.int := by rw [List.map_map]; rfl
    rw [e]
    refine ok_intro rfl (ok_intro (intsOf_map _) ?_)
    exact ⟨rfl, h⟩
def isSet (p n : Nat) (ps : List (Int × Int)) : Bool := match ps.getLast? with
  | none => true
  | some x => decide (wt x.2 ps < (x.2.natAbs : Int) * (p : Int) ^ n)
def isSeen (p n : Nat) (ps : List (Int × Int)) : Bool := match ps.getLast? with
  | none => true
  | some x => decide (0 < x.2) && decide (wt x.2 ps ≤ x.2 * (p : Int) ^ n)
def spSet : Spec := fun ws Q => ∃ (p n : Nat) (ps : List (Int × Int)), ws = [.d (.int p), .d (pD ps), .d (.int n)] ∧ PN p n ∧ Pows ps ∧ Q (.d (.bool (isSet p n ps)))
def spSeen : Spec := fun ws Q => ∃ (p n : Nat) (ps : List (Int × Int)), ws = [.d (.int p), .d (pD ps), .d (.int n)] ∧ PN p n ∧ Pows ps ∧ Q (.d (.bool (isSeen p n ps)))
theorem getLast_snoc {α : Type} (r : List α) (x : α) : (r ++ [x]).getLast? = some x := by simp
theorem PN.p2 {p n : Nat} (hp : PN p n) : ((p : Int)).natAbs ≤ 2 ^ 2 := by rcases hp.1 with e | e <;> subst e <;> decide
theorem w_is_settled {Γ : Gam} (hr : Γ "raised" = some spRaised) (hw : Γ "weight_against" = some spWt) (ws : List W) (Q : W → Prop) (h : spSet ws Q) : wpSs Γ T_is_settled (startC N_is_settled ws) { nx := fun _ => Q (.d .none), rt := Q } := by
  obtain ⟨p, n, ps, rfl, hp, hps, h⟩ := h
  (repeat (first | refine ok_intro rfl ?_ | refine Or.inl (ok_intro rfl (ok_intro rfl ?_)) | refine Or.inl (ok_intro rfl ?_) | refine Or.inr (ok_intro rfl ?_) | refine Or.inr (Or.inl (ok_intro rfl (ok_intro rfl ?_))) | refine Or.inr (Or.inr (ok_intro rfl (ok_intro rfl ?_))) | refine And.intro (rfl : W.view _ = false) ?_ | (refine And.intro eqOk_int ?_; rw [eqv_int]) | (refine And.intro eqOk_bool ?_; rw [eqv_bool]) | refine And.intro (lt_len rfl) ?_ | refine And.intro (rfl : ([] : List PyData) = []) ?_ | refine And.intro (size_ok (Nat.le_of_ble_eq_true rfl)) ?_ | refine And.intro (rfl : W.gives _ = true) ?_ | refine And.intro (rfl : List.all _ W.arg = true) ?_))
  refine And.intro (eqOk_nil _) ?_
  rw [eqv_nil]
  (repeat (first | refine ok_intro rfl ?_ | refine Or.inl (ok_intro rfl (ok_intro rfl ?_)) | refine Or.inl (ok_intro rfl ?_) | refine Or.inr (ok_intro rfl ?_) | refine Or.inr (Or.inl (ok_intro rfl (ok_intro rfl ?_))) | refine Or.inr (Or.inr (ok_intro rfl (ok_intro rfl ?_))) | refine And.intro (rfl : W.view _ = false) ?_ | (refine And.intro eqOk_int ?_; rw [eqv_int]) | (refine And.intro eqOk_bool ?_; rw [eqv_bool]) | refine And.intro (lt_len rfl) ?_ | refine And.intro (rfl : ([] : List PyData) = []) ?_ | refine And.intro (size_ok (Nat.le_of_ble_eq_true rfl)) ?_ | refine And.intro (rfl : W.gives _ = true) ?_ | refine And.intro (rfl : List.all _ W.arg = true) ?_))
  rcases last_split ps with e | ⟨r, x, e⟩
  · refine ite_dec (fun he => ?_) fun he => absurd e he
    subst e
    exact ⟨rfl, h⟩
  · have hne : ¬ ps = [] := by rw [e]; simp
    refine ite_dec (fun he => absurd he hne) fun he => ?_
    have hat := atI_pD r x
    rw [← e] at hat
    (repeat (first | refine ok_intro rfl ?_ | refine Or.inl (ok_intro rfl (ok_intro rfl ?_)) | refine Or.inl (ok_intro rfl ?_) | refine Or.inr (ok_intro rfl ?_) | refine Or.inr (Or.inl (ok_intro rfl (ok_intro rfl ?_))) | refine Or.inr (Or.inr (ok_intro rfl (ok_intro rfl ?_))) | refine And.intro (rfl : W.view _ = false) ?_ | (refine And.intro eqOk_int ?_; rw [eqv_int]) | (refine And.intro eqOk_bool ?_; rw [eqv_bool]) | refine And.intro (lt_len rfl) ?_ | refine And.intro (rfl : ([] : List PyData) = []) ?_ | refine And.intro (size_ok (Nat.le_of_ble_eq_true rfl)) ?_ | refine And.intro (rfl : W.gives _ = true) ?_ | refine And.intro (rfl : List.all _ W.arg = true) ?_))
    refine ok_intro hat ?_
    (repeat (first | refine ok_intro rfl ?_ | refine Or.inl (ok_intro rfl (ok_intro rfl ?_)) | refine Or.inl (ok_intro rfl ?_) | refine Or.inr (ok_intro rfl ?_) | refine Or.inr (Or.inl (ok_intro rfl (ok_intro rfl ?_))) | refine Or.inr (Or.inr (ok_intro rfl (ok_intro rfl ?_))) | refine And.intro (rfl : W.view _ = false) ?_ | (refine And.intro eqOk_int ?_; rw [eqv_int]) | (refine And.intro eqOk_bool ?_; rw [eqv_bool]) | refine And.intro (lt_len rfl) ?_ | refine And.intro (rfl : ([] : List PyData) = []) ?_ | refine And.intro (size_ok (Nat.le_of_ble_eq_true rfl)) ?_ | refine And.intro (rfl : W.gives _ = true) ?_ | refine And.intro (rfl : List.all _ W.arg = true) ?_))
    refine ok_intro hr ?_
    refine ⟨p, n, 2, rfl, hp.p2, by have := hp.2; omega, ?_⟩
    (repeat (first | refine ok_intro rfl ?_ | refine Or.inl (ok_intro rfl (ok_intro rfl ?_)) | refine Or.inl (ok_intro rfl ?_) | refine Or.inr (ok_intro rfl ?_) | refine Or.inr (Or.inl (ok_intro rfl (ok_intro rfl ?_))) | refine Or.inr (Or.inr (ok_intro rfl (ok_intro rfl ?_))) | refine And.intro (rfl : W.view _ = false) ?_ | (refine And.intro eqOk_int ?_; rw [eqv_int]) | (refine And.intro eqOk_bool ?_; rw [eqv_bool]) | refine And.intro (lt_len rfl) ?_ | refine And.intro (rfl : ([] : List PyData) = []) ?_ | refine And.intro (size_ok (Nat.le_of_ble_eq_true rfl)) ?_ | refine And.intro (rfl : W.gives _ = true) ?_ | refine And.intro (rfl : List.all _ W.arg = true) ?_))
    refine ⟨mulOk_of (x := 300) (y := 640) (by simpa using hps.big x (by rw [e]; simp)) hp.pow (by decide) (by decide), ?_⟩
    (repeat (first | refine ok_intro rfl ?_ | refine Or.inl (ok_intro rfl (ok_intro rfl ?_)) | refine Or.inl (ok_intro rfl ?_) | refine Or.inr (ok_intro rfl ?_) | refine Or.inr (Or.inl (ok_intro rfl (ok_intro rfl ?_))) | refine Or.inr (Or.inr (ok_intro rfl (ok_intro rfl ?_))) | refine And.intro (rfl : W.view _ = false) ?_ | (refine And.intro eqOk_int ?_; rw [eqv_int]) | (refine And.intro eqOk_bool ?_; rw [eqv_bool]) | refine And.intro (lt_len rfl) ?_ | refine And.intro (rfl : ([] : List PyData) = []) ?_ | refine And.intro (size_ok (Nat.le_of_ble_eq_true rfl)) ?_ | refine And.intro (rfl : W.gives _ = true) ?_ | refine And.intro (rfl : List.all _ W.arg = true) ?_))
    refine ok_intro hw ?_
    refine ⟨ps, r, x, rfl, e, hps, ?_⟩
    (repeat (first | refine ok_intro rfl ?_ | refine Or.inl (ok_intro rfl (ok_intro rfl ?_)) | refine Or.inl (ok_intro rfl ?_) | refine Or.inr (ok_intro rfl ?_) | refine Or.inr (Or.inl (ok_intro rfl (ok_intro rfl ?_))) | refine Or.inr (Or.inr (ok_intro rfl (ok_intro rfl ?_))) | refine And.intro (rfl : W.view _ = false) ?_ | (refine And.intro eqOk_int ?_; rw [eqv_int]) | (refine And.intro eqOk_bool ?_; rw [eqv_bool]) | refine And.intro (lt_len rfl) ?_ | refine And.intro (rfl : ([] : List PyData) = []) ?_ | refine And.intro (size_ok (Nat.le_of_ble_eq_true rfl)) ?_ | refine And.intro (rfl : W.gives _ = true) ?_ | refine And.intro (rfl : List.all _ W.arg = true) ?_))
    have e2 : isSet p n ps = decide (wt x.2 ps < (x.2.natAbs : Int) * (p : Int) ^ n) := by unfold isSet; rw [e, getLast_snoc]
    rw [e2] at h
    exact h
theorem w_is_seen {Γ : Gam} (hr : Γ "raised" = some spRaised) (hw : Γ "weight_against" = some spWt) (ws : List W) (Q : W → Prop) (h : spSeen ws Q) : wpSs Γ T_is_seen (startC N_is_seen ws) { nx := fun _ => Q (.d .none), rt := Q } := by
  obtain ⟨p, n, ps, rfl, hp, hps, h⟩ := h
  (repeat (first | refine ok_intro rfl ?_ | refine Or.inl (ok_intro rfl (ok_intro rfl ?_)) | refine Or.inl (ok_intro rfl ?_) | refine Or.inr (ok_intro rfl ?_) | refine Or.inr (Or.inl (ok_intro rfl (ok_intro rfl ?_))) | refine Or.inr (Or.inr (ok_intro rfl (ok_intro rfl ?_))) | refine And.intro (rfl : W.view _ = false) ?_ | (refine And.intro eqOk_int ?_; rw [eqv_int]) | (refine And.intro eqOk_bool ?_; rw [eqv_bool]) | refine And.intro (lt_len rfl) ?_ | refine And.intro (rfl : ([] : List PyData) = []) ?_ | refine And.intro (size_ok (Nat.le_of_ble_eq_true rfl)) ?_ | refine And.intro (rfl : W.gives _ = true) ?_ | refine And.intro (rfl : List.all _ W.arg = true) ?_))
  refine And.intro (eqOk_nil _) ?_
  rw [eqv_nil]
  (repeat (first | refine ok_intro rfl ?_ | refine Or.inl (ok_intro rfl (ok_intro rfl ?_)) | refine Or.inl (ok_intro rfl ?_) | refine Or.inr (ok_intro rfl ?_) | refine Or.inr (Or.inl (ok_intro rfl (ok_intro rfl ?_))) | refine Or.inr (Or.inr (ok_intro rfl (ok_intro rfl ?_))) | refine And.intro (rfl : W.view _ = false) ?_ | (refine And.intro eqOk_int ?_; rw [eqv_int]) | (refine And.intro eqOk_bool ?_; rw [eqv_bool]) | refine And.intro (lt_len rfl) ?_ | refine And.intro (rfl : ([] : List PyData) = []) ?_ | refine And.intro (size_ok (Nat.le_of_ble_eq_true rfl)) ?_ | refine And.intro (rfl : W.gives _ = true) ?_ | refine And.intro (rfl : List.all _ W.arg = true) ?_))
  rcases last_split ps with e | ⟨r, x, e⟩
  · refine ite_dec (fun he => ?_) fun he => absurd e he
    subst e
    exact ⟨rfl, h⟩
  · have hne : ¬ ps = [] := by rw [e]; simp
    refine ite_dec (fun he => absurd he hne) fun he => ?_
    have hat := atI_pD r x
    rw [← e] at hat
    have e2 : isSeen p n ps = (decide (0 < x.2) && decide (wt x.2 ps ≤ x.2 * (p : Int) ^ n)) := by unfold isSeen; rw [e, getLast_snoc]
    rw [e2] at h
    (repeat (first | refine ok_intro rfl ?_ | refine Or.inl (ok_intro rfl (ok_intro rfl ?_)) | refine Or.inl (ok_intro rfl ?_) | refine Or.inr (ok_intro rfl ?_) | refine Or.inr (Or.inl (ok_intro rfl (ok_intro rfl ?_))) | refine Or.inr (Or.inr (ok_intro rfl (ok_intro rfl ?_))) | refine And.intro (rfl : W.view _ = false) ?_ | (refine And.intro eqOk_int ?_; rw [eqv_int]) | (refine And.intro eqOk_bool ?_; rw [eqv_bool]) | refine And.intro (lt_len rfl) ?_ | refine And.intro (rfl : ([] : List PyData) = []) ?_ | refine And.intro (size_ok (Nat.le_of_ble_eq_true rfl)) ?_ | refine And.intro (rfl : W.gives _ = true) ?_ | refine And.intro (rfl : List.all _ W.arg = true) ?_))
    refine ok_intro hat ?_
    (repeat (first | refine ok_intro rfl ?_ | refine Or.inl (ok_intro rfl (ok_intro rfl ?_)) | refine Or.inl (ok_intro rfl ?_) | refine Or.inr (ok_intro rfl ?_) | refine Or.inr (Or.inl (ok_intro rfl (ok_intro rfl ?_))) | refine Or.inr (Or.inr (ok_intro rfl (ok_intro rfl ?_))) | refine And.intro (rfl : W.view _ = false) ?_ | (refine And.intro eqOk_int ?_; rw [eqv_int]) | (refine And.intro eqOk_bool ?_; rw [eqv_bool]) | refine And.intro (lt_len rfl) ?_ | refine And.intro (rfl : ([] : List PyData) = []) ?_ | refine And.intro (size_ok (Nat.le_of_ble_eq_true rfl)) ?_ | refine And.intro (rfl : W.gives _ = true) ?_ | refine And.intro (rfl : List.all _ W.arg = true) ?_))
    refine ite_dec (fun hx => ?_) fun hx => ?_
    · (repeat (first | refine ok_intro rfl ?_ | refine Or.inl (ok_intro rfl (ok_intro rfl ?_)) | refine Or.inl (ok_intro rfl ?_) | refine Or.inr (ok_intro rfl ?_) | refine Or.inr (Or.inl (ok_intro rfl (ok_intro rfl ?_))) | refine Or.inr (Or.inr (ok_intro rfl (ok_intro rfl ?_))) | refine And.intro (rfl : W.view _ = false) ?_ | (refine And.intro eqOk_int ?_; rw [eqv_int]) | (refine And.intro eqOk_bool ?_; rw [eqv_bool]) | refine And.intro (lt_len rfl) ?_ | refine And.intro (rfl : ([] : List PyData) = []) ?_ | refine And.intro (size_ok (Nat.le_of_ble_eq_true rfl)) ?_ | refine And.intro (rfl : W.gives _ = true) ?_ | refine And.intro (rfl : List.all _ W.arg = true) ?_))
      refine ok_intro hat ?_
      (repeat (first | refine ok_intro rfl ?_ | refine Or.inl (ok_intro rfl (ok_intro rfl ?_)) | refine Or.inl (ok_intro rfl ?_) | refine Or.inr (ok_intro rfl ?_) | refine Or.inr (Or.inl (ok_intro rfl (ok_intro rfl ?_))) | refine Or.inr (Or.inr (ok_intro rfl (ok_intro rfl ?_))) | refine And.intro (rfl : W.view _ = false) ?_ | (refine And.intro eqOk_int ?_; rw [eqv_int]) | (refine And.intro eqOk_bool ?_; rw [eqv_bool]) | refine And.intro (lt_len rfl) ?_ | refine And.intro (rfl : ([] : List PyData) = []) ?_ | refine And.intro (size_ok (Nat.le_of_ble_eq_true rfl)) ?_ | refine And.intro (rfl : W.gives _ = true) ?_ | refine And.intro (rfl : List.all _ W.arg = true) ?_))
      refine ok_intro hr ?_
      refine ⟨p, n, 2, rfl, hp.p2, by have := hp.2; omega, ?_⟩
      (repeat (first | refine ok_intro rfl ?_ | refine Or.inl (ok_intro rfl (ok_intro rfl ?_)) | refine Or.inl (ok_intro rfl ?_) | refine Or.inr (ok_intro rfl ?_) | refine Or.inr (Or.inl (ok_intro rfl (ok_intro rfl ?_))) | refine Or.inr (Or.inr (ok_intro rfl (ok_intro rfl ?_))) | refine And.intro (rfl : W.view _ = false) ?_ | (refine And.intro eqOk_int ?_; rw [eqv_int]) | (refine And.intro eqOk_bool ?_; rw [eqv_bool]) | refine And.intro (lt_len rfl) ?_ | refine And.intro (rfl : ([] : List PyData) = []) ?_ | refine And.intro (size_ok (Nat.le_of_ble_eq_true rfl)) ?_ | refine And.intro (rfl : W.gives _ = true) ?_ | refine And.intro (rfl : List.all _ W.arg = true) ?_))
      refine ⟨mulOk_of (x := 300) (y := 640) (hps.big x (by rw [e]; simp)) hp.pow (by decide) (by decide), ?_⟩
      (repeat (first | refine ok_intro rfl ?_ | refine Or.inl (ok_intro rfl (ok_intro rfl ?_)) | refine Or.inl (ok_intro rfl ?_) | refine Or.inr (ok_intro rfl ?_) | refine Or.inr (Or.inl (ok_intro rfl (ok_intro rfl ?_))) | refine Or.inr (Or.inr (ok_intro rfl (ok_intro rfl ?_))) | refine And.intro (rfl : W.view _ = false) ?_ | (refine And.intro eqOk_int ?_; rw [eqv_int]) | (refine And.intro eqOk_bool ?_; rw [eqv_bool]) | refine And.intro (lt_len rfl) ?_ | refine And.intro (rfl : ([] : List PyData) = []) ?_ | refine And.intro (size_ok (Nat.le_of_ble_eq_true rfl)) ?_ | refine And.intro (rfl : W.gives _ = true) ?_ | refine And.intro (rfl : List.all _ W.arg = true) ?_))
      refine ok_intro hw ?_
      refine ⟨ps, r, x, rfl, e, hps, ?_⟩
      (repeat (first | refine ok_intro rfl ?_ | refine Or.inl (ok_intro rfl (ok_intro rfl ?_)) | refine Or.inl (ok_intro rfl ?_) | refine Or.inr (ok_intro rfl ?_) | refine Or.inr (Or.inl (ok_intro rfl (ok_intro rfl ?_))) | refine Or.inr (Or.inr (ok_intro rfl (ok_intro rfl ?_))) | refine And.intro (rfl : W.view _ = false) ?_ | (refine And.intro eqOk_int ?_; rw [eqv_int]) | (refine And.intro eqOk_bool ?_; rw [eqv_bool]) | refine And.intro (lt_len rfl) ?_ | refine And.intro (rfl : ([] : List PyData) = []) ?_ | refine And.intro (size_ok (Nat.le_of_ble_eq_true rfl)) ?_ | refine And.intro (rfl : W.gives _ = true) ?_ | refine And.intro (rfl : List.all _ W.arg = true) ?_))
      rw [decide_eq_true hx, Bool.true_and] at h
      exact h
    · rw [decide_eq_false hx, Bool.false_and] at h
      (repeat (first | refine ok_intro rfl ?_ | refine Or.inl (ok_intro rfl (ok_intro rfl ?_)) | refine Or.inl (ok_intro rfl ?_) | refine Or.inr (ok_intro rfl ?_) | refine Or.inr (Or.inl (ok_intro rfl (ok_intro rfl ?_))) | refine Or.inr (Or.inr (ok_intro rfl (ok_intro rfl ?_))) | refine And.intro (rfl : W.view _ = false) ?_ | (refine And.intro eqOk_int ?_; rw [eqv_int]) | (refine And.intro eqOk_bool ?_; rw [eqv_bool]) | refine And.intro (lt_len rfl) ?_ | refine And.intro (rfl : ([] : List PyData) = []) ?_ | refine And.intro (size_ok (Nat.le_of_ble_eq_true rfl)) ?_ | refine And.intro (rfl : W.gives _ = true) ?_ | refine And.intro (rfl : List.all _ W.arg = true) ?_))
      exact h
/-! ### the law's own -/
def spPower : Spec := fun ws Q => ∃ (q : Int) (n : Nat), ws = [.d (.int q), .d (.int n)] ∧ q.natAbs < 2 ^ 64 ∧ n < 2 ^ 60 ∧ Q (.d (.int (q ^ n)))
theorem w__law_power {Γ : Gam} (ws : List W) (Q : W → Prop) (h : spPower ws Q) : wpSs Γ T__law_power (startC N__law_power ws) { nx := fun _ => Q (.d .none), rt := Q } := by
  obtain ⟨q, n, rfl, hq, hn, h⟩ := h
  (repeat (first | refine ok_intro rfl ?_ | refine Or.inl (ok_intro rfl (ok_intro rfl ?_)) | refine Or.inl (ok_intro rfl ?_) | refine Or.inr (ok_intro rfl ?_) | refine Or.inr (Or.inl (ok_intro rfl (ok_intro rfl ?_))) | refine Or.inr (Or.inr (ok_intro rfl (ok_intro rfl ?_))) | refine And.intro (rfl : W.view _ = false) ?_ | (refine And.intro eqOk_int ?_; rw [eqv_int]) | (refine And.intro eqOk_bool ?_; rw [eqv_bool]) | refine And.intro (lt_len rfl) ?_ | refine And.intro (rfl : ([] : List PyData) = []) ?_ | refine And.intro (size_ok (Nat.le_of_ble_eq_true rfl)) ?_ | refine And.intro (rfl : W.gives _ = true) ?_ | refine And.intro (rfl : List.all _ W.arg = true) ?_))
  refine ⟨⟨by omega, by omega⟩, ?_⟩
  refine forW_inv _ (fun pre e => ∃ t f, f = q ^ pre.length ∧ e = [some (.d (.int q)), some (.d (.int n)), some (.d (.int f)), t]) ⟨none, 1, (Int.pow_zero q).symm, rfl⟩ ?_ ?_
  · rintro pre x suf e k hx ⟨t, f, rfl, rfl⟩ hk
    (repeat (first | refine ok_intro rfl ?_ | refine Or.inl (ok_intro rfl (ok_intro rfl ?_)) | refine Or.inl (ok_intro rfl ?_) | refine Or.inr (ok_intro rfl ?_) | refine Or.inr (Or.inl (ok_intro rfl (ok_intro rfl ?_))) | refine Or.inr (Or.inr (ok_intro rfl (ok_intro rfl ?_))) | refine And.intro (rfl : W.view _ = false) ?_ | (refine And.intro eqOk_int ?_; rw [eqv_int]) | (refine And.intro eqOk_bool ?_; rw [eqv_bool]) | refine And.intro (lt_len rfl) ?_ | refine And.intro (rfl : ([] : List PyData) = []) ?_ | refine And.intro (size_ok (Nat.le_of_ble_eq_true rfl)) ?_ | refine And.intro (rfl : W.gives _ = true) ?_ | refine And.intro (rfl : List.all _ W.arg = true) ?_))
    refine ⟨.inl (.inr hq), ?_⟩
    (repeat (first | refine ok_intro rfl ?_ | refine Or.inl (ok_intro rfl (ok_intro rfl ?_)) | refine Or.inl (ok_intro rfl ?_) | refine Or.inr (ok_intro rfl ?_) | refine Or.inr (Or.inl (ok_intro rfl (ok_intro rfl ?_))) | refine Or.inr (Or.inr (ok_intro rfl (ok_intro rfl ?_))) | refine And.intro (rfl : W.view _ = false) ?_ | (refine And.intro eqOk_int ?_; rw [eqv_int]) | (refine And.intro eqOk_bool ?_; rw [eqv_bool]) | refine And.intro (lt_len rfl) ?_ | refine And.intro (rfl : ([] : List PyData) = []) ?_ | refine And.intro (size_ok (Nat.le_of_ble_eq_true rfl)) ?_ | refine And.intro (rfl : W.gives _ = true) ?_ | refine And.intro (rfl : List.all _ W.arg = true) ?_))
    refine hk _ ⟨some (.d x), q ^ pre.length * q, by rw [List.length_append, List.length_singleton, Int.pow_succ], rfl⟩
  · rintro e ⟨t, f, hf, rfl⟩
    (repeat (first | refine ok_intro rfl ?_ | refine Or.inl (ok_intro rfl (ok_intro rfl ?_)) | refine Or.inl (ok_intro rfl ?_) | refine Or.inr (ok_intro rfl ?_) | refine Or.inr (Or.inl (ok_intro rfl (ok_intro rfl ?_))) | refine Or.inr (Or.inr (ok_intro rfl (ok_intro rfl ?_))) | refine And.intro (rfl : W.view _ = false) ?_ | (refine And.intro eqOk_int ?_; rw [eqv_int]) | (refine And.intro eqOk_bool ?_; rw [eqv_bool]) | refine And.intro (lt_len rfl) ?_ | refine And.intro (rfl : ([] : List PyData) = []) ?_ | refine And.intro (size_ok (Nat.le_of_ble_eq_true rfl)) ?_ | refine And.intro (rfl : W.gives _ = true) ?_ | refine And.intro (rfl : List.all _ W.arg = true) ?_))
    have e : (rngD 0 (n : Int)).length = n := by simp [rngD]
    rw [e] at hf
    rw [hf]
    exact h
end K54
end Cal
set_option Elab.async false
set_option linter.all false
set_option maxRecDepth 100000
set_option maxHeartbeats 4000000
namespace Cal
namespace K54
open PySem PySem.Spec PyProof.Rows L2
def spCut : Spec := fun ws Q => ∃ (a b : Int), ws = [.d (.int a), .d (.int b)] ∧ 0 < b ∧ a.natAbs ≤ 2 ^ 8000 ∧ b.natAbs ≤ 2 ^ 8000 ∧ ∀ u v : Int, sg u = sg a → Q (.d (.tuple [.int u, .int v]))
theorem div_of_le {j : Int} (h0 : 0 < j) (h : j.natAbs ≤ 2 ^ 8000) : DivOk j := ⟨h0, Nat.lt_of_le_of_lt h (Nat.pow_lt_pow_right (by decide) (by decide))⟩
theorem w__law_cut {Γ : Gam} (ws : List W) (Q : W → Prop) (h : spCut ws Q) : wpSs Γ T__law_cut (startC N__law_cut ws) { nx := fun _ => Q (.d .none), rt := Q } := by
  obtain ⟨a, b, rfl, hb, ha8, hb8, h⟩ := h
  (repeat (first | refine ok_intro rfl ?_ | refine Or.inl (ok_intro rfl (ok_intro rfl ?_)) | refine Or.inl (ok_intro rfl ?_) | refine Or.inr (ok_intro rfl ?_) | refine Or.inr (Or.inl (ok_intro rfl (ok_intro rfl ?_))) | refine Or.inr (Or.inr (ok_intro rfl (ok_intro rfl ?_))) | refine And.intro (rfl : W.view _ = false) ?_ | (refine And.intro eqOk_int ?_; rw [eqv_int]) | (refine And.intro eqOk_bool ?_; rw [eqv_bool]) | refine And.intro (lt_len rfl) ?_ | refine And.intro (rfl : ([] : List PyData) = []) ?_ | refine And.intro (size_ok (Nat.le_of_ble_eq_true rfl)) ?_ | refine And.intro (rfl : W.gives _ = true) ?_ | refine And.intro (rfl : List.all _ W.arg = true) ?_))
  have bn : b = ((b.natAbs : Nat) : Int) := by omega
  refine ⟨fun m env => ∃ g : Nat, env = [some (.d (.int a)), some (.d (.int b)), some (.d (.int g)), some (.d (.int m))] ∧ Nat.gcd g m = Nat.gcd a.natAbs b.natAbs ∧ g ≤ 2 ^ 8000 ∧ m ≤ 2 ^ 8000, ⟨b.natAbs, a.natAbs, ?_, rfl, ha8, hb8⟩, ?_⟩
  · rw [← bn]; rfl
  · rintro m env ⟨g, rfl, hg, g8, m8⟩
    (repeat (first | refine ok_intro rfl ?_ | refine Or.inl (ok_intro rfl (ok_intro rfl ?_)) | refine Or.inl (ok_intro rfl ?_) | refine Or.inr (ok_intro rfl ?_) | refine Or.inr (Or.inl (ok_intro rfl (ok_intro rfl ?_))) | refine Or.inr (Or.inr (ok_intro rfl (ok_intro rfl ?_))) | refine And.intro (rfl : W.view _ = false) ?_ | (refine And.intro eqOk_int ?_; rw [eqv_int]) | (refine And.intro eqOk_bool ?_; rw [eqv_bool]) | refine And.intro (lt_len rfl) ?_ | refine And.intro (rfl : ([] : List PyData) = []) ?_ | refine And.intro (size_ok (Nat.le_of_ble_eq_true rfl)) ?_ | refine And.intro (rfl : W.gives _ = true) ?_ | refine And.intro (rfl : List.all _ W.arg = true) ?_))
    refine ite_dec (fun hm => ?_) fun hm => ?_
    · (repeat (first | refine ok_intro rfl ?_ | refine Or.inl (ok_intro rfl (ok_intro rfl ?_)) | refine Or.inl (ok_intro rfl ?_) | refine Or.inr (ok_intro rfl ?_) | refine Or.inr (Or.inl (ok_intro rfl (ok_intro rfl ?_))) | refine Or.inr (Or.inr (ok_intro rfl (ok_intro rfl ?_))) | refine And.intro (rfl : W.view _ = false) ?_ | (refine And.intro eqOk_int ?_; rw [eqv_int]) | (refine And.intro eqOk_bool ?_; rw [eqv_bool]) | refine And.intro (lt_len rfl) ?_ | refine And.intro (rfl : ([] : List PyData) = []) ?_ | refine And.intro (size_ok (Nat.le_of_ble_eq_true rfl)) ?_ | refine And.intro (rfl : W.gives _ = true) ?_ | refine And.intro (rfl : List.all _ W.arg = true) ?_))
      have hq : ((g : Int) / (m : Int)).natAbs ≤ 2 ^ 8000 := by
        rw [← Int.natCast_ediv]
        exact Nat.le_trans (Nat.div_le_self g m) g8
      refine ⟨div_of_le hm m8, ?_⟩
      (repeat (first | refine ok_intro rfl ?_ | refine Or.inl (ok_intro rfl (ok_intro rfl ?_)) | refine Or.inl (ok_intro rfl ?_) | refine Or.inr (ok_intro rfl ?_) | refine Or.inr (Or.inl (ok_intro rfl (ok_intro rfl ?_))) | refine Or.inr (Or.inr (ok_intro rfl (ok_intro rfl ?_))) | refine And.intro (rfl : W.view _ = false) ?_ | (refine And.intro eqOk_int ?_; rw [eqv_int]) | (refine And.intro eqOk_bool ?_; rw [eqv_bool]) | refine And.intro (lt_len rfl) ?_ | refine And.intro (rfl : ([] : List PyData) = []) ?_ | refine And.intro (size_ok (Nat.le_of_ble_eq_true rfl)) ?_ | refine And.intro (rfl : W.gives _ = true) ?_ | refine And.intro (rfl : List.all _ W.arg = true) ?_))
      refine ⟨mulOk_of (x := 8000) (y := 8000) hq m8 (by decide) (by decide), ?_⟩
      (repeat (first | refine ok_intro rfl ?_ | refine Or.inl (ok_intro rfl (ok_intro rfl ?_)) | refine Or.inl (ok_intro rfl ?_) | refine Or.inr (ok_intro rfl ?_) | refine Or.inr (Or.inl (ok_intro rfl (ok_intro rfl ?_))) | refine Or.inr (Or.inr (ok_intro rfl (ok_intro rfl ?_))) | refine And.intro (rfl : W.view _ = false) ?_ | (refine And.intro eqOk_int ?_; rw [eqv_int]) | (refine And.intro eqOk_bool ?_; rw [eqv_bool]) | refine And.intro (lt_len rfl) ?_ | refine And.intro (rfl : ([] : List PyData) = []) ?_ | refine And.intro (size_ok (Nat.le_of_ble_eq_true rfl)) ?_ | refine And.intro (rfl : W.gives _ = true) ?_ | refine And.intro (rfl : List.all _ W.arg = true) ?_))
      have e : (g : Int) - (g : Int) / (m : Int) * (m : Int) = ((g % m : Nat) : Int) := by
        rw [Int.natCast_emod, Int.emod_def, Int.mul_comm]
      refine ⟨g % m, Nat.mod_lt g (by omega), m, by rw [e]; rfl, ?_, m8, Nat.le_trans (Nat.le_of_lt (Nat.mod_lt g (by omega))) m8⟩
      rw [← hg, Nat.gcd_comm g m, Nat.gcd_rec m g, Nat.gcd_comm]
    · (repeat (first | refine ok_intro rfl ?_ | refine Or.inl (ok_intro rfl (ok_intro rfl ?_)) | refine Or.inl (ok_intro rfl ?_) | refine Or.inr (ok_intro rfl ?_) | refine Or.inr (Or.inl (ok_intro rfl (ok_intro rfl ?_))) | refine Or.inr (Or.inr (ok_intro rfl (ok_intro rfl ?_))) | refine And.intro (rfl : W.view _ = false) ?_ | (refine And.intro eqOk_int ?_; rw [eqv_int]) | (refine And.intro eqOk_bool ?_; rw [eqv_bool]) | refine And.intro (lt_len rfl) ?_ | refine And.intro (rfl : ([] : List PyData) = []) ?_ | refine And.intro (size_ok (Nat.le_of_ble_eq_true rfl)) ?_ | refine And.intro (rfl : W.gives _ = true) ?_ | refine And.intro (rfl : List.all _ W.arg = true) ?_))
      have hm0 : m = 0 := by omega
      subst hm0
      rw [Nat.gcd_zero_right] at hg
      have hgp : 0 < g := by rw [hg]; exact Nat.gcd_pos_of_pos_right _ (by omega)
      refine ⟨div_of_le (by omega) g8, ?_⟩
      (repeat (first | refine ok_intro rfl ?_ | refine Or.inl (ok_intro rfl (ok_intro rfl ?_)) | refine Or.inl (ok_intro rfl ?_) | refine Or.inr (ok_intro rfl ?_) | refine Or.inr (Or.inl (ok_intro rfl (ok_intro rfl ?_))) | refine Or.inr (Or.inr (ok_intro rfl (ok_intro rfl ?_))) | refine And.intro (rfl : W.view _ = false) ?_ | (refine And.intro eqOk_int ?_; rw [eqv_int]) | (refine And.intro eqOk_bool ?_; rw [eqv_bool]) | refine And.intro (lt_len rfl) ?_ | refine And.intro (rfl : ([] : List PyData) = []) ?_ | refine And.intro (size_ok (Nat.le_of_ble_eq_true rfl)) ?_ | refine And.intro (rfl : W.gives _ = true) ?_ | refine And.intro (rfl : List.all _ W.arg = true) ?_))
      refine ⟨div_of_le (by omega) g8, ?_⟩
      (repeat (first | refine ok_intro rfl ?_ | refine Or.inl (ok_intro rfl (ok_intro rfl ?_)) | refine Or.inl (ok_intro rfl ?_) | refine Or.inr (ok_intro rfl ?_) | refine Or.inr (Or.inl (ok_intro rfl (ok_intro rfl ?_))) | refine Or.inr (Or.inr (ok_intro rfl (ok_intro rfl ?_))) | refine And.intro (rfl : W.view _ = false) ?_ | (refine And.intro eqOk_int ?_; rw [eqv_int]) | (refine And.intro eqOk_bool ?_; rw [eqv_bool]) | refine And.intro (lt_len rfl) ?_ | refine And.intro (rfl : ([] : List PyData) = []) ?_ | refine And.intro (size_ok (Nat.le_of_ble_eq_true rfl)) ?_ | refine And.intro (rfl : W.gives _ = true) ?_ | refine And.intro (rfl : List.all _ W.arg = true) ?_))
      refine h _ _ ?_
      have hd : (g : Int) ∣ a := by
        rw [hg]
        exact Int.ofNat_dvd_left.mpr (Nat.gcd_dvd_left _ _)
      obtain ⟨k, hk⟩ := hd
      have e1 : a / (g : Int) = k := by rw [hk]; exact Int.mul_ediv_cancel_left k (by omega)
      rw [e1, hk, Int.mul_comm]
      have := sg_mul (t := k) (q := (g : Int)) (by omega) 1
      rw [Int.pow_one] at this
      exact this.symm
def spAt : Spec := fun ws Q => ∃ (p n : Nat) (ps : List (Int × Int)), ws = [.d (.int p), .d (pD ps), .d (.int n)] ∧ PN p n ∧ Pows ps ∧ ∀ u v : Int, sg u = sg (ev ((p : Int) ^ n) (-4) ps) → Q (.d (.tuple [.int u, .int v]))
theorem filterMap_some {α β : Type} (f : α → β) (as : List α) : as.filterMap (fun a => some (f a)) = as.map f := by
  induction as with
  | nil => rfl
  | cons a r ih => rw [List.filterMap_cons_some (f := fun a => some (f a)) rfl, List.map_cons, ih]
theorem w__law_at {Γ : Gam} (hpw : Γ "_law_power" = some spPower) (hct : Γ "_law_cut" = some spCut) (ws : List W) (Q : W → Prop) (h : spAt ws Q) : wpSs Γ T__law_at (startC N__law_at ws) { nx := fun _ => Q (.d .none), rt := Q } := by
  obtain ⟨p, n, ps, rfl, hp, hps, h⟩ := h
  have hn := hp.2
  (repeat (first | refine ok_intro rfl ?_ | refine Or.inl (ok_intro rfl (ok_intro rfl ?_)) | refine Or.inl (ok_intro rfl ?_) | refine Or.inr (ok_intro rfl ?_) | refine Or.inr (Or.inl (ok_intro rfl (ok_intro rfl ?_))) | refine Or.inr (Or.inr (ok_intro rfl (ok_intro rfl ?_))) | refine And.intro (rfl : W.view _ = false) ?_ | (refine And.intro eqOk_int ?_; rw [eqv_int]) | (refine And.intro eqOk_bool ?_; rw [eqv_bool]) | refine And.intro (lt_len rfl) ?_ | refine And.intro (rfl : ([] : List PyData) = []) ?_ | refine And.intro (size_ok (Nat.le_of_ble_eq_true rfl)) ?_ | refine And.intro (rfl : W.gives _ = true) ?_ | refine And.intro (rfl : List.all _ W.arg = true) ?_))
  refine ⟨rfl, ?_⟩
  refine compW_enc pr (fun ic => some (.int ic.1)) ps [] (fun ic hic k hk => ?_) (size_ok (by have := hps.len; simp; omega)) ?_
  · (repeat (first | refine ok_intro rfl ?_ | refine Or.inl (ok_intro rfl (ok_intro rfl ?_)) | refine Or.inl (ok_intro rfl ?_) | refine Or.inr (ok_intro rfl ?_) | refine Or.inr (Or.inl (ok_intro rfl (ok_intro rfl ?_))) | refine Or.inr (Or.inr (ok_intro rfl (ok_intro rfl ?_))) | refine And.intro (rfl : W.view _ = false) ?_ | (refine And.intro eqOk_int ?_; rw [eqv_int]) | (refine And.intro eqOk_bool ?_; rw [eqv_bool]) | refine And.intro (lt_len rfl) ?_ | refine And.intro (rfl : ([] : List PyData) = []) ?_ | refine And.intro (size_ok (Nat.le_of_ble_eq_true rfl)) ?_ | refine And.intro (rfl : W.gives _ = true) ?_ | refine And.intro (rfl : List.all _ W.arg = true) ?_))
    refine ⟨rfl, ite_t ?_⟩
    (repeat (first | refine ok_intro rfl ?_ | refine Or.inl (ok_intro rfl (ok_intro rfl ?_)) | refine Or.inl (ok_intro rfl ?_) | refine Or.inr (ok_intro rfl ?_) | refine Or.inr (Or.inl (ok_intro rfl (ok_intro rfl ?_))) | refine Or.inr (Or.inr (ok_intro rfl (ok_intro rfl ?_))) | refine And.intro (rfl : W.view _ = false) ?_ | (refine And.intro eqOk_int ?_; rw [eqv_int]) | (refine And.intro eqOk_bool ?_; rw [eqv_bool]) | refine And.intro (lt_len rfl) ?_ | refine And.intro (rfl : ([] : List PyData) = []) ?_ | refine And.intro (size_ok (Nat.le_of_ble_eq_true rfl)) ?_ | refine And.intro (rfl : W.gives _ = true) ?_ | refine And.intro (rfl : List.all _ W.arg = true) ?_))
    exact ⟨rfl, hk⟩
  rw [List.nil_append, filterMap_some]
  have em : (ps.map fun ic => PyData.int ic.1) = (ps.map (·.1)).map PyData.int := by rw [List.map_map]; rfl
  rw [em]
  (repeat (first | refine ok_intro rfl ?_ | refine Or.inl (ok_intro rfl (ok_intro rfl ?_)) | refine Or.inl (ok_intro rfl ?_) | refine Or.inr (ok_intro rfl ?_) | refine Or.inr (Or.inl (ok_intro rfl (ok_intro rfl ?_))) | refine Or.inr (Or.inr (ok_intro rfl (ok_intro rfl ?_))) | refine And.intro (rfl : W.view _ = false) ?_ | (refine And.intro eqOk_int ?_; rw [eqv_int]) | (refine And.intro eqOk_bool ?_; rw [eqv_bool]) | refine And.intro (lt_len rfl) ?_ | refine And.intro (rfl : ([] : List PyData) = []) ?_ | refine And.intro (size_ok (Nat.le_of_ble_eq_true rfl)) ?_ | refine And.intro (rfl : W.gives _ = true) ?_ | refine And.intro (rfl : List.all _ W.arg = true) ?_))
  refine ⟨size_ok (by have := hps.len; simp; omega), ?_⟩
  (repeat (first | refine ok_intro rfl ?_ | refine Or.inl (ok_intro rfl (ok_intro rfl ?_)) | refine Or.inl (ok_intro rfl ?_) | refine Or.inr (ok_intro rfl ?_) | refine Or.inr (Or.inl (ok_intro rfl (ok_intro rfl ?_))) | refine Or.inr (Or.inr (ok_intro rfl (ok_intro rfl ?_))) | refine And.intro (rfl : W.view _ = false) ?_ | (refine And.intro eqOk_int ?_; rw [eqv_int]) | (refine And.intro eqOk_bool ?_; rw [eqv_bool]) | refine And.intro (lt_len rfl) ?_ | refine And.intro (rfl : ([] : List PyData) = []) ?_ | refine And.intro (size_ok (Nat.le_of_ble_eq_true rfl)) ?_ | refine And.intro (rfl : W.gives _ = true) ?_ | refine And.intro (rfl : List.all _ W.arg = true) ?_))
  refine ok_intro (a := 0 :: ps.map fun ic : Int × Int => ic.1) (intsOf_map (0 :: ps.map fun ic : Int × Int => ic.1)) ⟨by simp, fun l hl hmin => ?_⟩
  have hl0 : l ≤ 0 := hmin 0 List.mem_cons_self
  have hle : ∀ ic ∈ ps, l ≤ ic.1 := fun ic hic => hmin ic.1 (List.mem_cons_of_mem _ (List.mem_map_of_mem hic))
  have hl4 : -4 ≤ l := by
    rcases List.mem_cons.mp hl with e | hm
    · omega
    · obtain ⟨ic, hic, e⟩ := List.mem_map.mp hm
      have := (hps.rng ic hic).1
      omega
  (repeat (first | refine ok_intro rfl ?_ | refine Or.inl (ok_intro rfl (ok_intro rfl ?_)) | refine Or.inl (ok_intro rfl ?_) | refine Or.inr (ok_intro rfl ?_) | refine Or.inr (Or.inl (ok_intro rfl (ok_intro rfl ?_))) | refine Or.inr (Or.inr (ok_intro rfl (ok_intro rfl ?_))) | refine And.intro (rfl : W.view _ = false) ?_ | (refine And.intro eqOk_int ?_; rw [eqv_int]) | (refine And.intro eqOk_bool ?_; rw [eqv_bool]) | refine And.intro (lt_len rfl) ?_ | refine And.intro (rfl : ([] : List PyData) = []) ?_ | refine And.intro (size_ok (Nat.le_of_ble_eq_true rfl)) ?_ | refine And.intro (rfl : W.gives _ = true) ?_ | refine And.intro (rfl : List.all _ W.arg = true) ?_))
  refine ⟨rfl, ?_⟩
  have pb : ∀ k : Nat, k ≤ 8 → ((p : Int) ^ (k * n)).natAbs ≤ 2 ^ 5120 := fun k hk => by
    refine Nat.le_trans (pow_le hp.p2 (k * n)) (Nat.pow_le_pow_right (by decide) ?_)
    have := Nat.mul_le_mul hk hn
    omega
  have kn : ∀ k : Nat, k ≤ 8 → k * n < 2 ^ 60 := fun k hk => by
    have := Nat.mul_le_mul hk hn
    omega
  have p64 : ((p : Int)).natAbs < 2 ^ 64 := Nat.lt_of_le_of_lt hp.p2 (by decide)
  refine compW_enc pr (fun ic => some (.int (ic.2 * (p : Int) ^ ((ic.1 - l).toNat * n)))) ps [] (fun ic hic k hk => ?_) (size_ok (by have := hps.len; simp; omega)) ?_
  · have hr := hps.rng ic hic
    have hk8 : (ic.1 - l).toNat ≤ 8 := by omega
    (repeat (first | refine ok_intro rfl ?_ | refine Or.inl (ok_intro rfl (ok_intro rfl ?_)) | refine Or.inl (ok_intro rfl ?_) | refine Or.inr (ok_intro rfl ?_) | refine Or.inr (Or.inl (ok_intro rfl (ok_intro rfl ?_))) | refine Or.inr (Or.inr (ok_intro rfl (ok_intro rfl ?_))) | refine And.intro (rfl : W.view _ = false) ?_ | (refine And.intro eqOk_int ?_; rw [eqv_int]) | (refine And.intro eqOk_bool ?_; rw [eqv_bool]) | refine And.intro (lt_len rfl) ?_ | refine And.intro (rfl : ([] : List PyData) = []) ?_ | refine And.intro (size_ok (Nat.le_of_ble_eq_true rfl)) ?_ | refine And.intro (rfl : W.gives _ = true) ?_ | refine And.intro (rfl : List.all _ W.arg = true) ?_))
    refine ⟨rfl, ite_t ?_⟩
    (repeat (first | refine ok_intro rfl ?_ | refine Or.inl (ok_intro rfl (ok_intro rfl ?_)) | refine Or.inl (ok_intro rfl ?_) | refine Or.inr (ok_intro rfl ?_) | refine Or.inr (Or.inl (ok_intro rfl (ok_intro rfl ?_))) | refine Or.inr (Or.inr (ok_intro rfl (ok_intro rfl ?_))) | refine And.intro (rfl : W.view _ = false) ?_ | (refine And.intro eqOk_int ?_; rw [eqv_int]) | (refine And.intro eqOk_bool ?_; rw [eqv_bool]) | refine And.intro (lt_len rfl) ?_ | refine And.intro (rfl : ([] : List PyData) = []) ?_ | refine And.intro (size_ok (Nat.le_of_ble_eq_true rfl)) ?_ | refine And.intro (rfl : W.gives _ = true) ?_ | refine And.intro (rfl : List.all _ W.arg = true) ?_))
    refine ⟨.inl (.inl (by omega)), ?_⟩
    (repeat (first | refine ok_intro rfl ?_ | refine Or.inl (ok_intro rfl (ok_intro rfl ?_)) | refine Or.inl (ok_intro rfl ?_) | refine Or.inr (ok_intro rfl ?_) | refine Or.inr (Or.inl (ok_intro rfl (ok_intro rfl ?_))) | refine Or.inr (Or.inr (ok_intro rfl (ok_intro rfl ?_))) | refine And.intro (rfl : W.view _ = false) ?_ | (refine And.intro eqOk_int ?_; rw [eqv_int]) | (refine And.intro eqOk_bool ?_; rw [eqv_bool]) | refine And.intro (lt_len rfl) ?_ | refine And.intro (rfl : ([] : List PyData) = []) ?_ | refine And.intro (size_ok (Nat.le_of_ble_eq_true rfl)) ?_ | refine And.intro (rfl : W.gives _ = true) ?_ | refine And.intro (rfl : List.all _ W.arg = true) ?_))
    refine ok_intro hpw ?_
    refine ⟨p, (ic.1 - l).toNat * n, ?_, p64, kn _ hk8, ?_⟩
    · rw [Int.natCast_mul, Int.toNat_of_nonneg (by have := hle ic hic; omega)]
    (repeat (first | refine ok_intro rfl ?_ | refine Or.inl (ok_intro rfl (ok_intro rfl ?_)) | refine Or.inl (ok_intro rfl ?_) | refine Or.inr (ok_intro rfl ?_) | refine Or.inr (Or.inl (ok_intro rfl (ok_intro rfl ?_))) | refine Or.inr (Or.inr (ok_intro rfl (ok_intro rfl ?_))) | refine And.intro (rfl : W.view _ = false) ?_ | (refine And.intro eqOk_int ?_; rw [eqv_int]) | (refine And.intro eqOk_bool ?_; rw [eqv_bool]) | refine And.intro (lt_len rfl) ?_ | refine And.intro (rfl : ([] : List PyData) = []) ?_ | refine And.intro (size_ok (Nat.le_of_ble_eq_true rfl)) ?_ | refine And.intro (rfl : W.gives _ = true) ?_ | refine And.intro (rfl : List.all _ W.arg = true) ?_))
    refine ⟨mulOk_of (x := 300) (y := 5120) (hps.big ic hic) (pb _ hk8) (by decide) (by decide), ?_⟩
    (repeat (first | refine ok_intro rfl ?_ | refine Or.inl (ok_intro rfl (ok_intro rfl ?_)) | refine Or.inl (ok_intro rfl ?_) | refine Or.inr (ok_intro rfl ?_) | refine Or.inr (Or.inl (ok_intro rfl (ok_intro rfl ?_))) | refine Or.inr (Or.inr (ok_intro rfl (ok_intro rfl ?_))) | refine And.intro (rfl : W.view _ = false) ?_ | (refine And.intro eqOk_int ?_; rw [eqv_int]) | (refine And.intro eqOk_bool ?_; rw [eqv_bool]) | refine And.intro (lt_len rfl) ?_ | refine And.intro (rfl : ([] : List PyData) = []) ?_ | refine And.intro (size_ok (Nat.le_of_ble_eq_true rfl)) ?_ | refine And.intro (rfl : W.gives _ = true) ?_ | refine And.intro (rfl : List.all _ W.arg = true) ?_))
    exact ⟨rfl, hk⟩
  rw [List.nil_append, filterMap_some]
  have em2 : (ps.map fun ic => PyData.int (ic.2 * (p : Int) ^ ((ic.1 - l).toNat * n))) = (ps.map fun ic => ic.2 * (p : Int) ^ ((ic.1 - l).toNat * n)).map PyData.int := by rw [List.map_map]; rfl
  rw [em2]
  (repeat (first | refine ok_intro rfl ?_ | refine Or.inl (ok_intro rfl (ok_intro rfl ?_)) | refine Or.inl (ok_intro rfl ?_) | refine Or.inr (ok_intro rfl ?_) | refine Or.inr (Or.inl (ok_intro rfl (ok_intro rfl ?_))) | refine Or.inr (Or.inr (ok_intro rfl (ok_intro rfl ?_))) | refine And.intro (rfl : W.view _ = false) ?_ | (refine And.intro eqOk_int ?_; rw [eqv_int]) | (refine And.intro eqOk_bool ?_; rw [eqv_bool]) | refine And.intro (lt_len rfl) ?_ | refine And.intro (rfl : ([] : List PyData) = []) ?_ | refine And.intro (size_ok (Nat.le_of_ble_eq_true rfl)) ?_ | refine And.intro (rfl : W.gives _ = true) ?_ | refine And.intro (rfl : List.all _ W.arg = true) ?_))
  refine ok_intro (intsOf_map _) ?_
  (repeat (first | refine ok_intro rfl ?_ | refine Or.inl (ok_intro rfl (ok_intro rfl ?_)) | refine Or.inl (ok_intro rfl ?_) | refine Or.inr (ok_intro rfl ?_) | refine Or.inr (Or.inl (ok_intro rfl (ok_intro rfl ?_))) | refine Or.inr (Or.inr (ok_intro rfl (ok_intro rfl ?_))) | refine And.intro (rfl : W.view _ = false) ?_ | (refine And.intro eqOk_int ?_; rw [eqv_int]) | (refine And.intro eqOk_bool ?_; rw [eqv_bool]) | refine And.intro (lt_len rfl) ?_ | refine And.intro (rfl : ([] : List PyData) = []) ?_ | refine And.intro (size_ok (Nat.le_of_ble_eq_true rfl)) ?_ | refine And.intro (rfl : W.gives _ = true) ?_ | refine And.intro (rfl : List.all _ W.arg = true) ?_))
  refine ⟨.inl (.inl (by omega)), ?_⟩
  (repeat (first | refine ok_intro rfl ?_ | refine Or.inl (ok_intro rfl (ok_intro rfl ?_)) | refine Or.inl (ok_intro rfl ?_) | refine Or.inr (ok_intro rfl ?_) | refine Or.inr (Or.inl (ok_intro rfl (ok_intro rfl ?_))) | refine Or.inr (Or.inr (ok_intro rfl (ok_intro rfl ?_))) | refine And.intro (rfl : W.view _ = false) ?_ | (refine And.intro eqOk_int ?_; rw [eqv_int]) | (refine And.intro eqOk_bool ?_; rw [eqv_bool]) | refine And.intro (lt_len rfl) ?_ | refine And.intro (rfl : ([] : List PyData) = []) ?_ | refine And.intro (size_ok (Nat.le_of_ble_eq_true rfl)) ?_ | refine And.intro (rfl : W.gives _ = true) ?_ | refine And.intro (rfl : List.all _ W.arg = true) ?_))
  refine ok_intro hpw ?_
  refine ⟨p, (-l).toNat * n, ?_, p64, kn _ (by omega), ?_⟩
  · rw [Int.natCast_mul, Int.toNat_of_nonneg (by omega), Int.neg_mul, Int.zero_sub]
  (repeat (first | refine ok_intro rfl ?_ | refine Or.inl (ok_intro rfl (ok_intro rfl ?_)) | refine Or.inl (ok_intro rfl ?_) | refine Or.inr (ok_intro rfl ?_) | refine Or.inr (Or.inl (ok_intro rfl (ok_intro rfl ?_))) | refine Or.inr (Or.inr (ok_intro rfl (ok_intro rfl ?_))) | refine And.intro (rfl : W.view _ = false) ?_ | (refine And.intro eqOk_int ?_; rw [eqv_int]) | (refine And.intro eqOk_bool ?_; rw [eqv_bool]) | refine And.intro (lt_len rfl) ?_ | refine And.intro (rfl : ([] : List PyData) = []) ?_ | refine And.intro (size_ok (Nat.le_of_ble_eq_true rfl)) ?_ | refine And.intro (rfl : W.gives _ = true) ?_ | refine And.intro (rfl : List.all _ W.arg = true) ?_))
  refine ok_intro hct ?_
  have es : (ps.map fun ic => ic.2 * (p : Int) ^ ((ic.1 - l).toNat * n)).sum = ev ((p : Int) ^ n) l ps := by
    unfold ev
    congr 1
    refine List.map_congr_left fun ic _ => ?_
    rw [Nat.mul_comm, Int.pow_mul]
  have hb := ev_bound (l := l) hp.pow (ps := ps) hps.big fun ic hic => by have := hps.rng ic hic; omega
  have hb2 : (ev ((p : Int) ^ n) l ps).natAbs ≤ 2 ^ 8000 := by
    refine Nat.le_trans hb (Nat.le_trans (Nat.mul_le_mul_right _ (show ps.length ≤ 2 ^ 4 by have := hps.len; omega)) ?_)
    rw [← Nat.pow_add]
    exact Nat.pow_le_pow_right (by decide) (by decide)
  have pp : 0 < (p : Int) := by rcases hp.1 with e | e <;> subst e <;> decide
  refine ⟨_, _, rfl, Int.pow_pos pp, by rw [es]; exact hb2, Nat.le_trans (pb _ (by omega)) (Nat.pow_le_pow_right (by decide) (by decide)), fun u v huv => ⟨rfl, rfl, h u v ?_⟩⟩
  rw [huv, es, ev_shift (l := l) hl4 hle, sg_mul hp.pos]
theorem w__law_sign {Γ : Gam} (hat : Γ "_law_at" = some spAt) (ws : List W) (Q : W → Prop) (h : spSign ws Q) : wpSs Γ T__law_sign (startC N__law_sign ws) { nx := fun _ => Q (.d .none), rt := Q } := by
  obtain ⟨p, n, ps, rfl, hp, hps, h⟩ := h
  (repeat (first | refine ok_intro rfl ?_ | refine Or.inl (ok_intro rfl (ok_intro rfl ?_)) | refine Or.inl (ok_intro rfl ?_) | refine Or.inr (ok_intro rfl ?_) | refine Or.inr (Or.inl (ok_intro rfl (ok_intro rfl ?_))) | refine Or.inr (Or.inr (ok_intro rfl (ok_intro rfl ?_))) | refine And.intro (rfl : W.view _ = false) ?_ | (refine And.intro eqOk_int ?_; rw [eqv_int]) | (refine And.intro eqOk_bool ?_; rw [eqv_bool]) | refine And.intro (lt_len rfl) ?_ | refine And.intro (rfl : ([] : List PyData) = []) ?_ | refine And.intro (size_ok (Nat.le_of_ble_eq_true rfl)) ?_ | refine And.intro (rfl : W.gives _ = true) ?_ | refine And.intro (rfl : List.all _ W.arg = true) ?_))
  refine ok_intro hat ?_
  refine ⟨p, n, ps, rfl, hp, hps, fun u v huv => ⟨rfl, ?_⟩⟩
  (repeat (first | refine ok_intro rfl ?_ | refine Or.inl (ok_intro rfl (ok_intro rfl ?_)) | refine Or.inl (ok_intro rfl ?_) | refine Or.inr (ok_intro rfl ?_) | refine Or.inr (Or.inl (ok_intro rfl (ok_intro rfl ?_))) | refine Or.inr (Or.inr (ok_intro rfl (ok_intro rfl ?_))) | refine And.intro (rfl : W.view _ = false) ?_ | (refine And.intro eqOk_int ?_; rw [eqv_int]) | (refine And.intro eqOk_bool ?_; rw [eqv_bool]) | refine And.intro (lt_len rfl) ?_ | refine And.intro (rfl : ([] : List PyData) = []) ?_ | refine And.intro (size_ok (Nat.le_of_ble_eq_true rfl)) ?_ | refine And.intro (rfl : W.gives _ = true) ?_ | refine And.intro (rfl : List.all _ W.arg = true) ?_))
  rw [← huv] at h
  exact h
def spWts : Spec := fun ws Q => ∃ (p n : Nat) (ps r : List (Int × Int)) (x : Int × Int), ws = [.d (.int p), .d (pD ps), .d (.int n)] ∧ ps = r ++ [x] ∧ PN p n ∧ Pows ps ∧ Q (.d (.tuple [.int ((x.2.natAbs : Int) * (p : Int) ^ n), .int (wt x.2 ps)]))
theorem opp {c l : Int} (hc : c ≠ 0) (hl : l ≠ 0) : (!decide (decide (0 < c) = decide (0 < l))) = decide (c * l < 0) := by
  rcases Int.lt_or_gt_of_ne hc with h1 | h1 <;> rcases Int.lt_or_gt_of_ne hl with h2 | h2
  · have := Int.mul_pos_of_neg_of_neg h1 h2
    rw [decide_eq_false (show ¬ 0 < c by omega), decide_eq_false (show ¬ 0 < l by omega), decide_eq_false (show ¬ c * l < 0 by omega)]; rfl
  · have := Int.mul_neg_of_neg_of_pos h1 h2
    rw [decide_eq_false (show ¬ 0 < c by omega), decide_eq_true (show 0 < l by omega), decide_eq_true (show c * l < 0 by omega)]; rfl
  · have := Int.mul_neg_of_pos_of_neg h1 h2
    rw [decide_eq_true (show 0 < c by omega), decide_eq_false (show ¬ 0 < l by omega), decide_eq_true (show c * l < 0 by omega)]; rfl
  · have := Int.mul_pos h1 h2
    rw [decide_eq_true (show 0 < c by omega), decide_eq_true (show 0 < l by omega), decide_eq_false (show ¬ c * l < 0 by omega)]; rfl
theorem w__law_weights {Γ : Gam} (hpw : Γ "_law_power" = some spPower) (ws : List W) (Q : W → Prop) (h : spWts ws Q) : wpSs Γ T__law_weights (startC N__law_weights ws) { nx := fun _ => Q (.d .none), rt := Q } := by
  obtain ⟨p, n, ps, r, x, rfl, hr, hp, hps, h⟩ := h
  have hat := atI_pD r x
  rw [← hr] at hat
  have hx : x ∈ ps := by rw [hr]; simp
  have p64 : ((p : Int)).natAbs < 2 ^ 64 := Nat.lt_of_le_of_lt hp.p2 (by decide)
  (repeat (first | refine ok_intro rfl ?_ | refine Or.inl (ok_intro rfl (ok_intro rfl ?_)) | refine Or.inl (ok_intro rfl ?_) | refine Or.inr (ok_intro rfl ?_) | refine Or.inr (Or.inl (ok_intro rfl (ok_intro rfl ?_))) | refine Or.inr (Or.inr (ok_intro rfl (ok_intro rfl ?_))) | refine And.intro (rfl : W.view _ = false) ?_ | (refine And.intro eqOk_int ?_; rw [eqv_int]) | (refine And.intro eqOk_bool ?_; rw [eqv_bool]) | refine And.intro (lt_len rfl) ?_ | refine And.intro (rfl : ([] : List PyData) = []) ?_ | refine And.intro (size_ok (Nat.le_of_ble_eq_true rfl)) ?_ | refine And.intro (rfl : W.gives _ = true) ?_ | refine And.intro (rfl : List.all _ W.arg = true) ?_))
  refine ok_intro hat ?_
  (repeat (first | refine ok_intro rfl ?_ | refine Or.inl (ok_intro rfl (ok_intro rfl ?_)) | refine Or.inl (ok_intro rfl ?_) | refine Or.inr (ok_intro rfl ?_) | refine Or.inr (Or.inl (ok_intro rfl (ok_intro rfl ?_))) | refine Or.inr (Or.inr (ok_intro rfl (ok_intro rfl ?_))) | refine And.intro (rfl : W.view _ = false) ?_ | (refine And.intro eqOk_int ?_; rw [eqv_int]) | (refine And.intro eqOk_bool ?_; rw [eqv_bool]) | refine And.intro (lt_len rfl) ?_ | refine And.intro (rfl : ([] : List PyData) = []) ?_ | refine And.intro (size_ok (Nat.le_of_ble_eq_true rfl)) ?_ | refine And.intro (rfl : W.gives _ = true) ?_ | refine And.intro (rfl : List.all _ W.arg = true) ?_))
  refine ok_intro hpw ?_
  refine ⟨p, n, rfl, p64, by have := hp.2; omega, ?_⟩
  (repeat (first | refine ok_intro rfl ?_ | refine Or.inl (ok_intro rfl (ok_intro rfl ?_)) | refine Or.inl (ok_intro rfl ?_) | refine Or.inr (ok_intro rfl ?_) | refine Or.inr (Or.inl (ok_intro rfl (ok_intro rfl ?_))) | refine Or.inr (Or.inr (ok_intro rfl (ok_intro rfl ?_))) | refine And.intro (rfl : W.view _ = false) ?_ | (refine And.intro eqOk_int ?_; rw [eqv_int]) | (refine And.intro eqOk_bool ?_; rw [eqv_bool]) | refine And.intro (lt_len rfl) ?_ | refine And.intro (rfl : ([] : List PyData) = []) ?_ | refine And.intro (size_ok (Nat.le_of_ble_eq_true rfl)) ?_ | refine And.intro (rfl : W.gives _ = true) ?_ | refine And.intro (rfl : List.all _ W.arg = true) ?_))
  refine ⟨mulOk_of (x := 300) (y := 640) (by simpa using hps.big x hx) hp.pow (by decide) (by decide), ?_⟩
  (repeat (first | refine ok_intro rfl ?_ | refine Or.inl (ok_intro rfl (ok_intro rfl ?_)) | refine Or.inl (ok_intro rfl ?_) | refine Or.inr (ok_intro rfl ?_) | refine Or.inr (Or.inl (ok_intro rfl (ok_intro rfl ?_))) | refine Or.inr (Or.inr (ok_intro rfl (ok_intro rfl ?_))) | refine And.intro (rfl : W.view _ = false) ?_ | (refine And.intro eqOk_int ?_; rw [eqv_int]) | (refine And.intro eqOk_bool ?_; rw [eqv_bool]) | refine And.intro (lt_len rfl) ?_ | refine And.intro (rfl : ([] : List PyData) = []) ?_ | refine And.intro (size_ok (Nat.le_of_ble_eq_true rfl)) ?_ | refine And.intro (rfl : W.gives _ = true) ?_ | refine And.intro (rfl : List.all _ W.arg = true) ?_))
  refine ⟨rfl, ?_⟩
  refine compW_enc pr (fun ic => if decide (ic.2 * x.2 < 0) = true then some (.int (ic.2.natAbs : Int)) else none) ps [] (fun ic hic k hk => ?_) (size_ok (by have := hps.len; simp; omega)) ?_
  · (repeat (first | refine ok_intro rfl ?_ | refine Or.inl (ok_intro rfl (ok_intro rfl ?_)) | refine Or.inl (ok_intro rfl ?_) | refine Or.inr (ok_intro rfl ?_) | refine Or.inr (Or.inl (ok_intro rfl (ok_intro rfl ?_))) | refine Or.inr (Or.inr (ok_intro rfl (ok_intro rfl ?_))) | refine And.intro (rfl : W.view _ = false) ?_ | (refine And.intro eqOk_int ?_; rw [eqv_int]) | (refine And.intro eqOk_bool ?_; rw [eqv_bool]) | refine And.intro (lt_len rfl) ?_ | refine And.intro (rfl : ([] : List PyData) = []) ?_ | refine And.intro (size_ok (Nat.le_of_ble_eq_true rfl)) ?_ | refine And.intro (rfl : W.gives _ = true) ?_ | refine And.intro (rfl : List.all _ W.arg = true) ?_))
    rw [opp (hps.nz ic hic) (hps.nz x hx)]
    refine ⟨rfl, ?_⟩
    refine ite_dec (fun hc => ?_) fun hc => ?_
    · (repeat (first | refine ok_intro rfl ?_ | refine Or.inl (ok_intro rfl (ok_intro rfl ?_)) | refine Or.inl (ok_intro rfl ?_) | refine Or.inr (ok_intro rfl ?_) | refine Or.inr (Or.inl (ok_intro rfl (ok_intro rfl ?_))) | refine Or.inr (Or.inr (ok_intro rfl (ok_intro rfl ?_))) | refine And.intro (rfl : W.view _ = false) ?_ | (refine And.intro eqOk_int ?_; rw [eqv_int]) | (refine And.intro eqOk_bool ?_; rw [eqv_bool]) | refine And.intro (lt_len rfl) ?_ | refine And.intro (rfl : ([] : List PyData) = []) ?_ | refine And.intro (size_ok (Nat.le_of_ble_eq_true rfl)) ?_ | refine And.intro (rfl : W.gives _ = true) ?_ | refine And.intro (rfl : List.all _ W.arg = true) ?_))
      refine ⟨rfl, ?_⟩
      rw [if_pos (decide_eq_true hc)] at hk
      exact hk
    · rw [if_neg (by simpa using hc)] at hk
      exact hk
  rw [List.nil_append, filterMap_if]
  have e : ((ps.filter fun ic => decide (ic.2 * x.2 < 0)).map fun ic => PyData.int (ic.2.natAbs : Int)) = ((ps.filter fun ic => decide (ic.2 * x.2 < 0)).map fun ic => (ic.2.natAbs : Int)).map PyData.int := by rw [List.map_map]; rfl
  rw [e]
  (repeat (first | refine ok_intro rfl ?_ | refine Or.inl (ok_intro rfl (ok_intro rfl ?_)) | refine Or.inl (ok_intro rfl ?_) | refine Or.inr (ok_intro rfl ?_) | refine Or.inr (Or.inl (ok_intro rfl (ok_intro rfl ?_))) | refine Or.inr (Or.inr (ok_intro rfl (ok_intro rfl ?_))) | refine And.intro (rfl : W.view _ = false) ?_ | (refine And.intro eqOk_int ?_; rw [eqv_int]) | (refine And.intro eqOk_bool ?_; rw [eqv_bool]) | refine And.intro (lt_len rfl) ?_ | refine And.intro (rfl : ([] : List PyData) = []) ?_ | refine And.intro (size_ok (Nat.le_of_ble_eq_true rfl)) ?_ | refine And.intro (rfl : W.gives _ = true) ?_ | refine And.intro (rfl : List.all _ W.arg = true) ?_))
  refine ok_intro (intsOf_map _) ?_
  (repeat (first | refine ok_intro rfl ?_ | refine Or.inl (ok_intro rfl (ok_intro rfl ?_)) | refine Or.inl (ok_intro rfl ?_) | refine Or.inr (ok_intro rfl ?_) | refine Or.inr (Or.inl (ok_intro rfl (ok_intro rfl ?_))) | refine Or.inr (Or.inr (ok_intro rfl (ok_intro rfl ?_))) | refine And.intro (rfl : W.view _ = false) ?_ | (refine And.intro eqOk_int ?_; rw [eqv_int]) | (refine And.intro eqOk_bool ?_; rw [eqv_bool]) | refine And.intro (lt_len rfl) ?_ | refine And.intro (rfl : ([] : List PyData) = []) ?_ | refine And.intro (size_ok (Nat.le_of_ble_eq_true rfl)) ?_ | refine And.intro (rfl : W.gives _ = true) ?_ | refine And.intro (rfl : List.all _ W.arg = true) ?_))
  exact h
theorem w__law_is_settled {Γ : Gam} (hw : Γ "_law_weights" = some spWts) (ws : List W) (Q : W → Prop) (h : spSet ws Q) : wpSs Γ T__law_is_settled (startC N__law_is_settled ws) { nx := fun _ => Q (.d .none), rt := Q } := by
  obtain ⟨p, n, ps, rfl, hp, hps, h⟩ := h
  (repeat (first | refine ok_intro rfl ?_ | refine Or.inl (ok_intro rfl (ok_intro rfl ?_)) | refine Or.inl (ok_intro rfl ?_) | refine Or.inr (ok_intro rfl ?_) | refine Or.inr (Or.inl (ok_intro rfl (ok_intro rfl ?_))) | refine Or.inr (Or.inr (ok_intro rfl (ok_intro rfl ?_))) | refine And.intro (rfl : W.view _ = false) ?_ | (refine And.intro eqOk_int ?_; rw [eqv_int]) | (refine And.intro eqOk_bool ?_; rw [eqv_bool]) | refine And.intro (lt_len rfl) ?_ | refine And.intro (rfl : ([] : List PyData) = []) ?_ | refine And.intro (size_ok (Nat.le_of_ble_eq_true rfl)) ?_ | refine And.intro (rfl : W.gives _ = true) ?_ | refine And.intro (rfl : List.all _ W.arg = true) ?_))
  refine And.intro (eqOk_nil _) ?_
  rw [eqv_nil]
  (repeat (first | refine ok_intro rfl ?_ | refine Or.inl (ok_intro rfl (ok_intro rfl ?_)) | refine Or.inl (ok_intro rfl ?_) | refine Or.inr (ok_intro rfl ?_) | refine Or.inr (Or.inl (ok_intro rfl (ok_intro rfl ?_))) | refine Or.inr (Or.inr (ok_intro rfl (ok_intro rfl ?_))) | refine And.intro (rfl : W.view _ = false) ?_ | (refine And.intro eqOk_int ?_; rw [eqv_int]) | (refine And.intro eqOk_bool ?_; rw [eqv_bool]) | refine And.intro (lt_len rfl) ?_ | refine And.intro (rfl : ([] : List PyData) = []) ?_ | refine And.intro (size_ok (Nat.le_of_ble_eq_true rfl)) ?_ | refine And.intro (rfl : W.gives _ = true) ?_ | refine And.intro (rfl : List.all _ W.arg = true) ?_))
  rcases last_split ps with e | ⟨r, x, e⟩
  · refine ite_dec (fun he => ?_) fun he => absurd e he
    subst e
    exact ⟨rfl, h⟩
  · have hne : ¬ ps = [] := by rw [e]; simp
    refine ite_dec (fun he => absurd he hne) fun he => ?_
    (repeat (first | refine ok_intro rfl ?_ | refine Or.inl (ok_intro rfl (ok_intro rfl ?_)) | refine Or.inl (ok_intro rfl ?_) | refine Or.inr (ok_intro rfl ?_) | refine Or.inr (Or.inl (ok_intro rfl (ok_intro rfl ?_))) | refine Or.inr (Or.inr (ok_intro rfl (ok_intro rfl ?_))) | refine And.intro (rfl : W.view _ = false) ?_ | (refine And.intro eqOk_int ?_; rw [eqv_int]) | (refine And.intro eqOk_bool ?_; rw [eqv_bool]) | refine And.intro (lt_len rfl) ?_ | refine And.intro (rfl : ([] : List PyData) = []) ?_ | refine And.intro (size_ok (Nat.le_of_ble_eq_true rfl)) ?_ | refine And.intro (rfl : W.gives _ = true) ?_ | refine And.intro (rfl : List.all _ W.arg = true) ?_))
    refine ok_intro hw ?_
    refine ⟨p, n, ps, r, x, rfl, e, hp, hps, ?_⟩
    (repeat (first | refine ok_intro rfl ?_ | refine Or.inl (ok_intro rfl (ok_intro rfl ?_)) | refine Or.inl (ok_intro rfl ?_) | refine Or.inr (ok_intro rfl ?_) | refine Or.inr (Or.inl (ok_intro rfl (ok_intro rfl ?_))) | refine Or.inr (Or.inr (ok_intro rfl (ok_intro rfl ?_))) | refine And.intro (rfl : W.view _ = false) ?_ | (refine And.intro eqOk_int ?_; rw [eqv_int]) | (refine And.intro eqOk_bool ?_; rw [eqv_bool]) | refine And.intro (lt_len rfl) ?_ | refine And.intro (rfl : ([] : List PyData) = []) ?_ | refine And.intro (size_ok (Nat.le_of_ble_eq_true rfl)) ?_ | refine And.intro (rfl : W.gives _ = true) ?_ | refine And.intro (rfl : List.all _ W.arg = true) ?_))
    have e2 : isSet p n ps = decide (wt x.2 ps < (x.2.natAbs : Int) * (p : Int) ^ n) := by unfold isSet; rw [e, getLast_snoc]
    rw [e2] at h
    exact h
theorem w__law_is_seen {Γ : Gam} (hw : Γ "_law_weights" = some spWts) (ws : List W) (Q : W → Prop) (h : spSeen ws Q) : wpSs Γ T__law_is_seen (startC N__law_is_seen ws) { nx := fun _ => Q (.d .none), rt := Q } := by
  obtain ⟨p, n, ps, rfl, hp, hps, h⟩ := h
  (repeat (first | refine ok_intro rfl ?_ | refine Or.inl (ok_intro rfl (ok_intro rfl ?_)) | refine Or.inl (ok_intro rfl ?_) | refine Or.inr (ok_intro rfl ?_) | refine Or.inr (Or.inl (ok_intro rfl (ok_intro rfl ?_))) | refine Or.inr (Or.inr (ok_intro rfl (ok_intro rfl ?_))) | refine And.intro (rfl : W.view _ = false) ?_ | (refine And.intro eqOk_int ?_; rw [eqv_int]) | (refine And.intro eqOk_bool ?_; rw [eqv_bool]) | refine And.intro (lt_len rfl) ?_ | refine And.intro (rfl : ([] : List PyData) = []) ?_ | refine And.intro (size_ok (Nat.le_of_ble_eq_true rfl)) ?_ | refine And.intro (rfl : W.gives _ = true) ?_ | refine And.intro (rfl : List.all _ W.arg = true) ?_))
  refine And.intro (eqOk_nil _) ?_
  rw [eqv_nil]
  (repeat (first | refine ok_intro rfl ?_ | refine Or.inl (ok_intro rfl (ok_intro rfl ?_)) | refine Or.inl (ok_intro rfl ?_) | refine Or.inr (ok_intro rfl ?_) | refine Or.inr (Or.inl (ok_intro rfl (ok_intro rfl ?_))) | refine Or.inr (Or.inr (ok_intro rfl (ok_intro rfl ?_))) | refine And.intro (rfl : W.view _ = false) ?_ | (refine And.intro eqOk_int ?_; rw [eqv_int]) | (refine And.intro eqOk_bool ?_; rw [eqv_bool]) | refine And.intro (lt_len rfl) ?_ | refine And.intro (rfl : ([] : List PyData) = []) ?_ | refine And.intro (size_ok (Nat.le_of_ble_eq_true rfl)) ?_ | refine And.intro (rfl : W.gives _ = true) ?_ | refine And.intro (rfl : List.all _ W.arg = true) ?_))
  rcases last_split ps with e | ⟨r, x, e⟩
  · refine ite_dec (fun he => ?_) fun he => absurd e he
    subst e
    exact ⟨rfl, h⟩
  · have hne : ¬ ps = [] := by rw [e]; simp
    refine ite_dec (fun he => absurd he hne) fun he => ?_
    have hat := atI_pD r x
    rw [← e] at hat
    (repeat (first | refine ok_intro rfl ?_ | refine Or.inl (ok_intro rfl (ok_intro rfl ?_)) | refine Or.inl (ok_intro rfl ?_) | refine Or.inr (ok_intro rfl ?_) | refine Or.inr (Or.inl (ok_intro rfl (ok_intro rfl ?_))) | refine Or.inr (Or.inr (ok_intro rfl (ok_intro rfl ?_))) | refine And.intro (rfl : W.view _ = false) ?_ | (refine And.intro eqOk_int ?_; rw [eqv_int]) | (refine And.intro eqOk_bool ?_; rw [eqv_bool]) | refine And.intro (lt_len rfl) ?_ | refine And.intro (rfl : ([] : List PyData) = []) ?_ | refine And.intro (size_ok (Nat.le_of_ble_eq_true rfl)) ?_ | refine And.intro (rfl : W.gives _ = true) ?_ | refine And.intro (rfl : List.all _ W.arg = true) ?_))
    refine ok_intro hw ?_
    refine ⟨p, n, ps, r, x, rfl, e, hp, hps, ?_⟩
    (repeat (first | refine ok_intro rfl ?_ | refine Or.inl (ok_intro rfl (ok_intro rfl ?_)) | refine Or.inl (ok_intro rfl ?_) | refine Or.inr (ok_intro rfl ?_) | refine Or.inr (Or.inl (ok_intro rfl (ok_intro rfl ?_))) | refine Or.inr (Or.inr (ok_intro rfl (ok_intro rfl ?_))) | refine And.intro (rfl : W.view _ = false) ?_ | (refine And.intro eqOk_int ?_; rw [eqv_int]) | (refine And.intro eqOk_bool ?_; rw [eqv_bool]) | refine And.intro (lt_len rfl) ?_ | refine And.intro (rfl : ([] : List PyData) = []) ?_ | refine And.intro (size_ok (Nat.le_of_ble_eq_true rfl)) ?_ | refine And.intro (rfl : W.gives _ = true) ?_ | refine And.intro (rfl : List.all _ W.arg = true) ?_))
    refine ok_intro hat ?_
    (repeat (first | refine ok_intro rfl ?_ | refine Or.inl (ok_intro rfl (ok_intro rfl ?_)) | refine Or.inl (ok_intro rfl ?_) | refine Or.inr (ok_intro rfl ?_) | refine Or.inr (Or.inl (ok_intro rfl (ok_intro rfl ?_))) | refine Or.inr (Or.inr (ok_intro rfl (ok_intro rfl ?_))) | refine And.intro (rfl : W.view _ = false) ?_ | (refine And.intro eqOk_int ?_; rw [eqv_int]) | (refine And.intro eqOk_bool ?_; rw [eqv_bool]) | refine And.intro (lt_len rfl) ?_ | refine And.intro (rfl : ([] : List PyData) = []) ?_ | refine And.intro (size_ok (Nat.le_of_ble_eq_true rfl)) ?_ | refine And.intro (rfl : W.gives _ = true) ?_ | refine And.intro (rfl : List.all _ W.arg = true) ?_))
    have e2 : isSeen p n ps = (decide (0 < x.2) && decide (wt x.2 ps ≤ x.2 * (p : Int) ^ n)) := by unfold isSeen; rw [e, getLast_snoc]
    rw [e2] at h
    refine ite_dec (fun hx => ?_) fun hx => ?_
    · (repeat (first | refine ok_intro rfl ?_ | refine Or.inl (ok_intro rfl (ok_intro rfl ?_)) | refine Or.inl (ok_intro rfl ?_) | refine Or.inr (ok_intro rfl ?_) | refine Or.inr (Or.inl (ok_intro rfl (ok_intro rfl ?_))) | refine Or.inr (Or.inr (ok_intro rfl (ok_intro rfl ?_))) | refine And.intro (rfl : W.view _ = false) ?_ | (refine And.intro eqOk_int ?_; rw [eqv_int]) | (refine And.intro eqOk_bool ?_; rw [eqv_bool]) | refine And.intro (lt_len rfl) ?_ | refine And.intro (rfl : ([] : List PyData) = []) ?_ | refine And.intro (size_ok (Nat.le_of_ble_eq_true rfl)) ?_ | refine And.intro (rfl : W.gives _ = true) ?_ | refine And.intro (rfl : List.all _ W.arg = true) ?_))
      rw [decide_eq_true hx, Bool.true_and] at h
      have e3 : (x.2.natAbs : Int) = x.2 := by omega
      rw [e3]
      exact h
    · rw [decide_eq_false hx, Bool.false_and] at h
      (repeat (first | refine ok_intro rfl ?_ | refine Or.inl (ok_intro rfl (ok_intro rfl ?_)) | refine Or.inl (ok_intro rfl ?_) | refine Or.inr (ok_intro rfl ?_) | refine Or.inr (Or.inl (ok_intro rfl (ok_intro rfl ?_))) | refine Or.inr (Or.inr (ok_intro rfl (ok_intro rfl ?_))) | refine And.intro (rfl : W.view _ = false) ?_ | (refine And.intro eqOk_int ?_; rw [eqv_int]) | (refine And.intro eqOk_bool ?_; rw [eqv_bool]) | refine And.intro (lt_len rfl) ?_ | refine And.intro (rfl : ([] : List PyData) = []) ?_ | refine And.intro (size_ok (Nat.le_of_ble_eq_true rfl)) ?_ | refine And.intro (rfl : W.gives _ = true) ?_ | refine And.intro (rfl : List.all _ W.arg = true) ?_))
      exact h
end K54
end Cal
set_option Elab.async false
set_option linter.all false
set_option maxRecDepth 100000
set_option maxHeartbeats 4000000
namespace Cal
namespace K54
open PySem PySem.Spec PyProof.Rows L2
def spPick : Spec := fun ws Q => ∃ m : Int, ws = [.src, .d (.int m)] ∧ m.natAbs ≤ 2 ^ 60 ∧ ∀ v : Nat, ((v : Int) < m ∨ v = 0) → Q (.d (.int v))
theorem mulSmall {i j : Int} (h : j.natAbs < 2 ^ 64) : MulOk i j := .inl (.inr h)
theorem w__law_pick {Γ : Gam} (ws : List W) (Q : W → Prop) (h : spPick ws Q) : wpSs Γ T__law_pick (startC N__law_pick ws) { nx := fun _ => Q (.d .none), rt := Q } := by
  obtain ⟨m, rfl, hm, h⟩ := h
  (repeat (first | refine ok_intro rfl ?_ | refine Or.inl (ok_intro rfl (ok_intro rfl ?_)) | refine Or.inl (ok_intro rfl ?_) | refine Or.inr (ok_intro rfl ?_) | refine Or.inr (Or.inl (ok_intro rfl (ok_intro rfl ?_))) | refine Or.inr (Or.inr (ok_intro rfl (ok_intro rfl ?_))) | refine And.intro (rfl : W.view _ = false) ?_ | (refine And.intro eqOk_int ?_; rw [eqv_int]) | (refine And.intro eqOk_bool ?_; rw [eqv_bool]) | refine And.intro (lt_len rfl) ?_ | refine And.intro (rfl : ([] : List PyData) = []) ?_ | refine And.intro (size_ok (Nat.le_of_ble_eq_true rfl)) ?_ | refine And.intro (rfl : W.gives _ = true) ?_ | refine And.intro (rfl : List.all _ W.arg = true) ?_))
  refine ite_dec (fun hlt => ?_) fun hlt => ?_
  · exact ⟨rfl, h 0 (.inr rfl)⟩
  have hm0 : 0 < m := by omega
  have fin : ∀ t : Int, Q (.d (.int (t % m))) := fun t => by
    have h1 := Int.emod_nonneg t (show m ≠ 0 by omega)
    have h2 := Int.emod_lt_of_pos t hm0
    have := h (t % m).toNat (.inl (by rw [Int.toNat_of_nonneg h1]; exact h2))
    rw [Int.toNat_of_nonneg h1] at this
    exact this
  (repeat (first | refine ok_intro rfl ?_ | refine Or.inl (ok_intro rfl (ok_intro rfl ?_)) | refine Or.inl (ok_intro rfl ?_) | refine Or.inr (ok_intro rfl ?_) | refine Or.inr (Or.inl (ok_intro rfl (ok_intro rfl ?_))) | refine Or.inr (Or.inr (ok_intro rfl (ok_intro rfl ?_))) | refine And.intro (rfl : W.view _ = false) ?_ | (refine And.intro eqOk_int ?_; rw [eqv_int]) | (refine And.intro eqOk_bool ?_; rw [eqv_bool]) | refine And.intro (lt_len rfl) ?_ | refine And.intro (rfl : ([] : List PyData) = []) ?_ | refine And.intro (size_ok (Nat.le_of_ble_eq_true rfl)) ?_ | refine And.intro (rfl : W.gives _ = true) ?_ | refine And.intro (rfl : List.all _ W.arg = true) ?_))
  intro l
  (repeat (first | refine ok_intro rfl ?_ | refine Or.inl (ok_intro rfl (ok_intro rfl ?_)) | refine Or.inl (ok_intro rfl ?_) | refine Or.inr (ok_intro rfl ?_) | refine Or.inr (Or.inl (ok_intro rfl (ok_intro rfl ?_))) | refine Or.inr (Or.inr (ok_intro rfl (ok_intro rfl ?_))) | refine And.intro (rfl : W.view _ = false) ?_ | (refine And.intro eqOk_int ?_; rw [eqv_int]) | (refine And.intro eqOk_bool ?_; rw [eqv_bool]) | refine And.intro (lt_len rfl) ?_ | refine And.intro (rfl : ([] : List PyData) = []) ?_ | refine And.intro (size_ok (Nat.le_of_ble_eq_true rfl)) ?_ | refine And.intro (rfl : W.gives _ = true) ?_ | refine And.intro (rfl : List.all _ W.arg = true) ?_))
  refine ite_dec (fun hl => ?_) fun hl => ?_
  · (repeat (first | refine ok_intro rfl ?_ | refine Or.inl (ok_intro rfl (ok_intro rfl ?_)) | refine Or.inl (ok_intro rfl ?_) | refine Or.inr (ok_intro rfl ?_) | refine Or.inr (Or.inl (ok_intro rfl (ok_intro rfl ?_))) | refine Or.inr (Or.inr (ok_intro rfl (ok_intro rfl ?_))) | refine And.intro (rfl : W.view _ = false) ?_ | (refine And.intro eqOk_int ?_; rw [eqv_int]) | (refine And.intro eqOk_bool ?_; rw [eqv_bool]) | refine And.intro (lt_len rfl) ?_ | refine And.intro (rfl : ([] : List PyData) = []) ?_ | refine And.intro (size_ok (Nat.le_of_ble_eq_true rfl)) ?_ | refine And.intro (rfl : W.gives _ = true) ?_ | refine And.intro (rfl : List.all _ W.arg = true) ?_))
    refine ⟨⟨hm0, Nat.lt_of_le_of_lt hm (Nat.pow_lt_pow_right (by decide) (by decide))⟩, ?_⟩
    (repeat (first | refine ok_intro rfl ?_ | refine Or.inl (ok_intro rfl (ok_intro rfl ?_)) | refine Or.inl (ok_intro rfl ?_) | refine Or.inr (ok_intro rfl ?_) | refine Or.inr (Or.inl (ok_intro rfl (ok_intro rfl ?_))) | refine Or.inr (Or.inr (ok_intro rfl (ok_intro rfl ?_))) | refine And.intro (rfl : W.view _ = false) ?_ | (refine And.intro eqOk_int ?_; rw [eqv_int]) | (refine And.intro eqOk_bool ?_; rw [eqv_bool]) | refine And.intro (lt_len rfl) ?_ | refine And.intro (rfl : ([] : List PyData) = []) ?_ | refine And.intro (size_ok (Nat.le_of_ble_eq_true rfl)) ?_ | refine And.intro (rfl : W.gives _ = true) ?_ | refine And.intro (rfl : List.all _ W.arg = true) ?_))
    refine ⟨hm0, ?_⟩
    exact ⟨rfl, fin _⟩
  · (repeat (first | refine ok_intro rfl ?_ | refine Or.inl (ok_intro rfl (ok_intro rfl ?_)) | refine Or.inl (ok_intro rfl ?_) | refine Or.inr (ok_intro rfl ?_) | refine Or.inr (Or.inl (ok_intro rfl (ok_intro rfl ?_))) | refine Or.inr (Or.inr (ok_intro rfl (ok_intro rfl ?_))) | refine And.intro (rfl : W.view _ = false) ?_ | (refine And.intro eqOk_int ?_; rw [eqv_int]) | (refine And.intro eqOk_bool ?_; rw [eqv_bool]) | refine And.intro (lt_len rfl) ?_ | refine And.intro (rfl : ([] : List PyData) = []) ?_ | refine And.intro (size_ok (Nat.le_of_ble_eq_true rfl)) ?_ | refine And.intro (rfl : W.gives _ = true) ?_ | refine And.intro (rfl : List.all _ W.arg = true) ?_))
    intro t
    (repeat (first | refine ok_intro rfl ?_ | refine Or.inl (ok_intro rfl (ok_intro rfl ?_)) | refine Or.inl (ok_intro rfl ?_) | refine Or.inr (ok_intro rfl ?_) | refine Or.inr (Or.inl (ok_intro rfl (ok_intro rfl ?_))) | refine Or.inr (Or.inr (ok_intro rfl (ok_intro rfl ?_))) | refine And.intro (rfl : W.view _ = false) ?_ | (refine And.intro eqOk_int ?_; rw [eqv_int]) | (refine And.intro eqOk_bool ?_; rw [eqv_bool]) | refine And.intro (lt_len rfl) ?_ | refine And.intro (rfl : ([] : List PyData) = []) ?_ | refine And.intro (size_ok (Nat.le_of_ble_eq_true rfl)) ?_ | refine And.intro (rfl : W.gives _ = true) ?_ | refine And.intro (rfl : List.all _ W.arg = true) ?_))
    intro u
    (repeat (first | refine ok_intro rfl ?_ | refine Or.inl (ok_intro rfl (ok_intro rfl ?_)) | refine Or.inl (ok_intro rfl ?_) | refine Or.inr (ok_intro rfl ?_) | refine Or.inr (Or.inl (ok_intro rfl (ok_intro rfl ?_))) | refine Or.inr (Or.inr (ok_intro rfl (ok_intro rfl ?_))) | refine And.intro (rfl : W.view _ = false) ?_ | (refine And.intro eqOk_int ?_; rw [eqv_int]) | (refine And.intro eqOk_bool ?_; rw [eqv_bool]) | refine And.intro (lt_len rfl) ?_ | refine And.intro (rfl : ([] : List PyData) = []) ?_ | refine And.intro (size_ok (Nat.le_of_ble_eq_true rfl)) ?_ | refine And.intro (rfl : W.gives _ = true) ?_ | refine And.intro (rfl : List.all _ W.arg = true) ?_))
    intro t2
    (repeat (first | refine ok_intro rfl ?_ | refine Or.inl (ok_intro rfl (ok_intro rfl ?_)) | refine Or.inl (ok_intro rfl ?_) | refine Or.inr (ok_intro rfl ?_) | refine Or.inr (Or.inl (ok_intro rfl (ok_intro rfl ?_))) | refine Or.inr (Or.inr (ok_intro rfl (ok_intro rfl ?_))) | refine And.intro (rfl : W.view _ = false) ?_ | (refine And.intro eqOk_int ?_; rw [eqv_int]) | (refine And.intro eqOk_bool ?_; rw [eqv_bool]) | refine And.intro (lt_len rfl) ?_ | refine And.intro (rfl : ([] : List PyData) = []) ?_ | refine And.intro (size_ok (Nat.le_of_ble_eq_true rfl)) ?_ | refine And.intro (rfl : W.gives _ = true) ?_ | refine And.intro (rfl : List.all _ W.arg = true) ?_))
    refine ⟨mulSmall (by decide), ?_⟩
    (repeat (first | refine ok_intro rfl ?_ | refine Or.inl (ok_intro rfl (ok_intro rfl ?_)) | refine Or.inl (ok_intro rfl ?_) | refine Or.inr (ok_intro rfl ?_) | refine Or.inr (Or.inl (ok_intro rfl (ok_intro rfl ?_))) | refine Or.inr (Or.inr (ok_intro rfl (ok_intro rfl ?_))) | refine And.intro (rfl : W.view _ = false) ?_ | (refine And.intro eqOk_int ?_; rw [eqv_int]) | (refine And.intro eqOk_bool ?_; rw [eqv_bool]) | refine And.intro (lt_len rfl) ?_ | refine And.intro (rfl : ([] : List PyData) = []) ?_ | refine And.intro (size_ok (Nat.le_of_ble_eq_true rfl)) ?_ | refine And.intro (rfl : W.gives _ = true) ?_ | refine And.intro (rfl : List.all _ W.arg = true) ?_))
    refine ⟨by decide, ?_⟩
    (repeat (first | refine ok_intro rfl ?_ | refine Or.inl (ok_intro rfl (ok_intro rfl ?_)) | refine Or.inl (ok_intro rfl ?_) | refine Or.inr (ok_intro rfl ?_) | refine Or.inr (Or.inl (ok_intro rfl (ok_intro rfl ?_))) | refine Or.inr (Or.inr (ok_intro rfl (ok_intro rfl ?_))) | refine And.intro (rfl : W.view _ = false) ?_ | (refine And.intro eqOk_int ?_; rw [eqv_int]) | (refine And.intro eqOk_bool ?_; rw [eqv_bool]) | refine And.intro (lt_len rfl) ?_ | refine And.intro (rfl : ([] : List PyData) = []) ?_ | refine And.intro (size_ok (Nat.le_of_ble_eq_true rfl)) ?_ | refine And.intro (rfl : W.gives _ = true) ?_ | refine And.intro (rfl : List.all _ W.arg = true) ?_))
    have hmx := Int.emod_lt_of_pos (u + t2 * 92821) (show (0 : Int) < 998244353 by decide)
    have hmn := Int.emod_nonneg (u + t2 * 92821) (show (998244353 : Int) ≠ 0 by decide)
    refine ⟨.inl (.inl (by omega)), ?_⟩
    (repeat (first | refine ok_intro rfl ?_ | refine Or.inl (ok_intro rfl (ok_intro rfl ?_)) | refine Or.inl (ok_intro rfl ?_) | refine Or.inr (ok_intro rfl ?_) | refine Or.inr (Or.inl (ok_intro rfl (ok_intro rfl ?_))) | refine Or.inr (Or.inr (ok_intro rfl (ok_intro rfl ?_))) | refine And.intro (rfl : W.view _ = false) ?_ | (refine And.intro eqOk_int ?_; rw [eqv_int]) | (refine And.intro eqOk_bool ?_; rw [eqv_bool]) | refine And.intro (lt_len rfl) ?_ | refine And.intro (rfl : ([] : List PyData) = []) ?_ | refine And.intro (size_ok (Nat.le_of_ble_eq_true rfl)) ?_ | refine And.intro (rfl : W.gives _ = true) ?_ | refine And.intro (rfl : List.all _ W.arg = true) ?_))
    intro t3
    (repeat (first | refine ok_intro rfl ?_ | refine Or.inl (ok_intro rfl (ok_intro rfl ?_)) | refine Or.inl (ok_intro rfl ?_) | refine Or.inr (ok_intro rfl ?_) | refine Or.inr (Or.inl (ok_intro rfl (ok_intro rfl ?_))) | refine Or.inr (Or.inr (ok_intro rfl (ok_intro rfl ?_))) | refine And.intro (rfl : W.view _ = false) ?_ | (refine And.intro eqOk_int ?_; rw [eqv_int]) | (refine And.intro eqOk_bool ?_; rw [eqv_bool]) | refine And.intro (lt_len rfl) ?_ | refine And.intro (rfl : ([] : List PyData) = []) ?_ | refine And.intro (size_ok (Nat.le_of_ble_eq_true rfl)) ?_ | refine And.intro (rfl : W.gives _ = true) ?_ | refine And.intro (rfl : List.all _ W.arg = true) ?_))
    refine ⟨mulSmall (by decide), ?_⟩
    (repeat (first | refine ok_intro rfl ?_ | refine Or.inl (ok_intro rfl (ok_intro rfl ?_)) | refine Or.inl (ok_intro rfl ?_) | refine Or.inr (ok_intro rfl ?_) | refine Or.inr (Or.inl (ok_intro rfl (ok_intro rfl ?_))) | refine Or.inr (Or.inr (ok_intro rfl (ok_intro rfl ?_))) | refine And.intro (rfl : W.view _ = false) ?_ | (refine And.intro eqOk_int ?_; rw [eqv_int]) | (refine And.intro eqOk_bool ?_; rw [eqv_bool]) | refine And.intro (lt_len rfl) ?_ | refine And.intro (rfl : ([] : List PyData) = []) ?_ | refine And.intro (size_ok (Nat.le_of_ble_eq_true rfl)) ?_ | refine And.intro (rfl : W.gives _ = true) ?_ | refine And.intro (rfl : List.all _ W.arg = true) ?_))
    refine ⟨by decide, ?_⟩
    (repeat (first | refine ok_intro rfl ?_ | refine Or.inl (ok_intro rfl (ok_intro rfl ?_)) | refine Or.inl (ok_intro rfl ?_) | refine Or.inr (ok_intro rfl ?_) | refine Or.inr (Or.inl (ok_intro rfl (ok_intro rfl ?_))) | refine Or.inr (Or.inr (ok_intro rfl (ok_intro rfl ?_))) | refine And.intro (rfl : W.view _ = false) ?_ | (refine And.intro eqOk_int ?_; rw [eqv_int]) | (refine And.intro eqOk_bool ?_; rw [eqv_bool]) | refine And.intro (lt_len rfl) ?_ | refine And.intro (rfl : ([] : List PyData) = []) ?_ | refine And.intro (size_ok (Nat.le_of_ble_eq_true rfl)) ?_ | refine And.intro (rfl : W.gives _ = true) ?_ | refine And.intro (rfl : List.all _ W.arg = true) ?_))
    refine ⟨⟨by decide, by decide⟩, ?_⟩
    (repeat (first | refine ok_intro rfl ?_ | refine Or.inl (ok_intro rfl (ok_intro rfl ?_)) | refine Or.inl (ok_intro rfl ?_) | refine Or.inr (ok_intro rfl ?_) | refine Or.inr (Or.inl (ok_intro rfl (ok_intro rfl ?_))) | refine Or.inr (Or.inr (ok_intro rfl (ok_intro rfl ?_))) | refine And.intro (rfl : W.view _ = false) ?_ | (refine And.intro eqOk_int ?_; rw [eqv_int]) | (refine And.intro eqOk_bool ?_; rw [eqv_bool]) | refine And.intro (lt_len rfl) ?_ | refine And.intro (rfl : ([] : List PyData) = []) ?_ | refine And.intro (size_ok (Nat.le_of_ble_eq_true rfl)) ?_ | refine And.intro (rfl : W.gives _ = true) ?_ | refine And.intro (rfl : List.all _ W.arg = true) ?_))
    refine ⟨hm0, ?_⟩
    exact ⟨rfl, fin _⟩
def spOf : Spec := fun ws Q => ∃ xs : List PyData, ws = [.src, .d (.list xs)] ∧ 0 < xs.length ∧ xs.length ≤ 1000000 ∧ ∀ x ∈ xs, Q (.d x)
theorem w__law_of {Γ : Gam} (hp : Γ "_law_pick" = some spPick) (ws : List W) (Q : W → Prop) (h : spOf ws Q) : wpSs Γ T__law_of (startC N__law_of ws) { nx := fun _ => Q (.d .none), rt := Q } := by
  obtain ⟨xs, rfl, h0, h1, h⟩ := h
  (repeat (first | refine ok_intro rfl ?_ | refine Or.inl (ok_intro rfl (ok_intro rfl ?_)) | refine Or.inl (ok_intro rfl ?_) | refine Or.inr (ok_intro rfl ?_) | refine Or.inr (Or.inl (ok_intro rfl (ok_intro rfl ?_))) | refine Or.inr (Or.inr (ok_intro rfl (ok_intro rfl ?_))) | refine And.intro (rfl : W.view _ = false) ?_ | (refine And.intro eqOk_int ?_; rw [eqv_int]) | (refine And.intro eqOk_bool ?_; rw [eqv_bool]) | refine And.intro (lt_len rfl) ?_ | refine And.intro (rfl : ([] : List PyData) = []) ?_ | refine And.intro (size_ok (Nat.le_of_ble_eq_true rfl)) ?_ | refine And.intro (rfl : W.gives _ = true) ?_ | refine And.intro (rfl : List.all _ W.arg = true) ?_))
  refine ok_intro hp ?_
  refine ⟨xs.length, rfl, by omega, fun v hv => ⟨rfl, ?_⟩⟩
  have hlt : v < xs.length := by omega
  (repeat (first | refine ok_intro rfl ?_ | refine Or.inl (ok_intro rfl (ok_intro rfl ?_)) | refine Or.inl (ok_intro rfl ?_) | refine Or.inr (ok_intro rfl ?_) | refine Or.inr (Or.inl (ok_intro rfl (ok_intro rfl ?_))) | refine Or.inr (Or.inr (ok_intro rfl (ok_intro rfl ?_))) | refine And.intro (rfl : W.view _ = false) ?_ | (refine And.intro eqOk_int ?_; rw [eqv_int]) | (refine And.intro eqOk_bool ?_; rw [eqv_bool]) | refine And.intro (lt_len rfl) ?_ | refine And.intro (rfl : ([] : List PyData) = []) ?_ | refine And.intro (size_ok (Nat.le_of_ble_eq_true rfl)) ?_ | refine And.intro (rfl : W.gives _ = true) ?_ | refine And.intro (rfl : List.all _ W.arg = true) ?_))
  refine ok_intro (show atI xs (v : Int) = some xs[v] from atI_nat (List.getElem?_eq_getElem hlt)) ?_
  exact ⟨rfl, h _ (List.getElem_mem hlt)⟩
theorem w__law_source {Γ : Gam} (ns : List Int) (hz : ns.length ≤ 1000) : wpSs Γ T__law_source (startC N__law_source [.d (.list (ns.map PyData.int))]) { nx := fun _ => False, rt := fun w => w = .src } := by
  (repeat (first | refine ok_intro rfl ?_ | refine Or.inl (ok_intro rfl (ok_intro rfl ?_)) | refine Or.inl (ok_intro rfl ?_) | refine Or.inr (ok_intro rfl ?_) | refine Or.inr (Or.inl (ok_intro rfl (ok_intro rfl ?_))) | refine Or.inr (Or.inr (ok_intro rfl (ok_intro rfl ?_))) | refine And.intro (rfl : W.view _ = false) ?_ | (refine And.intro eqOk_int ?_; rw [eqv_int]) | (refine And.intro eqOk_bool ?_; rw [eqv_bool]) | refine And.intro (lt_len rfl) ?_ | refine And.intro (rfl : ([] : List PyData) = []) ?_ | refine And.intro (size_ok (Nat.le_of_ble_eq_true rfl)) ?_ | refine And.intro (rfl : W.gives _ = true) ?_ | refine And.intro (rfl : List.all _ W.arg = true) ?_))
  refine forW_enc PyData.int ns (fun _ e => ∃ (m : Int) (t : Option W), e = [some (.d (.list (ns.map PyData.int))), some (.d (.int m)), t]) ⟨31, none, rfl⟩ ?_ ?_
  · rintro pre x suf e k hx ⟨m, t, rfl⟩ hk
    (repeat (first | refine ok_intro rfl ?_ | refine Or.inl (ok_intro rfl (ok_intro rfl ?_)) | refine Or.inl (ok_intro rfl ?_) | refine Or.inr (ok_intro rfl ?_) | refine Or.inr (Or.inl (ok_intro rfl (ok_intro rfl ?_))) | refine Or.inr (Or.inr (ok_intro rfl (ok_intro rfl ?_))) | refine And.intro (rfl : W.view _ = false) ?_ | (refine And.intro eqOk_int ?_; rw [eqv_int]) | (refine And.intro eqOk_bool ?_; rw [eqv_bool]) | refine And.intro (lt_len rfl) ?_ | refine And.intro (rfl : ([] : List PyData) = []) ?_ | refine And.intro (size_ok (Nat.le_of_ble_eq_true rfl)) ?_ | refine And.intro (rfl : W.gives _ = true) ?_ | refine And.intro (rfl : List.all _ W.arg = true) ?_))
    refine ⟨mulSmall (by decide), ?_⟩
    (repeat (first | refine ok_intro rfl ?_ | refine Or.inl (ok_intro rfl (ok_intro rfl ?_)) | refine Or.inl (ok_intro rfl ?_) | refine Or.inr (ok_intro rfl ?_) | refine Or.inr (Or.inl (ok_intro rfl (ok_intro rfl ?_))) | refine Or.inr (Or.inr (ok_intro rfl (ok_intro rfl ?_))) | refine And.intro (rfl : W.view _ = false) ?_ | (refine And.intro eqOk_int ?_; rw [eqv_int]) | (refine And.intro eqOk_bool ?_; rw [eqv_bool]) | refine And.intro (lt_len rfl) ?_ | refine And.intro (rfl : ([] : List PyData) = []) ?_ | refine And.intro (size_ok (Nat.le_of_ble_eq_true rfl)) ?_ | refine And.intro (rfl : W.gives _ = true) ?_ | refine And.intro (rfl : List.all _ W.arg = true) ?_))
    refine ⟨mulSmall (by decide), ?_⟩
    (repeat (first | refine ok_intro rfl ?_ | refine Or.inl (ok_intro rfl (ok_intro rfl ?_)) | refine Or.inl (ok_intro rfl ?_) | refine Or.inr (ok_intro rfl ?_) | refine Or.inr (Or.inl (ok_intro rfl (ok_intro rfl ?_))) | refine Or.inr (Or.inr (ok_intro rfl (ok_intro rfl ?_))) | refine And.intro (rfl : W.view _ = false) ?_ | (refine And.intro eqOk_int ?_; rw [eqv_int]) | (refine And.intro eqOk_bool ?_; rw [eqv_bool]) | refine And.intro (lt_len rfl) ?_ | refine And.intro (rfl : ([] : List PyData) = []) ?_ | refine And.intro (size_ok (Nat.le_of_ble_eq_true rfl)) ?_ | refine And.intro (rfl : W.gives _ = true) ?_ | refine And.intro (rfl : List.all _ W.arg = true) ?_))
    refine ⟨by decide, ?_⟩
    (repeat (first | refine ok_intro rfl ?_ | refine Or.inl (ok_intro rfl (ok_intro rfl ?_)) | refine Or.inl (ok_intro rfl ?_) | refine Or.inr (ok_intro rfl ?_) | refine Or.inr (Or.inl (ok_intro rfl (ok_intro rfl ?_))) | refine Or.inr (Or.inr (ok_intro rfl (ok_intro rfl ?_))) | refine And.intro (rfl : W.view _ = false) ?_ | (refine And.intro eqOk_int ?_; rw [eqv_int]) | (refine And.intro eqOk_bool ?_; rw [eqv_bool]) | refine And.intro (lt_len rfl) ?_ | refine And.intro (rfl : ([] : List PyData) = []) ?_ | refine And.intro (size_ok (Nat.le_of_ble_eq_true rfl)) ?_ | refine And.intro (rfl : W.gives _ = true) ?_ | refine And.intro (rfl : List.all _ W.arg = true) ?_))
    exact hk _ ⟨_, some (.d (.int x)), rfl⟩
  · rintro e ⟨m, t, rfl⟩
    (repeat (first | refine ok_intro rfl ?_ | refine Or.inl (ok_intro rfl (ok_intro rfl ?_)) | refine Or.inl (ok_intro rfl ?_) | refine Or.inr (ok_intro rfl ?_) | refine Or.inr (Or.inl (ok_intro rfl (ok_intro rfl ?_))) | refine Or.inr (Or.inr (ok_intro rfl (ok_intro rfl ?_))) | refine And.intro (rfl : W.view _ = false) ?_ | (refine And.intro eqOk_int ?_; rw [eqv_int]) | (refine And.intro eqOk_bool ?_; rw [eqv_bool]) | refine And.intro (lt_len rfl) ?_ | refine And.intro (rfl : ([] : List PyData) = []) ?_ | refine And.intro (size_ok (Nat.le_of_ble_eq_true rfl)) ?_ | refine And.intro (rfl : W.gives _ = true) ?_ | refine And.intro (rfl : List.all _ W.arg = true) ?_))
    refine ⟨rfl, ?_⟩
    refine compW_enc PyData.int (fun n => some (.int (n.natAbs : Int))) ns [] (fun n hn k hk => ?_) (size_ok (by simp; omega)) ?_
    · (repeat (first | refine ok_intro rfl ?_ | refine Or.inl (ok_intro rfl (ok_intro rfl ?_)) | refine Or.inl (ok_intro rfl ?_) | refine Or.inr (ok_intro rfl ?_) | refine Or.inr (Or.inl (ok_intro rfl (ok_intro rfl ?_))) | refine Or.inr (Or.inr (ok_intro rfl (ok_intro rfl ?_))) | refine And.intro (rfl : W.view _ = false) ?_ | (refine And.intro eqOk_int ?_; rw [eqv_int]) | (refine And.intro eqOk_bool ?_; rw [eqv_bool]) | refine And.intro (lt_len rfl) ?_ | refine And.intro (rfl : ([] : List PyData) = []) ?_ | refine And.intro (size_ok (Nat.le_of_ble_eq_true rfl)) ?_ | refine And.intro (rfl : W.gives _ = true) ?_ | refine And.intro (rfl : List.all _ W.arg = true) ?_))
      refine ⟨rfl, ite_t ?_⟩
      (repeat (first | refine ok_intro rfl ?_ | refine Or.inl (ok_intro rfl (ok_intro rfl ?_)) | refine Or.inl (ok_intro rfl ?_) | refine Or.inr (ok_intro rfl ?_) | refine Or.inr (Or.inl (ok_intro rfl (ok_intro rfl ?_))) | refine Or.inr (Or.inr (ok_intro rfl (ok_intro rfl ?_))) | refine And.intro (rfl : W.view _ = false) ?_ | (refine And.intro eqOk_int ?_; rw [eqv_int]) | (refine And.intro eqOk_bool ?_; rw [eqv_bool]) | refine And.intro (lt_len rfl) ?_ | refine And.intro (rfl : ([] : List PyData) = []) ?_ | refine And.intro (size_ok (Nat.le_of_ble_eq_true rfl)) ?_ | refine And.intro (rfl : W.gives _ = true) ?_ | refine And.intro (rfl : List.all _ W.arg = true) ?_))
      exact ⟨rfl, hk⟩
    rw [List.nil_append, filterMap_some]
    have em : (ns.map fun n => PyData.int (n.natAbs : Int)).reverse = ((ns.map fun n : Int => (n.natAbs : Int)).reverse).map PyData.int := by rw [List.map_reverse, List.map_map]; rfl
    refine Or.inl (ok_intro rfl ?_)
    rw [em]
    (repeat (first | refine ok_intro rfl ?_ | refine Or.inl (ok_intro rfl (ok_intro rfl ?_)) | refine Or.inl (ok_intro rfl ?_) | refine Or.inr (ok_intro rfl ?_) | refine Or.inr (Or.inl (ok_intro rfl (ok_intro rfl ?_))) | refine Or.inr (Or.inr (ok_intro rfl (ok_intro rfl ?_))) | refine And.intro (rfl : W.view _ = false) ?_ | (refine And.intro eqOk_int ?_; rw [eqv_int]) | (refine And.intro eqOk_bool ?_; rw [eqv_bool]) | refine And.intro (lt_len rfl) ?_ | refine And.intro (rfl : ([] : List PyData) = []) ?_ | refine And.intro (size_ok (Nat.le_of_ble_eq_true rfl)) ?_ | refine And.intro (rfl : W.gives _ = true) ?_ | refine And.intro (rfl : List.all _ W.arg = true) ?_))
    refine ⟨rfl, ok_intro rfl (ok_intro (intsOf_map _) (ok_intro rfl rfl))⟩
end K54
end Cal
set_option Elab.async false
set_option linter.all false
set_option maxRecDepth 100000
set_option maxHeartbeats 4000000
namespace Cal
namespace K54
open PySem PySem.Spec PyProof.Rows L2
def pts (s : Nat → Int) : Nat → List (Int × Int)
  | 0 => [(0, s 0)]
  | n + 1 => if s (n + 1) = s n then pts s n else pts s n ++ [(((n + 1 : Nat) : Int), s (n + 1))]
theorem pts_last (s : Nat → Int) : ∀ n, ∃ r k, pts s n = r ++ [(k, s n)]
  | 0 => ⟨[], 0, rfl⟩
  | n + 1 => by
    unfold pts
    by_cases h : s (n + 1) = s n
    · rw [if_pos h]
      obtain ⟨r, k, e⟩ := pts_last s n
      exact ⟨r, k, by rw [e, h]⟩
    · rw [if_neg h]; exact ⟨_, _, rfl⟩
theorem pts_len (s : Nat → Int) : ∀ n, (pts s n).length ≤ n + 1
  | 0 => Nat.le_refl _
  | n + 1 => by
    unfold pts
    have := pts_len s n
    by_cases h : s (n + 1) = s n
    · rw [if_pos h]; omega
    · rw [if_neg h, List.length_append, List.length_singleton]; omega
def S (p : Nat) (ps : List (Int × Int)) (n : Nat) : Int := sg (ev ((p : Int) ^ n) (-4) ps)
def spSigns : Spec := fun ws Q => ∃ (p N : Nat) (ps : List (Int × Int)), ws = [.d (.int p), .d (pD ps)] ∧ (p = 2 ∨ p = 3) ∧ Pows ps ∧ N ≤ 319 ∧ isSet p N ps = true ∧ (∀ m, m < N → isSet p m ps = false) ∧ Q (.d (pD (pts (S p ps) N)))
def TS (f g : Str) : Ss := (.cons (.par [2, 3] (.cons (.lst (.cons (.tup (.cons (.lit (.int 0)) (.cons (.per (.call f (.cons (.var 0) (.cons (.var 1) (.cons (.lit (.int 0)) .nil))))) .nil))) .nil)) (.cons (.lit (.int 0)) .nil))) (.cons (.whl (.un .not (.call g (.cons (.var 0) (.cons (.var 1) (.cons (.var 3) .nil))))) (.cons (.asg (.name 3) (.bin .add (.var 3) (.lit (.int 1)))) (.cons (.ife (.bin .ne (.call f (.cons (.var 0) (.cons (.var 1) (.cons (.var 3) .nil)))) (.bin .idx (.bin .idx (.peek 2) (.un .neg (.lit (.int 1)))) (.lit (.int 1)))) (.cons (.app 2 (.tup (.cons (.var 3) (.cons (.per (.call f (.cons (.var 0) (.cons (.var 1) (.cons (.var 3) .nil))))) .nil)))) .nil) .nil) .nil))) (.cons (.ret (.blt .tuple (.peek 2))) .nil)))
theorem w_TS {Γ : Gam} {f g : Str} (hf : Γ f = some spSign) (hg : Γ g = some spSet) {N0 : List Str} (hN : N0.length = 4) (ws : List W) (Q : W → Prop) (h : spSigns ws Q) : wpSs Γ (TS f g) (startC N0 ws) { nx := fun _ => Q (.d .none), rt := Q } := by
  obtain ⟨p, N, ps, rfl, hp, hps, hN1, hset, hnot, h⟩ := h
  have e0 : startC N0 [.d (.int p), .d (pD ps)] = [some (.d (.int p)), some (.d (pD ps)), none, none] := by unfold startC; rw [hN]; rfl
  rw [e0]
  (repeat (first | refine ok_intro rfl ?_ | refine Or.inl (ok_intro rfl (ok_intro rfl ?_)) | refine Or.inl (ok_intro rfl ?_) | refine Or.inr (ok_intro rfl ?_) | refine Or.inr (Or.inl (ok_intro rfl (ok_intro rfl ?_))) | refine Or.inr (Or.inr (ok_intro rfl (ok_intro rfl ?_))) | refine And.intro (rfl : W.view _ = false) ?_ | (refine And.intro eqOk_int ?_; rw [eqv_int]) | (refine And.intro eqOk_bool ?_; rw [eqv_bool]) | refine And.intro (rfl : W.own _ = true) ?_ | refine And.intro (rfl : W.own _ = false) ?_ | refine And.intro (rfl : Option.isSome _ = true) ?_ | refine And.intro (lt_len rfl) ?_ | refine And.intro (rfl : ([] : List PyData) = []) ?_ | refine And.intro (size_ok (Nat.le_of_ble_eq_true rfl)) ?_ | refine And.intro (rfl : W.gives _ = true) ?_ | refine And.intro (rfl : List.all _ W.arg = true) ?_))
  refine ok_intro hf ?_
  refine ⟨p, 0, ps, rfl, ⟨hp, by omega⟩, hps, ?_⟩
  (repeat (first | refine ok_intro rfl ?_ | refine Or.inl (ok_intro rfl (ok_intro rfl ?_)) | refine Or.inl (ok_intro rfl ?_) | refine Or.inr (ok_intro rfl ?_) | refine Or.inr (Or.inl (ok_intro rfl (ok_intro rfl ?_))) | refine Or.inr (Or.inr (ok_intro rfl (ok_intro rfl ?_))) | refine And.intro (rfl : W.view _ = false) ?_ | (refine And.intro eqOk_int ?_; rw [eqv_int]) | (refine And.intro eqOk_bool ?_; rw [eqv_bool]) | refine And.intro (rfl : W.own _ = true) ?_ | refine And.intro (rfl : W.own _ = false) ?_ | refine And.intro (rfl : Option.isSome _ = true) ?_ | refine And.intro (lt_len rfl) ?_ | refine And.intro (rfl : ([] : List PyData) = []) ?_ | refine And.intro (size_ok (Nat.le_of_ble_eq_true rfl)) ?_ | refine And.intro (rfl : W.gives _ = true) ?_ | refine And.intro (rfl : List.all _ W.arg = true) ?_))
  refine ⟨fun m e => ∃ k : Nat, k ≤ N ∧ m = N - k ∧ e = [some (.d (.int p)), some (.d (pD ps)), some (.lst ((pts (S p ps) k).map pr)), some (.d (.int k))], ⟨N, 0, Nat.zero_le _, by omega, rfl⟩, ?_⟩
  rintro m e ⟨k, hk, rfl, rfl⟩
  (repeat (first | refine ok_intro rfl ?_ | refine Or.inl (ok_intro rfl (ok_intro rfl ?_)) | refine Or.inl (ok_intro rfl ?_) | refine Or.inr (ok_intro rfl ?_) | refine Or.inr (Or.inl (ok_intro rfl (ok_intro rfl ?_))) | refine Or.inr (Or.inr (ok_intro rfl (ok_intro rfl ?_))) | refine And.intro (rfl : W.view _ = false) ?_ | (refine And.intro eqOk_int ?_; rw [eqv_int]) | (refine And.intro eqOk_bool ?_; rw [eqv_bool]) | refine And.intro (rfl : W.own _ = true) ?_ | refine And.intro (rfl : W.own _ = false) ?_ | refine And.intro (rfl : Option.isSome _ = true) ?_ | refine And.intro (lt_len rfl) ?_ | refine And.intro (rfl : ([] : List PyData) = []) ?_ | refine And.intro (size_ok (Nat.le_of_ble_eq_true rfl)) ?_ | refine And.intro (rfl : W.gives _ = true) ?_ | refine And.intro (rfl : List.all _ W.arg = true) ?_))
  refine ok_intro hg ?_
  refine ⟨p, k, ps, rfl, ⟨hp, by omega⟩, hps, ?_⟩
  (repeat (first | refine ok_intro rfl ?_ | refine Or.inl (ok_intro rfl (ok_intro rfl ?_)) | refine Or.inl (ok_intro rfl ?_) | refine Or.inr (ok_intro rfl ?_) | refine Or.inr (Or.inl (ok_intro rfl (ok_intro rfl ?_))) | refine Or.inr (Or.inr (ok_intro rfl (ok_intro rfl ?_))) | refine And.intro (rfl : W.view _ = false) ?_ | (refine And.intro eqOk_int ?_; rw [eqv_int]) | (refine And.intro eqOk_bool ?_; rw [eqv_bool]) | refine And.intro (rfl : W.own _ = true) ?_ | refine And.intro (rfl : W.own _ = false) ?_ | refine And.intro (rfl : Option.isSome _ = true) ?_ | refine And.intro (lt_len rfl) ?_ | refine And.intro (rfl : ([] : List PyData) = []) ?_ | refine And.intro (size_ok (Nat.le_of_ble_eq_true rfl)) ?_ | refine And.intro (rfl : W.gives _ = true) ?_ | refine And.intro (rfl : List.all _ W.arg = true) ?_))
  rcases Nat.lt_or_ge k N with hlt | hge
  · rw [hnot k hlt]
    refine ite_t ?_
    (repeat (first | refine ok_intro rfl ?_ | refine Or.inl (ok_intro rfl (ok_intro rfl ?_)) | refine Or.inl (ok_intro rfl ?_) | refine Or.inr (ok_intro rfl ?_) | refine Or.inr (Or.inl (ok_intro rfl (ok_intro rfl ?_))) | refine Or.inr (Or.inr (ok_intro rfl (ok_intro rfl ?_))) | refine And.intro (rfl : W.view _ = false) ?_ | (refine And.intro eqOk_int ?_; rw [eqv_int]) | (refine And.intro eqOk_bool ?_; rw [eqv_bool]) | refine And.intro (rfl : W.own _ = true) ?_ | refine And.intro (rfl : W.own _ = false) ?_ | refine And.intro (rfl : Option.isSome _ = true) ?_ | refine And.intro (lt_len rfl) ?_ | refine And.intro (rfl : ([] : List PyData) = []) ?_ | refine And.intro (size_ok (Nat.le_of_ble_eq_true rfl)) ?_ | refine And.intro (rfl : W.gives _ = true) ?_ | refine And.intro (rfl : List.all _ W.arg = true) ?_))
    refine ok_intro hf ?_
    refine ⟨p, k + 1, ps, rfl, ⟨hp, by omega⟩, hps, ?_⟩
    (repeat (first | refine ok_intro rfl ?_ | refine Or.inl (ok_intro rfl (ok_intro rfl ?_)) | refine Or.inl (ok_intro rfl ?_) | refine Or.inr (ok_intro rfl ?_) | refine Or.inr (Or.inl (ok_intro rfl (ok_intro rfl ?_))) | refine Or.inr (Or.inr (ok_intro rfl (ok_intro rfl ?_))) | refine And.intro (rfl : W.view _ = false) ?_ | (refine And.intro eqOk_int ?_; rw [eqv_int]) | (refine And.intro eqOk_bool ?_; rw [eqv_bool]) | refine And.intro (rfl : W.own _ = true) ?_ | refine And.intro (rfl : W.own _ = false) ?_ | refine And.intro (rfl : Option.isSome _ = true) ?_ | refine And.intro (lt_len rfl) ?_ | refine And.intro (rfl : ([] : List PyData) = []) ?_ | refine And.intro (size_ok (Nat.le_of_ble_eq_true rfl)) ?_ | refine And.intro (rfl : W.gives _ = true) ?_ | refine And.intro (rfl : List.all _ W.arg = true) ?_))
    obtain ⟨r, j, er⟩ := pts_last (S p ps) k
    have hat : atI ((pts (S p ps) k).map pr) (-1) = some (pr (j, S p ps k)) := by rw [er]; exact atI_pD r _
    refine ok_intro hat ?_
    (repeat (first | refine ok_intro rfl ?_ | refine Or.inl (ok_intro rfl (ok_intro rfl ?_)) | refine Or.inl (ok_intro rfl ?_) | refine Or.inr (ok_intro rfl ?_) | refine Or.inr (Or.inl (ok_intro rfl (ok_intro rfl ?_))) | refine Or.inr (Or.inr (ok_intro rfl (ok_intro rfl ?_))) | refine And.intro (rfl : W.view _ = false) ?_ | (refine And.intro eqOk_int ?_; rw [eqv_int]) | (refine And.intro eqOk_bool ?_; rw [eqv_bool]) | refine And.intro (rfl : W.own _ = true) ?_ | refine And.intro (rfl : W.own _ = false) ?_ | refine And.intro (rfl : Option.isSome _ = true) ?_ | refine And.intro (lt_len rfl) ?_ | refine And.intro (rfl : ([] : List PyData) = []) ?_ | refine And.intro (size_ok (Nat.le_of_ble_eq_true rfl)) ?_ | refine And.intro (rfl : W.gives _ = true) ?_ | refine And.intro (rfl : List.all _ W.arg = true) ?_))
    refine ite_ndec (fun hne => ?_) fun heq => ?_
    · (repeat (first | refine ok_intro rfl ?_ | refine Or.inl (ok_intro rfl (ok_intro rfl ?_)) | refine Or.inl (ok_intro rfl ?_) | refine Or.inr (ok_intro rfl ?_) | refine Or.inr (Or.inl (ok_intro rfl (ok_intro rfl ?_))) | refine Or.inr (Or.inr (ok_intro rfl (ok_intro rfl ?_))) | refine And.intro (rfl : W.view _ = false) ?_ | (refine And.intro eqOk_int ?_; rw [eqv_int]) | (refine And.intro eqOk_bool ?_; rw [eqv_bool]) | refine And.intro (rfl : W.own _ = true) ?_ | refine And.intro (rfl : W.own _ = false) ?_ | refine And.intro (rfl : Option.isSome _ = true) ?_ | refine And.intro (lt_len rfl) ?_ | refine And.intro (rfl : ([] : List PyData) = []) ?_ | refine And.intro (size_ok (Nat.le_of_ble_eq_true rfl)) ?_ | refine And.intro (rfl : W.gives _ = true) ?_ | refine And.intro (rfl : List.all _ W.arg = true) ?_))
      refine ok_intro hf ?_
      refine ⟨p, k + 1, ps, rfl, ⟨hp, by omega⟩, hps, ?_⟩
      (repeat (first | refine ok_intro rfl ?_ | refine Or.inl (ok_intro rfl (ok_intro rfl ?_)) | refine Or.inl (ok_intro rfl ?_) | refine Or.inr (ok_intro rfl ?_) | refine Or.inr (Or.inl (ok_intro rfl (ok_intro rfl ?_))) | refine Or.inr (Or.inr (ok_intro rfl (ok_intro rfl ?_))) | refine And.intro (rfl : W.view _ = false) ?_ | (refine And.intro eqOk_int ?_; rw [eqv_int]) | (refine And.intro eqOk_bool ?_; rw [eqv_bool]) | refine And.intro (rfl : W.own _ = true) ?_ | refine And.intro (rfl : W.own _ = false) ?_ | refine And.intro (rfl : Option.isSome _ = true) ?_ | refine And.intro (lt_len rfl) ?_ | refine And.intro (rfl : ([] : List PyData) = []) ?_ | refine And.intro (size_ok (Nat.le_of_ble_eq_true rfl)) ?_ | refine And.intro (rfl : W.gives _ = true) ?_ | refine And.intro (rfl : List.all _ W.arg = true) ?_))
      refine ⟨by have := pts_len (S p ps) k; rw [List.length_map, sizeLine_eq]; omega, ?_⟩
      refine ⟨N - (k + 1), by omega, k + 1, hlt, rfl, ?_⟩
      have hne2 : ¬ S p ps (k + 1) = S p ps k := hne
      have e1 : (pts (S p ps) (k + 1)).map pr = (pts (S p ps) k).map pr ++ [.tuple [.int ((k : Int) + 1), .int (S p ps (k + 1))]] := by
        show List.map pr (if S p ps (k + 1) = S p ps k then _ else _) = _
        rw [if_neg hne2, List.map_append]
        rfl
      rw [e1]
      rfl
    · refine ⟨N - (k + 1), by omega, k + 1, hlt, rfl, ?_⟩
      have heq2 : S p ps (k + 1) = S p ps k := heq
      have e1 : pts (S p ps) (k + 1) = pts (S p ps) k := by
        show (if S p ps (k + 1) = S p ps k then _ else _) = _
        rw [if_pos heq2]
      rw [e1]
      rfl
  · have hk2 : k = N := by omega
    subst hk2
    rw [hset]
    refine ite_f ?_
    (repeat (first | refine ok_intro rfl ?_ | refine Or.inl (ok_intro rfl (ok_intro rfl ?_)) | refine Or.inl (ok_intro rfl ?_) | refine Or.inr (ok_intro rfl ?_) | refine Or.inr (Or.inl (ok_intro rfl (ok_intro rfl ?_))) | refine Or.inr (Or.inr (ok_intro rfl (ok_intro rfl ?_))) | refine And.intro (rfl : W.view _ = false) ?_ | (refine And.intro eqOk_int ?_; rw [eqv_int]) | (refine And.intro eqOk_bool ?_; rw [eqv_bool]) | refine And.intro (rfl : W.own _ = true) ?_ | refine And.intro (rfl : W.own _ = false) ?_ | refine And.intro (rfl : Option.isSome _ = true) ?_ | refine And.intro (lt_len rfl) ?_ | refine And.intro (rfl : ([] : List PyData) = []) ?_ | refine And.intro (size_ok (Nat.le_of_ble_eq_true rfl)) ?_ | refine And.intro (rfl : W.gives _ = true) ?_ | refine And.intro (rfl : List.all _ W.arg = true) ?_))
    exact h
theorem w_signs_of {Γ : Gam} (hf : Γ "sign_at" = some spSign) (hg : Γ "is_settled" = some spSet) (ws : List W) (Q : W → Prop) (h : spSigns ws Q) : wpSs Γ T_signs_of (startC N_signs_of ws) { nx := fun _ => Q (.d .none), rt := Q } := w_TS hf hg rfl ws Q h
theorem w__law_signs {Γ : Gam} (hf : Γ "_law_sign" = some spSign) (hg : Γ "_law_is_settled" = some spSet) (ws : List W) (Q : W → Prop) (h : spSigns ws Q) : wpSs Γ T__law_signs (startC N__law_signs ws) { nx := fun _ => Q (.d .none), rt := Q } := w_TS hf hg rfl ws Q h
end K54
end Cal
set_option Elab.async false
set_option linter.all false
set_option maxRecDepth 100000
set_option maxHeartbeats 4000000
namespace Cal
namespace K54
open PySem PySem.Spec PyProof.Rows L2
/-! ### the mathematics -/
theorem wt_cons (l : Int) (ic : Int × Int) (r : List (Int × Int)) : wt l (ic :: r) = (if ic.2 * l < 0 then (ic.2.natAbs : Int) else 0) + wt l r := by
  unfold wt
  by_cases h : ic.2 * l < 0
  · rw [List.filter_cons_of_pos (by simpa using h), List.map_cons, List.sum_cons, if_pos h]
  · rw [List.filter_cons_of_neg (by simpa using h), if_neg h, Int.zero_add]
theorem ev_cons (q l : Int) (ic : Int × Int) (r : List (Int × Int)) : ev q l (ic :: r) = ic.2 * q ^ (ic.1 - l).toNat + ev q l r := by simp [ev]
theorem ev_app (q l : Int) (r t : List (Int × Int)) : ev q l (r ++ t) = ev q l r + ev q l t := by
  induction r with
  | nil => simp [ev]
  | cons a r ih => rw [List.cons_append, ev_cons, ev_cons, ih, Int.add_assoc]
theorem wt_app (l : Int) (r t : List (Int × Int)) : wt l (r ++ t) = wt l r + wt l t := by
  induction r with
  | nil => simp [wt]
  | cons a r ih => rw [List.cons_append, wt_cons, wt_cons, ih, Int.add_assoc]
def sgn (l : Int) : Int := if l < 0 then -1 else 1
theorem low {Q : Nat} {l : Int} (hQ : 1 ≤ Q) (hl : l ≠ 0) (k : Nat) : ∀ r : List (Int × Int), (∀ ic ∈ r, (ic.1 - -4).toNat ≤ k) → -(wt l r) * ((Q ^ k : Nat) : Int) ≤ sgn l * ev ((Q : Nat) : Int) (-4) r
  | [], _ => by simp [wt, ev]
  | ic :: r, h => by
    have ih := low hQ hl k r fun x hx => h x (List.mem_cons_of_mem _ hx)
    have he : Q ^ (ic.1 - -4).toNat ≤ Q ^ k := Nat.pow_le_pow_right hQ (h ic List.mem_cons_self)
    rw [wt_cons, ev_cons, ← Int.natCast_pow]
    generalize hx : Q ^ (ic.1 - -4).toNat = x at *
    generalize hy : Q ^ k = y at *
    have key : -(if ic.2 * l < 0 then (ic.2.natAbs : Int) else 0) * (y : Int) ≤ sgn l * (ic.2 * (x : Int)) := by
      by_cases hc : ic.2 * l < 0
      · rw [if_pos hc]
        have e : sgn l * (ic.2 * (x : Int)) = -((ic.2.natAbs : Int) * (x : Int)) := by
          unfold sgn
          by_cases h1 : l < 0
          · rw [if_pos h1]
            have : 0 < ic.2 := by
              rcases Int.lt_or_le 0 ic.2 with z | z
              · exact z
              · have := Int.mul_nonneg_of_nonpos_of_nonpos z (Int.le_of_lt h1); omega
            have e2 : (ic.2.natAbs : Int) = ic.2 := by omega
            rw [e2, Int.neg_mul, Int.one_mul]
          · rw [if_neg h1]
            have : ic.2 < 0 := by
              rcases Int.lt_or_le ic.2 0 with z | z
              · exact z
              · have := Int.mul_nonneg z (show (0 : Int) ≤ l by omega); omega
            have e2 : (ic.2.natAbs : Int) = -ic.2 := by omega
            rw [e2, Int.neg_mul, Int.one_mul, Int.neg_neg]
        rw [e, Int.neg_mul]
        have := Int.mul_le_mul_of_nonneg_left (show (x : Int) ≤ (y : Int) by omega) (show (0 : Int) ≤ (ic.2.natAbs : Int) by omega)
        omega
      · rw [if_neg hc, Int.neg_zero, Int.zero_mul]
        have hs : 0 ≤ sgn l * ic.2 := by
          unfold sgn
          by_cases h1 : l < 0
          · rw [if_pos h1]
            rcases Int.lt_or_le 0 ic.2 with z | z
            · have := Int.mul_neg_of_pos_of_neg z h1; omega
            · omega
          · rw [if_neg h1]
            rcases Int.lt_or_le ic.2 0 with z | z
            · have := Int.mul_neg_of_neg_of_pos z (show (0 : Int) < l by omega); omega
            · omega
        rw [← Int.mul_assoc]
        exact Int.mul_nonneg hs (by omega)
    rw [Int.neg_add, Int.add_mul, Int.mul_add]
    omega
theorem wt_self (x : Int × Int) : wt x.2 [x] = 0 := by
  rw [wt_cons]
  have : ¬ x.2 * x.2 < 0 := by
    rcases Int.lt_or_le x.2 0 with h | h
    · have := Int.mul_pos_of_neg_of_neg h h; omega
    · have := Int.mul_nonneg h h; omega
  rw [if_neg this]
  simp [wt]
/-- the top outweighs the others -/
theorem top_wins {Q : Nat} (hQ : 1 ≤ Q) {r : List (Int × Int)} {x : Int × Int} (hps : Pows (r ++ [x])) (h : wt x.2 (r ++ [x]) ≤ (x.2.natAbs : Int) * (Q : Int)) : 0 ≤ sgn x.2 * ev (Q : Int) (-4) (r ++ [x]) ∧ (wt x.2 (r ++ [x]) < (x.2.natAbs : Int) * (Q : Int) → 0 < sgn x.2 * ev (Q : Int) (-4) (r ++ [x])) := by
  have hnz := hps.nz x (by simp)
  rw [wt_app, wt_self, Int.add_zero] at h ⊢
  have e1 : ev (Q : Int) (-4) [x] = x.2 * ((Q ^ (x.1 - -4).toNat : Nat) : Int) := by rw [ev_cons, ← Int.natCast_pow]; simp [ev]
  have e2 : sgn x.2 * x.2 = (x.2.natAbs : Int) := by unfold sgn; split <;> omega
  rw [ev_app, Int.mul_add, e1, ← Int.mul_assoc, e2]
  have hmp : 0 < Q ^ (x.1 - -4).toNat := Nat.pow_pos hQ
  have hap : 0 < (x.2.natAbs : Int) := by omega
  by_cases hr : r = []
  · subst hr
    have := Int.mul_pos hap (show (0 : Int) < ((Q ^ (x.1 - -4).toNat : Nat) : Int) by omega)
    simp only [ev, List.map_nil, List.sum_nil, Int.mul_zero, Int.zero_add]
    exact ⟨Int.le_of_lt this, fun _ => this⟩
  · have hlt : ∀ ic ∈ r, ic.1 < x.1 := fun ic hic => (List.pairwise_append.mp hps.srt).2.2 ic hic x (by simp)
    have hm1 : 1 ≤ (x.1 - -4).toNat := by
      obtain ⟨a, t, rfl⟩ := List.exists_cons_of_ne_nil hr
      have h1 := hlt a (by simp)
      have h2 := (hps.rng a (by simp)).1
      omega
    have hlow := low hQ hnz ((x.1 - -4).toNat - 1) r fun ic hic => by have := hlt ic hic; omega
    obtain ⟨j, hj⟩ : ∃ j, (x.1 - -4).toNat = j + 1 := ⟨(x.1 - -4).toNat - 1, by omega⟩
    rw [hj] at hlow ⊢
    rw [Nat.add_sub_cancel] at hlow
    have hp : 0 < Q ^ j := Nat.pow_pos hQ
    have e3 : (x.2.natAbs : Int) * ((Q ^ (j + 1) : Nat) : Int) = (x.2.natAbs : Int) * (Q : Int) * ((Q ^ j : Nat) : Int) := by
      rw [Nat.pow_succ, Int.natCast_mul, Int.mul_assoc, Int.mul_comm ((Q ^ j : Nat) : Int)]
    rw [e3]
    have hy0 : (0 : Int) < ((Q ^ j : Nat) : Int) := by omega
    generalize ((Q ^ j : Nat) : Int) = y at *
    generalize (x.2.natAbs : Int) * (Q : Int) = z at *
    generalize wt x.2 r = W at *
    generalize sgn x.2 * ev (Q : Int) (-4) r = E at *
    have hy : 0 < y := hy0
    have h3 := Int.mul_le_mul_of_nonneg_right h (Int.le_of_lt hy)
    rw [Int.neg_mul] at hlow
    refine ⟨by omega, fun h => ?_⟩
    have h4 := Int.mul_lt_mul_of_pos_right h hy
    omega
theorem sg_sgn {l t : Int} (h : 0 < sgn l * t) : sg t = sgn l := by
  unfold sgn at h ⊢
  unfold sg b2i
  by_cases hl : l < 0
  · rw [if_pos hl] at h ⊢
    rw [decide_eq_false (show ¬ 0 < t by omega), decide_eq_true (show t < 0 by omega)]; rfl
  · rw [if_neg hl] at h ⊢
    rw [decide_eq_true (show 0 < t by omega), decide_eq_false (show ¬ t < 0 by omega)]; rfl
theorem isSet_snoc {p n : Nat} {r : List (Int × Int)} {x : Int × Int} : isSet p n (r ++ [x]) = decide (wt x.2 (r ++ [x]) < (x.2.natAbs : Int) * (p : Int) ^ n) := by unfold isSet; rw [getLast_snoc]
theorem isSeen_snoc {p n : Nat} {r : List (Int × Int)} {x : Int × Int} : isSeen p n (r ++ [x]) = (decide (0 < x.2) && decide (wt x.2 (r ++ [x]) ≤ x.2 * (p : Int) ^ n)) := by unfold isSeen; rw [getLast_snoc]
theorem pow1 {p : Nat} (hp : p = 2 ∨ p = 3) (n : Nat) : 1 ≤ p ^ n := Nat.pow_pos (by rcases hp with e | e <;> subst e <;> decide)
theorem pow_up {p : Nat} (hp : p = 2 ∨ p = 3) {n m : Nat} (h : n ≤ m) : p ^ n ≤ p ^ m := Nat.pow_le_pow_right (by rcases hp with e | e <;> subst e <;> decide) h
theorem set_up {p n m : Nat} {ps : List (Int × Int)} (hp : p = 2 ∨ p = 3) (h : n ≤ m) (hs : isSet p n ps = true) : isSet p m ps = true := by
  rcases last_split ps with e | ⟨r, x, e⟩
  · subst e; rfl
  · subst e
    rw [isSet_snoc, decide_eq_true_eq, ← Int.natCast_pow] at hs ⊢
    have := Int.mul_le_mul_of_nonneg_left (show ((p ^ n : Nat) : Int) ≤ ((p ^ m : Nat) : Int) from Int.ofNat_le.mpr (pow_up hp h)) (show (0 : Int) ≤ (x.2.natAbs : Int) by omega)
    omega
theorem seen_up {p n m : Nat} {ps : List (Int × Int)} (hp : p = 2 ∨ p = 3) (h : n ≤ m) (hs : isSeen p n ps = true) : isSeen p m ps = true := by
  rcases last_split ps with e | ⟨r, x, e⟩
  · subst e; rfl
  · subst e
    rw [isSeen_snoc, Bool.and_eq_true, decide_eq_true_eq, decide_eq_true_eq, ← Int.natCast_pow] at hs ⊢
    have := Int.mul_le_mul_of_nonneg_left (show ((p ^ n : Nat) : Int) ≤ ((p ^ m : Nat) : Int) from Int.ofNat_le.mpr (pow_up hp h)) (Int.le_of_lt hs.1)
    exact ⟨hs.1, by omega⟩
theorem S_set {p n : Nat} {r : List (Int × Int)} {x : Int × Int} (hp : p = 2 ∨ p = 3) (hps : Pows (r ++ [x])) (hs : isSet p n (r ++ [x]) = true) : S p (r ++ [x]) n = sgn x.2 := by
  rw [isSet_snoc, decide_eq_true_eq, ← Int.natCast_pow] at hs
  unfold S
  rw [← Int.natCast_pow]
  exact sg_sgn ((top_wins (pow1 hp n) hps (Int.le_of_lt hs)).2 hs)
theorem S_same {p n m : Nat} {ps : List (Int × Int)} (hp : p = 2 ∨ p = 3) (hps : Pows ps) (h : n ≤ m) (hs : isSet p n ps = true) : S p ps m = S p ps n := by
  rcases last_split ps with e | ⟨r, x, e⟩
  · subst e; rfl
  · subst e
    rw [S_set hp hps hs, S_set hp hps (set_up hp h hs)]
theorem S_seen {p n m : Nat} {ps : List (Int × Int)} (hp : p = 2 ∨ p = 3) (hps : Pows ps) (h : n ≤ m) (hs : isSeen p n ps = true) : S p ps m ≠ -1 := by
  rcases last_split ps with e | ⟨r, x, e⟩
  · subst e; show sg (ev _ _ []) ≠ -1; simp [ev, sg, b2i]
  · subst e
    have hs := seen_up hp h hs
    rw [isSeen_snoc, Bool.and_eq_true, decide_eq_true_eq, decide_eq_true_eq, ← Int.natCast_pow] at hs
    have e2 : (x.2.natAbs : Int) = x.2 := by omega
    have := (top_wins (pow1 hp m) hps (by rw [e2]; exact hs.2)).1
    unfold S
    rw [← Int.natCast_pow]
    unfold sgn at this
    rw [if_neg (show ¬ x.2 < 0 by omega), Int.one_mul] at this
    unfold sg b2i
    rw [decide_eq_false (show ¬ ev ((p ^ m : Nat) : Int) (-4) (r ++ [x]) < 0 by omega)]
    split <;> simp
theorem wt_bound {l : Int} : ∀ {ps : List (Int × Int)}, (∀ ic ∈ ps, ic.2.natAbs ≤ 2 ^ 300) → wt l ps ≤ (ps.length : Int) * ((2 ^ 300 : Nat) : Int)
  | [], _ => by simp [wt]
  | ic :: ps, h => by
    have ih := wt_bound (l := l) (ps := ps) fun x hx => h x (List.mem_cons_of_mem _ hx)
    have h1 := h ic List.mem_cons_self
    rw [wt_cons, List.length_cons, Int.natCast_add, Int.add_mul]
    generalize (2 ^ 300 : Nat) = y at *
    split <;> omega
theorem set_ex {p : Nat} {ps : List (Int × Int)} (hp : p = 2 ∨ p = 3) (hps : Pows ps) : isSet p 319 ps = true := by
  rcases last_split ps with e | ⟨r, x, e⟩
  · subst e; rfl
  · rw [e] at hps ⊢
    rw [isSet_snoc, decide_eq_true_eq, ← Int.natCast_pow]
    have h1 := wt_bound (l := x.2) hps.big
    have h2 := hps.len
    have h3 : 2 ^ 319 ≤ p ^ 319 := Nat.pow_le_pow_left (by rcases hp with e | e <;> subst e <;> decide) 319
    have h4 := hps.nz x (by simp)
    have h5 : (2 : Nat) ^ 319 = 524288 * 2 ^ 300 := by rw [show (319 : Nat) = 19 + 300 from rfl, Nat.pow_add]
    rw [h5] at h3
    have h6 : 0 < (2 : Nat) ^ 300 := Nat.pow_pos (by decide)
    generalize (2 : Nat) ^ 300 = y at *
    generalize p ^ 319 = z at *
    generalize (r ++ [x]).length = k at *
    have h7 : (k : Int) * (y : Int) ≤ 9 * (y : Int) := Int.mul_le_mul_of_nonneg_right (by omega) (by omega)
    have h8 := Int.mul_le_mul_of_nonneg_right (show (1 : Int) ≤ (x.2.natAbs : Int) by omega) (show (0 : Int) ≤ (z : Int) by omega)
    omega
theorem least {P : Nat → Bool} : ∀ n, P n = true → ∃ N, N ≤ n ∧ P N = true ∧ ∀ m, m < N → P m = false := by
  intro n
  induction n using Nat.strongRecOn with
  | _ n ih =>
    intro h
    by_cases hz : ∃ m, m < n ∧ P m = true
    · obtain ⟨m, hm, hp⟩ := hz
      obtain ⟨N, h1, h2⟩ := ih m hm hp
      exact ⟨N, by omega, h2⟩
    · refine ⟨n, Nat.le_refl _, h, fun m hm => ?_⟩
      cases hp : P m with
      | false => rfl
      | true => exact absurd ⟨m, hm, hp⟩ hz
theorem pts_at (s : Nat → Int) : ∀ N, ∀ x ∈ pts s N, x.1 ≤ (N : Int)
  | 0 => fun x hx => by simp [pts] at hx; subst hx; exact Int.le_refl _
  | N + 1 => fun x hx => by
    unfold pts at hx
    have ih := pts_at s N
    split at hx
    · have := ih x hx; omega
    · rcases List.mem_append.mp hx with h | h
      · have := ih x h; omega
      · simp at h; subst h; exact Int.le_refl _
theorem pts_filter (s : Nat → Int) (n : Nat) : ∀ N, (pts s N).filter (fun x => decide (x.1 ≤ (n : Int))) = pts s (min n N)
  | 0 => by rw [Nat.min_zero]; simp [pts]
  | N + 1 => by
    have ih := pts_filter s n N
    by_cases hn : N + 1 ≤ n
    · rw [Nat.min_eq_right hn, List.filter_eq_self.mpr]
      intro x hx
      have := pts_at s (N + 1) x hx
      rw [decide_eq_true_eq]; omega
    · have e : min n (N + 1) = min n N := by omega
      rw [e, ← ih]
      show List.filter _ (if s (N + 1) = s N then _ else _) = _
      split
      · rfl
      · rw [List.filter_append]
        have : ¬ ((N + 1 : Nat) : Int) ≤ (n : Int) := by omega
        rw [List.filter_cons_of_neg (by simpa using this)]
        simp
end K54
end Cal
set_option Elab.async false
set_option linter.all false
set_option maxRecDepth 100000
set_option maxHeartbeats 4000000
namespace Cal
namespace K54
open PySem PySem.Spec PyProof.Rows L2
/-! ### dicts of whole numbers -/
def dI (fs : List (Int × Int)) : List (PyData × PyData) := fs.map fun ic => (.int ic.1, .int ic.2)
def lk (fs : List (Int × Int)) (i : Int) : Option Int := (fs.find? fun ic => decide (ic.1 = i)).map (·.2)
def put (fs : List (Int × Int)) (i c : Int) : List (Int × Int) := if (fs.any fun ic => decide (ic.1 = i)) = true then fs.map (fun ic => if ic.1 = i then (ic.1, c) else ic) else fs ++ [(i, c)]
theorem key_eq {i j : Int} : (keyOf (.int i) = some (.inl j)) ↔ i = j := by
  constructor
  · intro h; have h : some (Sum.inl i : Key) = some (.inl j) := h; injection h with h; injection h
  · intro h; rw [h]; rfl
theorem dlook_dI (fs : List (Int × Int)) (i : Int) : dlook (dI fs) (.inl i) = (lk fs i).map PyData.int := by
  unfold dlook dI lk
  rw [List.find?_map]
  have e : ((fun kv : PyData × PyData => decide (keyOf kv.1 = some (.inl i))) ∘ fun ic : Int × Int => ((PyData.int ic.1, PyData.int ic.2) : PyData × PyData)) = fun ic => decide (ic.1 = i) := by
    funext ic
    exact decide_eq_decide.mpr key_eq
  rw [e]
  cases fs.find? fun ic => decide (ic.1 = i) <;> rfl
theorem dput_dI (fs : List (Int × Int)) (i c : Int) : dput (dI fs) (.inl i) (.int c) = dI (put fs i c) := by
  unfold dput put dI
  rw [List.any_map]
  have e : ((fun kv : PyData × PyData => decide (keyOf kv.1 = some (.inl i))) ∘ fun ic : Int × Int => ((PyData.int ic.1, PyData.int ic.2) : PyData × PyData)) = fun ic => decide (ic.1 = i) := by
    funext ic
    exact decide_eq_decide.mpr key_eq
  rw [e]
  split
  · rw [List.map_map, List.map_map]
    refine List.map_congr_left fun ic _ => ?_
    show (if keyOf (.int ic.1) = some (.inl i) then _ else _) = _
    by_cases h : ic.1 = i
    · rw [if_pos (key_eq.mpr h)]; show _ = (PyData.int (if ic.1 = i then (ic.1, c) else ic).1, PyData.int (if ic.1 = i then (ic.1, c) else ic).2); rw [if_pos h]
    · rw [if_neg (fun z => h (key_eq.mp z))]; show _ = (PyData.int (if ic.1 = i then (ic.1, c) else ic).1, PyData.int (if ic.1 = i then (ic.1, c) else ic).2); rw [if_neg h]
  · rw [List.map_append]; rfl
structure DI (P : Int → Int → Prop) (n : Nat) (fs : List (Int × Int)) : Prop where
  nd : (fs.map (·.1)).Nodup
  all : ∀ ic ∈ fs, P ic.1 ic.2
  len : fs.length ≤ n
theorem DI.nil {P : Int → Int → Prop} : DI P 0 [] := ⟨List.nodup_nil, fun _ h => (by cases h), Nat.le_refl _⟩
theorem DI.mono {P P' : Int → Int → Prop} {n n' : Nat} {fs : List (Int × Int)} (d : DI P n fs) (h : ∀ i c, P i c → P' i c) (hn : n ≤ n') : DI P' n' fs := ⟨d.nd, fun ic hic => h _ _ (d.all ic hic), Nat.le_trans d.len hn⟩
theorem DI.put {P : Int → Int → Prop} {n : Nat} {fs : List (Int × Int)} (d : DI P n fs) {i c : Int} (h : P i c) : DI P (n + 1) (put fs i c) := by
  unfold K54.put
  split
  · rename_i ha
    refine ⟨?_, fun ic hic => ?_, by rw [List.length_map]; have := d.len; omega⟩
    · rw [List.map_map]
      have : ((fun ic : Int × Int => ic.1) ∘ fun ic => if ic.1 = i then (ic.1, c) else ic) = fun ic => ic.1 := by funext ic; show (if ic.1 = i then (ic.1, c) else ic).1 = _; split <;> rfl
      rw [this]; exact d.nd
    · obtain ⟨jc, hj, e⟩ := List.mem_map.mp hic
      subst e
      by_cases hk : jc.1 = i
      · rw [if_pos hk]; show P jc.1 c; rw [hk]; exact h
      · rw [if_neg hk]; exact d.all jc hj
  · rename_i ha
    refine ⟨?_, fun ic hic => ?_, by rw [List.length_append, List.length_singleton]; have := d.len; omega⟩
    · rw [List.map_append, List.nodup_append]
      refine ⟨d.nd, by simp, fun a ha1 b hb => ?_⟩
      simp at hb
      subst hb
      intro e
      subst e
      obtain ⟨jc, hj, e⟩ := List.mem_map.mp ha1
      exact ha (List.any_eq_true.mpr ⟨jc, hj, by simpa using e⟩)
    · rcases List.mem_append.mp hic with z | z
      · exact d.all ic z
      · simp at z; subst z; exact h
theorem DI.look {P : Int → Int → Prop} {n : Nat} {fs : List (Int × Int)} (d : DI P n fs) (i : Int) : lk fs i = none ∨ ∃ c, lk fs i = some c ∧ P i c := by
  unfold lk
  cases h : fs.find? fun ic => decide (ic.1 = i) with
  | none => exact .inl rfl
  | some ic =>
    refine .inr ⟨ic.2, rfl, ?_⟩
    have e : ic.1 = i := by simpa using List.find?_some h
    rw [← e]
    exact d.all ic (List.mem_of_find?_eq_some h)
theorem lk_mem {fs : List (Int × Int)} {i : Int} (h : i ∈ fs.map (·.1)) : ∃ c, lk fs i = some c := by
  unfold lk
  cases e : fs.find? fun ic => decide (ic.1 = i) with
  | some ic => exact ⟨ic.2, rfl⟩
  | none =>
    obtain ⟨jc, hj, e2⟩ := List.mem_map.mp h
    have := List.find?_eq_none.mp e jc hj
    simp at this
    exact absurd e2 this
theorem pairs_dI (fs : List (Int × Int)) : pairsOf (fs.map pr) = some (fs.map fun ic => ((.inl ic.1 : Key), PyData.int ic.2)) := by
  induction fs with
  | nil => rfl
  | cons a r ih =>
    rw [List.map_cons]
    show pairsOf (.tuple [.int a.1, .int a.2] :: r.map pr) = _
    unfold pairsOf
    rw [ih]
    rfl
theorem items_dI (fs : List (Int × Int)) : ((dI fs).map fun kv => PyData.tuple [kv.1, kv.2]) = fs.map pr := by unfold dI; rw [List.map_map]; rfl
theorem DI.merge {P : Int → Int → Prop} : ∀ (as fs : List (Int × Int)) {n : Nat}, DI P n fs → (∀ ic ∈ as, P ic.1 ic.2) → ∃ gs, mergeD (dI fs) (as.map fun ic => ((.inl ic.1 : Key), PyData.int ic.2)) = dI gs ∧ DI P (n + as.length) gs
  | [], fs, n, d, _ => ⟨fs, rfl, d⟩
  | a :: as, fs, n, d, h => by
    obtain ⟨gs, e, d2⟩ := DI.merge as (K54.put fs a.1 a.2) (d.put (h a List.mem_cons_self)) fun ic hic => h ic (List.mem_cons_of_mem _ hic)
    refine ⟨gs, ?_, by rw [List.length_cons, show n + (as.length + 1) = n + 1 + as.length by omega]; exact d2⟩
    rw [← e]
    show mergeD (dput (dI fs) (.inl a.1) (.int a.2)) _ = _
    rw [dput_dI]
theorem keys_dI (fs : List (Int × Int)) : (dI fs).map (·.1) = (fs.map (·.1)).map PyData.int := by unfold dI; rw [List.map_map, List.map_map]; rfl
theorem isort_lt {ns : List Int} (h : ns.Nodup) : (isort ns).Pairwise (· < ·) ∧ (isort ns).Perm ns := by
  have hp : (isort ns).Perm ns := List.mergeSort_perm ns _
  have hs : (isort ns).Pairwise (· ≤ ·) := by
    have := List.pairwise_mergeSort (le := fun a b : Int => decide (a ≤ b)) (by intro a b c; simp; omega) (by intro a b; simp; omega) ns
    exact this.imp (by simp)
  have hn : (isort ns).Nodup := hp.nodup_iff.mpr h
  exact ⟨hs.imp₂ (fun h1 h2 => by omega) hn, hp⟩
/-- the pairs by growing key -/
def outs (fs : List (Int × Int)) : List (Int × Int) := (isort (fs.map (·.1))).map fun i => (i, (lk fs i).getD 0)
theorem outs_ok {P : Int → Int → Prop} {n : Nat} {fs : List (Int × Int)} (d : DI P n fs) : (outs fs).Pairwise (fun a b => a.1 < b.1) ∧ (∀ ic ∈ outs fs, P ic.1 ic.2) ∧ (outs fs).length ≤ n := by
  obtain ⟨h1, h2⟩ := isort_lt d.nd
  refine ⟨List.pairwise_map.mpr (h1.imp fun h => h), fun ic hic => ?_, ?_⟩
  · obtain ⟨i, hi, e⟩ := List.mem_map.mp hic
    subst e
    obtain ⟨c, hc⟩ := lk_mem (h2.mem_iff.mp hi)
    rcases d.look i with z | ⟨c2, e2, hp⟩
    · rw [hc] at z; cases z
    · show P i ((lk fs i).getD 0)
      rw [e2]; exact hp
  · unfold outs
    rw [List.length_map, h2.length_eq, List.length_map]
    exact d.len
end K54
end Cal
set_option Elab.async false
set_option linter.all false
set_option maxRecDepth 100000
set_option maxHeartbeats 4000000
namespace Cal
namespace K54
open PySem PySem.Spec PyProof.Rows L2
structure PB (lo hi : Int) (B n : Nat) (ps : List (Int × Int)) : Prop where
  srt : ps.Pairwise fun a b => a.1 < b.1
  rng : ∀ ic ∈ ps, lo ≤ ic.1 ∧ ic.1 ≤ hi
  nz : ∀ ic ∈ ps, ic.2 ≠ 0
  big : ∀ ic ∈ ps, ic.2.natAbs ≤ B
  len : ps.length ≤ n
theorem PB.pows {lo hi : Int} {B n : Nat} {ps : List (Int × Int)} (h : PB lo hi B n ps) (h1 : -4 ≤ lo) (h2 : hi ≤ 4) (h3 : B ≤ 2 ^ 300) (h4 : n ≤ 9) : Pows ps :=
  ⟨h.srt, fun ic hic => by have := h.rng ic hic; omega, h.nz, fun ic hic => Nat.le_trans (h.big ic hic) h3, Nat.le_trans h.len h4⟩
def spPowers : Spec := fun ws Q => ws = [.src] ∧ ∀ ps, PB (-4) 3 100 4 ps → Q (.d (pD ps))
def Pp (lo hi : Int) (B : Nat) : Int → Int → Prop := fun i c => lo ≤ i ∧ i ≤ hi ∧ c ≠ 0 ∧ c.natAbs ≤ B
theorem DI.pb {lo hi : Int} {B n : Nat} {fs : List (Int × Int)} (d : DI (Pp lo hi B) n fs) : PB lo hi B n (outs fs) := by
  obtain ⟨h1, h2, h3⟩ := outs_ok d
  exact ⟨h1, fun ic hic => ⟨(h2 ic hic).1, (h2 ic hic).2.1⟩, fun ic hic => (h2 ic hic).2.2.1, fun ic hic => (h2 ic hic).2.2.2, h3⟩
theorem w__law_powers {Γ : Gam} (hpk : Γ "_law_pick" = some spPick) (hof : Γ "_law_of" = some spOf) (ws : List W) (Q : W → Prop) (h : spPowers ws Q) : wpSs Γ T__law_powers (startC N__law_powers ws) { nx := fun _ => Q (.d .none), rt := Q } := by
  obtain ⟨rfl, h⟩ := h
  (repeat (first | refine ok_intro rfl ?_ | refine Or.inl (ok_intro rfl (ok_intro rfl ?_)) | refine Or.inl (ok_intro rfl ?_) | refine Or.inr (ok_intro rfl ?_) | refine Or.inr (Or.inl (ok_intro rfl (ok_intro rfl ?_))) | refine Or.inr (Or.inr (ok_intro rfl (ok_intro rfl ?_))) | refine And.intro (rfl : W.view _ = false) ?_ | (refine And.intro eqOk_int ?_; rw [eqv_int]) | (refine And.intro eqOk_bool ?_; rw [eqv_bool]) | refine And.intro (rfl : W.own _ = true) ?_ | refine And.intro (rfl : W.own _ = false) ?_ | refine And.intro (rfl : Option.isSome _ = true) ?_ | refine And.intro (lt_len rfl) ?_ | refine And.intro (rfl : ([] : List PyData) = []) ?_ | refine And.intro (size_ok (Nat.le_of_ble_eq_true rfl)) ?_ | refine And.intro (rfl : W.gives _ = true) ?_ | refine And.intro (rfl : List.all _ W.arg = true) ?_))
  refine ok_intro hpk ?_
  refine ⟨5, rfl, by decide, fun v hv => ⟨rfl, ?_⟩⟩
  (repeat (first | refine ok_intro rfl ?_ | refine Or.inl (ok_intro rfl (ok_intro rfl ?_)) | refine Or.inl (ok_intro rfl ?_) | refine Or.inr (ok_intro rfl ?_) | refine Or.inr (Or.inl (ok_intro rfl (ok_intro rfl ?_))) | refine Or.inr (Or.inr (ok_intro rfl (ok_intro rfl ?_))) | refine And.intro (rfl : W.view _ = false) ?_ | (refine And.intro eqOk_int ?_; rw [eqv_int]) | (refine And.intro eqOk_bool ?_; rw [eqv_bool]) | refine And.intro (rfl : W.own _ = true) ?_ | refine And.intro (rfl : W.own _ = false) ?_ | refine And.intro (rfl : Option.isSome _ = true) ?_ | refine And.intro (lt_len rfl) ?_ | refine And.intro (rfl : ([] : List PyData) = []) ?_ | refine And.intro (size_ok (Nat.le_of_ble_eq_true rfl)) ?_ | refine And.intro (rfl : W.gives _ = true) ?_ | refine And.intro (rfl : List.all _ W.arg = true) ?_))
  refine ⟨⟨by omega, by omega⟩, ?_⟩
  refine forW_inv _ (fun pre e => ∃ fs t, DI (Pp (-4) 3 100) pre.length fs ∧ e = [some .src, some (.dct (dI fs)), t, none]) ⟨[], none, DI.nil, rfl⟩ ?_ ?_
  · rintro pre x suf e k hx ⟨fs, t, d, rfl⟩ hk
    (repeat (first | refine ok_intro rfl ?_ | refine Or.inl (ok_intro rfl (ok_intro rfl ?_)) | refine Or.inl (ok_intro rfl ?_) | refine Or.inr (ok_intro rfl ?_) | refine Or.inr (Or.inl (ok_intro rfl (ok_intro rfl ?_))) | refine Or.inr (Or.inr (ok_intro rfl (ok_intro rfl ?_))) | refine And.intro (rfl : W.view _ = false) ?_ | (refine And.intro eqOk_int ?_; rw [eqv_int]) | (refine And.intro eqOk_bool ?_; rw [eqv_bool]) | refine And.intro (rfl : W.own _ = true) ?_ | refine And.intro (rfl : W.own _ = false) ?_ | refine And.intro (rfl : Option.isSome _ = true) ?_ | refine And.intro (lt_len rfl) ?_ | refine And.intro (rfl : ([] : List PyData) = []) ?_ | refine And.intro (size_ok (Nat.le_of_ble_eq_true rfl)) ?_ | refine And.intro (rfl : W.gives _ = true) ?_ | refine And.intro (rfl : List.all _ W.arg = true) ?_))
    refine ok_intro hof ?_
    refine ⟨([1, -1, 2, -2, 3, -3, -4, 6, 8, -8, 12, -20, 100, -100] : List Int).map PyData.int, rfl, by decide, by decide, fun y hy => ⟨rfl, ?_⟩⟩
    obtain ⟨c, hc, rfl⟩ := List.mem_map.mp hy
    have hc2 : c ≠ 0 ∧ c.natAbs ≤ 100 := (show ∀ c ∈ ([1, -1, 2, -2, 3, -3, -4, 6, 8, -8, 12, -20, 100, -100] : List Int), c ≠ 0 ∧ c.natAbs ≤ 100 by decide) c hc
    (repeat (first | refine ok_intro rfl ?_ | refine Or.inl (ok_intro rfl (ok_intro rfl ?_)) | refine Or.inl (ok_intro rfl ?_) | refine Or.inr (ok_intro rfl ?_) | refine Or.inr (Or.inl (ok_intro rfl (ok_intro rfl ?_))) | refine Or.inr (Or.inr (ok_intro rfl (ok_intro rfl ?_))) | refine And.intro (rfl : W.view _ = false) ?_ | (refine And.intro eqOk_int ?_; rw [eqv_int]) | (refine And.intro eqOk_bool ?_; rw [eqv_bool]) | refine And.intro (rfl : W.own _ = true) ?_ | refine And.intro (rfl : W.own _ = false) ?_ | refine And.intro (rfl : Option.isSome _ = true) ?_ | refine And.intro (lt_len rfl) ?_ | refine And.intro (rfl : ([] : List PyData) = []) ?_ | refine And.intro (size_ok (Nat.le_of_ble_eq_true rfl)) ?_ | refine And.intro (rfl : W.gives _ = true) ?_ | refine And.intro (rfl : List.all _ W.arg = true) ?_))
    refine ok_intro hpk ?_
    refine ⟨8, rfl, by decide, fun u hu => ⟨rfl, ?_⟩⟩
    (repeat (first | refine ok_intro rfl ?_ | refine Or.inl (ok_intro rfl (ok_intro rfl ?_)) | refine Or.inl (ok_intro rfl ?_) | refine Or.inr (ok_intro rfl ?_) | refine Or.inr (Or.inl (ok_intro rfl (ok_intro rfl ?_))) | refine Or.inr (Or.inr (ok_intro rfl (ok_intro rfl ?_))) | refine And.intro (rfl : W.view _ = false) ?_ | (refine And.intro eqOk_int ?_; rw [eqv_int]) | (refine And.intro eqOk_bool ?_; rw [eqv_bool]) | refine And.intro (rfl : W.own _ = true) ?_ | refine And.intro (rfl : W.own _ = false) ?_ | refine And.intro (rfl : Option.isSome _ = true) ?_ | refine And.intro (lt_len rfl) ?_ | refine And.intro (rfl : ([] : List PyData) = []) ?_ | refine And.intro (size_ok (Nat.le_of_ble_eq_true rfl)) ?_ | refine And.intro (rfl : W.gives _ = true) ?_ | refine And.intro (rfl : List.all _ W.arg = true) ?_))
    have hlen : (rngD 0 (v : Int)).length = v := by simp [rngD]
    have hpl : pre.length < v := by rw [hx] at hlen; simp at hlen; omega
    refine ⟨by have := d.len; simp [dI, sizeLine_eq]; omega, ?_⟩
    refine hk _ ⟨put fs ((u : Int) - 4) c, _, ?_, by rw [dput_dI]; rfl⟩
    rw [List.length_append, List.length_singleton]
    exact d.put ⟨by omega, by omega, hc2.1, hc2.2⟩
  · rintro e ⟨fs, t, d, rfl⟩
    have hlen : (rngD 0 (v : Int)).length = v := by simp [rngD]
    rw [hlen] at d
    have d4 : DI (Pp (-4) 3 100) 4 fs := d.mono (fun _ _ h => h) (by omega)
    (repeat (first | refine ok_intro rfl ?_ | refine Or.inl (ok_intro rfl (ok_intro rfl ?_)) | refine Or.inl (ok_intro rfl ?_) | refine Or.inr (ok_intro rfl ?_) | refine Or.inr (Or.inl (ok_intro rfl (ok_intro rfl ?_))) | refine Or.inr (Or.inr (ok_intro rfl (ok_intro rfl ?_))) | refine And.intro (rfl : W.view _ = false) ?_ | (refine And.intro eqOk_int ?_; rw [eqv_int]) | (refine And.intro eqOk_bool ?_; rw [eqv_bool]) | refine And.intro (rfl : W.own _ = true) ?_ | refine And.intro (rfl : W.own _ = false) ?_ | refine And.intro (rfl : Option.isSome _ = true) ?_ | refine And.intro (lt_len rfl) ?_ | refine And.intro (rfl : ([] : List PyData) = []) ?_ | refine And.intro (size_ok (Nat.le_of_ble_eq_true rfl)) ?_ | refine And.intro (rfl : W.gives _ = true) ?_ | refine And.intro (rfl : List.all _ W.arg = true) ?_))
    rw [keys_dI]
    refine ok_intro (intsOf_map _) ⟨by have := d4.len; rw [List.length_map]; omega, ?_⟩
    (repeat (first | refine ok_intro rfl ?_ | refine Or.inl (ok_intro rfl (ok_intro rfl ?_)) | refine Or.inl (ok_intro rfl ?_) | refine Or.inr (ok_intro rfl ?_) | refine Or.inr (Or.inl (ok_intro rfl (ok_intro rfl ?_))) | refine Or.inr (Or.inr (ok_intro rfl (ok_intro rfl ?_))) | refine And.intro (rfl : W.view _ = false) ?_ | (refine And.intro eqOk_int ?_; rw [eqv_int]) | (refine And.intro eqOk_bool ?_; rw [eqv_bool]) | refine And.intro (rfl : W.own _ = true) ?_ | refine And.intro (rfl : W.own _ = false) ?_ | refine And.intro (rfl : Option.isSome _ = true) ?_ | refine And.intro (lt_len rfl) ?_ | refine And.intro (rfl : ([] : List PyData) = []) ?_ | refine And.intro (size_ok (Nat.le_of_ble_eq_true rfl)) ?_ | refine And.intro (rfl : W.gives _ = true) ?_ | refine And.intro (rfl : List.all _ W.arg = true) ?_))
    refine ⟨rfl, ?_⟩
    have hpm := (isort_lt d.nd).2
    refine compW_enc PyData.int (fun i => some (pr (i, (lk fs i).getD 0))) (isort (fs.map (·.1))) [] (fun i hi k hk => ?_) (size_ok (by have := d4.len; rw [hpm.length_eq]; simp; omega)) ?_
    · obtain ⟨c, hc⟩ := lk_mem (hpm.mem_iff.mp hi)
      (repeat (first | refine ok_intro rfl ?_ | refine Or.inl (ok_intro rfl (ok_intro rfl ?_)) | refine Or.inl (ok_intro rfl ?_) | refine Or.inr (ok_intro rfl ?_) | refine Or.inr (Or.inl (ok_intro rfl (ok_intro rfl ?_))) | refine Or.inr (Or.inr (ok_intro rfl (ok_intro rfl ?_))) | refine And.intro (rfl : W.view _ = false) ?_ | (refine And.intro eqOk_int ?_; rw [eqv_int]) | (refine And.intro eqOk_bool ?_; rw [eqv_bool]) | refine And.intro (rfl : W.own _ = true) ?_ | refine And.intro (rfl : W.own _ = false) ?_ | refine And.intro (rfl : Option.isSome _ = true) ?_ | refine And.intro (lt_len rfl) ?_ | refine And.intro (rfl : ([] : List PyData) = []) ?_ | refine And.intro (size_ok (Nat.le_of_ble_eq_true rfl)) ?_ | refine And.intro (rfl : W.gives _ = true) ?_ | refine And.intro (rfl : List.all _ W.arg = true) ?_))
      refine ⟨rfl, ite_t ?_⟩
      (repeat (first | refine ok_intro rfl ?_ | refine Or.inl (ok_intro rfl (ok_intro rfl ?_)) | refine Or.inl (ok_intro rfl ?_) | refine Or.inr (ok_intro rfl ?_) | refine Or.inr (Or.inl (ok_intro rfl (ok_intro rfl ?_))) | refine Or.inr (Or.inr (ok_intro rfl (ok_intro rfl ?_))) | refine And.intro (rfl : W.view _ = false) ?_ | (refine And.intro eqOk_int ?_; rw [eqv_int]) | (refine And.intro eqOk_bool ?_; rw [eqv_bool]) | refine And.intro (rfl : W.own _ = true) ?_ | refine And.intro (rfl : W.own _ = false) ?_ | refine And.intro (rfl : Option.isSome _ = true) ?_ | refine And.intro (lt_len rfl) ?_ | refine And.intro (rfl : ([] : List PyData) = []) ?_ | refine And.intro (size_ok (Nat.le_of_ble_eq_true rfl)) ?_ | refine And.intro (rfl : W.gives _ = true) ?_ | refine And.intro (rfl : List.all _ W.arg = true) ?_))
      refine ok_intro (show dlook (dI fs) (.inl i) = some (.int c) by rw [dlook_dI, hc]; rfl) ?_
      (repeat (first | refine ok_intro rfl ?_ | refine Or.inl (ok_intro rfl (ok_intro rfl ?_)) | refine Or.inl (ok_intro rfl ?_) | refine Or.inr (ok_intro rfl ?_) | refine Or.inr (Or.inl (ok_intro rfl (ok_intro rfl ?_))) | refine Or.inr (Or.inr (ok_intro rfl (ok_intro rfl ?_))) | refine And.intro (rfl : W.view _ = false) ?_ | (refine And.intro eqOk_int ?_; rw [eqv_int]) | (refine And.intro eqOk_bool ?_; rw [eqv_bool]) | refine And.intro (rfl : W.own _ = true) ?_ | refine And.intro (rfl : W.own _ = false) ?_ | refine And.intro (rfl : Option.isSome _ = true) ?_ | refine And.intro (lt_len rfl) ?_ | refine And.intro (rfl : ([] : List PyData) = []) ?_ | refine And.intro (size_ok (Nat.le_of_ble_eq_true rfl)) ?_ | refine And.intro (rfl : W.gives _ = true) ?_ | refine And.intro (rfl : List.all _ W.arg = true) ?_))
      rw [hc] at hk
      exact ⟨rfl, hk⟩
    rw [List.nil_append, filterMap_some]
    have e2 : ((isort (fs.map (·.1))).map fun i => pr (i, (lk fs i).getD 0)) = (outs fs).map pr := by unfold outs; rw [List.map_map]; rfl
    rw [e2]
    (repeat (first | refine ok_intro rfl ?_ | refine Or.inl (ok_intro rfl (ok_intro rfl ?_)) | refine Or.inl (ok_intro rfl ?_) | refine Or.inr (ok_intro rfl ?_) | refine Or.inr (Or.inl (ok_intro rfl (ok_intro rfl ?_))) | refine Or.inr (Or.inr (ok_intro rfl (ok_intro rfl ?_))) | refine And.intro (rfl : W.view _ = false) ?_ | (refine And.intro eqOk_int ?_; rw [eqv_int]) | (refine And.intro eqOk_bool ?_; rw [eqv_bool]) | refine And.intro (rfl : W.own _ = true) ?_ | refine And.intro (rfl : W.own _ = false) ?_ | refine And.intro (rfl : Option.isSome _ = true) ?_ | refine And.intro (lt_len rfl) ?_ | refine And.intro (rfl : ([] : List PyData) = []) ?_ | refine And.intro (size_ok (Nat.le_of_ble_eq_true rfl)) ?_ | refine And.intro (rfl : W.gives _ = true) ?_ | refine And.intro (rfl : List.all _ W.arg = true) ?_))
    exact h _ d4.pb
end K54
end Cal
set_option Elab.async false
set_option linter.all false
set_option maxRecDepth 100000
set_option maxHeartbeats 4000000
namespace Cal
namespace K54
open PySem PySem.Spec PyProof.Rows L2
def Pz (lo hi : Int) (B : Nat) : Int → Int → Prop := fun i c => lo ≤ i ∧ i ≤ hi ∧ c.natAbs ≤ B
def outz (fs : List (Int × Int)) : List (Int × Int) := (outs fs).filter fun ic => !decide (ic.2 = 0)
theorem DI.pbz {lo hi : Int} {B n : Nat} {fs : List (Int × Int)} (d : DI (Pz lo hi B) n fs) : PB lo hi B n (outz fs) := by
  obtain ⟨h1, h2, h3⟩ := outs_ok d
  refine ⟨h1.sublist List.filter_sublist, fun ic hic => ?_, fun ic hic => ?_, fun ic hic => ?_, Nat.le_trans (List.length_filter_le _ _) h3⟩
  · have := h2 ic (List.mem_filter.mp hic).1; exact ⟨this.1, this.2.1⟩
  · have := (List.mem_filter.mp hic).2; simpa using this
  · exact (h2 ic (List.mem_filter.mp hic).1).2.2
theorem getD_dI (gs : List (Int × Int)) (i : Int) : (dlook (dI gs) (.inl i)).getD (.int 0) = .int ((lk gs i).getD 0) := by
  rw [dlook_dI]
  cases lk gs i <;> rfl
theorem DI.getD {lo hi : Int} {B n : Nat} {fs : List (Int × Int)} (d : DI (Pz lo hi B) n fs) (i : Int) : ((lk fs i).getD 0).natAbs ≤ B := by
  rcases d.look i with z | ⟨c, e, hp⟩
  · rw [z]; exact Nat.zero_le _
  · rw [e]; exact hp.2.2
theorem outz_map (fs : List (Int × Int)) (f : Int × Int → PyData) : (isort (fs.map (·.1))).filterMap (fun i => if (!decide ((lk fs i).getD 0 = 0)) = true then some (f (i, (lk fs i).getD 0)) else none) = (outz fs).map f := by
  rw [filterMap_if (fun i => !decide ((lk fs i).getD 0 = 0)) fun i => f (i, (lk fs i).getD 0)]
  unfold outz outs
  rw [List.filter_map, List.map_map]
  rfl
def spLess : Spec := fun ws Q => ∃ (ps : List (Int × Int)) (x : Int), ws = [.d (pD ps), .d (pD [(4, -1), (3, x)])] ∧ PB (-4) 3 100 4 ps ∧ x.natAbs ≤ 1000000000 ∧ ∀ o, PB (-4) 4 2000000100 6 o → Q (.d (pD o))
theorem w__law_less {Γ : Gam} (ws : List W) (Q : W → Prop) (h : spLess ws Q) : wpSs Γ T__law_less (startC N__law_less ws) { nx := fun _ => Q (.d .none), rt := Q } := by
  obtain ⟨ps, x, rfl, hps, hx, h⟩ := h
  generalize hbs : [((4 : Int), (-1 : Int)), (3, x)] = bs
  (repeat (first | refine ok_intro rfl ?_ | refine Or.inl (ok_intro rfl (ok_intro rfl ?_)) | refine Or.inl (ok_intro rfl ?_) | refine Or.inr (ok_intro rfl ?_) | refine Or.inr (Or.inl (ok_intro rfl (ok_intro rfl ?_))) | refine Or.inr (Or.inr (ok_intro rfl (ok_intro rfl ?_))) | refine And.intro (rfl : W.view _ = false) ?_ | (refine And.intro eqOk_int ?_; rw [eqv_int]) | (refine And.intro eqOk_bool ?_; rw [eqv_bool]) | refine And.intro (rfl : W.own _ = true) ?_ | refine And.intro (rfl : W.own _ = false) ?_ | refine And.intro (rfl : Option.isSome _ = true) ?_ | refine And.intro (lt_len rfl) ?_ | refine And.intro (rfl : ([] : List PyData) = []) ?_ | refine And.intro (size_ok (Nat.le_of_ble_eq_true rfl)) ?_ | refine And.intro (rfl : W.gives _ = true) ?_ | refine And.intro (rfl : List.all _ W.arg = true) ?_))
  refine ok_intro (pairs_dI ps) ?_
  refine ⟨size_ok (by have := hps.len; simp; omega), ?_⟩
  obtain ⟨fs, ef, df⟩ := DI.merge (P := Pz (-4) 4 100) ps [] (n := 0) DI.nil fun ic hic => by have := hps.rng ic hic; exact ⟨by omega, by omega, hps.big ic hic⟩
  have ef : mergeD [] (ps.map fun ic => ((.inl ic.1 : Key), PyData.int ic.2)) = dI fs := ef
  rw [ef]
  have d0 : DI (Pz (-4) 4 100) 4 fs := df.mono (fun _ _ h => h) (by have := hps.len; omega)
  (repeat (first | refine ok_intro rfl ?_ | refine Or.inl (ok_intro rfl (ok_intro rfl ?_)) | refine Or.inl (ok_intro rfl ?_) | refine Or.inr (ok_intro rfl ?_) | refine Or.inr (Or.inl (ok_intro rfl (ok_intro rfl ?_))) | refine Or.inr (Or.inr (ok_intro rfl (ok_intro rfl ?_))) | refine And.intro (rfl : W.view _ = false) ?_ | (refine And.intro eqOk_int ?_; rw [eqv_int]) | (refine And.intro eqOk_bool ?_; rw [eqv_bool]) | refine And.intro (rfl : W.own _ = true) ?_ | refine And.intro (rfl : W.own _ = false) ?_ | refine And.intro (rfl : Option.isSome _ = true) ?_ | refine And.intro (lt_len rfl) ?_ | refine And.intro (rfl : ([] : List PyData) = []) ?_ | refine And.intro (size_ok (Nat.le_of_ble_eq_true rfl)) ?_ | refine And.intro (rfl : W.gives _ = true) ?_ | refine And.intro (rfl : List.all _ W.arg = true) ?_))
  refine forW_enc pr bs (fun pre e => ∃ gs t u, DI (Pz (-4) 4 (100 + pre.length * 1000000000)) (4 + pre.length) gs ∧ e = [some (.d (pD ps)), some (.d (pD bs)), some (.dct (dI gs)), t, u]) ⟨fs, none, none, d0, rfl⟩ ?_ ?_
  · rintro pre ic suf e k hxx ⟨gs, t, u, d, rfl⟩ hk
    rw [← hbs] at hxx
    have hic : ic ∈ [((4 : Int), (-1 : Int)), (3, x)] := by rw [hxx]; simp
    have hic2 : -4 ≤ ic.1 ∧ ic.1 ≤ 4 ∧ ic.2.natAbs ≤ 1000000000 := by
      simp at hic
      rcases hic with e | e <;> subst e
      · exact ⟨by decide, by decide, by decide⟩
      · exact ⟨(by decide : (-4 : Int) ≤ 3), (by decide : (3 : Int) ≤ 4), hx⟩
    have hpl : pre.length ≤ 2 := by have := congrArg List.length hxx; simp at this; omega
    (repeat (first | refine ok_intro rfl ?_ | refine Or.inl (ok_intro rfl (ok_intro rfl ?_)) | refine Or.inl (ok_intro rfl ?_) | refine Or.inr (ok_intro rfl ?_) | refine Or.inr (Or.inl (ok_intro rfl (ok_intro rfl ?_))) | refine Or.inr (Or.inr (ok_intro rfl (ok_intro rfl ?_))) | refine And.intro (rfl : W.view _ = false) ?_ | (refine And.intro eqOk_int ?_; rw [eqv_int]) | (refine And.intro eqOk_bool ?_; rw [eqv_bool]) | refine And.intro (rfl : W.own _ = true) ?_ | refine And.intro (rfl : W.own _ = false) ?_ | refine And.intro (rfl : Option.isSome _ = true) ?_ | refine And.intro (lt_len rfl) ?_ | refine And.intro (rfl : ([] : List PyData) = []) ?_ | refine And.intro (size_ok (Nat.le_of_ble_eq_true rfl)) ?_ | refine And.intro (rfl : W.gives _ = true) ?_ | refine And.intro (rfl : List.all _ W.arg = true) ?_))
    rw [getD_dI]
    (repeat (first | refine ok_intro rfl ?_ | refine Or.inl (ok_intro rfl (ok_intro rfl ?_)) | refine Or.inl (ok_intro rfl ?_) | refine Or.inr (ok_intro rfl ?_) | refine Or.inr (Or.inl (ok_intro rfl (ok_intro rfl ?_))) | refine Or.inr (Or.inr (ok_intro rfl (ok_intro rfl ?_))) | refine And.intro (rfl : W.view _ = false) ?_ | (refine And.intro eqOk_int ?_; rw [eqv_int]) | (refine And.intro eqOk_bool ?_; rw [eqv_bool]) | refine And.intro (rfl : W.own _ = true) ?_ | refine And.intro (rfl : W.own _ = false) ?_ | refine And.intro (rfl : Option.isSome _ = true) ?_ | refine And.intro (lt_len rfl) ?_ | refine And.intro (rfl : ([] : List PyData) = []) ?_ | refine And.intro (size_ok (Nat.le_of_ble_eq_true rfl)) ?_ | refine And.intro (rfl : W.gives _ = true) ?_ | refine And.intro (rfl : List.all _ W.arg = true) ?_))
    refine ⟨by have := d.len; simp [dI, sizeLine_eq]; omega, ?_⟩
    refine hk _ ⟨put gs ic.1 ((lk gs ic.1).getD 0 - ic.2), _, _, ?_, by rw [dput_dI]; rfl⟩
    rw [List.length_append, List.length_singleton]
    have hg := d.getD ic.1
    refine (DI.put (P := Pz (-4) 4 (100 + (pre.length + 1) * 1000000000)) (d.mono (fun i c h => ⟨h.1, h.2.1, Nat.le_trans h.2.2 (by omega)⟩) (Nat.le_refl _)) ⟨hic2.1, hic2.2.1, by omega⟩)
  · rintro e ⟨gs, t, u, d, rfl⟩
    rw [← hbs] at d
    (repeat (first | refine ok_intro rfl ?_ | refine Or.inl (ok_intro rfl (ok_intro rfl ?_)) | refine Or.inl (ok_intro rfl ?_) | refine Or.inr (ok_intro rfl ?_) | refine Or.inr (Or.inl (ok_intro rfl (ok_intro rfl ?_))) | refine Or.inr (Or.inr (ok_intro rfl (ok_intro rfl ?_))) | refine And.intro (rfl : W.view _ = false) ?_ | (refine And.intro eqOk_int ?_; rw [eqv_int]) | (refine And.intro eqOk_bool ?_; rw [eqv_bool]) | refine And.intro (rfl : W.own _ = true) ?_ | refine And.intro (rfl : W.own _ = false) ?_ | refine And.intro (rfl : Option.isSome _ = true) ?_ | refine And.intro (lt_len rfl) ?_ | refine And.intro (rfl : ([] : List PyData) = []) ?_ | refine And.intro (size_ok (Nat.le_of_ble_eq_true rfl)) ?_ | refine And.intro (rfl : W.gives _ = true) ?_ | refine And.intro (rfl : List.all _ W.arg = true) ?_))
    rw [keys_dI]
    refine ok_intro (intsOf_map _) ⟨by have := d.len; simp at this; rw [List.length_map]; omega, ?_⟩
    (repeat (first | refine ok_intro rfl ?_ | refine Or.inl (ok_intro rfl (ok_intro rfl ?_)) | refine Or.inl (ok_intro rfl ?_) | refine Or.inr (ok_intro rfl ?_) | refine Or.inr (Or.inl (ok_intro rfl (ok_intro rfl ?_))) | refine Or.inr (Or.inr (ok_intro rfl (ok_intro rfl ?_))) | refine And.intro (rfl : W.view _ = false) ?_ | (refine And.intro eqOk_int ?_; rw [eqv_int]) | (refine And.intro eqOk_bool ?_; rw [eqv_bool]) | refine And.intro (rfl : W.own _ = true) ?_ | refine And.intro (rfl : W.own _ = false) ?_ | refine And.intro (rfl : Option.isSome _ = true) ?_ | refine And.intro (lt_len rfl) ?_ | refine And.intro (rfl : ([] : List PyData) = []) ?_ | refine And.intro (size_ok (Nat.le_of_ble_eq_true rfl)) ?_ | refine And.intro (rfl : W.gives _ = true) ?_ | refine And.intro (rfl : List.all _ W.arg = true) ?_))
    refine ⟨rfl, ?_⟩
    have hpm := (isort_lt d.nd).2
    refine compW_enc PyData.int (fun i => if (!decide ((lk gs i).getD 0 = 0)) = true then some (pr (i, (lk gs i).getD 0)) else none) (isort (gs.map (·.1))) [] (fun i hi k hk => ?_) (size_ok (by have := d.len; simp at this; rw [hpm.length_eq]; simp; omega)) ?_
    · obtain ⟨c, hc⟩ := lk_mem (hpm.mem_iff.mp hi)
      rw [hc] at hk
      (repeat (first | refine ok_intro rfl ?_ | refine Or.inl (ok_intro rfl (ok_intro rfl ?_)) | refine Or.inl (ok_intro rfl ?_) | refine Or.inr (ok_intro rfl ?_) | refine Or.inr (Or.inl (ok_intro rfl (ok_intro rfl ?_))) | refine Or.inr (Or.inr (ok_intro rfl (ok_intro rfl ?_))) | refine And.intro (rfl : W.view _ = false) ?_ | (refine And.intro eqOk_int ?_; rw [eqv_int]) | (refine And.intro eqOk_bool ?_; rw [eqv_bool]) | refine And.intro (rfl : W.own _ = true) ?_ | refine And.intro (rfl : W.own _ = false) ?_ | refine And.intro (rfl : Option.isSome _ = true) ?_ | refine And.intro (lt_len rfl) ?_ | refine And.intro (rfl : ([] : List PyData) = []) ?_ | refine And.intro (size_ok (Nat.le_of_ble_eq_true rfl)) ?_ | refine And.intro (rfl : W.gives _ = true) ?_ | refine And.intro (rfl : List.all _ W.arg = true) ?_))
      refine ok_intro (show dlook (dI gs) (.inl i) = some (.int c) by rw [dlook_dI, hc]; rfl) ?_
      (repeat (first | refine ok_intro rfl ?_ | refine Or.inl (ok_intro rfl (ok_intro rfl ?_)) | refine Or.inl (ok_intro rfl ?_) | refine Or.inr (ok_intro rfl ?_) | refine Or.inr (Or.inl (ok_intro rfl (ok_intro rfl ?_))) | refine Or.inr (Or.inr (ok_intro rfl (ok_intro rfl ?_))) | refine And.intro (rfl : W.view _ = false) ?_ | (refine And.intro eqOk_int ?_; rw [eqv_int]) | (refine And.intro eqOk_bool ?_; rw [eqv_bool]) | refine And.intro (rfl : W.own _ = true) ?_ | refine And.intro (rfl : W.own _ = false) ?_ | refine And.intro (rfl : Option.isSome _ = true) ?_ | refine And.intro (lt_len rfl) ?_ | refine And.intro (rfl : ([] : List PyData) = []) ?_ | refine And.intro (size_ok (Nat.le_of_ble_eq_true rfl)) ?_ | refine And.intro (rfl : W.gives _ = true) ?_ | refine And.intro (rfl : List.all _ W.arg = true) ?_))
      refine ⟨rfl, ?_⟩
      refine ite_ndec (fun hc0 => ?_) fun hc0 => ?_
      · (repeat (first | refine ok_intro rfl ?_ | refine Or.inl (ok_intro rfl (ok_intro rfl ?_)) | refine Or.inl (ok_intro rfl ?_) | refine Or.inr (ok_intro rfl ?_) | refine Or.inr (Or.inl (ok_intro rfl (ok_intro rfl ?_))) | refine Or.inr (Or.inr (ok_intro rfl (ok_intro rfl ?_))) | refine And.intro (rfl : W.view _ = false) ?_ | (refine And.intro eqOk_int ?_; rw [eqv_int]) | (refine And.intro eqOk_bool ?_; rw [eqv_bool]) | refine And.intro (rfl : W.own _ = true) ?_ | refine And.intro (rfl : W.own _ = false) ?_ | refine And.intro (rfl : Option.isSome _ = true) ?_ | refine And.intro (lt_len rfl) ?_ | refine And.intro (rfl : ([] : List PyData) = []) ?_ | refine And.intro (size_ok (Nat.le_of_ble_eq_true rfl)) ?_ | refine And.intro (rfl : W.gives _ = true) ?_ | refine And.intro (rfl : List.all _ W.arg = true) ?_))
        refine ok_intro (show dlook (dI gs) (.inl i) = some (.int c) by rw [dlook_dI, hc]; rfl) ?_
        (repeat (first | refine ok_intro rfl ?_ | refine Or.inl (ok_intro rfl (ok_intro rfl ?_)) | refine Or.inl (ok_intro rfl ?_) | refine Or.inr (ok_intro rfl ?_) | refine Or.inr (Or.inl (ok_intro rfl (ok_intro rfl ?_))) | refine Or.inr (Or.inr (ok_intro rfl (ok_intro rfl ?_))) | refine And.intro (rfl : W.view _ = false) ?_ | (refine And.intro eqOk_int ?_; rw [eqv_int]) | (refine And.intro eqOk_bool ?_; rw [eqv_bool]) | refine And.intro (rfl : W.own _ = true) ?_ | refine And.intro (rfl : W.own _ = false) ?_ | refine And.intro (rfl : Option.isSome _ = true) ?_ | refine And.intro (lt_len rfl) ?_ | refine And.intro (rfl : ([] : List PyData) = []) ?_ | refine And.intro (size_ok (Nat.le_of_ble_eq_true rfl)) ?_ | refine And.intro (rfl : W.gives _ = true) ?_ | refine And.intro (rfl : List.all _ W.arg = true) ?_))
        rw [if_pos (show (!decide ((some c).getD 0 = 0)) = true by simpa using hc0)] at hk
        exact ⟨rfl, hk⟩
      · rw [if_neg (show ¬ (!decide ((some c).getD 0 = 0)) = true by simpa using hc0)] at hk
        exact hk
    rw [List.nil_append, outz_map]
    (repeat (first | refine ok_intro rfl ?_ | refine Or.inl (ok_intro rfl (ok_intro rfl ?_)) | refine Or.inl (ok_intro rfl ?_) | refine Or.inr (ok_intro rfl ?_) | refine Or.inr (Or.inl (ok_intro rfl (ok_intro rfl ?_))) | refine Or.inr (Or.inr (ok_intro rfl (ok_intro rfl ?_))) | refine And.intro (rfl : W.view _ = false) ?_ | (refine And.intro eqOk_int ?_; rw [eqv_int]) | (refine And.intro eqOk_bool ?_; rw [eqv_bool]) | refine And.intro (rfl : W.own _ = true) ?_ | refine And.intro (rfl : W.own _ = false) ?_ | refine And.intro (rfl : Option.isSome _ = true) ?_ | refine And.intro (lt_len rfl) ?_ | refine And.intro (rfl : ([] : List PyData) = []) ?_ | refine And.intro (size_ok (Nat.le_of_ble_eq_true rfl)) ?_ | refine And.intro (rfl : W.gives _ = true) ?_ | refine And.intro (rfl : List.all _ W.arg = true) ?_))
    refine h _ (DI.mono (P' := Pz (-4) 4 2000000100) (n' := 6) d (fun i c h => ⟨h.1, h.2.1, Nat.le_trans h.2.2 (by simp)⟩) (by simp)).pbz
def spRooted : Spec := fun ws Q => ∃ p : Nat, ws = [.src, .d (.int p)] ∧ (p = 2 ∨ p = 3) ∧ ∀ o, PB (-3) 3 400000000 8 o → Q (.d (pD o))
theorem w__law_rooted {Γ : Gam} (hpk : Γ "_law_pick" = some spPick) (hof : Γ "_law_of" = some spOf) (hpw : Γ "_law_power" = some spPower) (ws : List W) (Q : W → Prop) (h : spRooted ws Q) : wpSs Γ T__law_rooted (startC N__law_rooted ws) { nx := fun _ => Q (.d .none), rt := Q } := by
  obtain ⟨p, rfl, hp, h⟩ := h
  have hp2 : ((p : Int)).natAbs ≤ 3 := by rcases hp with e | e <;> subst e <;> decide
  (repeat (first | refine ok_intro rfl ?_ | refine Or.inl (ok_intro rfl (ok_intro rfl ?_)) | refine Or.inl (ok_intro rfl ?_) | refine Or.inr (ok_intro rfl ?_) | refine Or.inr (Or.inl (ok_intro rfl (ok_intro rfl ?_))) | refine Or.inr (Or.inr (ok_intro rfl (ok_intro rfl ?_))) | refine And.intro (rfl : W.view _ = false) ?_ | (refine And.intro eqOk_int ?_; rw [eqv_int]) | (refine And.intro eqOk_bool ?_; rw [eqv_bool]) | refine And.intro (rfl : W.own _ = true) ?_ | refine And.intro (rfl : W.own _ = false) ?_ | refine And.intro (rfl : Option.isSome _ = true) ?_ | refine And.intro (lt_len rfl) ?_ | refine And.intro (rfl : ([] : List PyData) = []) ?_ | refine And.intro (size_ok (Nat.le_of_ble_eq_true rfl)) ?_ | refine And.intro (rfl : W.gives _ = true) ?_ | refine And.intro (rfl : List.all _ W.arg = true) ?_))
  refine ok_intro hof ?_
  refine ⟨([1, -1, 2, -3] : List Int).map PyData.int, rfl, by decide, by decide, fun y hy => ⟨rfl, ?_⟩⟩
  obtain ⟨c0, hc0, rfl⟩ := List.mem_map.mp hy
  have hc1 : c0.natAbs ≤ 3 := (show ∀ c ∈ ([1, -1, 2, -3] : List Int), c.natAbs ≤ 3 by decide) c0 hc0
  (repeat (first | refine ok_intro rfl ?_ | refine Or.inl (ok_intro rfl (ok_intro rfl ?_)) | refine Or.inl (ok_intro rfl ?_) | refine Or.inr (ok_intro rfl ?_) | refine Or.inr (Or.inl (ok_intro rfl (ok_intro rfl ?_))) | refine Or.inr (Or.inr (ok_intro rfl (ok_intro rfl ?_))) | refine And.intro (rfl : W.view _ = false) ?_ | (refine And.intro eqOk_int ?_; rw [eqv_int]) | (refine And.intro eqOk_bool ?_; rw [eqv_bool]) | refine And.intro (rfl : W.own _ = true) ?_ | refine And.intro (rfl : W.own _ = false) ?_ | refine And.intro (rfl : Option.isSome _ = true) ?_ | refine And.intro (lt_len rfl) ?_ | refine And.intro (rfl : ([] : List PyData) = []) ?_ | refine And.intro (size_ok (Nat.le_of_ble_eq_true rfl)) ?_ | refine And.intro (rfl : W.gives _ = true) ?_ | refine And.intro (rfl : List.all _ W.arg = true) ?_))
  refine ok_intro hpk ?_
  refine ⟨3, rfl, by decide, fun v hv => ⟨rfl, ?_⟩⟩
  have hv3 : v ≤ 2 := by omega
  (repeat (first | refine ok_intro rfl ?_ | refine Or.inl (ok_intro rfl (ok_intro rfl ?_)) | refine Or.inl (ok_intro rfl ?_) | refine Or.inr (ok_intro rfl ?_) | refine Or.inr (Or.inl (ok_intro rfl (ok_intro rfl ?_))) | refine Or.inr (Or.inr (ok_intro rfl (ok_intro rfl ?_))) | refine And.intro (rfl : W.view _ = false) ?_ | (refine And.intro eqOk_int ?_; rw [eqv_int]) | (refine And.intro eqOk_bool ?_; rw [eqv_bool]) | refine And.intro (rfl : W.own _ = true) ?_ | refine And.intro (rfl : W.own _ = false) ?_ | refine And.intro (rfl : Option.isSome _ = true) ?_ | refine And.intro (lt_len rfl) ?_ | refine And.intro (rfl : ([] : List PyData) = []) ?_ | refine And.intro (size_ok (Nat.le_of_ble_eq_true rfl)) ?_ | refine And.intro (rfl : W.gives _ = true) ?_ | refine And.intro (rfl : List.all _ W.arg = true) ?_))
  refine ⟨⟨by omega, by omega⟩, ?_⟩
  refine forW_inv _ (fun pre e => ∃ fs x3 x4 x5 x6, DI (Pz 0 pre.length (3 * 500 ^ pre.length)) (2 ^ pre.length) fs ∧ e = [some .src, some (.d (.int p)), some (.d (.dict (dI fs))), x3, x4, x5, x6, none]) ⟨[(0, c0)], none, none, none, none, ⟨by simp, fun ic hic => by simp at hic; subst hic; exact ⟨Int.le_refl _, Int.le_refl _, hc1⟩, Nat.le_refl _⟩, rfl⟩ ?_ ?_
  · rintro pre x suf e k hx ⟨fs, x3, x4, x5, x6, d, rfl⟩ hk
    have hL : pre.length ≤ 2 := by
      have := congrArg List.length hx
      simp [rngD] at this
      omega
    (repeat (first | refine ok_intro rfl ?_ | refine Or.inl (ok_intro rfl (ok_intro rfl ?_)) | refine Or.inl (ok_intro rfl ?_) | refine Or.inr (ok_intro rfl ?_) | refine Or.inr (Or.inl (ok_intro rfl (ok_intro rfl ?_))) | refine Or.inr (Or.inr (ok_intro rfl (ok_intro rfl ?_))) | refine And.intro (rfl : W.view _ = false) ?_ | (refine And.intro eqOk_int ?_; rw [eqv_int]) | (refine And.intro eqOk_bool ?_; rw [eqv_bool]) | refine And.intro (rfl : W.own _ = true) ?_ | refine And.intro (rfl : W.own _ = false) ?_ | refine And.intro (rfl : Option.isSome _ = true) ?_ | refine And.intro (lt_len rfl) ?_ | refine And.intro (rfl : ([] : List PyData) = []) ?_ | refine And.intro (size_ok (Nat.le_of_ble_eq_true rfl)) ?_ | refine And.intro (rfl : W.gives _ = true) ?_ | refine And.intro (rfl : List.all _ W.arg = true) ?_))
    refine ok_intro hpk ?_
    refine ⟨5, rfl, by decide, fun u hu => ⟨rfl, ?_⟩⟩
    (repeat (first | refine ok_intro rfl ?_ | refine Or.inl (ok_intro rfl (ok_intro rfl ?_)) | refine Or.inl (ok_intro rfl ?_) | refine Or.inr (ok_intro rfl ?_) | refine Or.inr (Or.inl (ok_intro rfl (ok_intro rfl ?_))) | refine Or.inr (Or.inr (ok_intro rfl (ok_intro rfl ?_))) | refine And.intro (rfl : W.view _ = false) ?_ | (refine And.intro eqOk_int ?_; rw [eqv_int]) | (refine And.intro eqOk_bool ?_; rw [eqv_bool]) | refine And.intro (rfl : W.own _ = true) ?_ | refine And.intro (rfl : W.own _ = false) ?_ | refine And.intro (rfl : Option.isSome _ = true) ?_ | refine And.intro (lt_len rfl) ?_ | refine And.intro (rfl : ([] : List PyData) = []) ?_ | refine And.intro (size_ok (Nat.le_of_ble_eq_true rfl)) ?_ | refine And.intro (rfl : W.gives _ = true) ?_ | refine And.intro (rfl : List.all _ W.arg = true) ?_))
    refine ok_intro hpw ?_
    refine ⟨p, u, rfl, by omega, by omega, ⟨rfl, ?_⟩⟩
    have hroot : ((p : Int) ^ u).natAbs ≤ 81 := by
      rw [Int.natAbs_pow]
      have h1 := Nat.pow_le_pow_left hp2 u
      have h2 := Nat.pow_le_pow_right (show 0 < 3 by decide) (show u ≤ 4 by omega)
      exact Nat.le_trans h1 h2
    generalize (p : Int) ^ u = root at *
    generalize hB : 3 * 500 ^ pre.length = B at *
    (repeat (first | refine ok_intro rfl ?_ | refine Or.inl (ok_intro rfl (ok_intro rfl ?_)) | refine Or.inl (ok_intro rfl ?_) | refine Or.inr (ok_intro rfl ?_) | refine Or.inr (Or.inl (ok_intro rfl (ok_intro rfl ?_))) | refine Or.inr (Or.inr (ok_intro rfl (ok_intro rfl ?_))) | refine And.intro (rfl : W.view _ = false) ?_ | (refine And.intro eqOk_int ?_; rw [eqv_int]) | (refine And.intro eqOk_bool ?_; rw [eqv_bool]) | refine And.intro (rfl : W.own _ = true) ?_ | refine And.intro (rfl : W.own _ = false) ?_ | refine And.intro (rfl : Option.isSome _ = true) ?_ | refine And.intro (lt_len rfl) ?_ | refine And.intro (rfl : ([] : List PyData) = []) ?_ | refine And.intro (size_ok (Nat.le_of_ble_eq_true rfl)) ?_ | refine And.intro (rfl : W.gives _ = true) ?_ | refine And.intro (rfl : List.all _ W.arg = true) ?_))
    refine Or.inr ⟨_, rfl, ?_⟩
    rw [keys_dI]
    refine forW_enc PyData.int (fs.map (·.1)) (fun pre2 e => ∃ gs x6, DI (Pz 0 (pre.length + 1) (pre2.length * (82 * B))) (2 * pre2.length) gs ∧ e = [some .src, some (.d (.int p)), some (.d (.dict (dI fs))), some (.d x), some (.d (.int root)), some (.dct (dI gs)), x6, none]) ⟨[], x6, ⟨by simp, fun ic hic => (by cases hic), by simp⟩, rfl⟩ ?_ ?_
    · rintro pre2 i suf2 e2 k2 hx2 ⟨gs, y6, dg, rfl⟩ hk2
      have hi : i ∈ fs.map (·.1) := by rw [hx2]; simp
      obtain ⟨c, hc⟩ := lk_mem hi
      have hP : Pz 0 pre.length B i c := by
        rcases d.look i with z | ⟨c2, e2, hp⟩
        · rw [hc] at z; cases z
        · rw [hc] at e2; cases e2; exact hp
      have hlk : dlook (dI fs) (.inl i) = some (.int c) := by rw [dlook_dI, hc]; rfl
      have hpl2 : pre2.length < fs.length := by have := congrArg List.length hx2; simp at this; omega
      have hfl : fs.length ≤ 4 := Nat.le_trans d.len (Nat.pow_le_pow_right (by decide) hL)
      (repeat (first | refine ok_intro rfl ?_ | refine Or.inl (ok_intro rfl (ok_intro rfl ?_)) | refine Or.inl (ok_intro rfl ?_) | refine Or.inr (ok_intro rfl ?_) | refine Or.inr (Or.inl (ok_intro rfl (ok_intro rfl ?_))) | refine Or.inr (Or.inr (ok_intro rfl (ok_intro rfl ?_))) | refine And.intro (rfl : W.view _ = false) ?_ | (refine And.intro eqOk_int ?_; rw [eqv_int]) | (refine And.intro eqOk_bool ?_; rw [eqv_bool]) | refine And.intro (rfl : W.own _ = true) ?_ | refine And.intro (rfl : W.own _ = false) ?_ | refine And.intro (rfl : Option.isSome _ = true) ?_ | refine And.intro (lt_len rfl) ?_ | refine And.intro (rfl : ([] : List PyData) = []) ?_ | refine And.intro (size_ok (Nat.le_of_ble_eq_true rfl)) ?_ | refine And.intro (rfl : W.gives _ = true) ?_ | refine And.intro (rfl : List.all _ W.arg = true) ?_))
      rw [getD_dI]
      (repeat (first | refine ok_intro rfl ?_ | refine Or.inl (ok_intro rfl (ok_intro rfl ?_)) | refine Or.inl (ok_intro rfl ?_) | refine Or.inr (ok_intro rfl ?_) | refine Or.inr (Or.inl (ok_intro rfl (ok_intro rfl ?_))) | refine Or.inr (Or.inr (ok_intro rfl (ok_intro rfl ?_))) | refine And.intro (rfl : W.view _ = false) ?_ | (refine And.intro eqOk_int ?_; rw [eqv_int]) | (refine And.intro eqOk_bool ?_; rw [eqv_bool]) | refine And.intro (rfl : W.own _ = true) ?_ | refine And.intro (rfl : W.own _ = false) ?_ | refine And.intro (rfl : Option.isSome _ = true) ?_ | refine And.intro (lt_len rfl) ?_ | refine And.intro (rfl : ([] : List PyData) = []) ?_ | refine And.intro (size_ok (Nat.le_of_ble_eq_true rfl)) ?_ | refine And.intro (rfl : W.gives _ = true) ?_ | refine And.intro (rfl : List.all _ W.arg = true) ?_))
      refine ok_intro hlk ?_
      (repeat (first | refine ok_intro rfl ?_ | refine Or.inl (ok_intro rfl (ok_intro rfl ?_)) | refine Or.inl (ok_intro rfl ?_) | refine Or.inr (ok_intro rfl ?_) | refine Or.inr (Or.inl (ok_intro rfl (ok_intro rfl ?_))) | refine Or.inr (Or.inr (ok_intro rfl (ok_intro rfl ?_))) | refine And.intro (rfl : W.view _ = false) ?_ | (refine And.intro eqOk_int ?_; rw [eqv_int]) | (refine And.intro eqOk_bool ?_; rw [eqv_bool]) | refine And.intro (rfl : W.own _ = true) ?_ | refine And.intro (rfl : W.own _ = false) ?_ | refine And.intro (rfl : Option.isSome _ = true) ?_ | refine And.intro (lt_len rfl) ?_ | refine And.intro (rfl : ([] : List PyData) = []) ?_ | refine And.intro (size_ok (Nat.le_of_ble_eq_true rfl)) ?_ | refine And.intro (rfl : W.gives _ = true) ?_ | refine And.intro (rfl : List.all _ W.arg = true) ?_))
      refine ⟨by have := dg.len; simp [dI, sizeLine_eq]; omega, ?_⟩
      rw [dput_dI]
      have hg1 := dg.getD (i + 1)
      have d1 : DI (Pz 0 (pre.length + 1) (pre2.length * (82 * B) + B)) (2 * pre2.length + 1) (put gs (i + 1) ((lk gs (i + 1)).getD 0 + c)) :=
        DI.put (dg.mono (fun j c h => ⟨h.1, h.2.1, Nat.le_trans h.2.2 (by omega)⟩) (Nat.le_refl _)) ⟨by have := hP.1; omega, by have := hP.2.1; omega, by have := hP.2.2; omega⟩
      generalize put gs (i + 1) ((lk gs (i + 1)).getD 0 + c) = gs1 at *
      (repeat (first | refine ok_intro rfl ?_ | refine Or.inl (ok_intro rfl (ok_intro rfl ?_)) | refine Or.inl (ok_intro rfl ?_) | refine Or.inr (ok_intro rfl ?_) | refine Or.inr (Or.inl (ok_intro rfl (ok_intro rfl ?_))) | refine Or.inr (Or.inr (ok_intro rfl (ok_intro rfl ?_))) | refine And.intro (rfl : W.view _ = false) ?_ | (refine And.intro eqOk_int ?_; rw [eqv_int]) | (refine And.intro eqOk_bool ?_; rw [eqv_bool]) | refine And.intro (rfl : W.own _ = true) ?_ | refine And.intro (rfl : W.own _ = false) ?_ | refine And.intro (rfl : Option.isSome _ = true) ?_ | refine And.intro (lt_len rfl) ?_ | refine And.intro (rfl : ([] : List PyData) = []) ?_ | refine And.intro (size_ok (Nat.le_of_ble_eq_true rfl)) ?_ | refine And.intro (rfl : W.gives _ = true) ?_ | refine And.intro (rfl : List.all _ W.arg = true) ?_))
      rw [getD_dI]
      (repeat (first | refine ok_intro rfl ?_ | refine Or.inl (ok_intro rfl (ok_intro rfl ?_)) | refine Or.inl (ok_intro rfl ?_) | refine Or.inr (ok_intro rfl ?_) | refine Or.inr (Or.inl (ok_intro rfl (ok_intro rfl ?_))) | refine Or.inr (Or.inr (ok_intro rfl (ok_intro rfl ?_))) | refine And.intro (rfl : W.view _ = false) ?_ | (refine And.intro eqOk_int ?_; rw [eqv_int]) | (refine And.intro eqOk_bool ?_; rw [eqv_bool]) | refine And.intro (rfl : W.own _ = true) ?_ | refine And.intro (rfl : W.own _ = false) ?_ | refine And.intro (rfl : Option.isSome _ = true) ?_ | refine And.intro (lt_len rfl) ?_ | refine And.intro (rfl : ([] : List PyData) = []) ?_ | refine And.intro (size_ok (Nat.le_of_ble_eq_true rfl)) ?_ | refine And.intro (rfl : W.gives _ = true) ?_ | refine And.intro (rfl : List.all _ W.arg = true) ?_))
      refine ok_intro hlk ?_
      (repeat (first | refine ok_intro rfl ?_ | refine Or.inl (ok_intro rfl (ok_intro rfl ?_)) | refine Or.inl (ok_intro rfl ?_) | refine Or.inr (ok_intro rfl ?_) | refine Or.inr (Or.inl (ok_intro rfl (ok_intro rfl ?_))) | refine Or.inr (Or.inr (ok_intro rfl (ok_intro rfl ?_))) | refine And.intro (rfl : W.view _ = false) ?_ | (refine And.intro eqOk_int ?_; rw [eqv_int]) | (refine And.intro eqOk_bool ?_; rw [eqv_bool]) | refine And.intro (rfl : W.own _ = true) ?_ | refine And.intro (rfl : W.own _ = false) ?_ | refine And.intro (rfl : Option.isSome _ = true) ?_ | refine And.intro (lt_len rfl) ?_ | refine And.intro (rfl : ([] : List PyData) = []) ?_ | refine And.intro (size_ok (Nat.le_of_ble_eq_true rfl)) ?_ | refine And.intro (rfl : W.gives _ = true) ?_ | refine And.intro (rfl : List.all _ W.arg = true) ?_))
      refine ⟨mulSmall (by omega), ?_⟩
      (repeat (first | refine ok_intro rfl ?_ | refine Or.inl (ok_intro rfl (ok_intro rfl ?_)) | refine Or.inl (ok_intro rfl ?_) | refine Or.inr (ok_intro rfl ?_) | refine Or.inr (Or.inl (ok_intro rfl (ok_intro rfl ?_))) | refine Or.inr (Or.inr (ok_intro rfl (ok_intro rfl ?_))) | refine And.intro (rfl : W.view _ = false) ?_ | (refine And.intro eqOk_int ?_; rw [eqv_int]) | (refine And.intro eqOk_bool ?_; rw [eqv_bool]) | refine And.intro (rfl : W.own _ = true) ?_ | refine And.intro (rfl : W.own _ = false) ?_ | refine And.intro (rfl : Option.isSome _ = true) ?_ | refine And.intro (lt_len rfl) ?_ | refine And.intro (rfl : ([] : List PyData) = []) ?_ | refine And.intro (size_ok (Nat.le_of_ble_eq_true rfl)) ?_ | refine And.intro (rfl : W.gives _ = true) ?_ | refine And.intro (rfl : List.all _ W.arg = true) ?_))
      refine ⟨by have := d1.len; simp [dI, sizeLine_eq]; omega, ?_⟩
      rw [dput_dI]
      have hg2 := d1.getD i
      have hcr : (c * root).natAbs ≤ B * 81 := by
        rw [Int.natAbs_mul]
        exact Nat.mul_le_mul hP.2.2 hroot
      refine hk2 _ ⟨put gs1 i ((lk gs1 i).getD 0 - c * root), some (.d (.int i)), ?_, rfl⟩
      rw [List.length_append, List.length_singleton]
      have e5 : (pre2.length + 1) * (82 * B) = pre2.length * (82 * B) + 82 * B := by rw [Nat.add_mul, Nat.one_mul]
      rw [e5]
      generalize pre2.length * (82 * B) = BB at *
      exact (DI.put (d1.mono (P' := Pz 0 (pre.length + 1) (BB + 82 * B)) (fun j c h => ⟨h.1, h.2.1, Nat.le_trans h.2.2 (by omega)⟩) (Nat.le_refl _)) ⟨by have := hP.1; omega, by have := hP.2.1; omega, by omega⟩).mono (fun _ _ h => h) (by omega)
    · rintro e2 ⟨gs, y6, dg, rfl⟩
      (repeat (first | refine ok_intro rfl ?_ | refine Or.inl (ok_intro rfl (ok_intro rfl ?_)) | refine Or.inl (ok_intro rfl ?_) | refine Or.inr (ok_intro rfl ?_) | refine Or.inr (Or.inl (ok_intro rfl (ok_intro rfl ?_))) | refine Or.inr (Or.inr (ok_intro rfl (ok_intro rfl ?_))) | refine And.intro (rfl : W.view _ = false) ?_ | (refine And.intro eqOk_int ?_; rw [eqv_int]) | (refine And.intro eqOk_bool ?_; rw [eqv_bool]) | refine And.intro (rfl : W.own _ = true) ?_ | refine And.intro (rfl : W.own _ = false) ?_ | refine And.intro (rfl : Option.isSome _ = true) ?_ | refine And.intro (lt_len rfl) ?_ | refine And.intro (rfl : ([] : List PyData) = []) ?_ | refine And.intro (size_ok (Nat.le_of_ble_eq_true rfl)) ?_ | refine And.intro (rfl : W.gives _ = true) ?_ | refine And.intro (rfl : List.all _ W.arg = true) ?_))
      rw [items_dI]
      refine ok_intro (pairs_dI gs) ?_
      have hfl : fs.length ≤ 4 := Nat.le_trans d.len (Nat.pow_le_pow_right (by decide) hL)
      have hgl := dg.len
      rw [List.length_map] at hgl dg
      refine ⟨size_ok (by simp; omega), ?_⟩
      obtain ⟨hs, eh, dh⟩ := DI.merge (P := Pz 0 (pre.length + 1) (fs.length * (82 * B))) gs [] (n := 0) DI.nil dg.all
      have eh : mergeD [] (gs.map fun ic => ((.inl ic.1 : Key), PyData.int ic.2)) = dI hs := eh
      rw [eh]
      (repeat (first | refine ok_intro rfl ?_ | refine Or.inl (ok_intro rfl (ok_intro rfl ?_)) | refine Or.inl (ok_intro rfl ?_) | refine Or.inr (ok_intro rfl ?_) | refine Or.inr (Or.inl (ok_intro rfl (ok_intro rfl ?_))) | refine Or.inr (Or.inr (ok_intro rfl (ok_intro rfl ?_))) | refine And.intro (rfl : W.view _ = false) ?_ | (refine And.intro eqOk_int ?_; rw [eqv_int]) | (refine And.intro eqOk_bool ?_; rw [eqv_bool]) | refine And.intro (rfl : W.own _ = true) ?_ | refine And.intro (rfl : W.own _ = false) ?_ | refine And.intro (rfl : Option.isSome _ = true) ?_ | refine And.intro (lt_len rfl) ?_ | refine And.intro (rfl : ([] : List PyData) = []) ?_ | refine And.intro (size_ok (Nat.le_of_ble_eq_true rfl)) ?_ | refine And.intro (rfl : W.gives _ = true) ?_ | refine And.intro (rfl : List.all _ W.arg = true) ?_))
      refine hk _ ⟨hs, some (.d x), some (.d (.int root)), some (.dct (dI gs)), y6, ?_, rfl⟩
      rw [List.length_append, List.length_singleton]
      refine dh.mono (fun j c h => ⟨h.1, by have := h.2.1; omega, Nat.le_trans h.2.2 ?_⟩) ?_
      · have e6 : 3 * 500 ^ (pre.length + 1) = B * 500 := by rw [Nat.pow_succ, ← Nat.mul_assoc, hB]
        rw [e6]
        have := Nat.mul_le_mul_right (82 * B) hfl
        omega
      · rw [Nat.pow_succ]; have := d.len; omega
  · rintro e ⟨fs, x3, x4, x5, x6, d, rfl⟩
    have hL : (rngD 0 (1 + (v : Int))).length = 1 + v := by simp [rngD]; omega
    rw [hL] at d
    have d3 : DI (Pz 0 3 375000000) 8 fs := d.mono (fun i c h => ⟨h.1, by have := h.2.1; omega, Nat.le_trans h.2.2 (Nat.le_trans (Nat.mul_le_mul_left 3 (Nat.pow_le_pow_right (by decide) (show 1 + v ≤ 3 by omega))) (by decide))⟩) (Nat.le_trans (Nat.pow_le_pow_right (by decide) (show 1 + v ≤ 3 by omega)) (by decide))
    (repeat (first | refine ok_intro rfl ?_ | refine Or.inl (ok_intro rfl (ok_intro rfl ?_)) | refine Or.inl (ok_intro rfl ?_) | refine Or.inr (ok_intro rfl ?_) | refine Or.inr (Or.inl (ok_intro rfl (ok_intro rfl ?_))) | refine Or.inr (Or.inr (ok_intro rfl (ok_intro rfl ?_))) | refine And.intro (rfl : W.view _ = false) ?_ | (refine And.intro eqOk_int ?_; rw [eqv_int]) | (refine And.intro eqOk_bool ?_; rw [eqv_bool]) | refine And.intro (rfl : W.own _ = true) ?_ | refine And.intro (rfl : W.own _ = false) ?_ | refine And.intro (rfl : Option.isSome _ = true) ?_ | refine And.intro (lt_len rfl) ?_ | refine And.intro (rfl : ([] : List PyData) = []) ?_ | refine And.intro (size_ok (Nat.le_of_ble_eq_true rfl)) ?_ | refine And.intro (rfl : W.gives _ = true) ?_ | refine And.intro (rfl : List.all _ W.arg = true) ?_))
    refine ok_intro hpk ?_
    refine ⟨4, rfl, by decide, fun sft hsf => ⟨rfl, ?_⟩⟩
    (repeat (first | refine ok_intro rfl ?_ | refine Or.inl (ok_intro rfl (ok_intro rfl ?_)) | refine Or.inl (ok_intro rfl ?_) | refine Or.inr (ok_intro rfl ?_) | refine Or.inr (Or.inl (ok_intro rfl (ok_intro rfl ?_))) | refine Or.inr (Or.inr (ok_intro rfl (ok_intro rfl ?_))) | refine And.intro (rfl : W.view _ = false) ?_ | (refine And.intro eqOk_int ?_; rw [eqv_int]) | (refine And.intro eqOk_bool ?_; rw [eqv_bool]) | refine And.intro (rfl : W.own _ = true) ?_ | refine And.intro (rfl : W.own _ = false) ?_ | refine And.intro (rfl : Option.isSome _ = true) ?_ | refine And.intro (lt_len rfl) ?_ | refine And.intro (rfl : ([] : List PyData) = []) ?_ | refine And.intro (size_ok (Nat.le_of_ble_eq_true rfl)) ?_ | refine And.intro (rfl : W.gives _ = true) ?_ | refine And.intro (rfl : List.all _ W.arg = true) ?_))
    rw [keys_dI]
    refine ok_intro (intsOf_map _) ⟨by have := d3.len; rw [List.length_map]; omega, ?_⟩
    (repeat (first | refine ok_intro rfl ?_ | refine Or.inl (ok_intro rfl (ok_intro rfl ?_)) | refine Or.inl (ok_intro rfl ?_) | refine Or.inr (ok_intro rfl ?_) | refine Or.inr (Or.inl (ok_intro rfl (ok_intro rfl ?_))) | refine Or.inr (Or.inr (ok_intro rfl (ok_intro rfl ?_))) | refine And.intro (rfl : W.view _ = false) ?_ | (refine And.intro eqOk_int ?_; rw [eqv_int]) | (refine And.intro eqOk_bool ?_; rw [eqv_bool]) | refine And.intro (rfl : W.own _ = true) ?_ | refine And.intro (rfl : W.own _ = false) ?_ | refine And.intro (rfl : Option.isSome _ = true) ?_ | refine And.intro (lt_len rfl) ?_ | refine And.intro (rfl : ([] : List PyData) = []) ?_ | refine And.intro (size_ok (Nat.le_of_ble_eq_true rfl)) ?_ | refine And.intro (rfl : W.gives _ = true) ?_ | refine And.intro (rfl : List.all _ W.arg = true) ?_))
    refine ⟨rfl, ?_⟩
    have hpm := (isort_lt d3.nd).2
    refine compW_enc PyData.int (fun i => if (!decide ((lk fs i).getD 0 = 0)) = true then some ((fun ic : Int × Int => pr (ic.1 - (sft : Int), ic.2)) (i, (lk fs i).getD 0)) else none) (isort (fs.map (·.1))) [] (fun i hi k hk => ?_) (size_ok (by have := d3.len; rw [hpm.length_eq]; simp; omega)) ?_
    · obtain ⟨c, hc⟩ := lk_mem (hpm.mem_iff.mp hi)
      rw [hc] at hk
      have hlk : dlook (dI fs) (.inl i) = some (.int c) := by rw [dlook_dI, hc]; rfl
      (repeat (first | refine ok_intro rfl ?_ | refine Or.inl (ok_intro rfl (ok_intro rfl ?_)) | refine Or.inl (ok_intro rfl ?_) | refine Or.inr (ok_intro rfl ?_) | refine Or.inr (Or.inl (ok_intro rfl (ok_intro rfl ?_))) | refine Or.inr (Or.inr (ok_intro rfl (ok_intro rfl ?_))) | refine And.intro (rfl : W.view _ = false) ?_ | (refine And.intro eqOk_int ?_; rw [eqv_int]) | (refine And.intro eqOk_bool ?_; rw [eqv_bool]) | refine And.intro (rfl : W.own _ = true) ?_ | refine And.intro (rfl : W.own _ = false) ?_ | refine And.intro (rfl : Option.isSome _ = true) ?_ | refine And.intro (lt_len rfl) ?_ | refine And.intro (rfl : ([] : List PyData) = []) ?_ | refine And.intro (size_ok (Nat.le_of_ble_eq_true rfl)) ?_ | refine And.intro (rfl : W.gives _ = true) ?_ | refine And.intro (rfl : List.all _ W.arg = true) ?_))
      refine ok_intro hlk ?_
      (repeat (first | refine ok_intro rfl ?_ | refine Or.inl (ok_intro rfl (ok_intro rfl ?_)) | refine Or.inl (ok_intro rfl ?_) | refine Or.inr (ok_intro rfl ?_) | refine Or.inr (Or.inl (ok_intro rfl (ok_intro rfl ?_))) | refine Or.inr (Or.inr (ok_intro rfl (ok_intro rfl ?_))) | refine And.intro (rfl : W.view _ = false) ?_ | (refine And.intro eqOk_int ?_; rw [eqv_int]) | (refine And.intro eqOk_bool ?_; rw [eqv_bool]) | refine And.intro (rfl : W.own _ = true) ?_ | refine And.intro (rfl : W.own _ = false) ?_ | refine And.intro (rfl : Option.isSome _ = true) ?_ | refine And.intro (lt_len rfl) ?_ | refine And.intro (rfl : ([] : List PyData) = []) ?_ | refine And.intro (size_ok (Nat.le_of_ble_eq_true rfl)) ?_ | refine And.intro (rfl : W.gives _ = true) ?_ | refine And.intro (rfl : List.all _ W.arg = true) ?_))
      refine ⟨rfl, ?_⟩
      refine ite_ndec (fun hc0 => ?_) fun hc0 => ?_
      · (repeat (first | refine ok_intro rfl ?_ | refine Or.inl (ok_intro rfl (ok_intro rfl ?_)) | refine Or.inl (ok_intro rfl ?_) | refine Or.inr (ok_intro rfl ?_) | refine Or.inr (Or.inl (ok_intro rfl (ok_intro rfl ?_))) | refine Or.inr (Or.inr (ok_intro rfl (ok_intro rfl ?_))) | refine And.intro (rfl : W.view _ = false) ?_ | (refine And.intro eqOk_int ?_; rw [eqv_int]) | (refine And.intro eqOk_bool ?_; rw [eqv_bool]) | refine And.intro (rfl : W.own _ = true) ?_ | refine And.intro (rfl : W.own _ = false) ?_ | refine And.intro (rfl : Option.isSome _ = true) ?_ | refine And.intro (lt_len rfl) ?_ | refine And.intro (rfl : ([] : List PyData) = []) ?_ | refine And.intro (size_ok (Nat.le_of_ble_eq_true rfl)) ?_ | refine And.intro (rfl : W.gives _ = true) ?_ | refine And.intro (rfl : List.all _ W.arg = true) ?_))
        refine ok_intro hlk ?_
        (repeat (first | refine ok_intro rfl ?_ | refine Or.inl (ok_intro rfl (ok_intro rfl ?_)) | refine Or.inl (ok_intro rfl ?_) | refine Or.inr (ok_intro rfl ?_) | refine Or.inr (Or.inl (ok_intro rfl (ok_intro rfl ?_))) | refine Or.inr (Or.inr (ok_intro rfl (ok_intro rfl ?_))) | refine And.intro (rfl : W.view _ = false) ?_ | (refine And.intro eqOk_int ?_; rw [eqv_int]) | (refine And.intro eqOk_bool ?_; rw [eqv_bool]) | refine And.intro (rfl : W.own _ = true) ?_ | refine And.intro (rfl : W.own _ = false) ?_ | refine And.intro (rfl : Option.isSome _ = true) ?_ | refine And.intro (lt_len rfl) ?_ | refine And.intro (rfl : ([] : List PyData) = []) ?_ | refine And.intro (size_ok (Nat.le_of_ble_eq_true rfl)) ?_ | refine And.intro (rfl : W.gives _ = true) ?_ | refine And.intro (rfl : List.all _ W.arg = true) ?_))
        rw [if_pos (show (!decide ((some c).getD 0 = 0)) = true by simpa using hc0)] at hk
        exact ⟨rfl, hk⟩
      · rw [if_neg (show ¬ (!decide ((some c).getD 0 = 0)) = true by simpa using hc0)] at hk
        exact hk
    rw [List.nil_append, outz_map fs (fun ic : Int × Int => pr (ic.1 - (sft : Int), ic.2))]
    have e2 : ((outz fs).map fun ic : Int × Int => pr (ic.1 - (sft : Int), ic.2)) = ((outz fs).map fun ic => (ic.1 - (sft : Int), ic.2)).map pr := by rw [List.map_map]; rfl
    rw [e2]
    (repeat (first | refine ok_intro rfl ?_ | refine Or.inl (ok_intro rfl (ok_intro rfl ?_)) | refine Or.inl (ok_intro rfl ?_) | refine Or.inr (ok_intro rfl ?_) | refine Or.inr (Or.inl (ok_intro rfl (ok_intro rfl ?_))) | refine Or.inr (Or.inr (ok_intro rfl (ok_intro rfl ?_))) | refine And.intro (rfl : W.view _ = false) ?_ | (refine And.intro eqOk_int ?_; rw [eqv_int]) | (refine And.intro eqOk_bool ?_; rw [eqv_bool]) | refine And.intro (rfl : W.own _ = true) ?_ | refine And.intro (rfl : W.own _ = false) ?_ | refine And.intro (rfl : Option.isSome _ = true) ?_ | refine And.intro (lt_len rfl) ?_ | refine And.intro (rfl : ([] : List PyData) = []) ?_ | refine And.intro (size_ok (Nat.le_of_ble_eq_true rfl)) ?_ | refine And.intro (rfl : W.gives _ = true) ?_ | refine And.intro (rfl : List.all _ W.arg = true) ?_))
    have b := d3.pbz
    refine h _ ⟨List.pairwise_map.mpr (b.srt.imp fun h => by omega), fun ic hic => ?_, fun ic hic => ?_, fun ic hic => ?_, by rw [List.length_map]; exact b.len⟩
    all_goals (obtain ⟨jc, hj, rfl⟩ := List.mem_map.mp hic)
    · have := b.rng jc hj
      show -3 ≤ jc.1 - (sft : Int) ∧ jc.1 - (sft : Int) ≤ 3
      omega
    · exact b.nz jc hj
    · exact Nat.le_trans (b.big jc hj) (by decide)
end K54
end Cal
set_option Elab.async false
set_option linter.all false
set_option maxRecDepth 100000
set_option maxHeartbeats 4000000
namespace Cal
namespace K54
open PySem PySem.Spec PyProof.Rows L2
/-! ### what is shown -/
structure Rep (x : PyData) : Prop where
  sh : x.showable = true
  nd : x.hasDict = false
  dp : x.depth ≤ 100
  ln : x.shown.length ≤ sizeLine
theorem log_lt {i : Int} (h : i.natAbs ≤ 2 ^ 1000) : i.natAbs.log2 < 1001 := by
  by_cases h0 : i.natAbs = 0
  · rw [h0]; decide
  · exact (Nat.log2_lt h0).mpr (Nat.lt_of_le_of_lt h (Nat.pow_lt_pow_right (by decide) (by decide)))
theorem int_sh {i : Int} (h : i.natAbs ≤ 2 ^ 1000) : (PyData.int i).showable = true := by
  simp only [PyData.showable, decide_eq_true_eq]
  have := log_lt h
  omega
theorem int_short {i : Int} (h : i.natAbs ≤ 2 ^ 1000) : (PyData.int i).leavesShort 1002 = true := by
  have := int_text_length_le (k := 1001) (by decide) (log_lt h)
  show decide ((Str.ofString (toString i)).length ≤ 1002) = true
  refine decide_eq_true ?_
  rw [PySem.ofString_length]
  exact this
def Sm (ic : Int × Int) : Prop := ic.1.natAbs ≤ 2 ^ 1000 ∧ ic.2.natAbs ≤ 2 ^ 1000
theorem prs_sh : ∀ {ps : List (Int × Int)}, (∀ ic ∈ ps, Sm ic) → PyData.showableAll (ps.map pr) = true ∧ PyData.hasDictAll (ps.map pr) = false ∧ PyData.depthAll (ps.map pr) ≤ 1 ∧ PyData.leavesShortAll 1002 (ps.map pr) = true ∧ PyData.bulkAll (ps.map pr) = 3 * ps.length
  | [], _ => ⟨rfl, rfl, Nat.zero_le _, rfl, rfl⟩
  | ic :: ps, h => by
    obtain ⟨h1, h2, h3, h4, h5⟩ := prs_sh (ps := ps) fun x hx => h x (List.mem_cons_of_mem _ hx)
    obtain ⟨a, b⟩ := h ic List.mem_cons_self
    have a1 := int_sh a
    have b1 := int_sh b
    have a2 := int_short a
    have b2 := int_short b
    rw [List.map_cons]
    refine ⟨?_, ?_, ?_, ?_, ?_⟩
    · show (((PyData.int ic.1).showable && ((PyData.int ic.2).showable && true)) && PyData.showableAll (ps.map pr)) = true
      rw [a1, b1, h1]; rfl
    · unfold PyData.hasDictAll
      rw [h2]; rfl
    · unfold PyData.depthAll
      refine Nat.max_le.mpr ⟨?_, h3⟩
      exact Nat.le_refl _
    · show (((PyData.int ic.1).leavesShort 1002 && ((PyData.int ic.2).leavesShort 1002 && true)) && PyData.leavesShortAll 1002 (ps.map pr)) = true
      rw [a2, b2, h4]; rfl
    · unfold PyData.bulkAll
      rw [h5, List.length_cons]
      show 2 + 1 + 3 * ps.length = _
      omega
theorem rep_pD {ps : List (Int × Int)} (h : ∀ ic ∈ ps, Sm ic) (hl : ps.length ≤ 1000) : Rep (pD ps) := by
  obtain ⟨h1, h2, h3, h4, h5⟩ := prs_sh h
  refine ⟨by unfold pD PyData.showable; exact h1, by unfold pD PyData.hasDict; exact h2, by unfold pD PyData.depth; omega, ?_⟩
  have := PyData.shown_le_bulk 1002 (by decide) (pD ps) (by unfold pD PyData.leavesShort; exact h4)
  have hb : (pD ps).bulk = 3 * ps.length := by unfold pD PyData.bulk; exact h5
  rw [hb] at this
  rw [sizeLine_eq]
  omega
theorem rep_told {a : Int} {b c : Bool} (h : a.natAbs ≤ 1) : Rep (.list [.int a, .bool b, .bool c]) := by
  have h1 : a.natAbs ≤ 2 ^ 1000 := Nat.le_trans h (Nat.pow_pos (by decide))
  have a1 := int_sh h1
  have a2 := int_short h1
  refine ⟨?_, rfl, Nat.le_of_ble_eq_true rfl, ?_⟩
  · show ((PyData.int a).showable && (true && (true && true))) = true
    rw [a1]; rfl
  · have := PyData.shown_le_bulk 1002 (by decide) (.list [.int a, .bool b, .bool c]) (show ((PyData.int a).leavesShort 1002 && (true && (true && true))) = true by rw [a2]; rfl)
    have hb : (PyData.list [.int a, .bool b, .bool c]).bulk = 3 := rfl
    rw [hb] at this
    rw [sizeLine_eq]
    omega
theorem sg_le (t : Int) : (sg t).natAbs ≤ 1 := by
  unfold sg b2i
  split <;> split <;> decide
theorem pts_all (s : Nat → Int) (hs : ∀ n, (s n).natAbs ≤ 1) : ∀ N, N ≤ 400 → ∀ x ∈ pts s N, Sm x
  | 0 => fun _ x hx => by
    simp [pts] at hx; subst hx
    exact ⟨Nat.zero_le _, Nat.le_trans (hs 0) (Nat.pow_pos (by decide))⟩
  | N + 1 => fun hN x hx => by
    unfold pts at hx
    have ih := pts_all s hs N (by omega)
    split at hx
    · exact ih x hx
    · rcases List.mem_append.mp hx with h | h
      · exact ih x h
      · simp only [List.mem_singleton] at h; subst h
        refine ⟨Nat.le_trans (show ((N + 1 : Nat) : Int).natAbs ≤ 2 ^ 9 by omega) (Nat.pow_le_pow_right (by decide) (by decide)), Nat.le_trans (hs _) (Nat.pow_pos (by decide))⟩
theorem Pows.sm {ps : List (Int × Int)} (h : Pows ps) : ∀ ic ∈ ps, Sm ic := fun ic hic => by
  have h1 := h.rng ic hic
  have h2 := h.big ic hic
  exact ⟨Nat.le_trans (show ic.1.natAbs ≤ 2 ^ 2 by omega) (Nat.pow_le_pow_right (by decide) (by decide)), Nat.le_trans h2 (Nat.pow_le_pow_right (by decide) (by decide))⟩
end K54
end Cal
set_option Elab.async false
set_option linter.all false
set_option maxRecDepth 100000
set_option maxHeartbeats 4000000
namespace Cal
namespace K54
open PySem PySem.Spec PyProof.Rows L2
def BI2 : Ss := (.cons (.ife (.and (.bin .idx (.var 11) (.lit (.int 1))) (.bin .ne (.comp [14] (.name 14) (.rng2 (.var 8) (.bin .add (.var 8) (.lit (.int 4)))) (.some (.bin .ne (.call "_law_sign" (.cons (.var 3) (.cons (.var 4) (.cons (.var 14) .nil)))) (.bin .idx (.var 11) (.lit (.int 0))))) (.var 14)) (.lst .nil))) (.cons (.ret (.lit (.bool false))) .nil) .nil) .nil)
def BI : Ss := (.cons (.asg (.name 10) (.per (.lst (.cons (.per (.call "sign_at" (.cons (.var 3) (.cons (.var 4) (.cons (.var 8) .nil))))) (.cons (.per (.call "is_settled" (.cons (.var 3) (.cons (.var 4) (.cons (.var 8) .nil))))) (.cons (.per (.call "is_seen" (.cons (.var 3) (.cons (.var 4) (.cons (.var 8) .nil))))) .nil)))))) (.cons (.asg (.name 11) (.per (.lst (.cons (.per (.call "_law_sign" (.cons (.var 3) (.cons (.var 4) (.cons (.var 8) .nil))))) (.cons (.per (.call "_law_is_settled" (.cons (.var 3) (.cons (.var 4) (.cons (.var 8) .nil))))) (.cons (.per (.call "_law_is_seen" (.cons (.var 3) (.cons (.var 4) (.cons (.var 8) .nil))))) .nil)))))) (.cons (.ife (.or (.bin .ne (.blt .repr (.var 10)) (.blt .repr (.var 11))) (.bin .ne (.bin .idx (.comp [12, 13] (.tup (.cons (.name 12) (.cons (.name 13) .nil))) (.it (.var 7)) (.some (.bin .le (.var 12) (.var 8))) (.var 13)) (.un .neg (.lit (.int 1)))) (.bin .idx (.var 11) (.lit (.int 0))))) (.cons (.ret (.lit (.bool false))) .nil) .nil) (.cons (.ife (.and (.bin .idx (.var 11) (.lit (.int 2))) (.bin .inn (.un .neg (.lit (.int 1))) (.comp [14] (.name 14) (.rng2 (.var 8) (.bin .add (.var 8) (.lit (.int 4)))) .none (.per (.call "_law_sign" (.cons (.var 3) (.cons (.var 4) (.cons (.var 14) .nil)))))))) (.cons (.ret (.lit (.bool false))) .nil) .nil) (.cons (.ife (.and (.bin .idx (.var 11) (.lit (.int 1))) (.bin .ne (.comp [14] (.name 14) (.rng2 (.var 8) (.bin .add (.var 8) (.lit (.int 4)))) (.some (.bin .ne (.call "_law_sign" (.cons (.var 3) (.cons (.var 4) (.cons (.var 14) .nil)))) (.bin .idx (.var 11) (.lit (.int 0))))) (.var 14)) (.lst .nil))) (.cons (.ret (.lit (.bool false))) .nil) .nil) .nil)))))
def B6 : Ss := (.cons (.par [6, 7] (.cons (.blt .repr (.var 4)) (.cons (.per (.call "_law_signs" (.cons (.var 3) (.cons (.var 4) .nil)))) .nil))) (.cons (.ife (.or (.bin .ne (.blt .repr (.call "signs_of" (.cons (.var 3) (.cons (.var 4) .nil)))) (.blt .repr (.var 7))) (.bin .ne (.blt .repr (.var 4)) (.var 6))) (.cons (.ret (.lit (.bool false))) .nil) .nil) (.cons (.for (.name 8) (.it (.bin .add (.comp [9] (.name 9) (.rng1 (.lit (.int 4))) .none (.per (.call "_law_pick" (.cons (.var 1) (.cons (.lit (.int 12)) .nil))))) (.lst (.cons (.lit (.int 0)) (.cons (.lit (.int 1)) .nil))))) (.cons (.asg (.name 10) (.per (.lst (.cons (.per (.call "sign_at" (.cons (.var 3) (.cons (.var 4) (.cons (.var 8) .nil))))) (.cons (.per (.call "is_settled" (.cons (.var 3) (.cons (.var 4) (.cons (.var 8) .nil))))) (.cons (.per (.call "is_seen" (.cons (.var 3) (.cons (.var 4) (.cons (.var 8) .nil))))) .nil)))))) (.cons (.asg (.name 11) (.per (.lst (.cons (.per (.call "_law_sign" (.cons (.var 3) (.cons (.var 4) (.cons (.var 8) .nil))))) (.cons (.per (.call "_law_is_settled" (.cons (.var 3) (.cons (.var 4) (.cons (.var 8) .nil))))) (.cons (.per (.call "_law_is_seen" (.cons (.var 3) (.cons (.var 4) (.cons (.var 8) .nil))))) .nil)))))) (.cons (.ife (.or (.bin .ne (.blt .repr (.var 10)) (.blt .repr (.var 11))) (.bin .ne (.bin .idx (.comp [12, 13] (.tup (.cons (.name 12) (.cons (.name 13) .nil))) (.it (.var 7)) (.some (.bin .le (.var 12) (.var 8))) (.var 13)) (.un .neg (.lit (.int 1)))) (.bin .idx (.var 11) (.lit (.int 0))))) (.cons (.ret (.lit (.bool false))) .nil) .nil) (.cons (.ife (.and (.bin .idx (.var 11) (.lit (.int 2))) (.bin .inn (.un .neg (.lit (.int 1))) (.comp [14] (.name 14) (.rng2 (.var 8) (.bin .add (.var 8) (.lit (.int 4)))) .none (.per (.call "_law_sign" (.cons (.var 3) (.cons (.var 4) (.cons (.var 14) .nil)))))))) (.cons (.ret (.lit (.bool false))) .nil) .nil) (.cons (.ife (.and (.bin .idx (.var 11) (.lit (.int 1))) (.bin .ne (.comp [14] (.name 14) (.rng2 (.var 8) (.bin .add (.var 8) (.lit (.int 4)))) (.some (.bin .ne (.call "_law_sign" (.cons (.var 3) (.cons (.var 4) (.cons (.var 14) .nil)))) (.bin .idx (.var 11) (.lit (.int 0))))) (.var 14)) (.lst .nil))) (.cons (.ret (.lit (.bool false))) .nil) .nil) .nil)))))) .nil)))
def BF : Ss := (.cons (.asg (.name 15) (.bin .add (.lit (.int 200)) (.call "_law_pick" (.cons (.var 1) (.cons (.lit (.int 90)) .nil))))) (.cons (.asg (.name 16) (.tup (.cons (.tup (.cons (.lit (.int 0)) (.cons (.bin .sub (.lit (.int 0)) (.call "_law_power" (.cons (.lit (.int 2)) (.cons (.var 15) .nil)))) .nil))) (.cons (.tup (.cons (.lit (.int 1)) (.cons (.lit (.int 1)) .nil))) .nil)))) (.cons (.ret (.and (.bin .eq (.call "signs_of" (.cons (.lit (.int 2)) (.cons (.var 16) .nil))) (.tup (.cons (.tup (.cons (.lit (.int 0)) (.cons (.un .neg (.lit (.int 1))) .nil))) (.cons (.tup (.cons (.var 15) (.cons (.lit (.int 0)) .nil))) (.cons (.tup (.cons (.bin .add (.var 15) (.lit (.int 1))) (.cons (.lit (.int 1)) .nil))) .nil))))) (.bin .eq (.call "signs_of" (.cons (.lit (.int 2)) (.cons (.tup .nil) .nil))) (.tup (.cons (.tup (.cons (.lit (.int 0)) (.cons (.lit (.int 0)) .nil))) .nil))))) .nil)))
structure Kn (Γ : Gam) : Prop where
  pk : Γ "_law_pick" = some spPick
  po : Γ "_law_powers" = some spPowers
  rt : Γ "_law_rooted" = some spRooted
  ls : Γ "_law_less" = some spLess
  of : Γ "_law_of" = some spOf
  lsg : Γ "_law_signs" = some spSigns
  sg : Γ "signs_of" = some spSigns
  seen : Γ "is_seen" = some spSeen
  set : Γ "is_settled" = some spSet
  sig : Γ "sign_at" = some spSign
  lseen : Γ "_law_is_seen" = some spSeen
  lset : Γ "_law_is_settled" = some spSet
  lsig : Γ "_law_sign" = some spSign
  pw : Γ "_law_power" = some spPower
theorem rngD4 (n : Int) : rngD n (n + 4) = (List.range 4).map fun k : Nat => PyData.int (n + (k : Int)) := by
  unfold rngD
  rw [show (n + 4 - n).toNat = 4 by omega]
theorem canLay_ints : ∀ ns : List Int, PyData.canLayAll0 (ns.map PyData.int) = true
  | [] => rfl
  | n :: ns => by show ((PyData.int n).canLay0 && PyData.canLayAll0 (ns.map PyData.int)) = true; rw [canLay_ints ns]; rfl
theorem w_BI2 {Γ : Gam} (G : Kn Γ) {p n : Nat} {b c : Bool} {ps : List (Int × Int)} (hp : p = 2 ∨ p = 3) (hps : Pows ps) (hn : n ≤ 11) {s0 x2 x5 x6 x7 x9 x10 x12 x13 x14 x15 x16 : Option W} {D : EndsC} (hset0 : b = true → ∀ k : Nat, S p ps (n + k) = S p ps n)
    (hD : ∀ y14, D.nx [s0, some .src, x2, some (.d (.int p)), some (.d (pD ps)), x5, x6, x7, some (.d (.int n)), x9, x10, some (.d (.list [.int (S p ps n), .bool b, .bool c])), x12, x13, y14, x15, x16]) :
    wpSs Γ BI2 [s0, some .src, x2, some (.d (.int p)), some (.d (pD ps)), x5, x6, x7, some (.d (.int n)), x9, x10, some (.d (.list [.int (S p ps n), .bool b, .bool c])), x12, x13, x14, x15, x16] D := by
  (repeat (first | refine ok_intro rfl ?_ | refine Or.inl (ok_intro rfl (ok_intro rfl ?_)) | refine Or.inl (ok_intro rfl ?_) | refine Or.inr (ok_intro rfl ?_) | refine Or.inr (Or.inl (ok_intro rfl (ok_intro rfl ?_))) | refine Or.inr (Or.inr (ok_intro rfl (ok_intro rfl ?_))) | refine And.intro (rfl : W.view _ = false) ?_ | (refine And.intro eqOk_int ?_; rw [eqv_int]) | (refine And.intro eqOk_bool ?_; rw [eqv_bool]) | refine And.intro (rfl : W.own _ = true) ?_ | refine And.intro (rfl : W.own _ = false) ?_ | refine And.intro (rfl : Option.isSome _ = true) ?_ | refine And.intro (lt_len rfl) ?_ | refine And.intro (rfl : ([] : List PyData) = []) ?_ | refine And.intro (size_ok (Nat.le_of_ble_eq_true rfl)) ?_ | refine And.intro (rfl : W.gives _ = true) ?_ | refine And.intro (rfl : List.all _ W.arg = true) ?_))
  cases b with
  | false =>
    refine ite_f ?_
    (repeat (first | refine ok_intro rfl ?_ | refine Or.inl (ok_intro rfl (ok_intro rfl ?_)) | refine Or.inl (ok_intro rfl ?_) | refine Or.inr (ok_intro rfl ?_) | refine Or.inr (Or.inl (ok_intro rfl (ok_intro rfl ?_))) | refine Or.inr (Or.inr (ok_intro rfl (ok_intro rfl ?_))) | refine And.intro (rfl : W.view _ = false) ?_ | (refine And.intro eqOk_int ?_; rw [eqv_int]) | (refine And.intro eqOk_bool ?_; rw [eqv_bool]) | refine And.intro (rfl : W.own _ = true) ?_ | refine And.intro (rfl : W.own _ = false) ?_ | refine And.intro (rfl : Option.isSome _ = true) ?_ | refine And.intro (lt_len rfl) ?_ | refine And.intro (rfl : ([] : List PyData) = []) ?_ | refine And.intro (size_ok (Nat.le_of_ble_eq_true rfl)) ?_ | refine And.intro (rfl : W.gives _ = true) ?_ | refine And.intro (rfl : List.all _ W.arg = true) ?_))
    refine ite_f ?_
    exact hD _
  | true =>
    refine ite_t ?_
    (repeat (first | refine ok_intro rfl ?_ | refine Or.inl (ok_intro rfl (ok_intro rfl ?_)) | refine Or.inl (ok_intro rfl ?_) | refine Or.inr (ok_intro rfl ?_) | refine Or.inr (Or.inl (ok_intro rfl (ok_intro rfl ?_))) | refine Or.inr (Or.inr (ok_intro rfl (ok_intro rfl ?_))) | refine And.intro (rfl : W.view _ = false) ?_ | (refine And.intro eqOk_int ?_; rw [eqv_int]) | (refine And.intro eqOk_bool ?_; rw [eqv_bool]) | refine And.intro (rfl : W.own _ = true) ?_ | refine And.intro (rfl : W.own _ = false) ?_ | refine And.intro (rfl : Option.isSome _ = true) ?_ | refine And.intro (lt_len rfl) ?_ | refine And.intro (rfl : ([] : List PyData) = []) ?_ | refine And.intro (size_ok (Nat.le_of_ble_eq_true rfl)) ?_ | refine And.intro (rfl : W.gives _ = true) ?_ | refine And.intro (rfl : List.all _ W.arg = true) ?_))
    refine ⟨⟨by omega, by omega⟩, ⟨by omega, by omega⟩, ?_⟩
    rw [rngD4]
    refine ⟨rfl, ?_⟩
    refine compW_enc (fun k : Nat => PyData.int ((n : Int) + (k : Int))) (fun _ => none) (List.range 4) [] (fun j hj k hk => ?_) (size_ok (by simp)) ?_
    · have hj4 : j < 4 := List.mem_range.mp hj
      (repeat (first | refine ok_intro rfl ?_ | refine Or.inl (ok_intro rfl (ok_intro rfl ?_)) | refine Or.inl (ok_intro rfl ?_) | refine Or.inr (ok_intro rfl ?_) | refine Or.inr (Or.inl (ok_intro rfl (ok_intro rfl ?_))) | refine Or.inr (Or.inr (ok_intro rfl (ok_intro rfl ?_))) | refine And.intro (rfl : W.view _ = false) ?_ | (refine And.intro eqOk_int ?_; rw [eqv_int]) | (refine And.intro eqOk_bool ?_; rw [eqv_bool]) | refine And.intro (rfl : W.own _ = true) ?_ | refine And.intro (rfl : W.own _ = false) ?_ | refine And.intro (rfl : Option.isSome _ = true) ?_ | refine And.intro (lt_len rfl) ?_ | refine And.intro (rfl : ([] : List PyData) = []) ?_ | refine And.intro (size_ok (Nat.le_of_ble_eq_true rfl)) ?_ | refine And.intro (rfl : W.gives _ = true) ?_ | refine And.intro (rfl : List.all _ W.arg = true) ?_))
      refine ok_intro G.lsig ?_
      refine ⟨p, n + j, ps, by rw [Int.natCast_add], ⟨hp, by omega⟩, hps, ?_⟩
      (repeat (first | refine ok_intro rfl ?_ | refine Or.inl (ok_intro rfl (ok_intro rfl ?_)) | refine Or.inl (ok_intro rfl ?_) | refine Or.inr (ok_intro rfl ?_) | refine Or.inr (Or.inl (ok_intro rfl (ok_intro rfl ?_))) | refine Or.inr (Or.inr (ok_intro rfl (ok_intro rfl ?_))) | refine And.intro (rfl : W.view _ = false) ?_ | (refine And.intro eqOk_int ?_; rw [eqv_int]) | (refine And.intro eqOk_bool ?_; rw [eqv_bool]) | refine And.intro (rfl : W.own _ = true) ?_ | refine And.intro (rfl : W.own _ = false) ?_ | refine And.intro (rfl : Option.isSome _ = true) ?_ | refine And.intro (lt_len rfl) ?_ | refine And.intro (rfl : ([] : List PyData) = []) ?_ | refine And.intro (size_ok (Nat.le_of_ble_eq_true rfl)) ?_ | refine And.intro (rfl : W.gives _ = true) ?_ | refine And.intro (rfl : List.all _ W.arg = true) ?_))
      refine ⟨rfl, ?_⟩
      refine ite_ndec (fun h => absurd (hset0 rfl j) h) fun _ => hk
    · have e : ([] : List PyData) ++ (List.range 4).filterMap (fun _ => (none : Option PyData)) = [] := by decide
      rw [e]
      (repeat (first | refine ok_intro rfl ?_ | refine Or.inl (ok_intro rfl (ok_intro rfl ?_)) | refine Or.inl (ok_intro rfl ?_) | refine Or.inr (ok_intro rfl ?_) | refine Or.inr (Or.inl (ok_intro rfl (ok_intro rfl ?_))) | refine Or.inr (Or.inr (ok_intro rfl (ok_intro rfl ?_))) | refine And.intro (rfl : W.view _ = false) ?_ | (refine And.intro eqOk_int ?_; rw [eqv_int]) | (refine And.intro eqOk_bool ?_; rw [eqv_bool]) | refine And.intro (rfl : W.own _ = true) ?_ | refine And.intro (rfl : W.own _ = false) ?_ | refine And.intro (rfl : Option.isSome _ = true) ?_ | refine And.intro (lt_len rfl) ?_ | refine And.intro (rfl : ([] : List PyData) = []) ?_ | refine And.intro (size_ok (Nat.le_of_ble_eq_true rfl)) ?_ | refine And.intro (rfl : W.gives _ = true) ?_ | refine And.intro (rfl : List.all _ W.arg = true) ?_))
      refine ⟨⟨rfl, rfl, by decide⟩, ?_⟩
      (repeat (first | refine ok_intro rfl ?_ | refine Or.inl (ok_intro rfl (ok_intro rfl ?_)) | refine Or.inl (ok_intro rfl ?_) | refine Or.inr (ok_intro rfl ?_) | refine Or.inr (Or.inl (ok_intro rfl (ok_intro rfl ?_))) | refine Or.inr (Or.inr (ok_intro rfl (ok_intro rfl ?_))) | refine And.intro (rfl : W.view _ = false) ?_ | (refine And.intro eqOk_int ?_; rw [eqv_int]) | (refine And.intro eqOk_bool ?_; rw [eqv_bool]) | refine And.intro (rfl : W.own _ = true) ?_ | refine And.intro (rfl : W.own _ = false) ?_ | refine And.intro (rfl : Option.isSome _ = true) ?_ | refine And.intro (lt_len rfl) ?_ | refine And.intro (rfl : ([] : List PyData) = []) ?_ | refine And.intro (size_ok (Nat.le_of_ble_eq_true rfl)) ?_ | refine And.intro (rfl : W.gives _ = true) ?_ | refine And.intro (rfl : List.all _ W.arg = true) ?_))
      refine ite_f ?_
      exact hD _
theorem w_BI {Γ : Gam} (G : Kn Γ) {p n N : Nat} {ps : List (Int × Int)} (hp : p = 2 ∨ p = 3) (hps : Pows ps) (hn : n ≤ 11) (hN : N ≤ 319) (hset : isSet p N ps = true) {s0 x2 x5 x6 x9 x10 x11 x12 x13 x14 x15 x16 : Option W} {D : EndsC}
    (hD : ∀ y10 y11 y14, D.nx [s0, some .src, x2, some (.d (.int p)), some (.d (pD ps)), x5, x6, some (.d (pD (pts (S p ps) N))), some (.d (.int n)), x9, y10, y11, x12, x13, y14, x15, x16]) :
    wpSs Γ BI [s0, some .src, x2, some (.d (.int p)), some (.d (pD ps)), x5, x6, some (.d (pD (pts (S p ps) N))), some (.d (.int n)), x9, x10, x11, x12, x13, x14, x15, x16] D := by
  have pn : PN p n := ⟨hp, by omega⟩
  have rep : Rep (.list [.int (S p ps n), .bool (isSet p n ps), .bool (isSeen p n ps)]) := rep_told (sg_le _)
  (repeat (first | refine ok_intro rfl ?_ | refine Or.inl (ok_intro rfl (ok_intro rfl ?_)) | refine Or.inl (ok_intro rfl ?_) | refine Or.inr (ok_intro rfl ?_) | refine Or.inr (Or.inl (ok_intro rfl (ok_intro rfl ?_))) | refine Or.inr (Or.inr (ok_intro rfl (ok_intro rfl ?_))) | refine And.intro (rfl : W.view _ = false) ?_ | (refine And.intro eqOk_int ?_; rw [eqv_int]) | (refine And.intro eqOk_bool ?_; rw [eqv_bool]) | refine And.intro (rfl : W.own _ = true) ?_ | refine And.intro (rfl : W.own _ = false) ?_ | refine And.intro (rfl : Option.isSome _ = true) ?_ | refine And.intro (lt_len rfl) ?_ | refine And.intro (rfl : ([] : List PyData) = []) ?_ | refine And.intro (size_ok (Nat.le_of_ble_eq_true rfl)) ?_ | refine And.intro (rfl : W.gives _ = true) ?_ | refine And.intro (rfl : List.all _ W.arg = true) ?_))
  refine ok_intro G.sig ?_
  refine ⟨p, n, ps, rfl, pn, hps, ?_⟩
  (repeat (first | refine ok_intro rfl ?_ | refine Or.inl (ok_intro rfl (ok_intro rfl ?_)) | refine Or.inl (ok_intro rfl ?_) | refine Or.inr (ok_intro rfl ?_) | refine Or.inr (Or.inl (ok_intro rfl (ok_intro rfl ?_))) | refine Or.inr (Or.inr (ok_intro rfl (ok_intro rfl ?_))) | refine And.intro (rfl : W.view _ = false) ?_ | (refine And.intro eqOk_int ?_; rw [eqv_int]) | (refine And.intro eqOk_bool ?_; rw [eqv_bool]) | refine And.intro (rfl : W.own _ = true) ?_ | refine And.intro (rfl : W.own _ = false) ?_ | refine And.intro (rfl : Option.isSome _ = true) ?_ | refine And.intro (lt_len rfl) ?_ | refine And.intro (rfl : ([] : List PyData) = []) ?_ | refine And.intro (size_ok (Nat.le_of_ble_eq_true rfl)) ?_ | refine And.intro (rfl : W.gives _ = true) ?_ | refine And.intro (rfl : List.all _ W.arg = true) ?_))
  refine ok_intro G.set ?_
  refine ⟨p, n, ps, rfl, pn, hps, ?_⟩
  (repeat (first | refine ok_intro rfl ?_ | refine Or.inl (ok_intro rfl (ok_intro rfl ?_)) | refine Or.inl (ok_intro rfl ?_) | refine Or.inr (ok_intro rfl ?_) | refine Or.inr (Or.inl (ok_intro rfl (ok_intro rfl ?_))) | refine Or.inr (Or.inr (ok_intro rfl (ok_intro rfl ?_))) | refine And.intro (rfl : W.view _ = false) ?_ | (refine And.intro eqOk_int ?_; rw [eqv_int]) | (refine And.intro eqOk_bool ?_; rw [eqv_bool]) | refine And.intro (rfl : W.own _ = true) ?_ | refine And.intro (rfl : W.own _ = false) ?_ | refine And.intro (rfl : Option.isSome _ = true) ?_ | refine And.intro (lt_len rfl) ?_ | refine And.intro (rfl : ([] : List PyData) = []) ?_ | refine And.intro (size_ok (Nat.le_of_ble_eq_true rfl)) ?_ | refine And.intro (rfl : W.gives _ = true) ?_ | refine And.intro (rfl : List.all _ W.arg = true) ?_))
  refine ok_intro G.seen ?_
  refine ⟨p, n, ps, rfl, pn, hps, ?_⟩
  (repeat (first | refine ok_intro rfl ?_ | refine Or.inl (ok_intro rfl (ok_intro rfl ?_)) | refine Or.inl (ok_intro rfl ?_) | refine Or.inr (ok_intro rfl ?_) | refine Or.inr (Or.inl (ok_intro rfl (ok_intro rfl ?_))) | refine Or.inr (Or.inr (ok_intro rfl (ok_intro rfl ?_))) | refine And.intro (rfl : W.view _ = false) ?_ | (refine And.intro eqOk_int ?_; rw [eqv_int]) | (refine And.intro eqOk_bool ?_; rw [eqv_bool]) | refine And.intro (rfl : W.own _ = true) ?_ | refine And.intro (rfl : W.own _ = false) ?_ | refine And.intro (rfl : Option.isSome _ = true) ?_ | refine And.intro (lt_len rfl) ?_ | refine And.intro (rfl : ([] : List PyData) = []) ?_ | refine And.intro (size_ok (Nat.le_of_ble_eq_true rfl)) ?_ | refine And.intro (rfl : W.gives _ = true) ?_ | refine And.intro (rfl : List.all _ W.arg = true) ?_))
  refine ok_intro G.lsig ?_
  refine ⟨p, n, ps, rfl, pn, hps, ?_⟩
  (repeat (first | refine ok_intro rfl ?_ | refine Or.inl (ok_intro rfl (ok_intro rfl ?_)) | refine Or.inl (ok_intro rfl ?_) | refine Or.inr (ok_intro rfl ?_) | refine Or.inr (Or.inl (ok_intro rfl (ok_intro rfl ?_))) | refine Or.inr (Or.inr (ok_intro rfl (ok_intro rfl ?_))) | refine And.intro (rfl : W.view _ = false) ?_ | (refine And.intro eqOk_int ?_; rw [eqv_int]) | (refine And.intro eqOk_bool ?_; rw [eqv_bool]) | refine And.intro (rfl : W.own _ = true) ?_ | refine And.intro (rfl : W.own _ = false) ?_ | refine And.intro (rfl : Option.isSome _ = true) ?_ | refine And.intro (lt_len rfl) ?_ | refine And.intro (rfl : ([] : List PyData) = []) ?_ | refine And.intro (size_ok (Nat.le_of_ble_eq_true rfl)) ?_ | refine And.intro (rfl : W.gives _ = true) ?_ | refine And.intro (rfl : List.all _ W.arg = true) ?_))
  refine ok_intro G.lset ?_
  refine ⟨p, n, ps, rfl, pn, hps, ?_⟩
  (repeat (first | refine ok_intro rfl ?_ | refine Or.inl (ok_intro rfl (ok_intro rfl ?_)) | refine Or.inl (ok_intro rfl ?_) | refine Or.inr (ok_intro rfl ?_) | refine Or.inr (Or.inl (ok_intro rfl (ok_intro rfl ?_))) | refine Or.inr (Or.inr (ok_intro rfl (ok_intro rfl ?_))) | refine And.intro (rfl : W.view _ = false) ?_ | (refine And.intro eqOk_int ?_; rw [eqv_int]) | (refine And.intro eqOk_bool ?_; rw [eqv_bool]) | refine And.intro (rfl : W.own _ = true) ?_ | refine And.intro (rfl : W.own _ = false) ?_ | refine And.intro (rfl : Option.isSome _ = true) ?_ | refine And.intro (lt_len rfl) ?_ | refine And.intro (rfl : ([] : List PyData) = []) ?_ | refine And.intro (size_ok (Nat.le_of_ble_eq_true rfl)) ?_ | refine And.intro (rfl : W.gives _ = true) ?_ | refine And.intro (rfl : List.all _ W.arg = true) ?_))
  refine ok_intro G.lseen ?_
  refine ⟨p, n, ps, rfl, pn, hps, ?_⟩
  (repeat (first | refine ok_intro rfl ?_ | refine Or.inl (ok_intro rfl (ok_intro rfl ?_)) | refine Or.inl (ok_intro rfl ?_) | refine Or.inr (ok_intro rfl ?_) | refine Or.inr (Or.inl (ok_intro rfl (ok_intro rfl ?_))) | refine Or.inr (Or.inr (ok_intro rfl (ok_intro rfl ?_))) | refine And.intro (rfl : W.view _ = false) ?_ | (refine And.intro eqOk_int ?_; rw [eqv_int]) | (refine And.intro eqOk_bool ?_; rw [eqv_bool]) | refine And.intro (rfl : W.own _ = true) ?_ | refine And.intro (rfl : W.own _ = false) ?_ | refine And.intro (rfl : Option.isSome _ = true) ?_ | refine And.intro (lt_len rfl) ?_ | refine And.intro (rfl : ([] : List PyData) = []) ?_ | refine And.intro (size_ok (Nat.le_of_ble_eq_true rfl)) ?_ | refine And.intro (rfl : W.gives _ = true) ?_ | refine And.intro (rfl : List.all _ W.arg = true) ?_))
  refine ⟨rep.sh, rep.nd, rep.dp, rep.ln, ?_⟩
  (repeat (first | refine ok_intro rfl ?_ | refine Or.inl (ok_intro rfl (ok_intro rfl ?_)) | refine Or.inl (ok_intro rfl ?_) | refine Or.inr (ok_intro rfl ?_) | refine Or.inr (Or.inl (ok_intro rfl (ok_intro rfl ?_))) | refine Or.inr (Or.inr (ok_intro rfl (ok_intro rfl ?_))) | refine And.intro (rfl : W.view _ = false) ?_ | (refine And.intro eqOk_int ?_; rw [eqv_int]) | (refine And.intro eqOk_bool ?_; rw [eqv_bool]) | refine And.intro (rfl : W.own _ = true) ?_ | refine And.intro (rfl : W.own _ = false) ?_ | refine And.intro (rfl : Option.isSome _ = true) ?_ | refine And.intro (lt_len rfl) ?_ | refine And.intro (rfl : ([] : List PyData) = []) ?_ | refine And.intro (size_ok (Nat.le_of_ble_eq_true rfl)) ?_ | refine And.intro (rfl : W.gives _ = true) ?_ | refine And.intro (rfl : List.all _ W.arg = true) ?_))
  refine ⟨rep.sh, rep.nd, rep.dp, rep.ln, ?_⟩
  refine Or.inr (ok_intro rfl (ok_intro rfl (ok_intro rfl (ite_ndec (fun h => absurd rfl h) fun _ => ?_))))
  (repeat (first | refine ok_intro rfl ?_ | refine Or.inl (ok_intro rfl (ok_intro rfl ?_)) | refine Or.inl (ok_intro rfl ?_) | refine Or.inr (ok_intro rfl ?_) | refine Or.inr (Or.inl (ok_intro rfl (ok_intro rfl ?_))) | refine Or.inr (Or.inr (ok_intro rfl (ok_intro rfl ?_))) | refine And.intro (rfl : W.view _ = false) ?_ | (refine And.intro eqOk_int ?_; rw [eqv_int]) | (refine And.intro eqOk_bool ?_; rw [eqv_bool]) | refine And.intro (rfl : W.own _ = true) ?_ | refine And.intro (rfl : W.own _ = false) ?_ | refine And.intro (rfl : Option.isSome _ = true) ?_ | refine And.intro (lt_len rfl) ?_ | refine And.intro (rfl : ([] : List PyData) = []) ?_ | refine And.intro (size_ok (Nat.le_of_ble_eq_true rfl)) ?_ | refine And.intro (rfl : W.gives _ = true) ?_ | refine And.intro (rfl : List.all _ W.arg = true) ?_))
  refine ⟨rfl, ?_⟩
  refine compW_enc pr (fun ic => if decide (ic.1 ≤ (n : Int)) = true then some (.int ic.2) else none) (pts (S p ps) N) [] (fun ic hic k hk => ?_) (size_ok (by have := pts_len (S p ps) N; simp; omega)) ?_
  · (repeat (first | refine ok_intro rfl ?_ | refine Or.inl (ok_intro rfl (ok_intro rfl ?_)) | refine Or.inl (ok_intro rfl ?_) | refine Or.inr (ok_intro rfl ?_) | refine Or.inr (Or.inl (ok_intro rfl (ok_intro rfl ?_))) | refine Or.inr (Or.inr (ok_intro rfl (ok_intro rfl ?_))) | refine And.intro (rfl : W.view _ = false) ?_ | (refine And.intro eqOk_int ?_; rw [eqv_int]) | (refine And.intro eqOk_bool ?_; rw [eqv_bool]) | refine And.intro (rfl : W.own _ = true) ?_ | refine And.intro (rfl : W.own _ = false) ?_ | refine And.intro (rfl : Option.isSome _ = true) ?_ | refine And.intro (lt_len rfl) ?_ | refine And.intro (rfl : ([] : List PyData) = []) ?_ | refine And.intro (size_ok (Nat.le_of_ble_eq_true rfl)) ?_ | refine And.intro (rfl : W.gives _ = true) ?_ | refine And.intro (rfl : List.all _ W.arg = true) ?_))
    refine ⟨rfl, ?_⟩
    refine ite_dec (fun hc => ?_) fun hc => ?_
    · (repeat (first | refine ok_intro rfl ?_ | refine Or.inl (ok_intro rfl (ok_intro rfl ?_)) | refine Or.inl (ok_intro rfl ?_) | refine Or.inr (ok_intro rfl ?_) | refine Or.inr (Or.inl (ok_intro rfl (ok_intro rfl ?_))) | refine Or.inr (Or.inr (ok_intro rfl (ok_intro rfl ?_))) | refine And.intro (rfl : W.view _ = false) ?_ | (refine And.intro eqOk_int ?_; rw [eqv_int]) | (refine And.intro eqOk_bool ?_; rw [eqv_bool]) | refine And.intro (rfl : W.own _ = true) ?_ | refine And.intro (rfl : W.own _ = false) ?_ | refine And.intro (rfl : Option.isSome _ = true) ?_ | refine And.intro (lt_len rfl) ?_ | refine And.intro (rfl : ([] : List PyData) = []) ?_ | refine And.intro (size_ok (Nat.le_of_ble_eq_true rfl)) ?_ | refine And.intro (rfl : W.gives _ = true) ?_ | refine And.intro (rfl : List.all _ W.arg = true) ?_))
      rw [if_pos (decide_eq_true hc)] at hk
      exact ⟨rfl, hk⟩
    · rw [if_neg (by simpa using hc)] at hk
      exact hk
  rw [List.nil_append, filterMap_if, pts_filter]
  obtain ⟨r, j, er⟩ := pts_last (S p ps) (min n N)
  have hat : atI ((pts (S p ps) (min n N)).map fun ic => PyData.int ic.2) (-1) = some (.int (S p ps (min n N))) := by
    rw [er, List.map_append]; exact atI_last _ _
  have hsame : S p ps (min n N) = S p ps n := by
    rcases Nat.le_total n N with h | h
    · rw [Nat.min_eq_left h]
    · rw [Nat.min_eq_right h]; exact (S_same hp hps h hset).symm
  (repeat (first | refine ok_intro rfl ?_ | refine Or.inl (ok_intro rfl (ok_intro rfl ?_)) | refine Or.inl (ok_intro rfl ?_) | refine Or.inr (ok_intro rfl ?_) | refine Or.inr (Or.inl (ok_intro rfl (ok_intro rfl ?_))) | refine Or.inr (Or.inr (ok_intro rfl (ok_intro rfl ?_))) | refine And.intro (rfl : W.view _ = false) ?_ | (refine And.intro eqOk_int ?_; rw [eqv_int]) | (refine And.intro eqOk_bool ?_; rw [eqv_bool]) | refine And.intro (rfl : W.own _ = true) ?_ | refine And.intro (rfl : W.own _ = false) ?_ | refine And.intro (rfl : Option.isSome _ = true) ?_ | refine And.intro (lt_len rfl) ?_ | refine And.intro (rfl : ([] : List PyData) = []) ?_ | refine And.intro (size_ok (Nat.le_of_ble_eq_true rfl)) ?_ | refine And.intro (rfl : W.gives _ = true) ?_ | refine And.intro (rfl : List.all _ W.arg = true) ?_))
  refine ok_intro hat ?_
  (repeat (first | refine ok_intro rfl ?_ | refine Or.inl (ok_intro rfl (ok_intro rfl ?_)) | refine Or.inl (ok_intro rfl ?_) | refine Or.inr (ok_intro rfl ?_) | refine Or.inr (Or.inl (ok_intro rfl (ok_intro rfl ?_))) | refine Or.inr (Or.inr (ok_intro rfl (ok_intro rfl ?_))) | refine And.intro (rfl : W.view _ = false) ?_ | (refine And.intro eqOk_int ?_; rw [eqv_int]) | (refine And.intro eqOk_bool ?_; rw [eqv_bool]) | refine And.intro (rfl : W.own _ = true) ?_ | refine And.intro (rfl : W.own _ = false) ?_ | refine And.intro (rfl : Option.isSome _ = true) ?_ | refine And.intro (lt_len rfl) ?_ | refine And.intro (rfl : ([] : List PyData) = []) ?_ | refine And.intro (size_ok (Nat.le_of_ble_eq_true rfl)) ?_ | refine And.intro (rfl : W.gives _ = true) ?_ | refine And.intro (rfl : List.all _ W.arg = true) ?_))
  refine ite_ndec (fun h => absurd hsame h) fun _ => ?_
  (repeat (first | refine ok_intro rfl ?_ | refine Or.inl (ok_intro rfl (ok_intro rfl ?_)) | refine Or.inl (ok_intro rfl ?_) | refine Or.inr (ok_intro rfl ?_) | refine Or.inr (Or.inl (ok_intro rfl (ok_intro rfl ?_))) | refine Or.inr (Or.inr (ok_intro rfl (ok_intro rfl ?_))) | refine And.intro (rfl : W.view _ = false) ?_ | (refine And.intro eqOk_int ?_; rw [eqv_int]) | (refine And.intro eqOk_bool ?_; rw [eqv_bool]) | refine And.intro (rfl : W.own _ = true) ?_ | refine And.intro (rfl : W.own _ = false) ?_ | refine And.intro (rfl : Option.isSome _ = true) ?_ | refine And.intro (lt_len rfl) ?_ | refine And.intro (rfl : ([] : List PyData) = []) ?_ | refine And.intro (size_ok (Nat.le_of_ble_eq_true rfl)) ?_ | refine And.intro (rfl : W.gives _ = true) ?_ | refine And.intro (rfl : List.all _ W.arg = true) ?_))
  have hset0 : ∀ k : Nat, k < 4 → isSet p n ps = true → S p ps (n + k) = S p ps n := fun k _ h => S_same hp hps (Nat.le_add_right n k) h
  have hseen0 : ∀ k : Nat, isSeen p n ps = true → S p ps (n + k) ≠ -1 := fun k h => S_seen hp hps (Nat.le_add_right n k) h
  cases hb : isSeen p n ps with
  | false =>
    rw [if_neg Bool.false_ne_true]
    refine ok_intro rfl ?_
    show (if false = true then _ else _)
    rw [if_neg Bool.false_ne_true]
    exact w_BI2 G hp hps hn (fun h k => S_same hp hps (Nat.le_add_right n k) h) fun y14 => hD _ _ y14
  | true =>
    refine ite_t ?_
    (repeat (first | refine ok_intro rfl ?_ | refine Or.inl (ok_intro rfl (ok_intro rfl ?_)) | refine Or.inl (ok_intro rfl ?_) | refine Or.inr (ok_intro rfl ?_) | refine Or.inr (Or.inl (ok_intro rfl (ok_intro rfl ?_))) | refine Or.inr (Or.inr (ok_intro rfl (ok_intro rfl ?_))) | refine And.intro (rfl : W.view _ = false) ?_ | (refine And.intro eqOk_int ?_; rw [eqv_int]) | (refine And.intro eqOk_bool ?_; rw [eqv_bool]) | refine And.intro (rfl : W.own _ = true) ?_ | refine And.intro (rfl : W.own _ = false) ?_ | refine And.intro (rfl : Option.isSome _ = true) ?_ | refine And.intro (lt_len rfl) ?_ | refine And.intro (rfl : ([] : List PyData) = []) ?_ | refine And.intro (size_ok (Nat.le_of_ble_eq_true rfl)) ?_ | refine And.intro (rfl : W.gives _ = true) ?_ | refine And.intro (rfl : List.all _ W.arg = true) ?_))
    refine ⟨⟨by omega, by omega⟩, ⟨by omega, by omega⟩, ?_⟩
    rw [rngD4]
    refine ⟨rfl, ?_⟩
    refine compW_enc (fun k : Nat => PyData.int ((n : Int) + (k : Int))) (fun k => some (.int (S p ps (n + k)))) (List.range 4) [] (fun j hj k hk => ?_) (size_ok (by simp)) ?_
    · have hj4 : j < 4 := List.mem_range.mp hj
      (repeat (first | refine ok_intro rfl ?_ | refine Or.inl (ok_intro rfl (ok_intro rfl ?_)) | refine Or.inl (ok_intro rfl ?_) | refine Or.inr (ok_intro rfl ?_) | refine Or.inr (Or.inl (ok_intro rfl (ok_intro rfl ?_))) | refine Or.inr (Or.inr (ok_intro rfl (ok_intro rfl ?_))) | refine And.intro (rfl : W.view _ = false) ?_ | (refine And.intro eqOk_int ?_; rw [eqv_int]) | (refine And.intro eqOk_bool ?_; rw [eqv_bool]) | refine And.intro (rfl : W.own _ = true) ?_ | refine And.intro (rfl : W.own _ = false) ?_ | refine And.intro (rfl : Option.isSome _ = true) ?_ | refine And.intro (lt_len rfl) ?_ | refine And.intro (rfl : ([] : List PyData) = []) ?_ | refine And.intro (size_ok (Nat.le_of_ble_eq_true rfl)) ?_ | refine And.intro (rfl : W.gives _ = true) ?_ | refine And.intro (rfl : List.all _ W.arg = true) ?_))
      refine ⟨rfl, ite_t ?_⟩
      (repeat (first | refine ok_intro rfl ?_ | refine Or.inl (ok_intro rfl (ok_intro rfl ?_)) | refine Or.inl (ok_intro rfl ?_) | refine Or.inr (ok_intro rfl ?_) | refine Or.inr (Or.inl (ok_intro rfl (ok_intro rfl ?_))) | refine Or.inr (Or.inr (ok_intro rfl (ok_intro rfl ?_))) | refine And.intro (rfl : W.view _ = false) ?_ | (refine And.intro eqOk_int ?_; rw [eqv_int]) | (refine And.intro eqOk_bool ?_; rw [eqv_bool]) | refine And.intro (rfl : W.own _ = true) ?_ | refine And.intro (rfl : W.own _ = false) ?_ | refine And.intro (rfl : Option.isSome _ = true) ?_ | refine And.intro (lt_len rfl) ?_ | refine And.intro (rfl : ([] : List PyData) = []) ?_ | refine And.intro (size_ok (Nat.le_of_ble_eq_true rfl)) ?_ | refine And.intro (rfl : W.gives _ = true) ?_ | refine And.intro (rfl : List.all _ W.arg = true) ?_))
      refine ok_intro G.lsig ?_
      refine ⟨p, n + j, ps, by rw [Int.natCast_add], ⟨hp, by omega⟩, hps, ?_⟩
      (repeat (first | refine ok_intro rfl ?_ | refine Or.inl (ok_intro rfl (ok_intro rfl ?_)) | refine Or.inl (ok_intro rfl ?_) | refine Or.inr (ok_intro rfl ?_) | refine Or.inr (Or.inl (ok_intro rfl (ok_intro rfl ?_))) | refine Or.inr (Or.inr (ok_intro rfl (ok_intro rfl ?_))) | refine And.intro (rfl : W.view _ = false) ?_ | (refine And.intro eqOk_int ?_; rw [eqv_int]) | (refine And.intro eqOk_bool ?_; rw [eqv_bool]) | refine And.intro (rfl : W.own _ = true) ?_ | refine And.intro (rfl : W.own _ = false) ?_ | refine And.intro (rfl : Option.isSome _ = true) ?_ | refine And.intro (lt_len rfl) ?_ | refine And.intro (rfl : ([] : List PyData) = []) ?_ | refine And.intro (size_ok (Nat.le_of_ble_eq_true rfl)) ?_ | refine And.intro (rfl : W.gives _ = true) ?_ | refine And.intro (rfl : List.all _ W.arg = true) ?_))
      exact ⟨rfl, hk⟩
    · rw [List.nil_append, filterMap_some]
      have e : ((List.range 4).map fun k => PyData.int (S p ps (n + k))) = ((List.range 4).map fun k => S p ps (n + k)).map PyData.int := by rw [List.map_map]; rfl
      rw [e]
      refine ok_intro rfl (ok_intro rfl ⟨⟨rfl, canLay_ints _, Nat.le_trans (Nat.min_le_right _ _) (Nat.zero_le _)⟩, ?_⟩)
      have e2 : ((((List.range 4).map fun k => S p ps (n + k)).map PyData.int).any fun y => PyData.eqv y (.int (-1))) = false := by
        rw [List.any_eq_false]
        intro y hy
        obtain ⟨t, ht, rfl⟩ := List.mem_map.mp hy
        obtain ⟨k, _, rfl⟩ := List.mem_map.mp ht
        rw [eqv_int, decide_eq_true_eq]
        exact hseen0 k hb
      rw [e2]
      refine ok_intro rfl (ok_intro rfl ?_)
      show (if false = true then _ else _)
      rw [if_neg Bool.false_ne_true]
      exact w_BI2 G hp hps hn (fun h k => S_same hp hps (Nat.le_add_right n k) h) fun y14 => hD _ _ y14
end K54
end Cal
set_option Elab.async false
set_option linter.all false
set_option maxRecDepth 100000
set_option maxHeartbeats 4000000
namespace Cal
namespace K54
open PySem PySem.Spec PyProof.Rows L2
theorem w_B6 {Γ : Gam} (G : Kn Γ) {p : Nat} {ps : List (Int × Int)} (hp : p = 2 ∨ p = 3) (hps : Pows ps) {s0 x2 x5 x6 x7 x8 x9 x10 x11 x12 x13 x14 x15 x16 : Option W} {D : EndsC}
    (hD : ∀ y6 y7 y8 y9 y10 y11 y14, D.nx [s0, some .src, x2, some (.d (.int p)), some (.d (pD ps)), x5, y6, y7, y8, y9, y10, y11, x12, x13, y14, x15, x16]) :
    wpSs Γ B6 [s0, some .src, x2, some (.d (.int p)), some (.d (pD ps)), x5, x6, x7, x8, x9, x10, x11, x12, x13, x14, x15, x16] D := by
  obtain ⟨N, hN, hset, hnot⟩ := least 319 (P := fun n => isSet p n ps) (set_ex hp hps)
  have r1 : Rep (pD ps) := rep_pD hps.sm (by have := hps.len; omega)
  have r2 : Rep (pD (pts (S p ps) N)) := rep_pD (pts_all _ (fun n => sg_le _) N (by omega)) (by have := pts_len (S p ps) N; omega)
  (repeat (first | refine ok_intro rfl ?_ | refine Or.inl (ok_intro rfl (ok_intro rfl ?_)) | refine Or.inl (ok_intro rfl ?_) | refine Or.inr (ok_intro rfl ?_) | refine Or.inr (Or.inl (ok_intro rfl (ok_intro rfl ?_))) | refine Or.inr (Or.inr (ok_intro rfl (ok_intro rfl ?_))) | refine And.intro (rfl : W.view _ = false) ?_ | (refine And.intro eqOk_int ?_; rw [eqv_int]) | (refine And.intro eqOk_bool ?_; rw [eqv_bool]) | refine And.intro (rfl : W.own _ = true) ?_ | refine And.intro (rfl : W.own _ = false) ?_ | refine And.intro (rfl : Option.isSome _ = true) ?_ | refine And.intro (lt_len rfl) ?_ | refine And.intro (rfl : ([] : List PyData) = []) ?_ | refine And.intro (size_ok (Nat.le_of_ble_eq_true rfl)) ?_ | refine And.intro (rfl : W.gives _ = true) ?_ | refine And.intro (rfl : List.all _ W.arg = true) ?_))
  refine ⟨r1.sh, r1.nd, r1.dp, r1.ln, ?_⟩
  (repeat (first | refine ok_intro rfl ?_ | refine Or.inl (ok_intro rfl (ok_intro rfl ?_)) | refine Or.inl (ok_intro rfl ?_) | refine Or.inr (ok_intro rfl ?_) | refine Or.inr (Or.inl (ok_intro rfl (ok_intro rfl ?_))) | refine Or.inr (Or.inr (ok_intro rfl (ok_intro rfl ?_))) | refine And.intro (rfl : W.view _ = false) ?_ | (refine And.intro eqOk_int ?_; rw [eqv_int]) | (refine And.intro eqOk_bool ?_; rw [eqv_bool]) | refine And.intro (rfl : W.own _ = true) ?_ | refine And.intro (rfl : W.own _ = false) ?_ | refine And.intro (rfl : Option.isSome _ = true) ?_ | refine And.intro (lt_len rfl) ?_ | refine And.intro (rfl : ([] : List PyData) = []) ?_ | refine And.intro (size_ok (Nat.le_of_ble_eq_true rfl)) ?_ | refine And.intro (rfl : W.gives _ = true) ?_ | refine And.intro (rfl : List.all _ W.arg = true) ?_))
  refine ok_intro G.lsg ?_
  refine ⟨p, N, ps, rfl, hp, hps, hN, hset, hnot, ?_⟩
  (repeat (first | refine ok_intro rfl ?_ | refine Or.inl (ok_intro rfl (ok_intro rfl ?_)) | refine Or.inl (ok_intro rfl ?_) | refine Or.inr (ok_intro rfl ?_) | refine Or.inr (Or.inl (ok_intro rfl (ok_intro rfl ?_))) | refine Or.inr (Or.inr (ok_intro rfl (ok_intro rfl ?_))) | refine And.intro (rfl : W.view _ = false) ?_ | (refine And.intro eqOk_int ?_; rw [eqv_int]) | (refine And.intro eqOk_bool ?_; rw [eqv_bool]) | refine And.intro (rfl : W.own _ = true) ?_ | refine And.intro (rfl : W.own _ = false) ?_ | refine And.intro (rfl : Option.isSome _ = true) ?_ | refine And.intro (lt_len rfl) ?_ | refine And.intro (rfl : ([] : List PyData) = []) ?_ | refine And.intro (size_ok (Nat.le_of_ble_eq_true rfl)) ?_ | refine And.intro (rfl : W.gives _ = true) ?_ | refine And.intro (rfl : List.all _ W.arg = true) ?_))
  refine ok_intro G.sg ?_
  refine ⟨p, N, ps, rfl, hp, hps, hN, hset, hnot, ?_⟩
  (repeat (first | refine ok_intro rfl ?_ | refine Or.inl (ok_intro rfl (ok_intro rfl ?_)) | refine Or.inl (ok_intro rfl ?_) | refine Or.inr (ok_intro rfl ?_) | refine Or.inr (Or.inl (ok_intro rfl (ok_intro rfl ?_))) | refine Or.inr (Or.inr (ok_intro rfl (ok_intro rfl ?_))) | refine And.intro (rfl : W.view _ = false) ?_ | (refine And.intro eqOk_int ?_; rw [eqv_int]) | (refine And.intro eqOk_bool ?_; rw [eqv_bool]) | refine And.intro (rfl : W.own _ = true) ?_ | refine And.intro (rfl : W.own _ = false) ?_ | refine And.intro (rfl : Option.isSome _ = true) ?_ | refine And.intro (lt_len rfl) ?_ | refine And.intro (rfl : ([] : List PyData) = []) ?_ | refine And.intro (size_ok (Nat.le_of_ble_eq_true rfl)) ?_ | refine And.intro (rfl : W.gives _ = true) ?_ | refine And.intro (rfl : List.all _ W.arg = true) ?_))
  refine ⟨r2.sh, r2.nd, r2.dp, r2.ln, ?_⟩
  (repeat (first | refine ok_intro rfl ?_ | refine Or.inl (ok_intro rfl (ok_intro rfl ?_)) | refine Or.inl (ok_intro rfl ?_) | refine Or.inr (ok_intro rfl ?_) | refine Or.inr (Or.inl (ok_intro rfl (ok_intro rfl ?_))) | refine Or.inr (Or.inr (ok_intro rfl (ok_intro rfl ?_))) | refine And.intro (rfl : W.view _ = false) ?_ | (refine And.intro eqOk_int ?_; rw [eqv_int]) | (refine And.intro eqOk_bool ?_; rw [eqv_bool]) | refine And.intro (rfl : W.own _ = true) ?_ | refine And.intro (rfl : W.own _ = false) ?_ | refine And.intro (rfl : Option.isSome _ = true) ?_ | refine And.intro (lt_len rfl) ?_ | refine And.intro (rfl : ([] : List PyData) = []) ?_ | refine And.intro (size_ok (Nat.le_of_ble_eq_true rfl)) ?_ | refine And.intro (rfl : W.gives _ = true) ?_ | refine And.intro (rfl : List.all _ W.arg = true) ?_))
  refine ⟨r2.sh, r2.nd, r2.dp, r2.ln, ?_⟩
  refine Or.inr (ok_intro rfl (ok_intro rfl (ok_intro rfl (ite_ndec (fun h => absurd rfl h) fun _ => ?_))))
  (repeat (first | refine ok_intro rfl ?_ | refine Or.inl (ok_intro rfl (ok_intro rfl ?_)) | refine Or.inl (ok_intro rfl ?_) | refine Or.inr (ok_intro rfl ?_) | refine Or.inr (Or.inl (ok_intro rfl (ok_intro rfl ?_))) | refine Or.inr (Or.inr (ok_intro rfl (ok_intro rfl ?_))) | refine And.intro (rfl : W.view _ = false) ?_ | (refine And.intro eqOk_int ?_; rw [eqv_int]) | (refine And.intro eqOk_bool ?_; rw [eqv_bool]) | refine And.intro (rfl : W.own _ = true) ?_ | refine And.intro (rfl : W.own _ = false) ?_ | refine And.intro (rfl : Option.isSome _ = true) ?_ | refine And.intro (lt_len rfl) ?_ | refine And.intro (rfl : ([] : List PyData) = []) ?_ | refine And.intro (size_ok (Nat.le_of_ble_eq_true rfl)) ?_ | refine And.intro (rfl : W.gives _ = true) ?_ | refine And.intro (rfl : List.all _ W.arg = true) ?_))
  refine ⟨r1.sh, r1.nd, r1.dp, r1.ln, ?_⟩
  refine ok_intro rfl (ok_intro rfl (ok_intro rfl ?_))
  refine Or.inr (ok_intro rfl (ok_intro rfl (ok_intro rfl (ok_intro rfl (ite_ndec (fun h => absurd rfl h) fun _ => ?_)))))
  refine ok_intro rfl ?_
  refine ⟨⟨by decide, by decide⟩, ?_⟩
  refine ⟨rfl, ?_⟩
  refine compW_rel (fun y => ∃ u : Nat, u ≤ 11 ∧ y = .int u) _ [] (fun x hx k hk => ?_) (size_ok (by simp [rngD])) fun ys hy1 hy2 => ?_
  · (repeat (first | refine ok_intro rfl ?_ | refine Or.inl (ok_intro rfl (ok_intro rfl ?_)) | refine Or.inl (ok_intro rfl ?_) | refine Or.inr (ok_intro rfl ?_) | refine Or.inr (Or.inl (ok_intro rfl (ok_intro rfl ?_))) | refine Or.inr (Or.inr (ok_intro rfl (ok_intro rfl ?_))) | refine And.intro (rfl : W.view _ = false) ?_ | (refine And.intro eqOk_int ?_; rw [eqv_int]) | (refine And.intro eqOk_bool ?_; rw [eqv_bool]) | refine And.intro (rfl : W.own _ = true) ?_ | refine And.intro (rfl : W.own _ = false) ?_ | refine And.intro (rfl : Option.isSome _ = true) ?_ | refine And.intro (lt_len rfl) ?_ | refine And.intro (rfl : ([] : List PyData) = []) ?_ | refine And.intro (size_ok (Nat.le_of_ble_eq_true rfl)) ?_ | refine And.intro (rfl : W.gives _ = true) ?_ | refine And.intro (rfl : List.all _ W.arg = true) ?_))
    refine ⟨rfl, ite_t ?_⟩
    (repeat (first | refine ok_intro rfl ?_ | refine Or.inl (ok_intro rfl (ok_intro rfl ?_)) | refine Or.inl (ok_intro rfl ?_) | refine Or.inr (ok_intro rfl ?_) | refine Or.inr (Or.inl (ok_intro rfl (ok_intro rfl ?_))) | refine Or.inr (Or.inr (ok_intro rfl (ok_intro rfl ?_))) | refine And.intro (rfl : W.view _ = false) ?_ | (refine And.intro eqOk_int ?_; rw [eqv_int]) | (refine And.intro eqOk_bool ?_; rw [eqv_bool]) | refine And.intro (rfl : W.own _ = true) ?_ | refine And.intro (rfl : W.own _ = false) ?_ | refine And.intro (rfl : Option.isSome _ = true) ?_ | refine And.intro (lt_len rfl) ?_ | refine And.intro (rfl : ([] : List PyData) = []) ?_ | refine And.intro (size_ok (Nat.le_of_ble_eq_true rfl)) ?_ | refine And.intro (rfl : W.gives _ = true) ?_ | refine And.intro (rfl : List.all _ W.arg = true) ?_))
    refine ok_intro G.pk ?_
    refine ⟨12, rfl, by decide, fun v hv => ⟨rfl, ?_⟩⟩
    (repeat (first | refine ok_intro rfl ?_ | refine Or.inl (ok_intro rfl (ok_intro rfl ?_)) | refine Or.inl (ok_intro rfl ?_) | refine Or.inr (ok_intro rfl ?_) | refine Or.inr (Or.inl (ok_intro rfl (ok_intro rfl ?_))) | refine Or.inr (Or.inr (ok_intro rfl (ok_intro rfl ?_))) | refine And.intro (rfl : W.view _ = false) ?_ | (refine And.intro eqOk_int ?_; rw [eqv_int]) | (refine And.intro eqOk_bool ?_; rw [eqv_bool]) | refine And.intro (rfl : W.own _ = true) ?_ | refine And.intro (rfl : W.own _ = false) ?_ | refine And.intro (rfl : Option.isSome _ = true) ?_ | refine And.intro (lt_len rfl) ?_ | refine And.intro (rfl : ([] : List PyData) = []) ?_ | refine And.intro (size_ok (Nat.le_of_ble_eq_true rfl)) ?_ | refine And.intro (rfl : W.gives _ = true) ?_ | refine And.intro (rfl : List.all _ W.arg = true) ?_))
    exact ⟨rfl, hk _ ⟨v, by omega, rfl⟩⟩
  have hyl : ys.length = 4 := by rw [hy1]; simp [rngD]
  rw [List.nil_append]
  (repeat (first | refine ok_intro rfl ?_ | refine Or.inl (ok_intro rfl (ok_intro rfl ?_)) | refine Or.inl (ok_intro rfl ?_) | refine Or.inr (ok_intro rfl ?_) | refine Or.inr (Or.inl (ok_intro rfl (ok_intro rfl ?_))) | refine Or.inr (Or.inr (ok_intro rfl (ok_intro rfl ?_))) | refine And.intro (rfl : W.view _ = false) ?_ | (refine And.intro eqOk_int ?_; rw [eqv_int]) | (refine And.intro eqOk_bool ?_; rw [eqv_bool]) | refine And.intro (rfl : W.own _ = true) ?_ | refine And.intro (rfl : W.own _ = false) ?_ | refine And.intro (rfl : Option.isSome _ = true) ?_ | refine And.intro (lt_len rfl) ?_ | refine And.intro (rfl : ([] : List PyData) = []) ?_ | refine And.intro (size_ok (Nat.le_of_ble_eq_true rfl)) ?_ | refine And.intro (rfl : W.gives _ = true) ?_ | refine And.intro (rfl : List.all _ W.arg = true) ?_))
  refine ⟨size_ok (by simp; omega), ?_⟩
  (repeat (first | refine ok_intro rfl ?_ | refine Or.inl (ok_intro rfl (ok_intro rfl ?_)) | refine Or.inl (ok_intro rfl ?_) | refine Or.inr (ok_intro rfl ?_) | refine Or.inr (Or.inl (ok_intro rfl (ok_intro rfl ?_))) | refine Or.inr (Or.inr (ok_intro rfl (ok_intro rfl ?_))) | refine And.intro (rfl : W.view _ = false) ?_ | (refine And.intro eqOk_int ?_; rw [eqv_int]) | (refine And.intro eqOk_bool ?_; rw [eqv_bool]) | refine And.intro (rfl : W.own _ = true) ?_ | refine And.intro (rfl : W.own _ = false) ?_ | refine And.intro (rfl : Option.isSome _ = true) ?_ | refine And.intro (lt_len rfl) ?_ | refine And.intro (rfl : ([] : List PyData) = []) ?_ | refine And.intro (size_ok (Nat.le_of_ble_eq_true rfl)) ?_ | refine And.intro (rfl : W.gives _ = true) ?_ | refine And.intro (rfl : List.all _ W.arg = true) ?_))
  refine forW_inv _ (fun pre e => ∃ y8 y9 y10 y11 y14, e = [s0, some .src, x2, some (.d (.int p)), some (.d (pD ps)), x5, some (.d (.str (pD ps).shown)), some (.d (pD (pts (S p ps) N))), y8, y9, y10, y11, x12, x13, y14, x15, x16]) ⟨_, _, _, _, _, rfl⟩ ?_ ?_
  · rintro pre x suf e k hx ⟨y8, y9, y10, y11, y14, rfl⟩ hk
    have hxm : ∃ u : Nat, u ≤ 11 ∧ x = .int u := by
      have : x ∈ ys ++ [PyData.int 0, PyData.int 1] := by rw [show ys ++ [PyData.int 0, PyData.int 1] = pre ++ x :: suf from hx]; simp
      rcases List.mem_append.mp this with h | h
      · exact hy2 x h
      · simp at h
        rcases h with h | h <;> subst h
        · exact ⟨0, by omega, rfl⟩
        · exact ⟨1, by omega, rfl⟩
    obtain ⟨u, hu, rfl⟩ := hxm
    refine ⟨rfl, lt_len rfl, ?_⟩
    exact w_BI (D := ⟨k, _, _, k⟩) G hp hps hu hN hset fun y10 y11 y14 => hk _ ⟨_, _, _, _, _, rfl⟩
  · rintro e ⟨y8, y9, y10, y11, y14, rfl⟩
    exact hD _ _ _ _ _ _ _
end K54
end Cal
set_option Elab.async false
set_option linter.all false
set_option maxRecDepth 100000
set_option maxHeartbeats 4000000
namespace Cal
namespace K54
open PySem PySem.Spec PyProof.Rows L2
def gr (f : Nat) : List (Int × Int) := [(0, 0 - ((2 : Nat) : Int) ^ f), (1, 1)]
theorem gr_pows {f : Nat} (h : f ≤ 289) : Pows (gr f) := by
  have hp : 0 < 2 ^ f := Nat.pow_pos (by decide)
  have hb : 2 ^ f ≤ 2 ^ 300 := Nat.pow_le_pow_right (by decide) (by omega)
  refine ⟨by simp [gr], fun ic hic => ?_, fun ic hic => ?_, fun ic hic => ?_, by simp [gr]⟩
  all_goals (simp only [gr, List.mem_cons, List.not_mem_nil, or_false] at hic; rcases hic with e | e <;> subst e)
  · exact ⟨(by decide : (-4 : Int) ≤ 0), (by decide : (0 : Int) ≤ 4)⟩
  · exact ⟨(by decide : (-4 : Int) ≤ 1), (by decide : (1 : Int) ≤ 4)⟩
  · show (0 : Int) - ((2 : Nat) : Int) ^ f ≠ 0
    rw [← Int.natCast_pow]; omega
  · show (1 : Int) ≠ 0
    decide
  · show ((0 : Int) - ((2 : Nat) : Int) ^ f).natAbs ≤ 2 ^ 300
    rw [← Int.natCast_pow]
    generalize 2 ^ f = y at *
    generalize 2 ^ 300 = z at *
    omega
  · exact Nat.pow_pos (by decide)
theorem gr_S (f m : Nat) : S 2 (gr f) m = sg (((2 ^ m : Nat) : Int) - ((2 ^ f : Nat) : Int)) := by
  unfold S
  have hq : 0 < ((2 ^ m : Nat) : Int) := by have : 0 < 2 ^ m := Nat.pow_pos (by decide); omega
  rw [← Int.natCast_pow, ← sg_mul hq 4 (t := ((2 ^ m : Nat) : Int) - ((2 ^ f : Nat) : Int))]
  congr 1
  unfold gr
  rw [ev_cons, ev_cons, ← Int.natCast_pow]
  generalize ((2 ^ m : Nat) : Int) = q
  generalize ((2 ^ f : Nat) : Int) = t
  have e1 : ((0 : Int) - -4).toNat = 4 := rfl
  have e2 : ((1 : Int) - -4).toNat = 5 := rfl
  show (0 - t) * q ^ ((0 : Int) - -4).toNat + (1 * q ^ ((1 : Int) - -4).toNat + ev q (-4) []) = _
  rw [e1, e2, Int.sub_mul, Int.sub_mul, Int.pow_succ q 4, Int.zero_mul, Int.one_mul, Int.mul_comm (q ^ 4) q]
  have : ev q (-4) [] = 0 := rfl
  rw [this]
  omega
theorem gr_lt {f m : Nat} (h : m < f) : S 2 (gr f) m = -1 := by
  rw [gr_S]
  have : 2 ^ m < 2 ^ f := Nat.pow_lt_pow_right (by decide) h
  unfold sg b2i
  rw [decide_eq_false (show ¬ 0 < ((2 ^ m : Nat) : Int) - ((2 ^ f : Nat) : Int) by omega), decide_eq_true (show ((2 ^ m : Nat) : Int) - ((2 ^ f : Nat) : Int) < 0 by omega)]; rfl
theorem gr_eq (f : Nat) : S 2 (gr f) f = 0 := by rw [gr_S, Int.sub_self]; rfl
theorem gr_gt {f m : Nat} (h : f < m) : S 2 (gr f) m = 1 := by
  rw [gr_S]
  have : 2 ^ f < 2 ^ m := Nat.pow_lt_pow_right (by decide) h
  unfold sg b2i
  rw [decide_eq_true (show 0 < ((2 ^ m : Nat) : Int) - ((2 ^ f : Nat) : Int) by omega), decide_eq_false (show ¬ ((2 ^ m : Nat) : Int) - ((2 ^ f : Nat) : Int) < 0 by omega)]; rfl
theorem gr_pts0 {f : Nat} : ∀ m, m < f → pts (S 2 (gr f)) m = [(0, -1)]
  | 0, h => by unfold pts; rw [gr_lt h]
  | m + 1, h => by unfold pts; rw [gr_lt h, gr_lt (show m < f by omega), if_pos rfl]; exact gr_pts0 m (by omega)
theorem gr_pts {f : Nat} (h : 1 ≤ f) : pts (S 2 (gr f)) (f + 1) = [(0, -1), ((f : Int), 0), ((f : Int) + 1, 1)] := by
  obtain ⟨g, rfl⟩ : ∃ g, f = g + 1 := ⟨f - 1, by omega⟩
  unfold pts
  rw [gr_gt (show g + 1 < g + 1 + 1 by omega), gr_eq, if_neg (by decide)]
  unfold pts
  rw [gr_eq, gr_lt (show g < g + 1 by omega), if_neg (by decide), gr_pts0 g (by omega)]
  rfl
theorem gr_set {f m : Nat} : isSet 2 m (gr f) = decide (2 ^ f < 2 ^ m) := by
  have e : gr f = [(0, 0 - ((2 : Nat) : Int) ^ f)] ++ [(1, 1)] := rfl
  rw [e, isSet_snoc, wt_app, wt_self, wt_cons]
  have hp : 0 < 2 ^ f := Nat.pow_pos (by decide)
  rw [← Int.natCast_pow, ← Int.natCast_pow]
  have e2 : ((0 : Int) - ((2 ^ f : Nat) : Int)) * 1 < 0 := by omega
  show decide ((if ((0 : Int) - ((2 ^ f : Nat) : Int)) * 1 < 0 then ((((0 : Int) - ((2 ^ f : Nat) : Int)).natAbs : Nat) : Int) else 0) + wt 1 [] + 0 < (1 : Int) * ((2 ^ m : Nat) : Int)) = _
  rw [if_pos e2]
  have e3 : wt 1 [] = 0 := rfl
  rw [e3]
  clear e2 e
  generalize 2 ^ f = y at *
  generalize 2 ^ m = z at *
  exact decide_eq_decide.mpr (by omega)
theorem eqv_prs : ∀ ps : List (Int × Int), PyData.eqvAll (ps.map pr) (ps.map pr) = true
  | [] => rfl
  | ic :: ps => by
    show ((((PyData.int ic.1).eqv (.int ic.1)) && (((PyData.int ic.2).eqv (.int ic.2)) && true)) && PyData.eqvAll (ps.map pr) (ps.map pr)) = true
    rw [eqv_prs ps, eqv_int, eqv_int, decide_eq_true rfl, decide_eq_true rfl]; rfl
theorem eqv_pD (ps : List (Int × Int)) : PyData.eqv (pD ps) (pD ps) = true := eqv_prs ps
theorem depth_prs : ∀ ps : List (Int × Int), PyData.depthAll (ps.map pr) ≤ 1
  | [] => Nat.zero_le _
  | ic :: ps => by
    show max 1 (PyData.depthAll (ps.map pr)) ≤ 1
    exact Nat.max_le.mpr ⟨Nat.le_refl _, depth_prs ps⟩
theorem eqOk_pD (ps qs : List (Int × Int)) : eqOk (pD ps) (pD qs) := ⟨canLay_prs ps, canLay_prs qs, Nat.le_trans (Nat.min_le_left _ _) (show PyData.depthAll (ps.map pr) + 1 ≤ 64 by have := depth_prs ps; omega)⟩
theorem eq_step {x y : PyData} {k : Bool → Prop} (h1 : eqOk x y) (h2 : PyData.eqv x y = true) (h : k true) : eqOk x y ∧ k (PyData.eqv x y) := ⟨h1, by rw [h2]; exact h⟩
theorem w_BF {Γ : Gam} (G : Kn Γ) {s0 x2 x3 x4 x5 x6 x7 x8 x9 x10 x11 x12 x13 x14 x15 x16 : Option W} {D : EndsC} (hD : D.rt (.d (.bool true))) :
    wpSs Γ BF [s0, some .src, x2, x3, x4, x5, x6, x7, x8, x9, x10, x11, x12, x13, x14, x15, x16] D := by
  (repeat (first | refine ok_intro rfl ?_ | refine Or.inl (ok_intro rfl (ok_intro rfl ?_)) | refine Or.inl (ok_intro rfl ?_) | refine Or.inr (ok_intro rfl ?_) | refine Or.inr (Or.inl (ok_intro rfl (ok_intro rfl ?_))) | refine Or.inr (Or.inr (ok_intro rfl (ok_intro rfl ?_))) | refine And.intro (rfl : W.view _ = false) ?_ | (refine And.intro eqOk_int ?_; rw [eqv_int]) | (refine And.intro eqOk_bool ?_; rw [eqv_bool]) | refine And.intro (rfl : W.own _ = true) ?_ | refine And.intro (rfl : W.own _ = false) ?_ | refine And.intro (rfl : Option.isSome _ = true) ?_ | refine And.intro (lt_len rfl) ?_ | refine And.intro (rfl : ([] : List PyData) = []) ?_ | refine And.intro (size_ok (Nat.le_of_ble_eq_true rfl)) ?_ | refine And.intro (rfl : W.gives _ = true) ?_ | refine And.intro (rfl : List.all _ W.arg = true) ?_))
  refine ok_intro G.pk ?_
  refine ⟨90, rfl, by decide, fun v hv => ⟨rfl, ?_⟩⟩
  have ef : (200 : Int) + (v : Int) = ((200 + v : Nat) : Int) := by omega
  (repeat (first | refine ok_intro rfl ?_ | refine Or.inl (ok_intro rfl (ok_intro rfl ?_)) | refine Or.inl (ok_intro rfl ?_) | refine Or.inr (ok_intro rfl ?_) | refine Or.inr (Or.inl (ok_intro rfl (ok_intro rfl ?_))) | refine Or.inr (Or.inr (ok_intro rfl (ok_intro rfl ?_))) | refine And.intro (rfl : W.view _ = false) ?_ | (refine And.intro eqOk_int ?_; rw [eqv_int]) | (refine And.intro eqOk_bool ?_; rw [eqv_bool]) | refine And.intro (rfl : W.own _ = true) ?_ | refine And.intro (rfl : W.own _ = false) ?_ | refine And.intro (rfl : Option.isSome _ = true) ?_ | refine And.intro (lt_len rfl) ?_ | refine And.intro (rfl : ([] : List PyData) = []) ?_ | refine And.intro (size_ok (Nat.le_of_ble_eq_true rfl)) ?_ | refine And.intro (rfl : W.gives _ = true) ?_ | refine And.intro (rfl : List.all _ W.arg = true) ?_))
  rw [ef]
  have hf : 200 + v ≤ 289 := by omega
  have hf1 : 1 ≤ 200 + v := by omega
  generalize 200 + v = f at *
  refine ok_intro G.pw ?_
  refine ⟨2, f, rfl, by decide, by omega, ⟨rfl, ?_⟩⟩
  (repeat (first | refine ok_intro rfl ?_ | refine Or.inl (ok_intro rfl (ok_intro rfl ?_)) | refine Or.inl (ok_intro rfl ?_) | refine Or.inr (ok_intro rfl ?_) | refine Or.inr (Or.inl (ok_intro rfl (ok_intro rfl ?_))) | refine Or.inr (Or.inr (ok_intro rfl (ok_intro rfl ?_))) | refine And.intro (rfl : W.view _ = false) ?_ | (refine And.intro eqOk_int ?_; rw [eqv_int]) | (refine And.intro eqOk_bool ?_; rw [eqv_bool]) | refine And.intro (rfl : W.own _ = true) ?_ | refine And.intro (rfl : W.own _ = false) ?_ | refine And.intro (rfl : Option.isSome _ = true) ?_ | refine And.intro (lt_len rfl) ?_ | refine And.intro (rfl : ([] : List PyData) = []) ?_ | refine And.intro (size_ok (Nat.le_of_ble_eq_true rfl)) ?_ | refine And.intro (rfl : W.gives _ = true) ?_ | refine And.intro (rfl : List.all _ W.arg = true) ?_))
  refine ok_intro G.sg ?_
  refine ⟨2, f + 1, gr f, rfl, .inl rfl, gr_pows hf, by omega, ?_, fun m hm => ?_, ?_⟩
  · rw [gr_set]; exact decide_eq_true (Nat.pow_lt_pow_right (by decide) (by omega))
  · rw [gr_set]; exact decide_eq_false (Nat.not_lt.mpr (Nat.pow_le_pow_right (by decide) (by omega)))
  rw [gr_pts hf1]
  refine ⟨rfl, ?_⟩
  (repeat (first | refine ok_intro rfl ?_ | refine Or.inl (ok_intro rfl (ok_intro rfl ?_)) | refine Or.inl (ok_intro rfl ?_) | refine Or.inr (ok_intro rfl ?_) | refine Or.inr (Or.inl (ok_intro rfl (ok_intro rfl ?_))) | refine Or.inr (Or.inr (ok_intro rfl (ok_intro rfl ?_))) | refine And.intro (rfl : W.view _ = false) ?_ | (refine And.intro eqOk_int ?_; rw [eqv_int]) | (refine And.intro eqOk_bool ?_; rw [eqv_bool]) | refine And.intro (rfl : W.own _ = true) ?_ | refine And.intro (rfl : W.own _ = false) ?_ | refine And.intro (rfl : Option.isSome _ = true) ?_ | refine And.intro (lt_len rfl) ?_ | refine And.intro (rfl : ([] : List PyData) = []) ?_ | refine And.intro (size_ok (Nat.le_of_ble_eq_true rfl)) ?_ | refine And.intro (rfl : W.gives _ = true) ?_ | refine And.intro (rfl : List.all _ W.arg = true) ?_))
  refine ⟨eqOk_pD [((0 : Int), (-1 : Int)), ((f : Int), 0), ((f : Int) + 1, 1)] [((0 : Int), (-1 : Int)), ((f : Int), 0), ((f : Int) + 1, 1)], ?_⟩
  show ok (W.bool? (W.d (PyData.bool (PyData.eqv (pD [((0 : Int), (-1 : Int)), ((f : Int), 0), ((f : Int) + 1, 1)]) (pD [((0 : Int), (-1 : Int)), ((f : Int), 0), ((f : Int) + 1, 1)]))))) _
  rw [eqv_pD]
  refine ok_intro rfl (ite_t ?_)
  (repeat (first | refine ok_intro rfl ?_ | refine Or.inl (ok_intro rfl (ok_intro rfl ?_)) | refine Or.inl (ok_intro rfl ?_) | refine Or.inr (ok_intro rfl ?_) | refine Or.inr (Or.inl (ok_intro rfl (ok_intro rfl ?_))) | refine Or.inr (Or.inr (ok_intro rfl (ok_intro rfl ?_))) | refine And.intro (rfl : W.view _ = false) ?_ | (refine And.intro eqOk_int ?_; rw [eqv_int]) | (refine And.intro eqOk_bool ?_; rw [eqv_bool]) | refine And.intro (rfl : W.own _ = true) ?_ | refine And.intro (rfl : W.own _ = false) ?_ | refine And.intro (rfl : Option.isSome _ = true) ?_ | refine And.intro (lt_len rfl) ?_ | refine And.intro (rfl : ([] : List PyData) = []) ?_ | refine And.intro (size_ok (Nat.le_of_ble_eq_true rfl)) ?_ | refine And.intro (rfl : W.gives _ = true) ?_ | refine And.intro (rfl : List.all _ W.arg = true) ?_))
  refine ok_intro G.sg ?_
  refine ⟨2, 0, [], rfl, .inl rfl, ⟨List.Pairwise.nil, fun _ h => (by cases h), fun _ h => (by cases h), fun _ h => (by cases h), Nat.zero_le _⟩, by omega, rfl, fun m hm => absurd hm (Nat.not_lt_zero _), ⟨rfl, ?_⟩⟩
  (repeat (first | refine ok_intro rfl ?_ | refine Or.inl (ok_intro rfl (ok_intro rfl ?_)) | refine Or.inl (ok_intro rfl ?_) | refine Or.inr (ok_intro rfl ?_) | refine Or.inr (Or.inl (ok_intro rfl (ok_intro rfl ?_))) | refine Or.inr (Or.inr (ok_intro rfl (ok_intro rfl ?_))) | refine And.intro (rfl : W.view _ = false) ?_ | (refine And.intro eqOk_int ?_; rw [eqv_int]) | (refine And.intro eqOk_bool ?_; rw [eqv_bool]) | refine And.intro (rfl : W.own _ = true) ?_ | refine And.intro (rfl : W.own _ = false) ?_ | refine And.intro (rfl : Option.isSome _ = true) ?_ | refine And.intro (lt_len rfl) ?_ | refine And.intro (rfl : ([] : List PyData) = []) ?_ | refine And.intro (size_ok (Nat.le_of_ble_eq_true rfl)) ?_ | refine And.intro (rfl : W.gives _ = true) ?_ | refine And.intro (rfl : List.all _ W.arg = true) ?_))
  refine ⟨eqOk_pD [((0 : Int), (0 : Int))] [((0 : Int), (0 : Int))], ?_⟩
  show ok (W.bool? (W.d (PyData.bool (PyData.eqv (pD [((0 : Int), (0 : Int))]) (pD [((0 : Int), (0 : Int))]))))) _
  rw [eqv_pD]
  (repeat (first | refine ok_intro rfl ?_ | refine Or.inl (ok_intro rfl (ok_intro rfl ?_)) | refine Or.inl (ok_intro rfl ?_) | refine Or.inr (ok_intro rfl ?_) | refine Or.inr (Or.inl (ok_intro rfl (ok_intro rfl ?_))) | refine Or.inr (Or.inr (ok_intro rfl (ok_intro rfl ?_))) | refine And.intro (rfl : W.view _ = false) ?_ | (refine And.intro eqOk_int ?_; rw [eqv_int]) | (refine And.intro eqOk_bool ?_; rw [eqv_bool]) | refine And.intro (rfl : W.own _ = true) ?_ | refine And.intro (rfl : W.own _ = false) ?_ | refine And.intro (rfl : Option.isSome _ = true) ?_ | refine And.intro (lt_len rfl) ?_ | refine And.intro (rfl : ([] : List PyData) = []) ?_ | refine And.intro (size_ok (Nat.le_of_ble_eq_true rfl)) ?_ | refine And.intro (rfl : W.gives _ = true) ?_ | refine And.intro (rfl : List.all _ W.arg = true) ?_))
  exact hD
end K54
end Cal
set_option Elab.async false
set_option linter.all false
set_option maxRecDepth 100000
set_option maxHeartbeats 4000000
namespace Cal
namespace K54
open PySem PySem.Spec PyProof.Rows L2
def spLaw : Spec := fun ws Q => ∃ ns : List Int, ws = [.d (.list (ns.map PyData.int))] ∧ ns.length ≤ 63 ∧ Q (.d (.bool true))
theorem w_law {Γ : Gam} (G : Kn Γ) (ws : List W) (Q : W → Prop) (h : spLaw ws Q) : wpSs Γ T_law (startC N_law ws) { nx := fun _ => Q (.d .none), rt := Q } := by
  obtain ⟨ns, rfl, hns, h⟩ := h
  (repeat (first | refine ok_intro rfl ?_ | refine Or.inl (ok_intro rfl (ok_intro rfl ?_)) | refine Or.inl (ok_intro rfl ?_) | refine Or.inr (ok_intro rfl ?_) | refine Or.inr (Or.inl (ok_intro rfl (ok_intro rfl ?_))) | refine Or.inr (Or.inr (ok_intro rfl (ok_intro rfl ?_))) | refine And.intro (rfl : W.view _ = false) ?_ | (refine And.intro eqOk_int ?_; rw [eqv_int]) | (refine And.intro eqOk_bool ?_; rw [eqv_bool]) | refine And.intro (rfl : W.own _ = true) ?_ | refine And.intro (rfl : W.own _ = false) ?_ | refine And.intro (rfl : Option.isSome _ = true) ?_ | refine And.intro (lt_len rfl) ?_ | refine And.intro (rfl : ([] : List PyData) = []) ?_ | refine And.intro (size_ok (Nat.le_of_ble_eq_true rfl)) ?_ | refine And.intro (rfl : W.gives _ = true) ?_ | refine And.intro (rfl : List.all _ W.arg = true) ?_))
  refine ok_intro (intsOf_map ns) ?_
  refine ⟨rfl, by omega, lt_len rfl, rfl, ?_⟩
  generalize hscr : PyData.list (ns.map PyData.int) = scr
  refine ok_intro rfl ?_
  refine ⟨⟨by decide, by decide⟩, ?_⟩
  refine forW_inv _ (fun _ e => ∃ x2 x3 x4 x5 x6 x7 x8 x9 x10 x11 x12 x13 x14 x15 x16, e = [some (.d scr), some .src, x2, x3, x4, x5, x6, x7, x8, x9, x10, x11, x12, x13, x14, x15, x16]) ⟨_, _, _, _, _, _, _, _, _, _, _, _, _, _, _, rfl⟩ ?_ ?_
  · rintro pre x suf e k hx ⟨x2, x3, x4, x5, x6, x7, x8, x9, x10, x11, x12, x13, x14, x15, x16, rfl⟩ hk
    have next : ∀ (p : Nat) (ps : List (Int × Int)) (z2 z5 : Option W), (p = 2 ∨ p = 3) → Pows ps → wpSs Γ B6 [some (.d scr), some .src, z2, some (.d (.int p)), some (.d (pD ps)), z5, x6, x7, x8, x9, x10, x11, x12, x13, x14, x15, x16] ⟨k, Q, fun e => wpSs Γ BF e { nx := fun _ => Q (.d .none), rt := Q }, k⟩ := fun p ps z2 z5 hp hps =>
      w_B6 G hp hps fun y6 y7 y8 y9 y10 y11 y14 => hk _ ⟨_, _, _, _, _, _, _, _, _, _, _, _, _, _, _, rfl⟩
    (repeat (first | refine ok_intro rfl ?_ | refine Or.inl (ok_intro rfl (ok_intro rfl ?_)) | refine Or.inl (ok_intro rfl ?_) | refine Or.inr (ok_intro rfl ?_) | refine Or.inr (Or.inl (ok_intro rfl (ok_intro rfl ?_))) | refine Or.inr (Or.inr (ok_intro rfl (ok_intro rfl ?_))) | refine And.intro (rfl : W.view _ = false) ?_ | (refine And.intro eqOk_int ?_; rw [eqv_int]) | (refine And.intro eqOk_bool ?_; rw [eqv_bool]) | refine And.intro (rfl : W.own _ = true) ?_ | refine And.intro (rfl : W.own _ = false) ?_ | refine And.intro (rfl : Option.isSome _ = true) ?_ | refine And.intro (lt_len rfl) ?_ | refine And.intro (rfl : ([] : List PyData) = []) ?_ | refine And.intro (size_ok (Nat.le_of_ble_eq_true rfl)) ?_ | refine And.intro (rfl : W.gives _ = true) ?_ | refine And.intro (rfl : List.all _ W.arg = true) ?_))
    refine ok_intro G.pk ?_
    refine ⟨2, rfl, by decide, fun v hv => ⟨rfl, ?_⟩⟩
    have ep : (2 : Int) + (v : Int) = ((2 + v : Nat) : Int) := by omega
    have hp : 2 + v = 2 ∨ 2 + v = 3 := by omega
    (repeat (first | refine ok_intro rfl ?_ | refine Or.inl (ok_intro rfl (ok_intro rfl ?_)) | refine Or.inl (ok_intro rfl ?_) | refine Or.inr (ok_intro rfl ?_) | refine Or.inr (Or.inl (ok_intro rfl (ok_intro rfl ?_))) | refine Or.inr (Or.inr (ok_intro rfl (ok_intro rfl ?_))) | refine And.intro (rfl : W.view _ = false) ?_ | (refine And.intro eqOk_int ?_; rw [eqv_int]) | (refine And.intro eqOk_bool ?_; rw [eqv_bool]) | refine And.intro (rfl : W.own _ = true) ?_ | refine And.intro (rfl : W.own _ = false) ?_ | refine And.intro (rfl : Option.isSome _ = true) ?_ | refine And.intro (lt_len rfl) ?_ | refine And.intro (rfl : ([] : List PyData) = []) ?_ | refine And.intro (size_ok (Nat.le_of_ble_eq_true rfl)) ?_ | refine And.intro (rfl : W.gives _ = true) ?_ | refine And.intro (rfl : List.all _ W.arg = true) ?_))
    rw [ep]
    generalize 2 + v = p at *
    refine ok_intro G.po ?_
    refine ⟨rfl, fun ps hps => ⟨rfl, ?_⟩⟩
    (repeat (first | refine ok_intro rfl ?_ | refine Or.inl (ok_intro rfl (ok_intro rfl ?_)) | refine Or.inl (ok_intro rfl ?_) | refine Or.inr (ok_intro rfl ?_) | refine Or.inr (Or.inl (ok_intro rfl (ok_intro rfl ?_))) | refine Or.inr (Or.inr (ok_intro rfl (ok_intro rfl ?_))) | refine And.intro (rfl : W.view _ = false) ?_ | (refine And.intro eqOk_int ?_; rw [eqv_int]) | (refine And.intro eqOk_bool ?_; rw [eqv_bool]) | refine And.intro (rfl : W.own _ = true) ?_ | refine And.intro (rfl : W.own _ = false) ?_ | refine And.intro (rfl : Option.isSome _ = true) ?_ | refine And.intro (lt_len rfl) ?_ | refine And.intro (rfl : ([] : List PyData) = []) ?_ | refine And.intro (size_ok (Nat.le_of_ble_eq_true rfl)) ?_ | refine And.intro (rfl : W.gives _ = true) ?_ | refine And.intro (rfl : List.all _ W.arg = true) ?_))
    refine ok_intro G.pk ?_
    refine ⟨4, rfl, by decide, fun w hw => ⟨rfl, ?_⟩⟩
    (repeat (first | refine ok_intro rfl ?_ | refine Or.inl (ok_intro rfl (ok_intro rfl ?_)) | refine Or.inl (ok_intro rfl ?_) | refine Or.inr (ok_intro rfl ?_) | refine Or.inr (Or.inl (ok_intro rfl (ok_intro rfl ?_))) | refine Or.inr (Or.inr (ok_intro rfl (ok_intro rfl ?_))) | refine And.intro (rfl : W.view _ = false) ?_ | (refine And.intro eqOk_int ?_; rw [eqv_int]) | (refine And.intro eqOk_bool ?_; rw [eqv_bool]) | refine And.intro (rfl : W.own _ = true) ?_ | refine And.intro (rfl : W.own _ = false) ?_ | refine And.intro (rfl : Option.isSome _ = true) ?_ | refine And.intro (lt_len rfl) ?_ | refine And.intro (rfl : ([] : List PyData) = []) ?_ | refine And.intro (size_ok (Nat.le_of_ble_eq_true rfl)) ?_ | refine And.intro (rfl : W.gives _ = true) ?_ | refine And.intro (rfl : List.all _ W.arg = true) ?_))
    refine ite_dec (fun h2 => ?_) fun h2 => ?_
    · (repeat (first | refine ok_intro rfl ?_ | refine Or.inl (ok_intro rfl (ok_intro rfl ?_)) | refine Or.inl (ok_intro rfl ?_) | refine Or.inr (ok_intro rfl ?_) | refine Or.inr (Or.inl (ok_intro rfl (ok_intro rfl ?_))) | refine Or.inr (Or.inr (ok_intro rfl (ok_intro rfl ?_))) | refine And.intro (rfl : W.view _ = false) ?_ | (refine And.intro eqOk_int ?_; rw [eqv_int]) | (refine And.intro eqOk_bool ?_; rw [eqv_bool]) | refine And.intro (rfl : W.own _ = true) ?_ | refine And.intro (rfl : W.own _ = false) ?_ | refine And.intro (rfl : Option.isSome _ = true) ?_ | refine And.intro (lt_len rfl) ?_ | refine And.intro (rfl : ([] : List PyData) = []) ?_ | refine And.intro (size_ok (Nat.le_of_ble_eq_true rfl)) ?_ | refine And.intro (rfl : W.gives _ = true) ?_ | refine And.intro (rfl : List.all _ W.arg = true) ?_))
      refine ok_intro G.rt ?_
      refine ⟨p, rfl, hp, fun o ho => ⟨rfl, ?_⟩⟩
      (repeat (first | refine ok_intro rfl ?_ | refine Or.inl (ok_intro rfl (ok_intro rfl ?_)) | refine Or.inl (ok_intro rfl ?_) | refine Or.inr (ok_intro rfl ?_) | refine Or.inr (Or.inl (ok_intro rfl (ok_intro rfl ?_))) | refine Or.inr (Or.inr (ok_intro rfl (ok_intro rfl ?_))) | refine And.intro (rfl : W.view _ = false) ?_ | (refine And.intro eqOk_int ?_; rw [eqv_int]) | (refine And.intro eqOk_bool ?_; rw [eqv_bool]) | refine And.intro (rfl : W.own _ = true) ?_ | refine And.intro (rfl : W.own _ = false) ?_ | refine And.intro (rfl : Option.isSome _ = true) ?_ | refine And.intro (lt_len rfl) ?_ | refine And.intro (rfl : ([] : List PyData) = []) ?_ | refine And.intro (size_ok (Nat.le_of_ble_eq_true rfl)) ?_ | refine And.intro (rfl : W.gives _ = true) ?_ | refine And.intro (rfl : List.all _ W.arg = true) ?_))
      refine ite_dec (fun h3 => by omega) fun h3 => ?_
      exact next p o _ _ hp (ho.pows (by decide) (by decide) (Nat.le_trans (show 400000000 ≤ 2 ^ 30 by decide) (Nat.pow_le_pow_right (by decide) (by decide))) (by decide))
    · (repeat (first | refine ok_intro rfl ?_ | refine Or.inl (ok_intro rfl (ok_intro rfl ?_)) | refine Or.inl (ok_intro rfl ?_) | refine Or.inr (ok_intro rfl ?_) | refine Or.inr (Or.inl (ok_intro rfl (ok_intro rfl ?_))) | refine Or.inr (Or.inr (ok_intro rfl (ok_intro rfl ?_))) | refine And.intro (rfl : W.view _ = false) ?_ | (refine And.intro eqOk_int ?_; rw [eqv_int]) | (refine And.intro eqOk_bool ?_; rw [eqv_bool]) | refine And.intro (rfl : W.own _ = true) ?_ | refine And.intro (rfl : W.own _ = false) ?_ | refine And.intro (rfl : Option.isSome _ = true) ?_ | refine And.intro (lt_len rfl) ?_ | refine And.intro (rfl : ([] : List PyData) = []) ?_ | refine And.intro (size_ok (Nat.le_of_ble_eq_true rfl)) ?_ | refine And.intro (rfl : W.gives _ = true) ?_ | refine And.intro (rfl : List.all _ W.arg = true) ?_))
      refine ite_dec (fun h3 => ?_) fun h3 => ?_
      · (repeat (first | refine ok_intro rfl ?_ | refine Or.inl (ok_intro rfl (ok_intro rfl ?_)) | refine Or.inl (ok_intro rfl ?_) | refine Or.inr (ok_intro rfl ?_) | refine Or.inr (Or.inl (ok_intro rfl (ok_intro rfl ?_))) | refine Or.inr (Or.inr (ok_intro rfl (ok_intro rfl ?_))) | refine And.intro (rfl : W.view _ = false) ?_ | (refine And.intro eqOk_int ?_; rw [eqv_int]) | (refine And.intro eqOk_bool ?_; rw [eqv_bool]) | refine And.intro (rfl : W.own _ = true) ?_ | refine And.intro (rfl : W.own _ = false) ?_ | refine And.intro (rfl : Option.isSome _ = true) ?_ | refine And.intro (lt_len rfl) ?_ | refine And.intro (rfl : ([] : List PyData) = []) ?_ | refine And.intro (size_ok (Nat.le_of_ble_eq_true rfl)) ?_ | refine And.intro (rfl : W.gives _ = true) ?_ | refine And.intro (rfl : List.all _ W.arg = true) ?_))
        refine ⟨⟨by decide, by decide, by decide⟩, ?_⟩
        (repeat (first | refine ok_intro rfl ?_ | refine Or.inl (ok_intro rfl (ok_intro rfl ?_)) | refine Or.inl (ok_intro rfl ?_) | refine Or.inr (ok_intro rfl ?_) | refine Or.inr (Or.inl (ok_intro rfl (ok_intro rfl ?_))) | refine Or.inr (Or.inr (ok_intro rfl (ok_intro rfl ?_))) | refine And.intro (rfl : W.view _ = false) ?_ | (refine And.intro eqOk_int ?_; rw [eqv_int]) | (refine And.intro eqOk_bool ?_; rw [eqv_bool]) | refine And.intro (rfl : W.own _ = true) ?_ | refine And.intro (rfl : W.own _ = false) ?_ | refine And.intro (rfl : Option.isSome _ = true) ?_ | refine And.intro (lt_len rfl) ?_ | refine And.intro (rfl : ([] : List PyData) = []) ?_ | refine And.intro (size_ok (Nat.le_of_ble_eq_true rfl)) ?_ | refine And.intro (rfl : W.gives _ = true) ?_ | refine And.intro (rfl : List.all _ W.arg = true) ?_))
        refine ⟨⟨by decide, by decide, by decide⟩, ?_⟩
        (repeat (first | refine ok_intro rfl ?_ | refine Or.inl (ok_intro rfl (ok_intro rfl ?_)) | refine Or.inl (ok_intro rfl ?_) | refine Or.inr (ok_intro rfl ?_) | refine Or.inr (Or.inl (ok_intro rfl (ok_intro rfl ?_))) | refine Or.inr (Or.inr (ok_intro rfl (ok_intro rfl ?_))) | refine And.intro (rfl : W.view _ = false) ?_ | (refine And.intro eqOk_int ?_; rw [eqv_int]) | (refine And.intro eqOk_bool ?_; rw [eqv_bool]) | refine And.intro (rfl : W.own _ = true) ?_ | refine And.intro (rfl : W.own _ = false) ?_ | refine And.intro (rfl : Option.isSome _ = true) ?_ | refine And.intro (lt_len rfl) ?_ | refine And.intro (rfl : ([] : List PyData) = []) ?_ | refine And.intro (size_ok (Nat.le_of_ble_eq_true rfl)) ?_ | refine And.intro (rfl : W.gives _ = true) ?_ | refine And.intro (rfl : List.all _ W.arg = true) ?_))
        refine ⟨⟨by decide, by decide, by decide⟩, ?_⟩
        (repeat (first | refine ok_intro rfl ?_ | refine Or.inl (ok_intro rfl (ok_intro rfl ?_)) | refine Or.inl (ok_intro rfl ?_) | refine Or.inr (ok_intro rfl ?_) | refine Or.inr (Or.inl (ok_intro rfl (ok_intro rfl ?_))) | refine Or.inr (Or.inr (ok_intro rfl (ok_intro rfl ?_))) | refine And.intro (rfl : W.view _ = false) ?_ | (refine And.intro eqOk_int ?_; rw [eqv_int]) | (refine And.intro eqOk_bool ?_; rw [eqv_bool]) | refine And.intro (rfl : W.own _ = true) ?_ | refine And.intro (rfl : W.own _ = false) ?_ | refine And.intro (rfl : Option.isSome _ = true) ?_ | refine And.intro (lt_len rfl) ?_ | refine And.intro (rfl : ([] : List PyData) = []) ?_ | refine And.intro (size_ok (Nat.le_of_ble_eq_true rfl)) ?_ | refine And.intro (rfl : W.gives _ = true) ?_ | refine And.intro (rfl : List.all _ W.arg = true) ?_))
        refine ok_intro G.of ?_
        refine ⟨([1000000, 1, -1000000000, 1000] : List Int).map PyData.int, rfl, by decide, by decide, fun y hy => ⟨rfl, ?_⟩⟩
        obtain ⟨c, hc, rfl⟩ := List.mem_map.mp hy
        have hc2 : c.natAbs ≤ 1000000000 := (show ∀ c ∈ ([1000000, 1, -1000000000, 1000] : List Int), c.natAbs ≤ 1000000000 by decide) c hc
        (repeat (first | refine ok_intro rfl ?_ | refine Or.inl (ok_intro rfl (ok_intro rfl ?_)) | refine Or.inl (ok_intro rfl ?_) | refine Or.inr (ok_intro rfl ?_) | refine Or.inr (Or.inl (ok_intro rfl (ok_intro rfl ?_))) | refine Or.inr (Or.inr (ok_intro rfl (ok_intro rfl ?_))) | refine And.intro (rfl : W.view _ = false) ?_ | (refine And.intro eqOk_int ?_; rw [eqv_int]) | (refine And.intro eqOk_bool ?_; rw [eqv_bool]) | refine And.intro (rfl : W.own _ = true) ?_ | refine And.intro (rfl : W.own _ = false) ?_ | refine And.intro (rfl : Option.isSome _ = true) ?_ | refine And.intro (lt_len rfl) ?_ | refine And.intro (rfl : ([] : List PyData) = []) ?_ | refine And.intro (size_ok (Nat.le_of_ble_eq_true rfl)) ?_ | refine And.intro (rfl : W.gives _ = true) ?_ | refine And.intro (rfl : List.all _ W.arg = true) ?_))
        refine ok_intro G.ls ?_
        refine ⟨ps, c, rfl, hps, hc2, fun o ho => ⟨rfl, ?_⟩⟩
        refine ok_intro rfl ⟨rfl, lt_len rfl, ?_⟩
        exact next p o _ _ hp (ho.pows (by decide) (by decide) (Nat.le_trans (show 2000000100 ≤ 2 ^ 31 by decide) (Nat.pow_le_pow_right (by decide) (by decide))) (by decide))
      · exact next p ps _ _ hp (hps.pows (by decide) (by decide) (Nat.le_trans (show 100 ≤ 2 ^ 7 by decide) (Nat.pow_le_pow_right (by decide) (by decide))) (by decide))
  · rintro e ⟨x2, x3, x4, x5, x6, x7, x8, x9, x10, x11, x12, x13, x14, x15, x16, rfl⟩
    exact w_BF G h
end K54
end Cal
set_option Elab.async false
set_option linter.all false
set_option maxRecDepth 100000
set_option maxHeartbeats 8000000
namespace Cal
namespace K54
open PySem PySem.Spec PyProof.Rows L2
theorem mono_spRaised : SpMono spRaised := fun ws P P' ⟨q, n, a, e, h1, h2, h⟩ f => ⟨q, n, a, e, h1, h2, f _ h⟩
theorem mono_spSign : SpMono spSign := fun ws P P' ⟨p, n, ps, e, h1, h2, h⟩ f => ⟨p, n, ps, e, h1, h2, f _ h⟩
theorem mono_spWt : SpMono spWt := fun ws P P' ⟨ps, r, x, e, h1, h2, h⟩ f => ⟨ps, r, x, e, h1, h2, f _ h⟩
theorem mono_spSet : SpMono spSet := fun ws P P' ⟨p, n, ps, e, h1, h2, h⟩ f => ⟨p, n, ps, e, h1, h2, f _ h⟩
theorem mono_spSeen : SpMono spSeen := fun ws P P' ⟨p, n, ps, e, h1, h2, h⟩ f => ⟨p, n, ps, e, h1, h2, f _ h⟩
theorem mono_spSigns : SpMono spSigns := fun ws P P' ⟨p, N, ps, e, h1, h2, h3, h4, h5, h⟩ f => ⟨p, N, ps, e, h1, h2, h3, h4, h5, f _ h⟩
theorem mono_spPower : SpMono spPower := fun ws P P' ⟨q, n, e, h1, h2, h⟩ f => ⟨q, n, e, h1, h2, f _ h⟩
theorem mono_spWts : SpMono spWts := fun ws P P' ⟨p, n, ps, r, x, e, h1, h2, h3, h⟩ f => ⟨p, n, ps, r, x, e, h1, h2, h3, f _ h⟩
theorem mono_spLaw : SpMono spLaw := fun ws P P' ⟨ns, e, h1, h⟩ f => ⟨ns, e, h1, f _ h⟩
theorem mono_spPick : SpMono spPick := fun ws P P' ⟨m, e, h1, h⟩ f => ⟨m, e, h1, fun v hv => f _ (h v hv)⟩
theorem mono_spOf : SpMono spOf := fun ws P P' ⟨xs, e, h1, h2, h⟩ f => ⟨xs, e, h1, h2, fun x hx => f _ (h x hx)⟩
theorem mono_spCut : SpMono spCut := fun ws P P' ⟨a, b, e, h1, h2, h3, h⟩ f => ⟨a, b, e, h1, h2, h3, fun u v hu => f _ (h u v hu)⟩
theorem mono_spAt : SpMono spAt := fun ws P P' ⟨p, n, ps, e, h1, h2, h⟩ f => ⟨p, n, ps, e, h1, h2, fun u v hu => f _ (h u v hu)⟩
theorem mono_spLess : SpMono spLess := fun ws P P' ⟨ps, x, e, h1, h2, h⟩ f => ⟨ps, x, e, h1, h2, fun o ho => f _ (h o ho)⟩
theorem mono_spPowers : SpMono spPowers := fun ws P P' ⟨e, h⟩ f => ⟨e, fun o ho => f _ (h o ho)⟩
theorem mono_spRooted : SpMono spRooted := fun ws P P' ⟨p, e, h1, h⟩ f => ⟨p, e, h1, fun o ho => f _ (h o ho)⟩
theorem all_mk {l : PySem.W.OpenLaw} {w : World} {K : PySem.W.Frag} {h : Heap} {mg : Str → Option Value} {fa : Addr} (X : K.In h) (G : h.Ns mainGlobals mg) (hfa : mg "law" = some (.ref fa)) (hno : noList K = true)
    {f1 f2 f3 f4 f5 f6 f7 f8 f9 f10 f11 f12 f13 f14 f15 f16 f17 f18 f19 f20 f21 : Addr} {od1 an1 od2 an2 od3 an3 od4 an4 od5 an5 od6 an6 od7 an7 od8 an8 od9 an9 od10 an10 od11 an11 od12 an12 od13 an13 od14 an14 od15 an15 od16 an16 od17 an17 od18 an18 od19 an19 od20 an20 od21 an21 : Option Addr} {sl1 sl2 sl3 sl4 sl5 sl6 sl7 sl8 sl9 sl10 sl11 sl12 sl13 sl14 sl15 sl16 sl17 sl18 sl19 sl20 sl21 : Array (Option Value)} {oc1 kV1 dc1 pm1 cd1 ct1 oc2 kV2 dc2 pm2 cd2 ct2 oc3 kV3 dc3 pm3 cd3 ct3 oc4 kV4 dc4 pm4 cd4 ct4 oc5 kV5 dc5 pm5 cd5 ct5 oc6 kV6 dc6 pm6 cd6 ct6 oc7 kV7 dc7 pm7 cd7 ct7 oc8 kV8 dc8 pm8 cd8 ct8 oc9 kV9 dc9 pm9 cd9 ct9 oc10 kV10 dc10 pm10 cd10 ct10 oc11 kV11 dc11 pm11 cd11 ct11 oc12 kV12 dc12 pm12 cd12 ct12 oc13 kV13 dc13 pm13 cd13 ct13 oc14 kV14 dc14 pm14 cd14 ct14 oc15 kV15 dc15 pm15 cd15 ct15 oc16 kV16 dc16 pm16 cd16 ct16 oc17 kV17 dc17 pm17 cd17 ct17 oc18 kV18 dc18 pm18 cd18 ct18 oc19 kV19 dc19 pm19 cd19 ct19 oc20 kV20 dc20 pm20 cd20 ct20 oc21 kV21 dc21 pm21 cd21 ct21 : Value}
    (a1 : PySem.W.nsIn K mainGlobals "raised" = some (some (.ref f1))) (l1 : K.lookup f1 = some ⟨oc1, od1, .func (PySem.W.fnOf "raised" "raised" (defArgs st_raised) (defBody st_raised) (defScope st_raised) .none kV1 dc1 pm1 an1 cd1 ct1), sl1⟩) (c1 : PySem.W.codeIn K cd1 "raised" = true) (k1 : PySem.W.keepIn K (.ref f1) = true)
    (a2 : PySem.W.nsIn K mainGlobals "sign_at" = some (some (.ref f2))) (l2 : K.lookup f2 = some ⟨oc2, od2, .func (PySem.W.fnOf "sign_at" "sign_at" (defArgs st_sign_at) (defBody st_sign_at) (defScope st_sign_at) .none kV2 dc2 pm2 an2 cd2 ct2), sl2⟩) (c2 : PySem.W.codeIn K cd2 "sign_at" = true) (k2 : PySem.W.keepIn K (.ref f2) = true)
    (a3 : PySem.W.nsIn K mainGlobals "weight_against" = some (some (.ref f3))) (l3 : K.lookup f3 = some ⟨oc3, od3, .func (PySem.W.fnOf "weight_against" "weight_against" (defArgs st_weight_against) (defBody st_weight_against) (defScope st_weight_against) .none kV3 dc3 pm3 an3 cd3 ct3), sl3⟩) (c3 : PySem.W.codeIn K cd3 "weight_against" = true) (k3 : PySem.W.keepIn K (.ref f3) = true)
    (a4 : PySem.W.nsIn K mainGlobals "is_settled" = some (some (.ref f4))) (l4 : K.lookup f4 = some ⟨oc4, od4, .func (PySem.W.fnOf "is_settled" "is_settled" (defArgs st_is_settled) (defBody st_is_settled) (defScope st_is_settled) .none kV4 dc4 pm4 an4 cd4 ct4), sl4⟩) (c4 : PySem.W.codeIn K cd4 "is_settled" = true) (k4 : PySem.W.keepIn K (.ref f4) = true)
    (a5 : PySem.W.nsIn K mainGlobals "is_seen" = some (some (.ref f5))) (l5 : K.lookup f5 = some ⟨oc5, od5, .func (PySem.W.fnOf "is_seen" "is_seen" (defArgs st_is_seen) (defBody st_is_seen) (defScope st_is_seen) .none kV5 dc5 pm5 an5 cd5 ct5), sl5⟩) (c5 : PySem.W.codeIn K cd5 "is_seen" = true) (k5 : PySem.W.keepIn K (.ref f5) = true)
    (a6 : PySem.W.nsIn K mainGlobals "signs_of" = some (some (.ref f6))) (l6 : K.lookup f6 = some ⟨oc6, od6, .func (PySem.W.fnOf "signs_of" "signs_of" (defArgs st_signs_of) (defBody st_signs_of) (defScope st_signs_of) .none kV6 dc6 pm6 an6 cd6 ct6), sl6⟩) (c6 : PySem.W.codeIn K cd6 "signs_of" = true) (k6 : PySem.W.keepIn K (.ref f6) = true)
    (a7 : PySem.W.nsIn K mainGlobals "_law_source" = some (some (.ref f7))) (l7 : K.lookup f7 = some ⟨oc7, od7, .func (PySem.W.fnOf "_law_source" "_law_source" (defArgs st__law_source) (defBody st__law_source) (defScope st__law_source) .none kV7 dc7 pm7 an7 cd7 ct7), sl7⟩) (c7 : PySem.W.codeIn K cd7 "_law_source" = true) (k7 : PySem.W.keepIn K (.ref f7) = true)
    (a8 : PySem.W.nsIn K mainGlobals "_law_pick" = some (some (.ref f8))) (l8 : K.lookup f8 = some ⟨oc8, od8, .func (PySem.W.fnOf "_law_pick" "_law_pick" (defArgs st__law_pick) (defBody st__law_pick) (defScope st__law_pick) .none kV8 dc8 pm8 an8 cd8 ct8), sl8⟩) (c8 : PySem.W.codeIn K cd8 "_law_pick" = true) (k8 : PySem.W.keepIn K (.ref f8) = true)
    (a9 : PySem.W.nsIn K mainGlobals "_law_of" = some (some (.ref f9))) (l9 : K.lookup f9 = some ⟨oc9, od9, .func (PySem.W.fnOf "_law_of" "_law_of" (defArgs st__law_of) (defBody st__law_of) (defScope st__law_of) .none kV9 dc9 pm9 an9 cd9 ct9), sl9⟩) (c9 : PySem.W.codeIn K cd9 "_law_of" = true) (k9 : PySem.W.keepIn K (.ref f9) = true)
    (a10 : PySem.W.nsIn K mainGlobals "_law_power" = some (some (.ref f10))) (l10 : K.lookup f10 = some ⟨oc10, od10, .func (PySem.W.fnOf "_law_power" "_law_power" (defArgs st__law_power) (defBody st__law_power) (defScope st__law_power) .none kV10 dc10 pm10 an10 cd10 ct10), sl10⟩) (c10 : PySem.W.codeIn K cd10 "_law_power" = true) (k10 : PySem.W.keepIn K (.ref f10) = true)
    (a11 : PySem.W.nsIn K mainGlobals "_law_cut" = some (some (.ref f11))) (l11 : K.lookup f11 = some ⟨oc11, od11, .func (PySem.W.fnOf "_law_cut" "_law_cut" (defArgs st__law_cut) (defBody st__law_cut) (defScope st__law_cut) .none kV11 dc11 pm11 an11 cd11 ct11), sl11⟩) (c11 : PySem.W.codeIn K cd11 "_law_cut" = true) (k11 : PySem.W.keepIn K (.ref f11) = true)
    (a12 : PySem.W.nsIn K mainGlobals "_law_at" = some (some (.ref f12))) (l12 : K.lookup f12 = some ⟨oc12, od12, .func (PySem.W.fnOf "_law_at" "_law_at" (defArgs st__law_at) (defBody st__law_at) (defScope st__law_at) .none kV12 dc12 pm12 an12 cd12 ct12), sl12⟩) (c12 : PySem.W.codeIn K cd12 "_law_at" = true) (k12 : PySem.W.keepIn K (.ref f12) = true)
    (a13 : PySem.W.nsIn K mainGlobals "_law_less" = some (some (.ref f13))) (l13 : K.lookup f13 = some ⟨oc13, od13, .func (PySem.W.fnOf "_law_less" "_law_less" (defArgs st__law_less) (defBody st__law_less) (defScope st__law_less) .none kV13 dc13 pm13 an13 cd13 ct13), sl13⟩) (c13 : PySem.W.codeIn K cd13 "_law_less" = true) (k13 : PySem.W.keepIn K (.ref f13) = true)
    (a14 : PySem.W.nsIn K mainGlobals "_law_sign" = some (some (.ref f14))) (l14 : K.lookup f14 = some ⟨oc14, od14, .func (PySem.W.fnOf "_law_sign" "_law_sign" (defArgs st__law_sign) (defBody st__law_sign) (defScope st__law_sign) .none kV14 dc14 pm14 an14 cd14 ct14), sl14⟩) (c14 : PySem.W.codeIn K cd14 "_law_sign" = true) (k14 : PySem.W.keepIn K (.ref f14) = true)
    (a15 : PySem.W.nsIn K mainGlobals "_law_weights" = some (some (.ref f15))) (l15 : K.lookup f15 = some ⟨oc15, od15, .func (PySem.W.fnOf "_law_weights" "_law_weights" (defArgs st__law_weights) (defBody st__law_weights) (defScope st__law_weights) .none kV15 dc15 pm15 an15 cd15 ct15), sl15⟩) (c15 : PySem.W.codeIn K cd15 "_law_weights" = true) (k15 : PySem.W.keepIn K (.ref f15) = true)
    (a16 : PySem.W.nsIn K mainGlobals "_law_is_settled" = some (some (.ref f16))) (l16 : K.lookup f16 = some ⟨oc16, od16, .func (PySem.W.fnOf "_law_is_settled" "_law_is_settled" (defArgs st__law_is_settled) (defBody st__law_is_settled) (defScope st__law_is_settled) .none kV16 dc16 pm16 an16 cd16 ct16), sl16⟩) (c16 : PySem.W.codeIn K cd16 "_law_is_settled" = true) (k16 : PySem.W.keepIn K (.ref f16) = true)
    (a17 : PySem.W.nsIn K mainGlobals "_law_is_seen" = some (some (.ref f17))) (l17 : K.lookup f17 = some ⟨oc17, od17, .func (PySem.W.fnOf "_law_is_seen" "_law_is_seen" (defArgs st__law_is_seen) (defBody st__law_is_seen) (defScope st__law_is_seen) .none kV17 dc17 pm17 an17 cd17 ct17), sl17⟩) (c17 : PySem.W.codeIn K cd17 "_law_is_seen" = true) (k17 : PySem.W.keepIn K (.ref f17) = true)
    (a18 : PySem.W.nsIn K mainGlobals "_law_powers" = some (some (.ref f18))) (l18 : K.lookup f18 = some ⟨oc18, od18, .func (PySem.W.fnOf "_law_powers" "_law_powers" (defArgs st__law_powers) (defBody st__law_powers) (defScope st__law_powers) .none kV18 dc18 pm18 an18 cd18 ct18), sl18⟩) (c18 : PySem.W.codeIn K cd18 "_law_powers" = true) (k18 : PySem.W.keepIn K (.ref f18) = true)
    (a19 : PySem.W.nsIn K mainGlobals "_law_rooted" = some (some (.ref f19))) (l19 : K.lookup f19 = some ⟨oc19, od19, .func (PySem.W.fnOf "_law_rooted" "_law_rooted" (defArgs st__law_rooted) (defBody st__law_rooted) (defScope st__law_rooted) .none kV19 dc19 pm19 an19 cd19 ct19), sl19⟩) (c19 : PySem.W.codeIn K cd19 "_law_rooted" = true) (k19 : PySem.W.keepIn K (.ref f19) = true)
    (a20 : PySem.W.nsIn K mainGlobals "_law_signs" = some (some (.ref f20))) (l20 : K.lookup f20 = some ⟨oc20, od20, .func (PySem.W.fnOf "_law_signs" "_law_signs" (defArgs st__law_signs) (defBody st__law_signs) (defScope st__law_signs) .none kV20 dc20 pm20 an20 cd20 ct20), sl20⟩) (c20 : PySem.W.codeIn K cd20 "_law_signs" = true) (k20 : PySem.W.keepIn K (.ref f20) = true)
    (a21 : PySem.W.nsIn K mainGlobals "law" = some (some (.ref f21))) (l21 : K.lookup f21 = some ⟨oc21, od21, .func (PySem.W.fnOf "law" "law" (defArgs st_law) (defBody st_law) (defScope st_law) .none kV21 dc21 pm21 an21 cd21 ct21), sl21⟩) (c21 : PySem.W.codeIn K cd21 "law" = true) (k21 : PySem.W.keepIn K (.ref f21) = true)
    (z1 : PySem.W.nsIn K mainGlobals "len" = some none)
    (z2 : PySem.W.nsIn K mainGlobals "abs" = some none)
    (z3 : PySem.W.nsIn K mainGlobals "int" = some none)
    (z4 : PySem.W.nsIn K mainGlobals "bool" = some none)
    (z5 : PySem.W.nsIn K mainGlobals "sum" = some none)
    (z6 : PySem.W.nsIn K mainGlobals "min" = some none)
    (z7 : PySem.W.nsIn K mainGlobals "max" = some none)
    (z8 : PySem.W.nsIn K mainGlobals "tuple" = some none)
    (z9 : PySem.W.nsIn K mainGlobals "list" = some none)
    (z10 : PySem.W.nsIn K mainGlobals "dict" = some none)
    (z11 : PySem.W.nsIn K mainGlobals "sorted" = some none)
    (z12 : PySem.W.nsIn K mainGlobals "repr" = some none)
    (z13 : PySem.W.nsIn K mainGlobals "all" = some none)
    (z14 : PySem.W.nsIn K mainGlobals "any" = some none)
    (z15 : PySem.W.nsIn K mainGlobals "range" = some none)
    (z16 : PySem.W.nsIn K mainGlobals "enumerate" = some none)
    (z17 : PySem.W.nsIn K mainGlobals "zip" = some none)
    (z18 : PySem.W.nsIn K mainGlobals "isinstance" = some none)
    (z19 : PySem.W.nsIn K mainGlobals "str" = some none)
    : noList K = true ∧ ∃ fd : FuncData, (∀ (s : Shared) (v : Value), BindsTo s fd ⟨[v], []⟩ [("script", v)]) ∧ ∀ base : Heap, K.In base → base.Ns mainGlobals mg → FnC l.prog w K mg base 5 fa fd ["script"] spLaw := by
  have e := hfa.symm.trans (PySem.W.mg_of X G a21)
  cases e
  have F1 := fun_mk (st := st_raised) l1 c1 k1
  have B1 := F1.binds (ps := P_raised) fun _ _ _ _ _ _ us hl => match us, hl with | [_, _], _ => rfl
  have M1 := PySem.W.mg_of X G a1
  have F2 := fun_mk (st := st_sign_at) l2 c2 k2
  have B2 := F2.binds (ps := P_sign_at) fun _ _ _ _ _ _ us hl => match us, hl with | [_, _, _], _ => rfl
  have M2 := PySem.W.mg_of X G a2
  have F3 := fun_mk (st := st_weight_against) l3 c3 k3
  have B3 := F3.binds (ps := P_weight_against) fun _ _ _ _ _ _ us hl => match us, hl with | [_], _ => rfl
  have M3 := PySem.W.mg_of X G a3
  have F4 := fun_mk (st := st_is_settled) l4 c4 k4
  have B4 := F4.binds (ps := P_is_settled) fun _ _ _ _ _ _ us hl => match us, hl with | [_, _, _], _ => rfl
  have M4 := PySem.W.mg_of X G a4
  have F5 := fun_mk (st := st_is_seen) l5 c5 k5
  have B5 := F5.binds (ps := P_is_seen) fun _ _ _ _ _ _ us hl => match us, hl with | [_, _, _], _ => rfl
  have M5 := PySem.W.mg_of X G a5
  have F6 := fun_mk (st := st_signs_of) l6 c6 k6
  have B6 := F6.binds (ps := P_signs_of) fun _ _ _ _ _ _ us hl => match us, hl with | [_, _], _ => rfl
  have M6 := PySem.W.mg_of X G a6
  have F7 := fun_mk (st := st__law_source) l7 c7 k7
  have B7 := F7.binds (ps := P__law_source) fun _ _ _ _ _ _ us hl => match us, hl with | [_], _ => rfl
  have M7 := PySem.W.mg_of X G a7
  have F8 := fun_mk (st := st__law_pick) l8 c8 k8
  have B8 := F8.binds (ps := P__law_pick) fun _ _ _ _ _ _ us hl => match us, hl with | [_, _], _ => rfl
  have M8 := PySem.W.mg_of X G a8
  have F9 := fun_mk (st := st__law_of) l9 c9 k9
  have B9 := F9.binds (ps := P__law_of) fun _ _ _ _ _ _ us hl => match us, hl with | [_, _], _ => rfl
  have M9 := PySem.W.mg_of X G a9
  have F10 := fun_mk (st := st__law_power) l10 c10 k10
  have B10 := F10.binds (ps := P__law_power) fun _ _ _ _ _ _ us hl => match us, hl with | [_, _], _ => rfl
  have M10 := PySem.W.mg_of X G a10
  have F11 := fun_mk (st := st__law_cut) l11 c11 k11
  have B11 := F11.binds (ps := P__law_cut) fun _ _ _ _ _ _ us hl => match us, hl with | [_, _], _ => rfl
  have M11 := PySem.W.mg_of X G a11
  have F12 := fun_mk (st := st__law_at) l12 c12 k12
  have B12 := F12.binds (ps := P__law_at) fun _ _ _ _ _ _ us hl => match us, hl with | [_, _, _], _ => rfl
  have M12 := PySem.W.mg_of X G a12
  have F13 := fun_mk (st := st__law_less) l13 c13 k13
  have B13 := F13.binds (ps := P__law_less) fun _ _ _ _ _ _ us hl => match us, hl with | [_, _], _ => rfl
  have M13 := PySem.W.mg_of X G a13
  have F14 := fun_mk (st := st__law_sign) l14 c14 k14
  have B14 := F14.binds (ps := P__law_sign) fun _ _ _ _ _ _ us hl => match us, hl with | [_, _, _], _ => rfl
  have M14 := PySem.W.mg_of X G a14
  have F15 := fun_mk (st := st__law_weights) l15 c15 k15
  have B15 := F15.binds (ps := P__law_weights) fun _ _ _ _ _ _ us hl => match us, hl with | [_, _, _], _ => rfl
  have M15 := PySem.W.mg_of X G a15
  have F16 := fun_mk (st := st__law_is_settled) l16 c16 k16
  have B16 := F16.binds (ps := P__law_is_settled) fun _ _ _ _ _ _ us hl => match us, hl with | [_, _, _], _ => rfl
  have M16 := PySem.W.mg_of X G a16
  have F17 := fun_mk (st := st__law_is_seen) l17 c17 k17
  have B17 := F17.binds (ps := P__law_is_seen) fun _ _ _ _ _ _ us hl => match us, hl with | [_, _, _], _ => rfl
  have M17 := PySem.W.mg_of X G a17
  have F18 := fun_mk (st := st__law_powers) l18 c18 k18
  have B18 := F18.binds (ps := P__law_powers) fun _ _ _ _ _ _ us hl => match us, hl with | [_], _ => rfl
  have M18 := PySem.W.mg_of X G a18
  have F19 := fun_mk (st := st__law_rooted) l19 c19 k19
  have B19 := F19.binds (ps := P__law_rooted) fun _ _ _ _ _ _ us hl => match us, hl with | [_, _], _ => rfl
  have M19 := PySem.W.mg_of X G a19
  have F20 := fun_mk (st := st__law_signs) l20 c20 k20
  have B20 := F20.binds (ps := P__law_signs) fun _ _ _ _ _ _ us hl => match us, hl with | [_, _], _ => rfl
  have M20 := PySem.W.mg_of X G a20
  have F21 := fun_mk (st := st_law) l21 c21 k21
  have B21 := F21.binds (ps := P_law) fun _ _ _ _ _ _ us hl => match us, hl with | [_], _ => rfl
  have M21 := PySem.W.mg_of X G a21
  have hb : ∀ x ∈ served, mg x = none := by
    intro x hx
    simp only [served, List.mem_cons, List.not_mem_nil, or_false] at hx
    rcases hx with e | e | e | e | e | e | e | e | e | e | e | e | e | e | e | e | e | e | e <;> subst e
    · exact PySem.W.mg_none_of X G z1
    · exact PySem.W.mg_none_of X G z2
    · exact PySem.W.mg_none_of X G z3
    · exact PySem.W.mg_none_of X G z4
    · exact PySem.W.mg_none_of X G z5
    · exact PySem.W.mg_none_of X G z6
    · exact PySem.W.mg_none_of X G z7
    · exact PySem.W.mg_none_of X G z8
    · exact PySem.W.mg_none_of X G z9
    · exact PySem.W.mg_none_of X G z10
    · exact PySem.W.mg_none_of X G z11
    · exact PySem.W.mg_none_of X G z12
    · exact PySem.W.mg_none_of X G z13
    · exact PySem.W.mg_none_of X G z14
    · exact PySem.W.mg_none_of X G z15
    · exact PySem.W.mg_none_of X G z16
    · exact PySem.W.mg_none_of X G z17
    · exact PySem.W.mg_none_of X G z18
    · exact PySem.W.mg_none_of X G z19
  refine ⟨hno, PySem.W.fnOf "law" "law" (defArgs st_law) (defBody st_law) (defScope st_law) .none kV21 dc21 pm21 an21 cd21 ct21, fun s v => .of_eq rfl, fun base hKb hNs => ?_⟩
  have D1 : Defs l.prog w K mg base 0 noΓ := Defs.none
  have C1 : FnC l.prog w K mg base 1 f1 _ P_raised spRaised := fnC (k := 0) (Γ := noΓ) (tree := T_raised) F1 sc_raised (fun ws Q h => by obtain ⟨_, _, _, e, _⟩ := h; rw [e]; rfl) (fun cdv A outer s H hr hg => b_raised (good_def sc_raised hr hg D1 hb) ) fun ws Q h => w_raised  ws Q h
  have D2 : Defs l.prog w K mg base 1 (addΓ noΓ "raised" spRaised) := (Defs.none.add mono_spRaised (C1.mono (by decide)) M1 F1.kp B1)
  have C2 : FnC l.prog w K mg base 2 f2 _ P_sign_at spSign := fnC (k := 1) (Γ := (addΓ noΓ "raised" spRaised)) (tree := T_sign_at) F2 sc_sign_at (fun ws Q h => by obtain ⟨_, _, _, e, _⟩ := h; rw [e]; rfl) (fun cdv A outer s H hr hg => b_sign_at (good_def sc_sign_at hr hg D2 hb) add_here) fun ws Q h => w_sign_at add_here ws Q h
  have D3 : Defs l.prog w K mg base 0 noΓ := Defs.none
  have C3 : FnC l.prog w K mg base 1 f3 _ P_weight_against spWt := fnC (k := 0) (Γ := noΓ) (tree := T_weight_against) F3 sc_weight_against (fun ws Q h => by obtain ⟨_, _, _, e, _⟩ := h; rw [e]; rfl) (fun cdv A outer s H hr hg => b_weight_against (good_def sc_weight_against hr hg D3 hb) ) fun ws Q h => w_weight_against  ws Q h
  have D4 : Defs l.prog w K mg base 1 (addΓ (addΓ noΓ "raised" spRaised) "weight_against" spWt) := ((Defs.none.add mono_spRaised (C1.mono (by decide)) M1 F1.kp B1).add mono_spWt (C3.mono (by decide)) M3 F3.kp B3)
  have C4 : FnC l.prog w K mg base 2 f4 _ P_is_settled spSet := fnC (k := 1) (Γ := (addΓ (addΓ noΓ "raised" spRaised) "weight_against" spWt)) (tree := T_is_settled) F4 sc_is_settled (fun ws Q h => by obtain ⟨_, _, _, e, _⟩ := h; rw [e]; rfl) (fun cdv A outer s H hr hg => b_is_settled (good_def sc_is_settled hr hg D4 hb) (add_there (by decide) add_here) add_here) fun ws Q h => w_is_settled (add_there (by decide) add_here) add_here ws Q h
  have D5 : Defs l.prog w K mg base 1 (addΓ (addΓ noΓ "raised" spRaised) "weight_against" spWt) := ((Defs.none.add mono_spRaised (C1.mono (by decide)) M1 F1.kp B1).add mono_spWt (C3.mono (by decide)) M3 F3.kp B3)
  have C5 : FnC l.prog w K mg base 2 f5 _ P_is_seen spSeen := fnC (k := 1) (Γ := (addΓ (addΓ noΓ "raised" spRaised) "weight_against" spWt)) (tree := T_is_seen) F5 sc_is_seen (fun ws Q h => by obtain ⟨_, _, _, e, _⟩ := h; rw [e]; rfl) (fun cdv A outer s H hr hg => b_is_seen (good_def sc_is_seen hr hg D5 hb) (add_there (by decide) add_here) add_here) fun ws Q h => w_is_seen (add_there (by decide) add_here) add_here ws Q h
  have D6 : Defs l.prog w K mg base 2 (addΓ (addΓ noΓ "sign_at" spSign) "is_settled" spSet) := ((Defs.none.add mono_spSign (C2.mono (by decide)) M2 F2.kp B2).add mono_spSet (C4.mono (by decide)) M4 F4.kp B4)
  have C6 : FnC l.prog w K mg base 3 f6 _ P_signs_of spSigns := fnC (k := 2) (Γ := (addΓ (addΓ noΓ "sign_at" spSign) "is_settled" spSet)) (tree := T_signs_of) F6 sc_signs_of (fun ws Q h => by obtain ⟨_, _, _, e, _⟩ := h; rw [e]; rfl) (fun cdv A outer s H hr hg => b_signs_of (good_def sc_signs_of hr hg D6 hb) (add_there (by decide) add_here) add_here) fun ws Q h => w_signs_of (add_there (by decide) add_here) add_here ws Q h
  have C7 : FnM l.prog w K mg base 1 f7 _ P__law_source := fnM (k := 0) (Γ := noΓ) (tree := T__law_source) F7 sc__law_source rfl (fun cdv A outer s H hr hg => b__law_source (good_def sc__law_source hr hg Defs.none hb)) fun ns hz => w__law_source ns hz
  have D8 : Defs l.prog w K mg base 0 noΓ := Defs.none
  have C8 : FnC l.prog w K mg base 1 f8 _ P__law_pick spPick := fnC (k := 0) (Γ := noΓ) (tree := T__law_pick) F8 sc__law_pick (fun ws Q h => by obtain ⟨_, e, _⟩ := h; rw [e]; rfl) (fun cdv A outer s H hr hg => b__law_pick (good_def sc__law_pick hr hg D8 hb) ) fun ws Q h => w__law_pick  ws Q h
  have D9 : Defs l.prog w K mg base 1 (addΓ noΓ "_law_pick" spPick) := (Defs.none.add mono_spPick (C8.mono (by decide)) M8 F8.kp B8)
  have C9 : FnC l.prog w K mg base 2 f9 _ P__law_of spOf := fnC (k := 1) (Γ := (addΓ noΓ "_law_pick" spPick)) (tree := T__law_of) F9 sc__law_of (fun ws Q h => by obtain ⟨_, e, _⟩ := h; rw [e]; rfl) (fun cdv A outer s H hr hg => b__law_of (good_def sc__law_of hr hg D9 hb) add_here) fun ws Q h => w__law_of add_here ws Q h
  have D10 : Defs l.prog w K mg base 0 noΓ := Defs.none
  have C10 : FnC l.prog w K mg base 1 f10 _ P__law_power spPower := fnC (k := 0) (Γ := noΓ) (tree := T__law_power) F10 sc__law_power (fun ws Q h => by obtain ⟨_, _, e, _⟩ := h; rw [e]; rfl) (fun cdv A outer s H hr hg => b__law_power (good_def sc__law_power hr hg D10 hb) ) fun ws Q h => w__law_power  ws Q h
  have D11 : Defs l.prog w K mg base 0 noΓ := Defs.none
  have C11 : FnC l.prog w K mg base 1 f11 _ P__law_cut spCut := fnC (k := 0) (Γ := noΓ) (tree := T__law_cut) F11 sc__law_cut (fun ws Q h => by obtain ⟨_, _, e, _⟩ := h; rw [e]; rfl) (fun cdv A outer s H hr hg => b__law_cut (good_def sc__law_cut hr hg D11 hb) ) fun ws Q h => w__law_cut  ws Q h
  have D12 : Defs l.prog w K mg base 1 (addΓ (addΓ noΓ "_law_cut" spCut) "_law_power" spPower) := ((Defs.none.add mono_spCut (C11.mono (by decide)) M11 F11.kp B11).add mono_spPower (C10.mono (by decide)) M10 F10.kp B10)
  have C12 : FnC l.prog w K mg base 2 f12 _ P__law_at spAt := fnC (k := 1) (Γ := (addΓ (addΓ noΓ "_law_cut" spCut) "_law_power" spPower)) (tree := T__law_at) F12 sc__law_at (fun ws Q h => by obtain ⟨_, _, _, e, _⟩ := h; rw [e]; rfl) (fun cdv A outer s H hr hg => b__law_at (good_def sc__law_at hr hg D12 hb) (add_there (by decide) add_here) add_here) fun ws Q h => w__law_at add_here (add_there (by decide) add_here) ws Q h
  have D13 : Defs l.prog w K mg base 0 noΓ := Defs.none
  have C13 : FnC l.prog w K mg base 1 f13 _ P__law_less spLess := fnC (k := 0) (Γ := noΓ) (tree := T__law_less) F13 sc__law_less (fun ws Q h => by obtain ⟨_, _, e, _⟩ := h; rw [e]; rfl) (fun cdv A outer s H hr hg => b__law_less (good_def sc__law_less hr hg D13 hb) ) fun ws Q h => w__law_less  ws Q h
  have D14 : Defs l.prog w K mg base 2 (addΓ noΓ "_law_at" spAt) := (Defs.none.add mono_spAt (C12.mono (by decide)) M12 F12.kp B12)
  have C14 : FnC l.prog w K mg base 3 f14 _ P__law_sign spSign := fnC (k := 2) (Γ := (addΓ noΓ "_law_at" spAt)) (tree := T__law_sign) F14 sc__law_sign (fun ws Q h => by obtain ⟨_, _, _, e, _⟩ := h; rw [e]; rfl) (fun cdv A outer s H hr hg => b__law_sign (good_def sc__law_sign hr hg D14 hb) add_here) fun ws Q h => w__law_sign add_here ws Q h
  have D15 : Defs l.prog w K mg base 1 (addΓ noΓ "_law_power" spPower) := (Defs.none.add mono_spPower (C10.mono (by decide)) M10 F10.kp B10)
  have C15 : FnC l.prog w K mg base 2 f15 _ P__law_weights spWts := fnC (k := 1) (Γ := (addΓ noΓ "_law_power" spPower)) (tree := T__law_weights) F15 sc__law_weights (fun ws Q h => by obtain ⟨_, _, _, _, _, e, _⟩ := h; rw [e]; rfl) (fun cdv A outer s H hr hg => b__law_weights (good_def sc__law_weights hr hg D15 hb) add_here) fun ws Q h => w__law_weights add_here ws Q h
  have D16 : Defs l.prog w K mg base 2 (addΓ noΓ "_law_weights" spWts) := (Defs.none.add mono_spWts (C15.mono (by decide)) M15 F15.kp B15)
  have C16 : FnC l.prog w K mg base 3 f16 _ P__law_is_settled spSet := fnC (k := 2) (Γ := (addΓ noΓ "_law_weights" spWts)) (tree := T__law_is_settled) F16 sc__law_is_settled (fun ws Q h => by obtain ⟨_, _, _, e, _⟩ := h; rw [e]; rfl) (fun cdv A outer s H hr hg => b__law_is_settled (good_def sc__law_is_settled hr hg D16 hb) add_here) fun ws Q h => w__law_is_settled add_here ws Q h
  have D17 : Defs l.prog w K mg base 2 (addΓ noΓ "_law_weights" spWts) := (Defs.none.add mono_spWts (C15.mono (by decide)) M15 F15.kp B15)
  have C17 : FnC l.prog w K mg base 3 f17 _ P__law_is_seen spSeen := fnC (k := 2) (Γ := (addΓ noΓ "_law_weights" spWts)) (tree := T__law_is_seen) F17 sc__law_is_seen (fun ws Q h => by obtain ⟨_, _, _, e, _⟩ := h; rw [e]; rfl) (fun cdv A outer s H hr hg => b__law_is_seen (good_def sc__law_is_seen hr hg D17 hb) add_here) fun ws Q h => w__law_is_seen add_here ws Q h
  have D18 : Defs l.prog w K mg base 2 (addΓ (addΓ noΓ "_law_pick" spPick) "_law_of" spOf) := ((Defs.none.add mono_spPick (C8.mono (by decide)) M8 F8.kp B8).add mono_spOf (C9.mono (by decide)) M9 F9.kp B9)
  have C18 : FnC l.prog w K mg base 3 f18 _ P__law_powers spPowers := fnC (k := 2) (Γ := (addΓ (addΓ noΓ "_law_pick" spPick) "_law_of" spOf)) (tree := T__law_powers) F18 sc__law_powers (fun ws Q h => by rw [h.1]; rfl) (fun cdv A outer s H hr hg => b__law_powers (good_def sc__law_powers hr hg D18 hb) (add_there (by decide) add_here) add_here) fun ws Q h => w__law_powers (add_there (by decide) add_here) add_here ws Q h
  have D19 : Defs l.prog w K mg base 2 (addΓ (addΓ (addΓ noΓ "_law_of" spOf) "_law_pick" spPick) "_law_power" spPower) := (((Defs.none.add mono_spOf (C9.mono (by decide)) M9 F9.kp B9).add mono_spPick (C8.mono (by decide)) M8 F8.kp B8).add mono_spPower (C10.mono (by decide)) M10 F10.kp B10)
  have C19 : FnC l.prog w K mg base 3 f19 _ P__law_rooted spRooted := fnC (k := 2) (Γ := (addΓ (addΓ (addΓ noΓ "_law_of" spOf) "_law_pick" spPick) "_law_power" spPower)) (tree := T__law_rooted) F19 sc__law_rooted (fun ws Q h => by obtain ⟨_, e, _⟩ := h; rw [e]; rfl) (fun cdv A outer s H hr hg => b__law_rooted (good_def sc__law_rooted hr hg D19 hb) (add_there (by decide) (add_there (by decide) add_here)) (add_there (by decide) add_here) add_here) fun ws Q h => w__law_rooted (add_there (by decide) add_here) (add_there (by decide) (add_there (by decide) add_here)) add_here ws Q h
  have D20 : Defs l.prog w K mg base 3 (addΓ (addΓ noΓ "_law_sign" spSign) "_law_is_settled" spSet) := ((Defs.none.add mono_spSign (C14.mono (by decide)) M14 F14.kp B14).add mono_spSet (C16.mono (by decide)) M16 F16.kp B16)
  have C20 : FnC l.prog w K mg base 4 f20 _ P__law_signs spSigns := fnC (k := 3) (Γ := (addΓ (addΓ noΓ "_law_sign" spSign) "_law_is_settled" spSet)) (tree := T__law_signs) F20 sc__law_signs (fun ws Q h => by obtain ⟨_, _, _, e, _⟩ := h; rw [e]; rfl) (fun cdv A outer s H hr hg => b__law_signs (good_def sc__law_signs hr hg D20 hb) (add_there (by decide) add_here) add_here) fun ws Q h => w__law_signs (add_there (by decide) add_here) add_here ws Q h
  have D21 : Defs l.prog w K mg base 4 (addΓ (addΓ (addΓ (addΓ (addΓ (addΓ (addΓ (addΓ (addΓ (addΓ (addΓ (addΓ (addΓ (addΓ noΓ "_law_powers" spPowers) "_law_pick" spPick) "_law_rooted" spRooted) "_law_less" spLess) "_law_of" spOf) "_law_signs" spSigns) "signs_of" spSigns) "is_seen" spSeen) "is_settled" spSet) "sign_at" spSign) "_law_is_seen" spSeen) "_law_is_settled" spSet) "_law_sign" spSign) "_law_power" spPower) := ((((((((((((((Defs.none.add mono_spPowers (C18.mono (by decide)) M18 F18.kp B18).add mono_spPick (C8.mono (by decide)) M8 F8.kp B8).add mono_spRooted (C19.mono (by decide)) M19 F19.kp B19).add mono_spLess (C13.mono (by decide)) M13 F13.kp B13).add mono_spOf (C9.mono (by decide)) M9 F9.kp B9).add mono_spSigns (C20.mono (by decide)) M20 F20.kp B20).add mono_spSigns (C6.mono (by decide)) M6 F6.kp B6).add mono_spSeen (C5.mono (by decide)) M5 F5.kp B5).add mono_spSet (C4.mono (by decide)) M4 F4.kp B4).add mono_spSign (C2.mono (by decide)) M2 F2.kp B2).add mono_spSeen (C17.mono (by decide)) M17 F17.kp B17).add mono_spSet (C16.mono (by decide)) M16 F16.kp B16).add mono_spSign (C14.mono (by decide)) M14 F14.kp B14).add mono_spPower (C10.mono (by decide)) M10 F10.kp B10)
  have C21 : FnC l.prog w K mg base 5 fa _ P_law spLaw := fnC (k := 4) (Γ := (addΓ (addΓ (addΓ (addΓ (addΓ (addΓ (addΓ (addΓ (addΓ (addΓ (addΓ (addΓ (addΓ (addΓ noΓ "_law_powers" spPowers) "_law_pick" spPick) "_law_rooted" spRooted) "_law_less" spLess) "_law_of" spOf) "_law_signs" spSigns) "signs_of" spSigns) "is_seen" spSeen) "is_settled" spSet) "sign_at" spSign) "_law_is_seen" spSeen) "_law_is_settled" spSet) "_law_sign" spSign) "_law_power" spPower)) (tree := T_law) F21 sc_law (fun ws Q h => by obtain ⟨_, e, _⟩ := h; rw [e]; rfl) (fun cdv A outer s H hr hg => b_law (good_def sc_law hr hg D21 hb) (add_there (by decide) (add_there (by decide) (add_there (by decide) (add_there (by decide) (add_there (by decide) (add_there (by decide) (add_there (by decide) (add_there (by decide) (add_there (by decide) (add_there (by decide) (add_there (by decide) (add_there (by decide) (add_there (by decide) add_here))))))))))))) (add_there (by decide) (add_there (by decide) (add_there (by decide) (add_there (by decide) (add_there (by decide) (add_there (by decide) (add_there (by decide) (add_there (by decide) (add_there (by decide) (add_there (by decide) (add_there (by decide) (add_there (by decide) add_here)))))))))))) (add_there (by decide) (add_there (by decide) (add_there (by decide) (add_there (by decide) (add_there (by decide) (add_there (by decide) (add_there (by decide) (add_there (by decide) (add_there (by decide) (add_there (by decide) (add_there (by decide) add_here))))))))))) (add_there (by decide) (add_there (by decide) (add_there (by decide) (add_there (by decide) (add_there (by decide) (add_there (by decide) (add_there (by decide) (add_there (by decide) (add_there (by decide) (add_there (by decide) add_here)))))))))) (add_there (by decide) (add_there (by decide) (add_there (by decide) (add_there (by decide) (add_there (by decide) (add_there (by decide) (add_there (by decide) (add_there (by decide) (add_there (by decide) add_here))))))))) (add_there (by decide) (add_there (by decide) (add_there (by decide) (add_there (by decide) (add_there (by decide) (add_there (by decide) (add_there (by decide) (add_there (by decide) add_here)))))))) (add_there (by decide) (add_there (by decide) (add_there (by decide) (add_there (by decide) (add_there (by decide) (add_there (by decide) (add_there (by decide) add_here))))))) (add_there (by decide) (add_there (by decide) (add_there (by decide) (add_there (by decide) (add_there (by decide) (add_there (by decide) add_here)))))) (add_there (by decide) (add_there (by decide) (add_there (by decide) (add_there (by decide) (add_there (by decide) add_here))))) (add_there (by decide) (add_there (by decide) (add_there (by decide) (add_there (by decide) add_here)))) (add_there (by decide) (add_there (by decide) (add_there (by decide) add_here))) (add_there (by decide) (add_there (by decide) add_here)) (add_there (by decide) add_here) add_here ⟨⟨f7, _, P__law_source, 1, C7, hr.mono (by decide), M7, F7.kp, B7⟩⟩) fun ws Q h => w_law ⟨(add_there (by decide) (add_there (by decide) (add_there (by decide) (add_there (by decide) (add_there (by decide) (add_there (by decide) (add_there (by decide) (add_there (by decide) (add_there (by decide) (add_there (by decide) (add_there (by decide) (add_there (by decide) add_here)))))))))))), (add_there (by decide) (add_there (by decide) (add_there (by decide) (add_there (by decide) (add_there (by decide) (add_there (by decide) (add_there (by decide) (add_there (by decide) (add_there (by decide) (add_there (by decide) (add_there (by decide) (add_there (by decide) (add_there (by decide) add_here))))))))))))), (add_there (by decide) (add_there (by decide) (add_there (by decide) (add_there (by decide) (add_there (by decide) (add_there (by decide) (add_there (by decide) (add_there (by decide) (add_there (by decide) (add_there (by decide) (add_there (by decide) add_here))))))))))), (add_there (by decide) (add_there (by decide) (add_there (by decide) (add_there (by decide) (add_there (by decide) (add_there (by decide) (add_there (by decide) (add_there (by decide) (add_there (by decide) (add_there (by decide) add_here)))))))))), (add_there (by decide) (add_there (by decide) (add_there (by decide) (add_there (by decide) (add_there (by decide) (add_there (by decide) (add_there (by decide) (add_there (by decide) (add_there (by decide) add_here))))))))), (add_there (by decide) (add_there (by decide) (add_there (by decide) (add_there (by decide) (add_there (by decide) (add_there (by decide) (add_there (by decide) (add_there (by decide) add_here)))))))), (add_there (by decide) (add_there (by decide) (add_there (by decide) (add_there (by decide) (add_there (by decide) (add_there (by decide) (add_there (by decide) add_here))))))), (add_there (by decide) (add_there (by decide) (add_there (by decide) (add_there (by decide) (add_there (by decide) (add_there (by decide) add_here)))))), (add_there (by decide) (add_there (by decide) (add_there (by decide) (add_there (by decide) (add_there (by decide) add_here))))), (add_there (by decide) (add_there (by decide) (add_there (by decide) (add_there (by decide) add_here)))), (add_there (by decide) (add_there (by decide) (add_there (by decide) add_here))), (add_there (by decide) (add_there (by decide) add_here)), (add_there (by decide) add_here), add_here⟩ ws Q h
  exact C21
end K54
end Cal
open PySem PySem.W PyProof.Rows
set_option maxHeartbeats 0 in
theorem PySem.Challenge.cw_mapvalues_k54_whole_signs_for_all_n_holds : PySem.Challenge.rw_mapvalues_k54_whole_signs_for_all_n.Holds := by
  w_on; o_law; k_head; (case hw => w_witness2)
  k_fill
  refine Cal.walk_ofC (l := PySem.Challenge.rw_mapvalues_k54_whole_signs_for_all_n) (n := 63) (k := 5) (x := "script") (sp := Cal.K54.spLaw) rfl (by decide) rfl ⟨rfl, by decide, by decide⟩ Cal.K54.mono_spLaw (fun ns hns => ⟨ns, rfl, hns, rfl⟩) (fun w h Y => PySem.W.kIn_of Y) ?F
  case F =>
    intro w mg fa h KX G hmg
    refine' Cal.K54.all_mk KX G hmg ?no ?a1 ?l1 ?c1 ?k1 ?a2 ?l2 ?c2 ?k2 ?a3 ?l3 ?c3 ?k3 ?a4 ?l4 ?c4 ?k4 ?a5 ?l5 ?c5 ?k5 ?a6 ?l6 ?c6 ?k6 ?a7 ?l7 ?c7 ?k7 ?a8 ?l8 ?c8 ?k8 ?a9 ?l9 ?c9 ?k9 ?a10 ?l10 ?c10 ?k10 ?a11 ?l11 ?c11 ?k11 ?a12 ?l12 ?c12 ?k12 ?a13 ?l13 ?c13 ?k13 ?a14 ?l14 ?c14 ?k14 ?a15 ?l15 ?c15 ?k15 ?a16 ?l16 ?c16 ?k16 ?a17 ?l17 ?c17 ?k17 ?a18 ?l18 ?c18 ?k18 ?a19 ?l19 ?c19 ?k19 ?a20 ?l20 ?c20 ?k20 ?a21 ?l21 ?c21 ?k21 ?z1 ?z2 ?z3 ?z4 ?z5 ?z6 ?z7 ?z8 ?z9 ?z10 ?z11 ?z12 ?z13 ?z14 ?z15 ?z16 ?z17 ?z18 ?z19
    (case no => rfl); (case a1 => k_is); (case l1 => k_is); (case c1 => k_is); (case k1 => k_is); (case a2 => k_is); (case l2 => k_is); (case c2 => k_is); (case k2 => k_is); (case a3 => k_is); (case l3 => k_is); (case c3 => k_is); (case k3 => k_is); (case a4 => k_is); (case l4 => k_is); (case c4 => k_is); (case k4 => k_is); (case a5 => k_is); (case l5 => k_is); (case c5 => k_is); (case k5 => k_is); (case a6 => k_is); (case l6 => k_is); (case c6 => k_is); (case k6 => k_is); (case a7 => k_is); (case l7 => k_is); (case c7 => k_is); (case k7 => k_is); (case a8 => k_is); (case l8 => k_is); (case c8 => k_is); (case k8 => k_is); (case a9 => k_is); (case l9 => k_is); (case c9 => k_is); (case k9 => k_is); (case a10 => k_is); (case l10 => k_is); (case c10 => k_is); (case k10 => k_is); (case a11 => k_is); (case l11 => k_is); (case c11 => k_is); (case k11 => k_is); (case a12 => k_is); (case l12 => k_is); (case c12 => k_is); (case k12 => k_is); (case a13 => k_is); (case l13 => k_is); (case c13 => k_is); (case k13 => k_is); (case a14 => k_is); (case l14 => k_is); (case c14 => k_is); (case k14 => k_is); (case a15 => k_is); (case l15 => k_is); (case c15 => k_is); (case k15 => k_is); (case a16 => k_is); (case l16 => k_is); (case c16 => k_is); (case k16 => k_is); (case a17 => k_is); (case l17 => k_is); (case c17 => k_is); (case k17 => k_is); (case a18 => k_is); (case l18 => k_is); (case c18 => k_is); (case k18 => k_is); (case a19 => k_is); (case l19 => k_is); (case c19 => k_is); (case k19 => k_is); (case a20 => k_is); (case l20 => k_is); (case c20 => k_is); (case k20 => k_is); (case a21 => k_is); (case l21 => k_is); (case c21 => k_is); (case k21 => k_is); (case z1 => k_is); (case z2 => k_is); (case z3 => k_is); (case z4 => k_is); (case z5 => k_is); (case z6 => k_is); (case z7 => k_is); (case z8 => k_is); (case z9 => k_is); (case z10 => k_is); (case z11 => k_is); (case z12 => k_is); (case z13 => k_is); (case z14 => k_is); (case z15 => k_is); (case z16 => k_is); (case z17 => k_is); (case z18 => k_is); (case z19 => k_is)

