import PyProof.Rows.All
import Wide.All
import OpenK.AllK
import Wide.FinOn
import HandS.ForMost
import HandS.ForExc
import HandS.Flow
import HandS.Style
import HandS.IsInst
import HandS.Wide
import HandS.TupAny
import HandS.TupLe
import HandS.Conv
import HandS.RaiseMore
import HandS.Zip
import KE.DataMinMax
import KE.DataCmp
import KE.GoesMore
import Open.SpecLaws
import KE.OsGo
import HandS.ForSpec
import HandS.WordsExc
import HandS.Ends
import HandS.EndBits
import PySem.Challenge.RW_suitday_k14_ways_that_tell_less

set_option Elab.async false
set_option linter.all false
set_option autoImplicit false
set_option maxRecDepth 100000
set_option maxHeartbeats 4000000
/-! # An evaluator for a part of Python, over data (PyData): states and what they stand for -/
namespace PyE
open PySem PySem.Spec PyProof.Rows L2

abbrev D := PyData
abbrev Frag := PySem.W.Frag

/-- everything tracked stays -/
def Ex (H H' : Hp) : Prop := ∀ a o, H a = some o → H' a = some o
theorem Ex.refl (H : Hp) : Ex H H := fun _ _ h => h
theorem Ex.trans {H H1 H2 : Hp} (a : Ex H H1) (b : Ex H1 H2) : Ex H H2 := fun x o h => b x o (a x o h)
theorem Ex.put {H : Hp} {p : Addr} {o : HO} (h : H p = none) : Ex H (upd H p o) := fun a u e => by
  rw [upd_ne (ne_of_none e h)]; exact e
theorem Ex.rd {H H' : Hp} {a : Addr} {u : HO} (e : Ex H H') (h : Rd H a u) : Rd H' a u := by
  rcases h with h | ⟨o, h⟩
  · exact .inl (e a _ h)
  · exact .inr ⟨o, e a _ h⟩
theorem Ex.sql {K : Frag} {H H' : Hp} {a : Addr} {xs : List V} (e : Ex H H') (h : SqL K H a xs) : SqL K H' a xs := by
  rcases h with h | h
  · exact .inl (e.rd h)
  · exact .inr h
theorem Ex.sqt {K : Frag} {H H' : Hp} {a : Addr} {xs : List V} (e : Ex H H') (h : SqT K H a xs) : SqT K H' a xs := by
  rcases h with h | h
  · exact .inl (e.rd h)
  · exact .inr h
section
variable {K : Frag} {F F' H H' : Hp}
mutual
theorem dp_ex (e : Ex F F') : ∀ (d : D) (v : V), Dp K F v d → Dp K F' v d
  | .none, _, h => by cases h; exact .non
  | .bool b, _, h => by cases h; exact .bl b
  | .int i, _, h => by cases h; exact .int i
  | .str x, _, h => by cases h; exact .str x
  | .list ds, _, h => by cases h with | lst s a => exact .lst (e.sql s) (dpa_ex e ds _ a)
  | .tuple ds, _, h => by cases h with | tup s a => exact .tup (e.sqt s) (dpa_ex e ds _ a)
  | .dict _, _, h => by cases h
theorem dpa_ex (e : Ex F F') : ∀ (ds : List D) (vs : List V), DpAll K F vs ds → DpAll K F' vs ds
  | [], _, h => by cases h; exact .nil
  | d :: ds, _, h => by cases h with | cons a b => exact .cons (dp_ex e d _ a) (dpa_ex e ds _ b)
end
theorem dpa_len : ∀ {vs : List V} {ds : List D}, DpAll K F vs ds → vs.length = ds.length
  | _, _, .nil => rfl
  | _, _, .cons _ t => by simp [dpa_len t]
theorem dpa_get : ∀ {vs : List V} {ds : List D} {i : Nat} {d : D}, DpAll K F vs ds → ds[i]? = some d → ∃ v, vs[i]? = some v ∧ Dp K F v d
  | _, _, _, _, .nil, e => by simp at e
  | _, _, 0, d, .cons r _, e => by simp at e; subst e; exact ⟨_, rfl, r⟩
  | _, _, i + 1, d, .cons _ t, e => by
    obtain ⟨v, h1, h2⟩ := dpa_get (i := i) t (by simpa using e)
    exact ⟨v, by simpa using h1, h2⟩
theorem dpa_getV : ∀ {vs : List V} {ds : List D} {i : Nat} {v : V}, DpAll K F vs ds → vs[i]? = some v → ∃ d, ds[i]? = some d ∧ Dp K F v d
  | _, _, _, _, .nil, e => by simp at e
  | _, _, 0, d, .cons r _, e => by simp at e; subst e; exact ⟨_, rfl, r⟩
  | _, _, i + 1, d, .cons _ t, e => by
    obtain ⟨v, h1, h2⟩ := dpa_getV (i := i) t (by simpa using e)
    exact ⟨v, by simpa using h1, h2⟩
theorem dpa_app : ∀ {vs ws : List V} {ds es : List D}, DpAll K F vs ds → DpAll K F ws es → DpAll K F (vs ++ ws) (ds ++ es)
  | _, _, _, _, .nil, s => s
  | _, _, _, _, .cons r t, s => .cons r (dpa_app t s)
theorem dpa_take : ∀ {vs : List V} {ds : List D} (n : Nat), DpAll K F vs ds → DpAll K F (vs.take n) (ds.take n)
  | _, _, 0, _ => .nil
  | _, _, _ + 1, .nil => .nil
  | _, _, n + 1, .cons r t => .cons r (dpa_take n t)
theorem dpa_drop : ∀ {vs : List V} {ds : List D} (n : Nat), DpAll K F vs ds → DpAll K F (vs.drop n) (ds.drop n)
  | _, _, 0, s => s
  | _, _, _ + 1, .nil => .nil
  | _, _, n + 1, .cons _ t => dpa_drop n t
theorem dpa_set {v : V} {d : D} (r : Dp K F v d) : ∀ {vs : List V} {ds : List D} (i : Nat), DpAll K F vs ds → DpAll K F (vs.set i v) (ds.set i d)
  | _, _, _, .nil => .nil
  | _, _, 0, .cons _ t => .cons r t
  | _, _, i + 1, .cons q t => .cons q (dpa_set r i t)
theorem dpa_ints : ∀ {vs : List V} {ns : List Int}, DpAll K F vs (ns.map PyData.int) → vs = ns.map V.int
  | _, [], h => by cases h; rfl
  | _, n :: ns, h => by
    cases h with
    | cons a b => cases a; rw [dpa_ints b]; rfl
theorem dpa_ofInts : ∀ (ns : List Int), DpAll K F (ns.map V.int) (ns.map PyData.int)
  | [] => .nil
  | n :: ns => .cons (.int n) (dpa_ofInts ns)
end

/-! ### slots -/
inductive Sl where
  | no | sh (d : D) | own (ds : List D) | bor (ds : List D)
abbrev SEnv := List Sl
/-- slot i holds a list of this frame's alone (or one lent to it) -/
def Mine (env : SEnv) (i : Nat) (ds : List D) : Prop := env[i]? = some (Sl.own ds) ∨ env[i]? = some (Sl.bor ds)
/-- an address of such a list -/
def O (σ : L2.St) (env : SEnv) (a : Addr) : Prop := ∃ i ds, Mine env i ds ∧ σ[i]? = some (some (.ref a))
/-- F, the part of the heap H that never changes; σ the slots; env what they are -/
structure Sim (K : Frag) (F H : Hp) (σ : L2.St) (env : SEnv) : Prop where
  sub : Ex F H
  len : env.length = σ.length
  sh : ∀ (i : Nat) (d : D), env[i]? = some (Sl.sh d) → ∃ v, σ[i]? = some (some v) ∧ Dp K F v d
  own : ∀ (i : Nat) (ds : List D), Mine env i ds → ∃ a vs, σ[i]? = some (some (.ref a)) ∧ H a = some (.lst vs) ∧ F a = none ∧ DpAll K F vs ds
  dis : ∀ (i j : Nat) (a : Addr) (ds es : List D), Mine env i ds → Mine env j es → σ[i]? = some (some (.ref a)) → σ[j]? = some (some (.ref a)) → i = j
/-- from (F, H) to (F', H'), where only M's addresses (and new ones) may change or be frozen -/
structure Go (M : Addr → Prop) (F H F' H' : Hp) : Prop where
  ex : Ex F F'
  keep : ∀ b o, ¬ M b → H b = some o → H' b = some o
  fz : ∀ b, ¬ M b → H b ≠ none → F b = none → F' b = none
  liv : ∀ b, H b ≠ none → H' b ≠ none
theorem Go.refl (M : Addr → Prop) (F H : Hp) : Go M F H F H := ⟨Ex.refl _, fun _ _ _ h => h, fun _ _ _ h => h, fun _ h => h⟩
theorem Go.trans {M M' : Addr → Prop} {F H F1 H1 F2 H2 : Hp} (a : Go M F H F1 H1) (b : Go M' F1 H1 F2 H2) (h : ∀ x, M' x → M x ∨ H x = none) : Go M F H F2 H2 := by
  have nm : ∀ x, ¬ M x → H x ≠ none → ¬ M' x := fun x n q z => (h x z).elim n q
  refine ⟨a.ex.trans b.ex, fun x o n e => ?_, fun x n e f => ?_, fun x e => b.liv x (a.liv x e)⟩
  · exact b.keep x o (nm x n (by rw [e]; simp)) (a.keep x o n e)
  · exact b.fz x (nm x n e) (a.liv x e) (a.fz x n e f)
theorem Go.mono {M M' : Addr → Prop} {F H F1 H1 : Hp} (a : Go M F H F1 H1) (h : ∀ x, M x → M' x ∨ H x = none) : Go M' F H F1 H1 :=
  Go.trans (Go.refl M' F H) a h
theorem Go.fresh {M : Addr → Prop} {F H F1 H1 : Hp} (a : Go M F H F1 H1) {x : Addr} (e : H1 x = none) : H x = none := by
  cases q : H x with
  | none => rfl
  | some o => exact absurd e (a.liv x (by rw [q]; simp))
/-- a new object that never changes -/
theorem Go.new {M : Addr → Prop} {F H : Hp} {p : Addr} {o : HO} (s : Ex F H) (h : H p = none) : Go M F H (upd F p o) (upd H p o) := by
  have hf : F p = none := by
    cases q : F p with
    | none => rfl
    | some u => rw [s p u q] at h; cases h
  refine ⟨Ex.put hf, fun b u _ e => by rw [upd_ne (ne_of_none e h)]; exact e, fun b _ e f => ?_, fun b e => ?_⟩
  · rw [upd_ne (fun (z : b = p) => e (z ▸ h))]; exact f
  · rw [upd_ne (fun (z : b = p) => e (z ▸ h))]; exact e
/-- a new object that may change -/
theorem Go.newM {M : Addr → Prop} {F H : Hp} {p : Addr} {o : HO} (h : H p = none) : Go M F H F (upd H p o) :=
  ⟨Ex.refl _, fun b u _ e => by rw [upd_ne (ne_of_none e h)]; exact e, fun b _ _ f => f, fun b e => by rw [upd_ne (fun (z : b = p) => e (z ▸ h))]; exact e⟩
/-- one of M's is frozen -/
theorem Go.freeze {M : Addr → Prop} {F H : Hp} {p : Addr} {o : HO} (m : M p) (hf : F p = none) : Go M F H (upd F p o) H :=
  ⟨Ex.put hf, fun b u _ e => e, fun b n _ f => by rw [upd_ne (fun (z : b = p) => n (z ▸ m))]; exact f, fun b e => e⟩
/-- one of M's is written -/
theorem Go.write {M : Addr → Prop} {F H : Hp} {p : Addr} {o : HO} (m : M p) : Go M F H F (upd H p o) :=
  ⟨Ex.refl _, fun b u n e => by rw [upd_ne (fun (z : b = p) => n (z ▸ m))]; exact e, fun b _ _ f => f, fun b e => by
    by_cases z : b = p
    · rw [z, upd_same]; simp
    · rw [upd_ne z]; exact e⟩
section
variable {K : Frag} {F F' H H' : Hp} {σ : L2.St} {env env' : SEnv}
theorem Sim.ofree (s : Sim K F H σ env) {a : Addr} (h : O σ env a) : F a = none ∧ ∃ vs, H a = some (.lst vs) := by
  obtain ⟨i, ds, m, e⟩ := h
  obtain ⟨b, vs, e2, h1, h2, _⟩ := s.own i ds m
  rw [e] at e2
  cases e2
  exact ⟨h2, vs, h1⟩
/-- the same slots behind a step that leaves this frame's lists as they are -/
theorem Sim.go {M : Addr → Prop} (s : Sim K F H σ env) (g : Go M F H F' H') (sub : Ex F' H') (hm : ∀ a, O σ env a → ¬ M a) : Sim K F' H' σ env := by
  refine ⟨sub, s.len, fun i d e => ?_, fun i ds m => ?_, s.dis⟩
  · obtain ⟨v, h1, h2⟩ := s.sh i d e
    exact ⟨v, h1, dp_ex g.ex _ _ h2⟩
  · obtain ⟨a, vs, h1, h2, h3, h4⟩ := s.own i ds m
    have n := hm a ⟨i, ds, m, h1⟩
    exact ⟨a, vs, h1, g.keep a _ n h2, g.fz a n (by rw [h2]; simp) h3, dpa_ex g.ex _ _ h4⟩
end

/-! ### values on the way: a datum, a slot that is looked at later, a list just made -/
inductive Vw where
  | now (d : D) | late (i : Nat) | tmp (ds : List D)
def VwR (K : Frag) (F H H0 : Hp) (σ : L2.St) (env : SEnv) : Vw → V → Prop
  | .now d, v => Dp K F v d
  | .late i, v => σ[i]? = some (some v) ∧ i < env.length
  | .tmp ds, v => ∃ a vs, v = .ref a ∧ H a = some (.lst vs) ∧ F a = none ∧ ¬ O σ env a ∧ H0 a = none ∧ DpAll K F vs ds
def look (env : SEnv) : Vw → Option D
  | .now d => some d
  | .tmp ds => some (.list ds)
  | .late i => match env[i]? with
    | some (.sh d) => some d
    | some (.own ds) => some (.list ds)
    | some (.bor ds) => some (.list ds)
    | _ => none
/-- v is to be read as d: a list's items never change -/
def VR (K : Frag) (F H : Hp) (v : V) : D → Prop
  | .list ds => ∃ a vs, v = .ref a ∧ SqL K H a vs ∧ DpAll K F vs ds
  | d => Dp K F v d
section
variable {K : Frag} {F F' H H' H0 : Hp} {σ : L2.St} {env env' : SEnv} {v : V}
theorem VR.of {d : D} (s : Ex F H) (h : Dp K F v d) : VR K F H v d := by
  cases d with
  | list ds => cases h with | lst q a => exact ⟨_, _, rfl, s.sql q, a⟩
  | _ => exact h
theorem VR.dp {d : D} (s : Ex F H) (h : VR K F H v d) : Dp K H v d := by
  cases d with
  | list ds =>
    obtain ⟨a, vs, rfl, q, al⟩ := h
    exact .lst q (dpa_ex s _ _ al)
  | _ => exact dp_ex s _ _ h
theorem look_vr (s : Sim K F H σ env) {w : Vw} {d : D} (r : VwR K F H H0 σ env w v) (e : look env w = some d) : VR K F H v d := by
  cases w with
  | now d' => cases e; exact VR.of s.sub r
  | tmp ds =>
    cases e
    obtain ⟨a, vs, rfl, h1, _, _, _, h2⟩ := r
    exact ⟨a, vs, rfl, .inl (.inl h1), h2⟩
  | late i =>
    obtain ⟨r, _⟩ := r
    cases q : env[i]? with
    | none => simp [look, q] at e
    | some sl =>
      cases sl with
      | no => simp [look, q] at e
      | sh d' =>
        simp only [look, q, Option.some.injEq] at e
        subst e
        obtain ⟨v', h1, h2⟩ := s.sh i _ q
        rw [r] at h1
        cases h1
        exact VR.of s.sub h2
      | own ds =>
        simp only [look, q, Option.some.injEq] at e
        subst e
        obtain ⟨a, vs, h1, h2, _, h3⟩ := s.own i ds (.inl q)
        rw [r] at h1
        cases h1
        exact ⟨a, vs, rfl, .inl (.inl h2), h3⟩
      | bor ds =>
        simp only [look, q, Option.some.injEq] at e
        subst e
        obtain ⟨a, vs, h1, h2, _, h3⟩ := s.own i ds (.inr q)
        rw [r] at h1
        cases h1
        exact ⟨a, vs, rfl, .inl (.inl h2), h3⟩
/-- a value on the way behind a further step -/
theorem VwR.go {w : Vw} (g : Go (O σ env) F H F' H') (ho : ∀ a, O σ env' a → O σ env a) (hl : env'.length = env.length) (r : VwR K F H H0 σ env w v) : VwR K F' H' H0 σ env' w v := by
  cases w with
  | now d => exact dp_ex g.ex _ _ r
  | late i => exact ⟨r.1, hl ▸ r.2⟩
  | tmp ds =>
    obtain ⟨a, vs, e, h1, h2, h3, h4, h5⟩ := r
    exact ⟨a, vs, e, g.keep a _ h3 h1, g.fz a h3 (by rw [h1]; simp) h2, fun z => h3 (ho a z), h4, dpa_ex g.ex _ _ h5⟩
/-- .. from an earlier start -/
theorem VwR.early {M : Addr → Prop} {w : Vw} {H1 F1 : Hp} (g : Go M F1 H1 F' H') (r : VwR K F H H' σ env w v) : VwR K F H H1 σ env w v := by
  cases w with
  | now d => exact r
  | late i => exact r
  | tmp ds =>
    obtain ⟨a, vs, e, h1, h2, h3, h4, h5⟩ := r
    exact ⟨a, vs, e, h1, h2, h3, g.fresh h4, h5⟩
/-- a value on the way is kept as a datum: a list just made is frozen -/
def keepD : Vw → Option D
  | .now d => some d
  | .tmp ds => some (.list ds)
  | .late _ => none
theorem VwR.keep {M : Addr → Prop} (s : Sim K F H σ env) {w : Vw} {d : D} (r : VwR K F H H0 σ env w v) (e : keepD w = some d) (hm : ∀ a, H0 a = none → M a) :
    ∃ F', Go M F H F' H ∧ Sim K F' H σ env ∧ Dp K F' v d := by
  cases w with
  | now d' => cases e; exact ⟨F, Go.refl _ _ _, s, r⟩
  | late i => cases e
  | tmp ds =>
    cases e
    obtain ⟨a, vs, rfl, h1, h2, h3, h4, h5⟩ := r
    have g : Go M F H (upd F a (.lst vs)) H := Go.freeze (hm a h4) h2
    have g' : Go (fun b => b = a) F H (upd F a (.lst vs)) H := Go.freeze rfl h2
    have sub : Ex (upd F a (.lst vs)) H := fun b o z => by
      by_cases hb : b = a
      · subst hb; rw [upd_same] at z; cases z; exact h1
      · rw [upd_ne hb] at z; exact s.sub b o z
    exact ⟨_, g, s.go g' sub (fun b ob (z : b = a) => h3 (z ▸ ob)), .lst (.inl (.inl upd_same)) (dpa_ex g.ex _ _ h5)⟩
end
end PyE

set_option Elab.async false
set_option linter.all false
set_option autoImplicit false
set_option maxRecDepth 100000
set_option maxHeartbeats 4000000
/-! # The evaluator: a small language (IE, IS ..), what it comes to -/
namespace PyE
open PySem PySem.Spec L2

inductive Rs (α : Type) where
  | ok (a : α) (env : SEnv) | exc (c : Str) (x : D) (env : SEnv) | stuck
@[reducible] def Rs.bind {α β : Type} (r : Rs α) (f : α → SEnv → Rs β) : Rs β := match r with
  | .ok a e => f a e
  | .exc c x e => .exc c x e
  | .stuck => .stuck
@[reducible] def Rs.opt {α : Type} (o : Option α) (env : SEnv) : Rs α := match o with
  | some a => .ok a env
  | none => .stuck
/-- within a comprehension nothing may be raised -/
@[reducible] def Rs.calm {α : Type} (r : Rs α) : Rs α := match r with
  | .ok a e => .ok a e
  | _ => .stuck

inductive FR where
  | nxt (env : SEnv) | brk (env : SEnv) | cnt (env : SEnv) | ret (d : D) (env : SEnv) | exc (c : Str) (x : D) (env : SEnv) | stuck
@[reducible] def FR.bind (r : FR) (f : SEnv → FR) : FR := match r with
  | .nxt e => f e
  | r => r
@[reducible] def Rs.toF {α : Type} (r : Rs α) (f : α → SEnv → FR) : FR := match r with
  | .ok a e => f a e
  | .exc c x e => .exc c x e
  | .stuck => .stuck

/-- a def as the others see it: how many arguments, whether the first one is a list that is lent and may be changed, what it comes to (bs: the lent list's items behind it) -/
inductive FRes where
  | ret (d : D) (bs : List D) | exc (c : Str) (x : D) (bs : List D) | stuck
structure FnSem where
  arity : Nat
  bor : Bool
  run : List D → FRes
abbrev Fns := Str → Option FnSem

inductive Bf where
  | len | sum | all | any | tuple | list | int | abs | min | max | bool
  deriving DecidableEq
inductive Ty where
  | int | bool | str | tuple | list
  deriving DecidableEq
inductive Tg where
  | one (i : Nat) | many (is : List Nat)

mutual
inductive IE where
  | k (d : D) | v (i : Nat) | g (x : Str) (d : D)
  | bin (op : Operator) (a b : IE) | neg (a : IE)
  | cmp (op : CmpOp) (a b : IE) | cmp2 (o o' : CmpOp) (a b c : IE)
  | and (a b : IE) | or (a b : IE) | nt (a : IE) | ife (t a b : IE)
  | tup (es : IEs) | lst (es : IEs)
  | ix (a b : IE) | sl (a : IE) (lo hi : IO)
  | call (f : Str) (es : IEs) | callb (f : Str) (i : Nat) (es : IEs)
  | bf (f : Bf) (es : IEs)
  | isi (a : IE) (ts : List Ty) (tupled : Bool)
  | lc (e : IE) (tg : Tg) (it : II) (c : IO) (own : List Nat)
  | lc2 (e : IE) (tg : Tg) (it : II) (c : IO) (tg2 : Tg) (it2 : II) (c2 : IO) (own own2 : List Nat)
inductive IEs where
  | nil | cons (e : IE) (es : IEs)
inductive IO where
  | none | some (e : IE)
inductive II where
  | seq (e : IE) | r1 (a : IE) | r2 (a b : IE) | r3 (a b c : IE) | enum (e : IE)
end

mutual
inductive IS where
  | asg (i : Nat) (e : IE) | asgT (is : List Nat) (e : IE) | par (is : List Nat) (es : IEs) | aug (i : Nat) (op : Operator) (e : IE)
  | app (i : Nat) (e : IE) | set (i : Nat) (a e : IE) | ex (e : IE)
  | ret (e : IE) | retN | ite (t : IE) (a b : ISs) | for_ (tg : Tg) (it : II) (b : ISs) | whl (t : IE) (b : ISs)
  | brk | cnt | pass | raise (c : Str) (e : IE) | tryAt (b : ISs) (c : Str) (i : Nat) (e : IE)
inductive ISs where
  | nil | cons (s : IS) (r : ISs)
end

/-! ### operations on data -/
/-- between -k - 1 and k (the kernel must not count down from such a number) -/
def inB (k : Nat) : Int → Bool
  | .ofNat n => Nat.ble n k
  | .negSucc n => Nat.ble n k
theorem inB_of {k : Nat} {i : Int} (h : inB k i = true) : -((k : Int) + 1) ≤ i ∧ i ≤ k := by
  cases i with
  | ofNat n =>
    have h : n ≤ k := Nat.le_of_ble_eq_true h
    constructor <;> simp only [Int.ofNat_eq_natCast] <;> omega
  | negSucc n =>
    have h : n ≤ k := Nat.le_of_ble_eq_true h
    constructor <;> omega
def smallI (i : Int) : Bool := inB 18446744073709551614 i
theorem smallI_of {i : Int} (h : smallI i = true) : -(2 ^ 64) < i ∧ i < 2 ^ 64 := by
  have := inB_of h
  omega
def mulOk (i j : Int) : Bool := smallI i || smallI j || decide (i.natAbs.log2 + j.natAbs.log2 < 1000000)
def divOk (j : Int) : Bool := decide (0 < j) && decide (j.natAbs.log2 < 9000)
def powOk (i : Int) : Int → Bool
  | .ofNat n => Nat.ble n 1000000 && decide (i.natAbs < 2 ^ 64)
  | .negSucc _ => false
theorem powOk_of {i j : Int} (h : powOk i j = true) : 0 ≤ j ∧ j ≤ 1000000 ∧ i.natAbs < 2 ^ 64 := by
  cases j with
  | ofNat n =>
    unfold powOk at h
    rw [Bool.and_eq_true, decide_eq_true_eq] at h
    have h1 : n ≤ 1000000 := Nat.le_of_ble_eq_true h.1
    exact ⟨Int.natCast_nonneg n, by simp only [Int.ofNat_eq_natCast]; omega, h.2⟩
  | negSucc n => cases h
def szOk (n : Nat) : Bool := decide (n ≤ 16777216)
def binD : Operator → D → D → Option Vw
  | .Add, .int i, .int j => some (.now (.int (i + j)))
  | .Add, .str a, .str b => if szOk (a.length + b.length) then some (.now (.str (a ++ b))) else none
  | .Add, .tuple a, .tuple b => if szOk (a.length + b.length) then some (.now (.tuple (a ++ b))) else none
  | .Add, .list a, .list b => if szOk (a.length + b.length) then some (.tmp (a ++ b)) else none
  | .Sub, .int i, .int j => some (.now (.int (i - j)))
  | .Mult, .int i, .int j => if mulOk i j then some (.now (.int (i * j))) else none
  | .FloorDiv, .int i, .int j => if divOk j then some (.now (.int (i / j))) else none
  | .Mod, .int i, .int j => if decide (0 < j) then some (.now (.int (i % j))) else none
  | .Pow, .int i, .int j => if powOk i j then some (.now (.int (i ^ j.toNat))) else none
  | _, _, _ => none
def isAtom : D → Bool
  | .none | .bool _ | .int _ | .str _ => true
  | _ => false
def flatD : D → Bool
  | .none | .bool _ | .int _ | .str _ => true
  | _ => false
def eqA : D → D → Bool
  | .int i, .int j => i == j
  | .str a, .str b => a == b
  | x, y => PyData.eqv x y
def inD (x : D) (xs : List D) : Bool := xs.any fun y => PyData.eqv y x
def ordOk (x y : D) : Bool := PySem.W.alike x y && (match x with | .none => false | _ => true) && decide (x.depth ≤ 60)
def cmpD : CmpOp → D → D → Option Bool
  | .Eq, x, y => if SeqAt.shaped x && SeqAt.shaped y then some (PyData.eqv x y) else none
  | .NotEq, x, y => if SeqAt.shaped x && SeqAt.shaped y then some (!PyData.eqv x y) else none
  | .Lt, .int i, .int j => some (decide (i < j))
  | .LtE, .int i, .int j => some (decide (i ≤ j))
  | .Gt, .int i, .int j => some (decide (j < i))
  | .GtE, .int i, .int j => some (decide (j ≤ i))
  | .Lt, x, y => if ordOk x y then some (PySem.W.dataLt x y) else none
  | .LtE, x, y => if ordOk x y then some (!PySem.W.dataLt y x) else none
  | .Gt, x, y => if ordOk x y then some (PySem.W.dataLt y x) else none
  | .GtE, x, y => if ordOk x y then some (!PySem.W.dataLt x y) else none
  | .Is, .none, .none => some true
  | .Is, _, .none => some false
  | .Is, .bool a, .bool b => some (decide (a = b))
  | .IsNot, .none, .none => some false
  | .IsNot, _, .none => some true
  | .IsNot, .bool a, .bool b => some (!decide (a = b))
  | .In, x, .list ys => if flatD x && ys.all flatD then some (inD x ys) else none
  | .In, x, .tuple ys => if flatD x && ys.all flatD then some (inD x ys) else none
  | .NotIn, x, .list ys => if flatD x && ys.all flatD then some (!inD x ys) else none
  | .NotIn, x, .tuple ys => if flatD x && ys.all flatD then some (!inD x ys) else none
  | _, _, _ => none
def truD : D → Option Bool
  | .none => some false
  | .bool b => some b
  | .int i => some (i != 0)
  | .str x => if szOk x.length then some (x.length != 0) else none
  | .list xs => some (!xs.isEmpty)
  | .tuple xs => some (!xs.isEmpty)
  | .dict _ => none
def ixD : D → D → Option D
  | .list xs, .int i => atI xs i
  | .tuple xs, .int i => atI xs i
  | .str z, .int i => if szOk z.length then (atI z.cps.toList i).map fun c => .str ⟨#[c]⟩ else none
  | _, _ => none
def cutD (xs : List D) (lo hi : Option Int) : List D := (xs.drop (HT.sIx xs.length 0 lo)).take (HT.sIx xs.length xs.length hi - HT.sIx xs.length 0 lo)
def slD : D → Option Int → Option Int → Option Vw
  | .list xs, lo, hi => some (.tmp (cutD xs lo hi))
  | .tuple xs, lo, hi => some (.now (.tuple (cutD xs lo hi)))
  | _, _, _ => none
def boolsD : List D → Option (List Bool)
  | [] => some []
  | .bool b :: r => (boolsD r).map (b :: ·)
  | _ :: _ => none
def intsD : List D → Option (List Int)
  | [] => some []
  | .int i :: r => (intsD r).map (i :: ·)
  | _ :: _ => none
/-- all of them can be compared, and none is None -/
def alikeL (xs : List D) : Bool := (xs.all fun x => xs.all fun y => PySem.W.alike x y) && (xs.all fun x => match x with | .none => false | _ => true) && decide (PyData.depthAll xs ≤ 40) && (xs.all fun x => x.canLay0)
def bfD : Bf → List D → Option Vw
  | .len, [.list xs] => some (.now (.int xs.length))
  | .len, [.tuple xs] => some (.now (.int xs.length))
  | .len, [.str z] => if szOk z.length then some (.now (.int z.length)) else none
  | .sum, [.list xs] => (intsD xs).map fun ns => .now (.int ns.sum)
  | .all, [.list xs] => (boolsD xs).map fun bs => .now (.bool (bs.all id))
  | .any, [.list xs] => (boolsD xs).map fun bs => .now (.bool (bs.any id))
  | .tuple, [.list xs] => some (.now (.tuple xs))
  | .tuple, [.tuple xs] => some (.now (.tuple xs))
  | .list, [.list xs] => some (.tmp xs)
  | .list, [.tuple xs] => some (.tmp xs)
  | .int, [.int i] => some (.now (.int i))
  | .int, [.bool b] => some (.now (.int (if b then 1 else 0)))
  | .bool, [.int i] => some (.now (.bool (i != 0)))
  | .bool, [.bool b] => some (.now (.bool b))
  | .abs, [.int i] => some (.now (.int (if i < 0 then -i else i)))
  | .min, [.list (x :: xs)] => if alikeL (x :: xs) then some (.now (PySem.W.minD x xs)) else none
  | .min, [.tuple (x :: xs)] => if alikeL (x :: xs) then some (.now (PySem.W.minD x xs)) else none
  | .max, [.list (x :: xs)] => if alikeL (x :: xs) then some (.now (PySem.W.maxD x xs)) else none
  | .max, [.tuple (x :: xs)] => if alikeL (x :: xs) then some (.now (PySem.W.maxD x xs)) else none
  | .min, [.int i, .int j] => some (.now (.int (if j < i then j else i)))
  | .max, [.int i, .int j] => some (.now (.int (if j > i then j else i)))
  | _, _ => none
def isTy : D → Ty → Bool
  | .int _, .int => true
  | .bool _, .int => true
  | .bool _, .bool => true
  | .str _, .str => true
  | .tuple _, .tuple => true
  | .list _, .list => true
  | _, _ => false

/-! ### slots -/
def wipeE (env : SEnv) : List Nat → SEnv
  | [] => env
  | v :: vs => (wipeE env vs).set v .no
/-- behind a block: its own names' slots as they were -/
def backE (old env : SEnv) : List Nat → SEnv
  | [] => env
  | v :: vs => (backE old env vs).set v (old.getD v .no)
/-- slot i gets s; a lent list's slot is never written -/
def putS (env : SEnv) (i : Nat) (s : Sl) : Option SEnv := match env[i]? with
  | some (.bor _) => none
  | some _ => some (env.set i s)
  | none => none
def putN : SEnv → List Nat → List D → Option SEnv
  | env, [], [] => some env
  | env, i :: is, d :: ds => (putS env i (.sh d)).bind fun e => putN e is ds
  | _, _, _ => none
def putT (env : SEnv) : Tg → D → Option SEnv
  | .one i, d => putS env i (.sh d)
  | .many is, .tuple ds => putN env is ds
  | .many _, _ => none
/-- a value on the way is kept: a list of this frame's is frozen -/
def keepF (env : SEnv) : Vw → Option (D × SEnv)
  | .now d => some (d, env)
  | .tmp ds => some (.list ds, env)
  | .late i => match env[i]? with
    | some (.sh d) => some (d, env)
    | some (.own ds) => some (.list ds, env.set i (.sh (.list ds)))
    | _ => none
def keepN (env : SEnv) : List Vw → Option (List D × SEnv)
  | [] => some ([], env)
  | w :: ws => (keepF env w).bind fun p => (keepN p.2 ws).bind fun q => some (p.1 :: q.1, q.2)
def rgD (lo : Int) (n : Nat) : List D := (List.range n).map fun i => .int (lo + (i : Nat))
def rgC (lo c : Int) (n : Nat) : List D := (List.range n).map fun i => .int (lo + (i : Nat) * c)
def rOk (i : Int) : Bool := inB 4611686018427387903 i
def enumD : Nat → List D → List D
  | _, [] => []
  | n, d :: ds => .tuple [.int n, d] :: enumD (n + 1) ds
def seqD : D → Option (List D)
  | .list xs => some xs
  | .tuple xs => some xs
  | _ => none
def looks (env : SEnv) : List Vw → Option (List D)
  | [] => some []
  | w :: ws => (look env w).bind fun d => (looks env ws).bind fun ds => some (d :: ds)

/-! ### expressions -/
/-- a comprehension's turns -/
def lcL (f : D → SEnv → Rs (List D)) : List D → SEnv → Rs (List D)
  | [], env => .ok [] env
  | x :: xs, env => (f x env).bind fun a e => (lcL f xs e).bind fun b e' => .ok (a ++ b) e'
def truR (env : SEnv) (w : Vw) : Option Bool := (look env w).bind truD

/-- one turn of a comprehension -/
def lcStep (evc : SEnv → Rs Bool) (eve : SEnv → Rs Vw) (tg : Tg) (own : List Nat) (x : D) (en : SEnv) : Rs (List D) := match putT en tg x with
  | none => .stuck
  | some en1 => (evc en1).bind fun ok en2 => if ok then (eve en2).bind fun w en3 => match keepF en3 w with
      | some (d, en4) => .ok [d] (wipeE en4 own)
      | none => .stuck
    else .ok [] (wipeE en2 own)
/-- .. with a second clause -/
def lc2Step (evc : SEnv → Rs Bool) (evi2 : SEnv → Rs (List D)) (evc2 : SEnv → Rs Bool) (eve : SEnv → Rs Vw) (tg tg2 : Tg) (own own2 : List Nat) (x : D) (en : SEnv) : Rs (List D) := match putT en tg x with
  | none => .stuck
  | some en1 => (evc en1).bind fun ok en2 => if ok then (evi2 en2).bind fun ds2 en3 =>
      match lcL (lcStep evc2 eve tg2 own2) ds2 (wipeE en3 own2) with
      | .ok out en4 => .ok out (wipeE en4 own)
      | _ => .stuck
    else .ok [] (wipeE en2 own)
def lcEnd (e1 : SEnv) (own : List Nat) (r : Rs (List D)) : Rs Vw := match r with
  | .ok out en => if szOk out.length then .ok (.tmp out) (backE e1 en own) else .stuck
  | _ => .stuck
def enumK (d : D) (env : SEnv) : Rs (List D) := match d with
  | .list xs => .ok (enumD 0 xs) env
  | .tuple xs => .ok (enumD 0 xs) env
  | _ => .stuck
/-- a call: the arguments are there -/
def callK (fs : FnSem) (ds : List D) (env : SEnv) : Rs Vw :=
  if !fs.bor && ds.length == fs.arity then match fs.run ds with
    | .ret d _ => .ok (.now d) env
    | .exc c x _ => .exc c x env
    | .stuck => .stuck
  else .stuck
def isMine (env : SEnv) (i : Nat) : Bool := match env[i]? with
  | some (.own _) => true
  | some (.bor _) => true
  | _ => false
/-- a call that is lent slot i's list -/
def callbK (fs : FnSem) (i : Nat) (ds : List D) (env : SEnv) : Rs Vw :=
  if fs.bor && ds.length + 1 == fs.arity then match env[i]? with
    | some (.own bs) => match fs.run (.list bs :: ds) with
      | .ret d b => .ok (.now d) (env.set i (.own b))
      | .exc c x b => .exc c x (env.set i (.own b))
      | .stuck => .stuck
    | some (.bor bs) => match fs.run (.list bs :: ds) with
      | .ret d b => .ok (.now d) (env.set i (.bor b))
      | .exc c x b => .exc c x (env.set i (.bor b))
      | .stuck => .stuck
    | _ => .stuck
  else .stuck
mutual
def evE (Φ : Fns) : IE → SEnv → Rs Vw
  | .k d, env => .ok (.now d) env
  | .v i, env => match env[i]? with
    | some (.sh d) => .ok (.now d) env
    | some .no => .stuck
    | some _ => .ok (.late i) env
    | none => .stuck
  | .g _ d, env => .ok (.now d) env
  | .bin op a b, env => (evE Φ a env).bind fun x e1 => (evE Φ b e1).bind fun y e2 => match look e2 x, look e2 y with
    | some d, some d' => .opt (binD op d d') e2
    | _, _ => .stuck
  | .neg a, env => (evE Φ a env).bind fun x e1 => match look e1 x with
    | some (.int i) => .ok (.now (.int (-i))) e1
    | _ => .stuck
  | .cmp op a b, env => (evE Φ a env).bind fun x e1 => (evE Φ b e1).bind fun y e2 => match look e2 x, look e2 y with
    | some d, some d' => .opt ((cmpD op d d').map fun b => .now (.bool b)) e2
    | _, _ => .stuck
  | .cmp2 o o' a b c, env => (evE Φ a env).bind fun x e1 => (evE Φ b e1).bind fun y e2 => match look e2 x, look e2 y with
    | some d, some d' => match cmpD o d d' with
      | some true => (evE Φ c e2).bind fun z e3 => match look e3 y, look e3 z with
        | some d2, some d3 => .opt ((cmpD o' d2 d3).map fun b => .now (.bool b)) e3
        | _, _ => .stuck
      | some false => .ok (.now (.bool false)) e2
      | none => .stuck
    | _, _ => .stuck
  | .and a b, env => (evE Φ a env).bind fun x e1 => match truR e1 x with
    | some true => evE Φ b e1
    | some false => .ok x e1
    | none => .stuck
  | .or a b, env => (evE Φ a env).bind fun x e1 => match truR e1 x with
    | some true => .ok x e1
    | some false => evE Φ b e1
    | none => .stuck
  | .nt a, env => (evE Φ a env).bind fun x e1 => match truR e1 x with
    | some b => .ok (.now (.bool (!b))) e1
    | none => .stuck
  | .ife t a b, env => (evE Φ t env).bind fun x e1 => match truR e1 x with
    | some true => evE Φ a e1
    | some false => evE Φ b e1
    | none => .stuck
  | .tup es, env => (evEs Φ es env).bind fun ws e1 => match keepN e1 ws with
    | some (ds, e2) => if szOk ds.length then .ok (.now (.tuple ds)) e2 else .stuck
    | none => .stuck
  | .lst es, env => (evEs Φ es env).bind fun ws e1 => match keepN e1 ws with
    | some (ds, e2) => if szOk ds.length then .ok (.tmp ds) e2 else .stuck
    | none => .stuck
  | .ix a b, env => (evE Φ a env).bind fun x e1 => (evE Φ b e1).bind fun y e2 => match look e2 x, look e2 y with
    | some d, some d' => .opt ((ixD d d').map .now) e2
    | _, _ => .stuck
  | .sl a lo hi, env => (evE Φ a env).bind fun x e1 => (evO Φ lo e1).bind fun l e2 => (evO Φ hi e2).bind fun h e3 => match look e3 x with
    | some d => .opt (slD d l h) e3
    | none => .stuck
  | .call f es, env => match Φ f with
    | none => .stuck
    | some fs => (evEs Φ es env).bind fun ws e1 => match keepN e1 ws with
      | some (ds, e2) => callK fs ds e2
      | none => .stuck
  | .callb f i es, env => match Φ f, isMine env i with
    | some fs, true => (evEs Φ es env).bind fun ws e1 => match keepN e1 ws with
      | some (ds, e2) => callbK fs i ds e2
      | none => .stuck
    | _, _ => .stuck
  | .bf f es, env => (evEs Φ es env).bind fun ws e1 => match looks e1 ws with
    | some ds => .opt (bfD f ds) e1
    | none => .stuck
  | .isi a ts _, env => (evE Φ a env).bind fun x e1 => match look e1 x with
    | some (.dict _) => .stuck
    | some d => .ok (.now (.bool (ts.any (isTy d)))) e1
    | none => .stuck
  | .lc e tg it c own, env => (evI Φ it env).bind fun ds e1 => lcEnd e1 own (lcL (lcStep (evC Φ c) (evE Φ e) tg own) ds (wipeE e1 own))
  | .lc2 e tg it c tg2 it2 c2 own own2, env => (evI Φ it env).bind fun ds e1 => lcEnd e1 own (lcL (lc2Step (evC Φ c) (evI Φ it2) (evC Φ c2) (evE Φ e) tg tg2 own own2) ds (wipeE e1 own))
def evEs (Φ : Fns) : IEs → SEnv → Rs (List Vw)
  | .nil, env => .ok [] env
  | .cons e es, env => (evE Φ e env).bind fun w e1 => (evEs Φ es e1).bind fun ws e2 => .ok (w :: ws) e2
def evO (Φ : Fns) : IO → SEnv → Rs (Option Int)
  | .none, env => .ok none env
  | .some e, env => (evE Φ e env).bind fun w e1 => match look e1 w with
    | some (.int i) => .ok (some i) e1
    | _ => .stuck
/-- a comprehension's test -/
def evC (Φ : Fns) : IO → SEnv → Rs Bool
  | .none, env => .ok true env
  | .some e, env => (evE Φ e env).bind fun w e1 => .opt (truR e1 w) e1
def evI (Φ : Fns) : II → SEnv → Rs (List D)
  | .seq e, env => (evE Φ e env).bind fun w e1 => match keepF e1 w with
    | some (d, e2) => .opt (seqD d) e2
    | none => .stuck
  | .r1 a, env => (evE Φ a env).bind fun x e1 => match look e1 x with
    | some (.int j) => if rOk j then .ok (rgD 0 j.toNat) e1 else .stuck
    | _ => .stuck
  | .r2 a b, env => (evE Φ a env).bind fun x e1 => (evE Φ b e1).bind fun y e2 => match look e2 x, look e2 y with
    | some (.int i), some (.int j) => if rOk i && rOk j then .ok (rgD i (j - i).toNat) e2 else .stuck
    | _, _ => .stuck
  | .r3 a b c, env => (evE Φ a env).bind fun x e1 => (evE Φ b e1).bind fun y e2 => (evE Φ c e2).bind fun z e3 => match look e3 x, look e3 y, look e3 z with
    | some (.int i), some (.int j), some (.int s) => if s != 0 && decide (s.natAbs < 1073741824) && Builtin.Range.small i j s && decide (0 ≤ Builtin.Range.rangeSize i j s) then .ok (rgC i s (Builtin.Range.rangeSize i j s).toNat) e3 else .stuck
    | _, _, _ => .stuck
  | .enum e, env => (evE Φ e env).bind fun w e1 => match keepF e1 w with
    | some (d, e2) => enumK d e2
    | none => .stuck
end
def evT (Φ : Fns) (e : IE) (env : SEnv) : Rs Bool := (evE Φ e env).bind fun w e1 => .opt (truR e1 w) e1

/-! ### statements -/
def forL (f : D → SEnv → FR) : List D → SEnv → FR
  | [], env => .nxt env
  | x :: xs, env => match f x env with
    | .nxt e => forL f xs e
    | .cnt e => forL f xs e
    | .brk e => .nxt e
    | r => r
def whlL (t : SEnv → Rs Bool) (f : SEnv → FR) : Nat → SEnv → FR
  | 0, _ => .stuck
  | n + 1, env => (t env).toF fun b e => if b then match f e with
      | .nxt e' => whlL t f n e'
      | .cnt e' => whlL t f n e'
      | .brk e' => .nxt e'
      | r => r
    else .nxt e
/-- x = w -/
def putW (env : SEnv) (i : Nat) : Vw → Option SEnv
  | .tmp ds => putS env i (.own ds)
  | w => (keepF env w).bind fun p => putS p.2 i (.sh p.1)

def appK (e2 : SEnv) (i : Nat) (d : D) : FR := match e2[i]? with
  | some (.own ds) => if szOk (ds.length + 1) then .nxt (e2.set i (.own (ds ++ [d]))) else .stuck
  | some (.bor ds) => if szOk (ds.length + 1) then .nxt (e2.set i (.bor (ds ++ [d]))) else .stuck
  | _ => .stuck
def setK (e3 : SEnv) (i : Nat) (j : Int) (d : D) : FR := match e3[i]? with
  | some (.own ds) => match ixN ds.length j with
    | some m => .nxt (e3.set i (.own (ds.set m d)))
    | none => .stuck
  | some (.bor ds) => match ixN ds.length j with
    | some m => .nxt (e3.set i (.bor (ds.set m d)))
    | none => .stuck
  | _ => .stuck
mutual
def evS (Φ : Fns) (n : Nat) : IS → SEnv → FR
  | .asg i e, env => (evE Φ e env).toF fun w e1 => match putW e1 i w with
    | some e2 => .nxt e2
    | none => .stuck
  | .asgT is e, env => (evE Φ e env).toF fun w e1 => match keepF e1 w with
    | some (d, e2) => match putT e2 (.many is) d with
      | some e3 => .nxt e3
      | none => .stuck
    | none => .stuck
  | .par is es, env => (evEs Φ es env).toF fun ws e1 => match keepN e1 ws with
    | some (ds, e2) => match putN e2 is ds with
      | some e3 => .nxt e3
      | none => .stuck
    | none => .stuck
  | .aug i op e, env => match env[i]? with
    | some (.sh d) => (evE Φ e env).toF fun w e1 => match d, look e1 w with
      | .int a, some (.int b) => match binD op (.int a) (.int b) with
        | some (.now d') => match putS e1 i (.sh d') with
          | some e2 => .nxt e2
          | none => .stuck
        | _ => .stuck
      | _, _ => .stuck
    | _ => .stuck
  | .app i e, env => if isMine env i then (evE Φ e env).toF fun w e1 => match keepF e1 w with
    | some (d, e2) => appK e2 i d
    | none => .stuck else .stuck
  | .set i a e, env => if isMine env i then (evE Φ e env).toF fun w e1 => match keepF e1 w with
    | some (d, e2) => (evE Φ a e2).toF fun x e3 => match look e3 x with
      | some (.int j) => setK e3 i j d
      | _ => .stuck
    | none => .stuck else .stuck
  | .ex e, env => (evE Φ e env).toF fun _ e1 => .nxt e1
  | .ret e, env => (evE Φ e env).toF fun w e1 => match keepF e1 w with
    | some (d, e2) => .ret d e2
    | none => .stuck
  | .retN, env => .ret .none env
  | .ite t a b, env => (evT Φ t env).toF fun c e1 => if c then evSs Φ n a e1 else evSs Φ n b e1
  | .for_ tg it b, env => (evI Φ it env).toF fun ds e1 => forL (fun x e => match putT e tg x with
      | some e2 => evSs Φ n b e2
      | none => .stuck) ds e1
  | .whl t b, env => whlL (evT Φ t) (evSs Φ n b) n env
  | .brk, env => .brk env
  | .cnt, env => .cnt env
  | .pass, env => .nxt env
  | .raise c e, env => (evE Φ e env).toF fun w e1 => match keepF e1 w with
    | some (d, e2) => .exc c d e2
    | none => .stuck
  | .tryAt b c i e, env => match evSs Φ n b env with
    | .exc c' x e1 => if c == c' && decide (i < e1.length) then match e with
        | .k d => (match cmpD .Eq x d with | some b => FR.ret (.bool b) e1 | none => .stuck)
        | .v j => match e1[j]? with
          | some (.sh d) => if i == j then .stuck else (match cmpD .Eq x d with | some b => FR.ret (.bool b) e1 | none => .stuck)
          | _ => .stuck
        | _ => .stuck
      else .stuck
    | r => r
def evSs (Φ : Fns) (n : Nat) : ISs → SEnv → FR
  | .nil, env => .nxt env
  | .cons s r, env => (evS Φ n s env).bind fun e => evSs Φ n r e
end
end PyE
namespace PyE
open PySem
-- does it reduce?
example : evE (fun _ => none) (.lc (.bin .Add (.v 1) (.k (.int 1))) (.one 1) (.r1 (.v 0)) .none [1]) [.sh (.int 3), .no] = .ok (.tmp [.int 1, .int 2, .int 3]) [.sh (.int 3), .no] := by rfl
end PyE

set_option Elab.async false
set_option linter.all false
set_option autoImplicit false
set_option maxRecDepth 100000
set_option maxHeartbeats 4000000
/-! # The operations on data are the model's -/
namespace PyE
open PySem PySem.Spec PyProof.Rows L2

def VwN (K : Frag) (F' H' H0 : Hp) : Vw → V → Prop
  | .now d, v => Dp K F' v d
  | .tmp ds, v => ∃ a vs, v = .ref a ∧ H' a = some (.lst vs) ∧ F' a = none ∧ H0 a = none ∧ DpAll K F' vs ds
  | .late _, _ => False
/-- whatever stands for w, with new objects alone, is what Q wants -/
def RN (K : Frag) (F H : Hp) (w : Vw) (Q : VK) : Prop := ∀ v F' H', Go (fun _ => False) F H F' H' → Ex F' H' → VwN K F' H' H w v → Q v H'
section
variable {K : Frag} {F H : Hp} {Q : VK}
theorem Ex.none {F H : Hp} (s : Ex F H) {p : Addr} (h : H p = Option.none) : F p = Option.none := by
  cases q : F p with
  | none => rfl
  | some u => rw [s p u q] at h; cases h
theorem Ex.both {F H : Hp} (s : Ex F H) (p : Addr) (o : HO) : Ex (upd F p o) (upd H p o) := fun b u z => by
  by_cases hb : b = p
  · subst hb; rw [upd_same] at z ⊢; exact z
  · rw [upd_ne hb] at z ⊢; exact s b u z
theorem Ex.right {F H : Hp} (s : Ex F H) {p : Addr} {o : HO} (h : F p = Option.none) : Ex F (upd H p o) := fun b u z => by
  rw [upd_ne (ne_of_none z h)]; exact s b u z
theorem RN.now {d : D} {v : V} (h : RN K F H (.now d) Q) (s : Ex F H) (r : Dp K F v d) : Q v H := h v F H (Go.refl _ _ _) s r
theorem RN.tup {ds : List D} {vs : List V} (h : RN K F H (.now (.tuple ds)) Q) (s : Ex F H) (r : DpAll K F vs ds) {p : Addr} (hp : H p = none) : Q (.ref p) (upd H p (.tup vs)) :=
  h _ (upd F p (.tup vs)) _ (Go.new s hp) (s.both p _) (.tup (.inl (.inl upd_same)) (dpa_ex (Ex.put (s.none hp)) _ _ r))
theorem RN.lst {ds : List D} {vs : List V} (h : RN K F H (.tmp ds) Q) (s : Ex F H) (r : DpAll K F vs ds) {p : Addr} (hp : H p = none) : Q (.ref p) (upd H p (.lst vs)) :=
  h _ F _ (Go.newM hp) (s.right (s.none hp)) ⟨p, vs, rfl, upd_same, s.none hp, hp, r⟩
theorem szOk_le {n : Nat} (h : szOk n = true) : n ≤ sizeLine := by
  rw [sizeLine_eq]; exact of_decide_eq_true h
theorem VR.lst {v : V} {ds : List D} (h : VR K F H v (.list ds)) : ∃ a vs, v = .ref a ∧ SqL K H a vs ∧ DpAll K F vs ds := h
theorem VR.tup {v : V} {ds : List D} (s : Ex F H) (h : VR K F H v (.tuple ds)) : ∃ a vs, v = .ref a ∧ SqT K H a vs ∧ DpAll K F vs ds := by
  have h : Dp K F v (.tuple ds) := h
  cases h with | tup q a => exact ⟨_, _, rfl, s.sqt q, a⟩
theorem VR.int {v : V} {i : Int} (h : VR K F H v (.int i)) : v = .int i := by
  have h : Dp K F v (.int i) := h
  cases h; rfl
theorem VR.bl {v : V} {i : Bool} (h : VR K F H v (.bool i)) : v = .bl i := by
  have h : Dp K F v (.bool i) := h
  cases h; rfl
theorem VR.str {v : V} {i : Str} (h : VR K F H v (.str i)) : v = .str i := by
  have h : Dp K F v (.str i) := h
  cases h; rfl
theorem VR.non {v : V} (h : VR K F H v .none) : v = .non := by
  have h : Dp K F v .none := h
  cases h; rfl
end

section
variable {X : Cx}
theorem op_catL : OpR X (binaryOp .Add) (fun x y H Q => ∃ l b xs zs, x = .ref l ∧ y = .ref b ∧ SqL X.K H l xs ∧ SqL X.K H b zs ∧ xs.length + zs.length ≤ sizeLine ∧ ∀ p, H p = none → Q (.ref p) (upd H p (.lst (xs ++ zs)))) := by
  intro pins s σ H x y v u Q I rx ry h
  obtain ⟨l, b, xs, zs, rfl, rfl, hl, hb, hz, q⟩ := h
  cases rx
  cases ry
  obtain ⟨vs, r1, ⟨⟨cls, dd, data, sl⟩, n, ho, hc, _, hd⟩, _⟩ := I.list hl
  obtain ⟨ws, r2, ⟨⟨cls2, dd2, data2, sl2⟩, n2, ho2, hc2, _, hd2⟩, _⟩ := I.list hb
  simp only at hc hd hc2 hd2
  subst hc hd hc2 hd2
  have e : vs.toArray ++ ws.toArray = (vs ++ ws).toArray := by simp
  have e1 := r1.length
  have e2 := r2.length
  refine concat_meets ⟨_, ho, rfl⟩ ⟨_, ho2, rfl⟩ noFill_list_add seq_list_add PySem.F.slot_list_add PySem.F.entry_list_add (PySem.F.args_list_add_2 _ _) (list_addW l b vs.toArray ws.toArray n n2 dd dd2 sl sl2 (by rw [List.size_toArray, List.size_toArray]; omega)) ⟨ho, ho2, ?_⟩
  rw [e]
  exact ⟨.ref _, _, I.lnew (t' := s.toks) (r1.append r2) (by rw [List.length_append]; omega), rfl, q _ I.fresh⟩

/-! ### two-place operators -/
def rBin (K : Frag) (op : Operator) : R2 := fun x y H Q => ∃ F d d' w, Ex F H ∧ VR K F H x d ∧ VR K F H y d' ∧ binD op d d' = some w ∧ RN K F H w Q
theorem opBin (op : Operator) : OpR X (binaryOp op) (rBin X.K op) := by
  intro pins s σ H x y v u Q I rx ry h
  obtain ⟨F, d, d', w, sub, r1, r2, e, q⟩ := h
  unfold binD at e
  split at e
  · have e1 := r1.int; have e2 := r2.int; subst e1 e2; cases e
    exact op_add pins s σ H _ _ v u Q I rx ry ⟨_, _, rfl, rfl, q.now sub (.int _)⟩
  · have e1 := r1.str; have e2 := r2.str; subst e1 e2
    split at e
    · rename_i hz
      cases e
      exact op_add_str pins s σ H _ _ v u Q I rx ry ⟨_, _, rfl, rfl, szOk_le hz, q.now sub (.str _)⟩
    · cases e
  · split at e
    · rename_i as bs hz
      cases e
      obtain ⟨a, xs, rfl, h1, a1⟩ := r1.tup sub
      obtain ⟨b, ys, rfl, h2, a2⟩ := r2.tup sub
      have l1 := dpa_len a1
      have l2 := dpa_len a2
      have z := szOk_le hz
      rename_i hz'
      refine op_catA pins s σ H _ _ v u Q I rx ry ⟨a, b, xs, ys, rfl, rfl, h1, h2, by omega, fun z => ?_, fun _ z => ?_, fun _ _ p hp => ?_⟩
      · subst z
        cases a1
        refine q.now sub ?_
        rw [List.nil_append]
        have := r2; exact this
      · subst z
        cases a2
        refine q.now sub ?_
        rw [List.append_nil]
        have := r1; exact this
      · exact q.tup sub (dpa_app a1 a2) hp
    · cases e
  · split at e
    · rename_i hz
      cases e
      obtain ⟨a, xs, rfl, h1, a1⟩ := r1.lst
      obtain ⟨b, ys, rfl, h2, a2⟩ := r2.lst
      have l1 := dpa_len a1
      have l2 := dpa_len a2
      have z := szOk_le hz
      exact op_catL pins s σ H _ _ v u Q I rx ry ⟨a, b, xs, ys, rfl, rfl, h1, h2, by omega, fun p hp => q.lst sub (dpa_app a1 a2) hp⟩
    · cases e
  · have e1 := r1.int; have e2 := r2.int; subst e1 e2; cases e
    exact op_sub pins s σ H _ _ v u Q I rx ry ⟨_, _, rfl, rfl, q.now sub (.int _)⟩
  · have e1 := r1.int; have e2 := r2.int; subst e1 e2
    split at e
    · rename_i hz
      cases e
      have qq := q.now sub (.int _)
      unfold mulOk at hz
      simp only [Bool.or_eq_true, decide_eq_true_eq] at hz
      rcases hz with (hz | hz) | hz
      · exact op_mul pins s σ H _ _ v u Q I rx ry ⟨_, _, rfl, rfl, .inl (smallI_of hz), qq⟩
      · exact op_mul pins s σ H _ _ v u Q I rx ry ⟨_, _, rfl, rfl, .inr (smallI_of hz), qq⟩
      · exact op_mulW pins s σ H _ _ v u Q I rx ry ⟨_, _, rfl, rfl, hz, qq⟩
    · cases e
  · have e1 := r1.int; have e2 := r2.int; subst e1 e2
    split at e
    · rename_i hz
      cases e
      unfold divOk at hz
      simp only [Bool.and_eq_true, decide_eq_true_eq] at hz
      exact op_fdivW pins s σ H _ _ v u Q I rx ry ⟨_, _, rfl, rfl, hz, q.now sub (.int _)⟩
    · cases e
  · have e1 := r1.int; have e2 := r2.int; subst e1 e2
    split at e
    · rename_i hz
      cases e
      exact op_mod pins s σ H _ _ v u Q I rx ry ⟨_, _, rfl, rfl, of_decide_eq_true hz, q.now sub (.int _)⟩
    · cases e
  · have e1 := r1.int; have e2 := r2.int; subst e1 e2
    split at e
    · rename_i hz
      cases e
      exact op_pow pins s σ H _ _ v u Q I rx ry ⟨_, _, rfl, rfl, powOk_of hz, q.now sub (.int _)⟩
    · cases e
  · cases e
theorem unNeg : UnR X (unaryOp .USub) (fun x H Q => ∃ F i, VR X.K F H x (.int i) ∧ Q (.int (-i)) H) := by
  intro pins s σ H x v Q I rx h
  obtain ⟨F, i, r, q⟩ := h
  have e := r.int; subst e
  exact un_neg pins s σ H _ v Q I rx ⟨_, rfl, q⟩

/-! ### comparisons -/
theorem flatV_of {K : Frag} {F : Hp} {d : D} {v : V} (h : Dp K F v d) (f : flatD d = true) : flatV v = true := by
  cases h <;> first | rfl | cases f
theorem flatAll_of {K : Frag} {F : Hp} : ∀ {ds : List D} {vs : List V}, DpAll K F vs ds → ds.all flatD = true → vs.all flatV = true
  | _, _, .nil, _ => rfl
  | _, _, .cons a b, f => by
    rw [List.all_cons, Bool.and_eq_true] at f
    rw [List.all_cons, flatV_of a f.1, flatAll_of b f.2]; rfl
theorem eqV_of {K : Frag} {F F' : Hp} {d e : D} {v u : V} (h : Dp K F v d) (h' : Dp K F' u e) (f : flatD d = true) (f' : flatD e = true) : eqV v u = PyData.eqv d e := by
  cases h <;> first | cases f | skip
  all_goals (cases h' <;> first | cases f' | rfl | skip)
  all_goals simp [eqV, PyData.eqv]
theorem inV_of {K : Frag} {F F' : Hp} {d : D} {v : V} (h : Dp K F v d) (f : flatD d = true) : ∀ {ds : List D} {vs : List V}, DpAll K F' vs ds → ds.all flatD = true → inV v vs = inD d ds
  | _, _, .nil, _ => rfl
  | _, _, .cons a b, g => by
    rw [List.all_cons, Bool.and_eq_true] at g
    have ih := inV_of h f b g.2
    unfold inV inD at ih ⊢
    rw [List.any_cons, List.any_cons, ih, eqV_of a h g.1 f]
theorem ordOk_of {x y : D} (h : ordOk x y = true) : PySem.W.alike x y = true ∧ x ≠ .none ∧ x.depth ≤ 60 := by
  unfold ordOk at h
  simp only [Bool.and_eq_true, decide_eq_true_eq] at h
  refine ⟨h.1.1, ?_, h.2⟩
  rintro rfl
  exact absurd h.1.2 (by simp)
def rCmp (K : Frag) (op : CmpOp) : R2 := fun x y H Q => ∃ F d d' b, Ex F H ∧ VR K F H x d ∧ VR K F H y d' ∧ cmpD op d d' = some b ∧ Q (.bl b) H
theorem opCmp (hu : X.A.units + 64 < cLine) (op : CmpOp) : OpR X (compareOp op) (rCmp X.K op) := by
  intro pins s σ H x y v u Q I rx ry h
  obtain ⟨F, d, d', w, sub, r1, r2, e, q⟩ := h
  have ord : ∀ (hd : ordOk d d' = true), ∃ as bs, Reads s.heap v d as ∧ Reads s.heap u d' bs ∧ PySem.W.alike d d' = true ∧ d ≠ .none ∧ X.A.units + min d.depth d'.depth < cLine := fun hd => by
    obtain ⟨h1, h2, h3⟩ := ordOk_of hd
    obtain ⟨as, q1⟩ := Dp.reads I d x v (r1.dp sub) rx
    obtain ⟨bs, q2⟩ := Dp.reads I d' y u (r2.dp sub) ry
    have : min d.depth d'.depth ≤ d.depth := Nat.min_le_left _ _
    exact ⟨as, bs, q1, q2, h1, h2, by omega⟩
  have fin : ∀ {b : Bool}, Q (.bl b) H → EP X pins σ Q (.bool b) s := fun q => ⟨.bl _, H, I, rfl, q⟩
  unfold cmpD at e
  split at e
  · split at e
    · rename_i hz
      rw [Bool.and_eq_true] at hz
      cases e
      exact op_eqD hu pins s σ H _ _ v u Q I rx ry ⟨_, _, r1.dp sub, r2.dp sub, hz.1, hz.2, q⟩
    · cases e
  · split at e
    · rename_i hz
      rw [Bool.and_eq_true] at hz
      cases e
      exact op_neD hu pins s σ H _ _ v u Q I rx ry ⟨_, _, r1.dp sub, r2.dp sub, hz.1, hz.2, q⟩
    · cases e
  · have e1 := r1.int; have e2 := r2.int; subst e1 e2; cases e
    exact op_lt pins s σ H _ _ v u Q I rx ry ⟨_, _, rfl, rfl, q⟩
  · have e1 := r1.int; have e2 := r2.int; subst e1 e2; cases e
    exact op_le pins s σ H _ _ v u Q I rx ry ⟨_, _, rfl, rfl, q⟩
  · have e1 := r1.int; have e2 := r2.int; subst e1 e2; cases e
    exact op_gt pins s σ H _ _ v u Q I rx ry ⟨_, _, rfl, rfl, q⟩
  · have e1 := r1.int; have e2 := r2.int; subst e1 e2; cases e
    exact op_ge pins s σ H _ _ v u Q I rx ry ⟨_, _, rfl, rfl, q⟩
  · split at e
    · rename_i hz
      cases e
      obtain ⟨as, bs, q1, q2, h1, h2, h3⟩ := ord hz
      exact PySem.W.lt_data q1 q2 h1 h2 h3 (fin q)
    · cases e
  · split at e
    · rename_i hz
      cases e
      obtain ⟨as, bs, q1, q2, h1, h2, h3⟩ := ord hz
      exact PySem.W.le_data q1 q2 h1 h2 h3 (fin q)
    · cases e
  · split at e
    · rename_i hz
      cases e
      obtain ⟨as, bs, q1, q2, h1, h2, h3⟩ := ord hz
      exact PySem.W.gt_data q1 q2 h1 h2 h3 (fin q)
    · cases e
  · split at e
    · rename_i hz
      cases e
      obtain ⟨as, bs, q1, q2, h1, h2, h3⟩ := ord hz
      exact PySem.W.ge_data q1 q2 h1 h2 h3 (fin q)
    · cases e
  · have e1 := r1.non; have e2 := r2.non; subst e1 e2; cases e
    exact op_isN pins s σ H _ _ v u Q I rx ry ⟨rfl, q⟩
  · rename_i hn
    have e2 := r2.non; subst e2; cases e
    refine op_isN pins s σ H _ _ v u Q I rx ry ⟨rfl, ?_⟩
    have hx : ¬ x = .non := fun z => by
      subst z
      have h := r1.dp sub
      cases h
      exact hn rfl
    rw [decide_eq_false hx]
    exact q
  · have e1 := r1.bl; have e2 := r2.bl; subst e1 e2; cases e
    exact op_isBl pins s σ H _ _ v u Q I rx ry ⟨_, _, rfl, rfl, q⟩
  · have e1 := r1.non; have e2 := r2.non; subst e1 e2; cases e
    exact op_notN pins s σ H _ _ v u Q I rx ry ⟨rfl, q⟩
  · rename_i hn
    have e2 := r2.non; subst e2; cases e
    refine op_notN pins s σ H _ _ v u Q I rx ry ⟨rfl, ?_⟩
    have hx : ¬ x = .non := fun z => by
      subst z
      have h := r1.dp sub
      cases h
      exact hn rfl
    rw [decide_eq_false hx]
    exact q
  · have e1 := r1.bl; have e2 := r2.bl; subst e1 e2; cases e
    exact op_notBl pins s σ H _ _ v u Q I rx ry ⟨_, _, rfl, rfl, q⟩
  · split at e
    · rename_i hz
      rw [Bool.and_eq_true] at hz
      cases e
      obtain ⟨a, vs, rfl, h1, al⟩ := r2.lst
      have r1' := r1.dp sub
      exact op_in_seq pins s σ H _ _ v u Q I rx ry ⟨a, vs, rfl, .inl h1, flatV_of r1' hz.1, flatAll_of al hz.2, by rw [inV_of r1' hz.1 al hz.2]; exact q⟩
    · cases e
  · split at e
    · rename_i hz
      rw [Bool.and_eq_true] at hz
      cases e
      obtain ⟨a, vs, rfl, h1, al⟩ := r2.tup sub
      have r1' := r1.dp sub
      exact op_in_seq pins s σ H _ _ v u Q I rx ry ⟨a, vs, rfl, .inr h1, flatV_of r1' hz.1, flatAll_of al hz.2, by rw [inV_of r1' hz.1 al hz.2]; exact q⟩
    · cases e
  · split at e
    · rename_i hz
      rw [Bool.and_eq_true] at hz
      cases e
      obtain ⟨a, vs, rfl, h1, al⟩ := r2.lst
      have r1' := r1.dp sub
      exact op_notIn_seq pins s σ H _ _ v u Q I rx ry ⟨a, vs, rfl, .inl h1, flatV_of r1' hz.1, flatAll_of al hz.2, by rw [inV_of r1' hz.1 al hz.2]; exact q⟩
    · cases e
  · split at e
    · rename_i hz
      rw [Bool.and_eq_true] at hz
      cases e
      obtain ⟨a, vs, rfl, h1, al⟩ := r2.tup sub
      have r1' := r1.dp sub
      exact op_notIn_seq pins s σ H _ _ v u Q I rx ry ⟨a, vs, rfl, .inr h1, flatV_of r1' hz.1, flatAll_of al hz.2, by rw [inV_of r1' hz.1 al hz.2]; exact q⟩
    · cases e
  · cases e

/-! ### truth -/
theorem tru_of {K : Frag} {F H : Hp} {x : V} {d : D} {b : Bool} (sub : Ex F H) (r : VR K F H x d) (e : truD d = some b) : TruV K x H b := by
  cases d with
  | none => cases e; have := r.non; subst this; rfl
  | bool c => cases e; have := r.bl; subst this; rfl
  | int i => cases e; have := r.int; subst this; rfl
  | str z =>
    have := r.str; subst this
    change (if szOk z.length = true then some (z.length != 0) else Option.none) = some b at e
    split at e
    · rename_i hz
      cases e
      refine ⟨szOk_le hz, ?_⟩
      cases hl : z.length with
      | zero => rfl
      | succ n =>
        have : ((n + 1 : Nat) : Int) ≠ 0 := by omega
        rw [show ((n + 1 != 0) : Bool) = true from rfl]
        exact (bne_iff_ne.mpr this).symm
    · cases e
  | list ds =>
    cases e
    obtain ⟨a, vs, rfl, h1, al⟩ := r.lst
    refine .inl ⟨vs, h1, ?_⟩
    cases al <;> rfl
  | tuple ds =>
    cases e
    obtain ⟨a, vs, rfl, h1, al⟩ := r.tup sub
    refine .inr (.inl ⟨vs, h1, ?_⟩)
    cases al <;> rfl
  | dict _ => cases e

/-! ### subscripts, slices -/
theorem atI_dp {K : Frag} {F : Hp} {vs : List V} {ds : List D} {i : Int} {d : D} (al : DpAll K F vs ds) (h : atI ds i = some d) : ∃ v, atI vs i = some v ∧ Dp K F v d := by
  unfold atI at h ⊢
  rw [dpa_len al]
  cases e : ixN ds.length i with
  | none => rw [e] at h; cases h
  | some j =>
    rw [e] at h
    obtain ⟨v, h1, h2⟩ := dpa_get al h
    exact ⟨v, h1, h2⟩
def rIxD (K : Frag) : R2 := fun x y H Q => ∃ F d d' w, Ex F H ∧ VR K F H x d ∧ VR K F H y d' ∧ ixD d d' = some w ∧ ∀ v, Dp K F v w → Q v H
theorem ixAll : IxR X (rIxD X.K) := by
  intro value slice pins s σ H x y v u Q I rx ry h hs
  obtain ⟨F, d, d', w, sub, r1, r2, e, q⟩ := h
  unfold ixD at e
  split at e
  · obtain ⟨a, vs, rfl, h1, al⟩ := r1.lst
    have e2 := r2.int; subst e2
    obtain ⟨v', h2, h3⟩ := atI_dp al e
    exact ix_list value slice pins s σ H _ _ v u Q I rx ry ⟨a, vs, _, v', rfl, rfl, h1, h2, q _ h3⟩ hs
  · obtain ⟨a, vs, rfl, h1, al⟩ := r1.tup sub
    have e2 := r2.int; subst e2
    obtain ⟨v', h2, h3⟩ := atI_dp al e
    exact ix_tup value slice pins s σ H _ _ v u Q I rx ry ⟨a, vs, _, v', rfl, rfl, h1, h2, q _ h3⟩ hs
  · have e1 := r1.str; have e2 := r2.int; subst e1 e2
    split at e
    · rename_i z i hz
      cases hc : atI z.cps.toList i with
      | none => rw [hc] at e; cases e
      | some c =>
        rw [hc] at e
        cases e
        exact ix_str value slice pins s σ H _ _ v u Q I rx ry ⟨_, _, c, rfl, rfl, szOk_le hz, hc, q _ (.str _)⟩ hs
    · cases e
  · cases e
def rSlD (K : Frag) : V → Option Int → Option Int → Hp → VK → Prop := fun x lo hi H Q => ∃ F d w, Ex F H ∧ VR K F H x d ∧ slD d lo hi = some w ∧ RN K F H w Q
theorem cut_dp {K : Frag} {F : Hp} {vs : List V} {ds : List D} {lo hi : Option Int} (al : DpAll K F vs ds) : DpAll K F (cutV vs lo hi) (cutD ds lo hi) := by
  unfold cutV cutD
  rw [dpa_len al]
  exact dpa_take _ (dpa_drop _ al)
theorem slAll : SlR X (rSlD X.K) := by
  intro pins s σ H x v vl vu lo hi sl Q I rx hs pl pu h
  obtain ⟨F, d, w, sub, r1, e, q⟩ := h
  unfold slD at e
  split at e
  · cases e
    obtain ⟨a, vs, rfl, h1, al⟩ := r1.lst
    exact sl_list pins s σ H _ v vl vu lo hi sl Q I rx hs pl pu ⟨a, vs, rfl, h1, fun p hp => q.lst sub (cut_dp al) hp⟩
  · cases e
    rename_i ds
    have r1' : Dp X.K F x (.tuple ds) := r1
    obtain ⟨a, vs, rfl, h1, al⟩ := r1.tup sub
    refine sl_tupA pins s σ H _ v vl vu lo hi sl Q I rx hs pl pu ⟨a, vs, rfl, h1, fun hw => ?_, fun _ p hp => q.tup sub (cut_dp al) hp⟩
    have hl := dpa_len al
    refine q.now sub ?_
    have e2 : cutD ds lo hi = ds := by
      unfold cutD
      rw [← hl, hw.1, hw.2, Nat.sub_zero, List.drop_zero, hl, List.take_length]
    rw [e2]
    exact r1'
  · cases e
/-! ### built-in functions -/
theorem boolsD_of {K : Frag} {F : Hp} : ∀ {ds : List D} {vs : List V} {bs : List Bool}, DpAll K F vs ds → boolsD ds = some bs → vs = bs.map V.bl
  | _, _, _, .nil, e => by cases e; rfl
  | _, _, bs, .cons (d := d) (ds := ds) a b, e => by
    cases d with
    | bool c =>
      cases a
      cases h : boolsD ds with
      | none => rw [boolsD, h] at e; cases e
      | some r =>
        rw [boolsD, h] at e
        cases e
        rw [boolsD_of b h]; rfl
    | _ => cases e
theorem intsD_of {K : Frag} {F : Hp} : ∀ {ds : List D} {vs : List V} {bs : List Int}, DpAll K F vs ds → intsD ds = some bs → vs = bs.map V.int
  | _, _, _, .nil, e => by cases e; rfl
  | _, _, bs, .cons (d := d) (ds := ds) a b, e => by
    cases d with
    | int c =>
      cases a
      cases h : intsD ds with
      | none => rw [intsD, h] at e; cases e
      | some r =>
        rw [intsD, h] at e
        cases e
        rw [intsD_of b h]; rfl
    | _ => cases e
theorem alikeL_of {xs : List D} (h : alikeL xs = true) : PySem.W.AlikeAll xs ∧ PyData.depthAll xs ≤ 40 ∧ ∀ x ∈ xs, x.canLay0 = true := by
  unfold alikeL at h
  simp only [Bool.and_eq_true, decide_eq_true_eq, List.all_eq_true] at h
  refine ⟨⟨fun x hx y hy => h.1.1.1 x hx y hy, fun x hx z => ?_⟩, h.1.2, h.2⟩
  subst z
  exact absurd (h.1.1.2 _ hx) (by simp)
theorem foldl_mem (f : D → D → D) (hf : ∀ a b, f a b = a ∨ f a b = b) : ∀ (xs : List D) (x : D), xs.foldl f x ∈ x :: xs
  | [], x => by simp
  | y :: ys, x => by
    have ih := foldl_mem f hf ys (f x y)
    rw [List.foldl_cons]
    rcases List.mem_cons.mp ih with h | h
    · rw [h]
      rcases hf x y with e | e <;> rw [e] <;> simp
    · exact List.mem_cons_of_mem _ (List.mem_cons_of_mem _ h)
theorem minD_mem (x : D) (xs : List D) : PySem.W.minD x xs ∈ x :: xs := foldl_mem _ (fun a b => by
  show (if PySem.W.dataLt b a = true then b else a) = a ∨ (if PySem.W.dataLt b a = true then b else a) = b
  split <;> simp) _ _
theorem maxD_mem (x : D) (xs : List D) : PySem.W.maxD x xs ∈ x :: xs := foldl_mem _ (fun a b => by
  show (if PySem.W.dataLt a b = true then b else a) = a ∨ (if PySem.W.dataLt a b = true then b else a) = b
  split <;> simp) _ _
/-- the i-th item, read as m, is m -/
theorem pick {pins : List (Addr × Obj)} {s : Shared} {σ : L2.St} {F H : Hp} {vs : List V} {us : List Value} {ds : List D} {m : D} {h' : Heap} {i : Nat} {u : Value} {bs : List Addr} (I : Inv X pins σ H s) (sub : Ex F H) (al : DpAll X.K F vs ds) (rv : Vals vs us)
    (hi : us[i]? = some u) (hr : Reads h' u m bs) (k : ∀ b o, s.heap.get? b = some o → h'.get? b = some o) (hm : m.canLay0 = true) : ∃ v, RelV v u ∧ Dp X.K F v m := by
  have hl := rv.length
  have hlt : i < vs.length := by
    have := (List.getElem?_eq_some_iff.mp hi).1
    omega
  obtain ⟨d, e1, e2⟩ := dpa_getV al (List.getElem?_eq_getElem hlt)
  obtain ⟨u', e3, e4⟩ := rv.get (List.getElem?_eq_getElem hlt)
  rw [hi] at e3
  cases e3
  obtain ⟨as, q⟩ := Dp.reads I d _ u (dp_ex sub _ _ e2) e4
  have q' := Reads.keeps k q
  have := PySem.SeqAt.Reads.unique m d u bs as hm hr q'
  subst this
  exact ⟨_, e4, e2⟩
/-- what each built-in function comes to -/
def rBf (K : Frag) (f : Bf) : List V → Hp → VK → Prop := fun xs H Q => ∃ F ds w, Ex F H ∧ (∃ n, n = ds.length ∧ xs.length = n ∧ ∀ (i : Nat) d v, ds[i]? = some d → xs[i]? = some v → VR K F H v d) ∧ bfD f ds = some w ∧ RN K F H w Q
def bfV : Bf → Value
  | .len => .builtin "len" | .sum => .builtin "sum" | .all => .builtin "all" | .any => .builtin "any" | .abs => .builtin "abs" | .min => .builtin "min" | .max => .builtin "max"
  | .tuple => .type "tuple" | .list => .type "list" | .int => .type "int" | .bool => .type "bool"
theorem one_vr {K : Frag} {F H : Hp} {xs : List V} {d : D} (h : ∃ n, n = [d].length ∧ xs.length = n ∧ ∀ (i : Nat) d' v, [d][i]? = some d' → xs[i]? = some v → VR K F H v d') : ∃ v, xs = [v] ∧ VR K F H v d := by
  obtain ⟨n, rfl, h2, h3⟩ := h
  match xs, h2 with
  | [v], _ => exact ⟨v, rfl, h3 0 d v rfl rfl⟩
theorem two_vr {K : Frag} {F H : Hp} {xs : List V} {d e : D} (h : ∃ n, n = [d, e].length ∧ xs.length = n ∧ ∀ (i : Nat) d' v, [d, e][i]? = some d' → xs[i]? = some v → VR K F H v d') : ∃ v u, xs = [v, u] ∧ VR K F H v d ∧ VR K F H u e := by
  obtain ⟨n, rfl, h2, h3⟩ := h
  match xs, h2 with
  | [v, u], _ => exact ⟨v, u, rfl, h3 0 d v rfl rfl, h3 1 e u rfl rfl⟩
theorem bfAll (hc : X.calm = true) (hu : X.A.units + 64 < cLine) (f : Bf) : CallR X (bfV f) (rBf X.K f) := by
  intro pins s σ H xs us Q I rx h
  obtain ⟨F, ds, w, sub, h1, e, q⟩ := h
  have hh := I.ok.hd hc
  unfold bfD at e
  split at e
  · cases e
    obtain ⟨v, rfl, r⟩ := one_vr h1
    obtain ⟨a, vs, rfl, h1, al⟩ := r.lst
    exact call_len_seq pins s σ H _ us Q I rx ⟨a, vs, rfl, .inl h1, by rw [dpa_len al]; exact q.now sub (.int _)⟩
  · cases e
    obtain ⟨v, rfl, r⟩ := one_vr h1
    obtain ⟨a, vs, rfl, h1, al⟩ := r.tup sub
    exact call_len_seq pins s σ H _ us Q I rx ⟨a, vs, rfl, .inr h1, by rw [dpa_len al]; exact q.now sub (.int _)⟩
  · split at e
    · rename_i hz
      cases e
      obtain ⟨v, rfl, r⟩ := one_vr h1
      have := r.str; subst this
      exact call_len_str pins s σ H _ us Q I rx ⟨_, rfl, szOk_le hz, q.now sub (.int _)⟩
    · cases e
  · rename_i ds
    obtain ⟨v, rfl, r⟩ := one_vr h1
    obtain ⟨a, vs, rfl, h1, al⟩ := r.lst
    cases hb : intsD ds with
    | none => rw [hb] at e; cases e
    | some bs =>
      rw [hb] at e
      cases e
      have := intsD_of al hb; subst this
      exact cr_sum hc pins s σ H _ us Q I rx ⟨a, bs, rfl, h1, q.now sub (.int _)⟩
  · rename_i ds
    obtain ⟨v, rfl, r⟩ := one_vr h1
    obtain ⟨a, vs, rfl, h1, al⟩ := r.lst
    cases hb : boolsD ds with
    | none => rw [hb] at e; cases e
    | some bs =>
      rw [hb] at e
      cases e
      have := boolsD_of al hb; subst this
      exact cr_all hc pins s σ H _ us Q I rx ⟨a, bs, rfl, h1, q.now sub (.bl _)⟩
  · rename_i ds
    obtain ⟨v, rfl, r⟩ := one_vr h1
    obtain ⟨a, vs, rfl, h1, al⟩ := r.lst
    cases hb : boolsD ds with
    | none => rw [hb] at e; cases e
    | some bs =>
      rw [hb] at e
      cases e
      have := boolsD_of al hb; subst this
      exact cr_any hc pins s σ H _ us Q I rx ⟨a, bs, rfl, h1, q.now sub (.bl _)⟩
  · cases e
    obtain ⟨v, rfl, r⟩ := one_vr h1
    obtain ⟨a, vs, rfl, h1, al⟩ := r.lst
    exact call_tuple_of pins s σ H _ us Q I rx ⟨a, vs, rfl, .inl ⟨h1, fun p hp => q.tup sub al hp⟩⟩
  · cases e
    obtain ⟨v, rfl, r⟩ := one_vr h1
    have r' := r
    obtain ⟨a, vs, rfl, h1, al⟩ := r.tup sub
    exact call_tuple_of pins s σ H _ us Q I rx ⟨a, vs, rfl, .inr ⟨h1, q.now sub r'⟩⟩
  · cases e
    obtain ⟨v, rfl, r⟩ := one_vr h1
    obtain ⟨a, vs, rfl, h1, al⟩ := r.lst
    exact call_list_of pins s σ H _ us Q I rx ⟨a, vs, rfl, .inl h1, fun p hp => q.lst sub al hp⟩
  · cases e
    obtain ⟨v, rfl, r⟩ := one_vr h1
    obtain ⟨a, vs, rfl, h1, al⟩ := r.tup sub
    exact call_list_of pins s σ H _ us Q I rx ⟨a, vs, rfl, .inr h1, fun p hp => q.lst sub al hp⟩
  · cases e
    obtain ⟨v, rfl, r⟩ := one_vr h1
    have := r.int; subst this
    exact call_int1 pins s σ H _ us Q I rx (.inl ⟨_, rfl, q.now sub (.int _)⟩)
  · cases e
    obtain ⟨v, rfl, r⟩ := one_vr h1
    have := r.bl; subst this
    exact call_int1 pins s σ H _ us Q I rx (.inr ⟨_, rfl, q.now sub (.int _)⟩)
  · cases e
    obtain ⟨v, rfl, r⟩ := one_vr h1
    have := r.int; subst this
    exact call_bool1 pins s σ H _ us Q I rx (.inl ⟨_, rfl, q.now sub (.bl _)⟩)
  · cases e
    obtain ⟨v, rfl, r⟩ := one_vr h1
    have := r.bl; subst this
    exact call_bool1 pins s σ H _ us Q I rx (.inr ⟨_, rfl, q.now sub (.bl _)⟩)
  · cases e
    obtain ⟨v, rfl, r⟩ := one_vr h1
    have := r.int; subst this
    exact call_abs pins s σ H _ us Q I rx ⟨_, rfl, q.now sub (.int _)⟩
  · split at e
    · rename_i x xs' hz
      cases e
      obtain ⟨hA, hd, hcl⟩ := alikeL_of hz
      obtain ⟨v, rfl, r⟩ := one_vr h1
      obtain ⟨a, vs, rfl, h1, al⟩ := r.lst
      obtain ⟨u, rfl, ru⟩ := vals1 rx
      cases ru
      obtain ⟨its, rv, pl, hz⟩ := I.list h1
      obtain ⟨as, hr⟩ := Dp.readsAll I _ _ its (dpa_ex sub _ _ al) rv
      exact PySem.W.min_list_data hh pl.isList (by simpa using hr) hA (by omega) fun i v' h' tk bs hi hrd k => by
        obtain ⟨y, r1, r2⟩ := pick I sub al rv (by simpa using hi) hrd k (hcl _ (minD_mem _ _))
        exact ⟨y, H, I.kept k, r1, q.now sub r2⟩
    · cases e
  · split at e
    · rename_i x xs' hz
      cases e
      obtain ⟨hA, hd, hcl⟩ := alikeL_of hz
      obtain ⟨v, rfl, r⟩ := one_vr h1
      obtain ⟨a, vs, rfl, h1, al⟩ := r.tup sub
      obtain ⟨u, rfl, ru⟩ := vals1 rx
      cases ru
      obtain ⟨its, rv, pl, hz⟩ := I.tuple h1
      obtain ⟨as, hr⟩ := Dp.readsAll I _ _ its (dpa_ex sub _ _ al) rv
      exact PySem.W.min_tuple_data hh pl (by simpa using hr) hA (by omega) fun i v' h' tk bs hi hrd k => by
        obtain ⟨y, r1, r2⟩ := pick I sub al rv (by simpa using hi) hrd k (hcl _ (minD_mem _ _))
        exact ⟨y, H, I.kept k, r1, q.now sub r2⟩
    · cases e
  · split at e
    · rename_i x xs' hz
      cases e
      obtain ⟨hA, hd, hcl⟩ := alikeL_of hz
      obtain ⟨v, rfl, r⟩ := one_vr h1
      obtain ⟨a, vs, rfl, h1, al⟩ := r.lst
      obtain ⟨u, rfl, ru⟩ := vals1 rx
      cases ru
      obtain ⟨its, rv, pl, hz⟩ := I.list h1
      obtain ⟨as, hr⟩ := Dp.readsAll I _ _ its (dpa_ex sub _ _ al) rv
      exact PySem.W.max_list_data hh pl.isList (by simpa using hr) hA (by omega) fun i v' h' tk bs hi hrd k => by
        obtain ⟨y, r1, r2⟩ := pick I sub al rv (by simpa using hi) hrd k (hcl _ (maxD_mem _ _))
        exact ⟨y, H, I.kept k, r1, q.now sub r2⟩
    · cases e
  · split at e
    · rename_i x xs' hz
      cases e
      obtain ⟨hA, hd, hcl⟩ := alikeL_of hz
      obtain ⟨v, rfl, r⟩ := one_vr h1
      obtain ⟨a, vs, rfl, h1, al⟩ := r.tup sub
      obtain ⟨u, rfl, ru⟩ := vals1 rx
      cases ru
      obtain ⟨its, rv, pl, hz⟩ := I.tuple h1
      obtain ⟨as, hr⟩ := Dp.readsAll I _ _ its (dpa_ex sub _ _ al) rv
      exact PySem.W.max_tuple_data hh pl (by simpa using hr) hA (by omega) fun i v' h' tk bs hi hrd k => by
        obtain ⟨y, r1, r2⟩ := pick I sub al rv (by simpa using hi) hrd k (hcl _ (maxD_mem _ _))
        exact ⟨y, H, I.kept k, r1, q.now sub r2⟩
    · cases e
  · cases e
    obtain ⟨v, u, rfl, r1, r2⟩ := two_vr h1
    have := r1.int; subst this
    have := r2.int; subst this
    exact call_min2 hc pins s σ H _ us Q I rx ⟨_, _, rfl, q.now sub (.int _)⟩
  · cases e
    obtain ⟨v, u, rfl, r1, r2⟩ := two_vr h1
    have := r1.int; subst this
    have := r2.int; subst this
    exact call_max2 hc pins s σ H _ us Q I rx ⟨_, _, rfl, q.now sub (.int _)⟩
  · cases e
/-! ### isinstance -/
def tyN : Ty → String
  | .int => "int" | .bool => "bool" | .str => "str" | .tuple => "tuple" | .list => "list"
theorem ty_bl (b : Bool) (t : Ty) : kitB "bool" (tyN t) = some (isTy (.bool b) t) := by
  have h : ∀ t, kitB "bool" (tyN t) = some (isTy (.bool true) t) := by intro t; cases t <;> decide +kernel
  rw [h t]; cases t <;> rfl
theorem ty_int (b : Int) (t : Ty) : kitB "int" (tyN t) = some (isTy (.int b) t) := by
  have h : ∀ t, kitB "int" (tyN t) = some (isTy (.int 0) t) := by intro t; cases t <;> decide +kernel
  rw [h t]; cases t <;> rfl
theorem ty_str (b : Str) (t : Ty) : kitB "str" (tyN t) = some (isTy (.str b) t) := by
  have h : ∀ t, kitB "str" (tyN t) = some (isTy (.str ⟨#[]⟩) t) := by intro t; cases t <;> decide +kernel
  rw [h t]; cases t <;> rfl
theorem ty_list (b : List D) (t : Ty) : kitB "list" (tyN t) = some (isTy (.list b) t) := by
  have h : ∀ t, kitB "list" (tyN t) = some (isTy (.list []) t) := by intro t; cases t <;> decide +kernel
  rw [h t]; cases t <;> rfl
theorem ty_tuple (b : List D) (t : Ty) : kitB "tuple" (tyN t) = some (isTy (.tuple b) t) := by
  have h : ∀ t, kitB "tuple" (tyN t) = some (isTy (.tuple []) t) := by intro t; cases t <;> decide +kernel
  rw [h t]; cases t <;> rfl
theorem tyx_of {K : Frag} {F H : Hp} {v : V} {d : D} (sub : Ex F H) (r : VR K F H v d) (hd : ∀ kvs, d ≠ .dict kvs) : ∃ n, TyX K H v (.type n) ∧ ∀ t, kitB n (tyN t) = some (isTy d t) := by
  cases d with
  | none => have := r.non; subst this; exact ⟨_, .base .non, fun t => by cases t <;> decide +kernel⟩
  | bool b => have := r.bl; subst this; exact ⟨_, .base (.bl _), ty_bl b⟩
  | int b => have := r.int; subst this; exact ⟨_, .base (.int _), ty_int b⟩
  | str b => have := r.str; subst this; exact ⟨_, .base (.str _), ty_str b⟩
  | list ds =>
    obtain ⟨a, vs, rfl, h1, al⟩ := r.lst
    refine ⟨"list", ?_, ty_list ds⟩
    rcases h1 with (h1 | ⟨o, h1⟩) | ⟨o, its, n, h1, h2, _⟩
    · exact .base (.lst h1)
    · exact .base (.frz h1)
    · exact .kList h1 h2
  | tuple ds =>
    obtain ⟨a, vs, rfl, h1, al⟩ := r.tup sub
    refine ⟨"tuple", ?_, ty_tuple ds⟩
    rcases h1 with (h1 | ⟨o, h1⟩) | ⟨o, its, n, h1, h2, _⟩
    · exact .base (.tup h1)
    · exact .fTuple h1
    · exact .kTuple h1 h2
  | dict kvs => exact absurd rfl (hd kvs)
end
end PyE

set_option Elab.async false
set_option linter.all false
set_option autoImplicit false
set_option maxRecDepth 100000
set_option maxHeartbeats 4000000
/-! # What an evaluation promises -/
namespace PyE
open PySem PySem.Spec PyProof.Rows L2

def Own (σ : L2.St) (env env' : SEnv) : Prop := ∀ a, O σ env' a → O σ env a
/-- an error's own dict, at d: its place is x -/
def XAt (K : Frag) (F H : Hp) (d : Addr) (x : D) : Prop := F d = none ∧ ∃ v, H d = some (.xd [((Str.ofString "at"), v)]) ∧ Dp K F v x
section
variable {K : Frag} {mg : Str → Option Value} {W : WX} {σ : L2.St} {α β γ δ : Type}
def Post (K : Frag) (mg : Str → Option Value) (W : WX) (σ : L2.St) (Rel : Hp → Hp → SEnv → α → β → Prop) (F H : Hp) (env : SEnv) (r : Rs α) (Q : β → Hp → Prop) : Prop :=
  match r with
  | .ok a env' => ∀ b F' H', Go (O σ env) F H F' H' → Own σ env env' → Sim K F' H' σ env' → Rel F' H' env' a b → Q b H'
  | .exc c x env' => ∀ d F' H', Go (O σ env) F H F' H' → Own σ env env' → Sim K F' H' σ env' → XAt K F' H' d x → ∀ C, mg c = some (.ref C) → W (.ref C) (some d) σ H'
  | .stuck => False
theorem Post.imp {Rel : Hp → Hp → SEnv → α → β → Prop} {F H : Hp} {env : SEnv} {r : Rs α} {Q Q' : β → Hp → Prop} (h : Post K mg W σ Rel F H env r Q) (hq : ∀ b H, Q b H → Q' b H) : Post K mg W σ Rel F H env r Q' := by
  cases r with
  | ok a e => exact fun b F' H' g o s q => hq _ _ (h b F' H' g o s q)
  | exc c x e => exact h
  | stuck => exact h
theorem Post.rel {Rel Rel' : Hp → Hp → SEnv → α → β → Prop} {F H : Hp} {env : SEnv} {r : Rs α} {Q : β → Hp → Prop} (h : Post K mg W σ Rel F H env r Q)
    (hr : ∀ F' H' env' a b, Rel' F' H' env' a b → Rel F' H' env' a b) : Post K mg W σ Rel' F H env r Q := by
  cases r with
  | ok a e => exact fun b F' H' g o s q => h b F' H' g o s (hr _ _ _ _ _ q)
  | exc c x e => exact h
  | stuck => exact h
/-- the first part of a bind; what is left is behind it -/
theorem Post.bind {Rel1 : Hp → Hp → SEnv → α → β → Prop} {Rel2 : Hp → Hp → SEnv → γ → δ → Prop} {F H : Hp} {env : SEnv} {r : Rs α} {f : α → SEnv → Rs γ} {Q : δ → Hp → Prop} (h : Post K mg W σ Rel2 F H env (r.bind f) Q) :
    Post K mg W σ Rel1 F H env r (fun b H1 => ∃ a env1 F1, Go (O σ env) F H F1 H1 ∧ Own σ env env1 ∧ Sim K F1 H1 σ env1 ∧ Rel1 F1 H1 env1 a b ∧ Post K mg W σ Rel2 F1 H1 env1 (f a env1) Q) := by
  cases r with
  | ok a env1 =>
    intro b F1 H1 g o s q
    refine ⟨a, env1, F1, g, o, s, q, ?_⟩
    have h : Post K mg W σ Rel2 F H env (f a env1) Q := h
    cases e : f a env1 with
    | ok a2 env2 =>
      rw [e] at h
      exact fun b F' H' g' o' s' q' => h b F' H' (g.trans g' fun x hx => .inl (o x hx)) (fun x hx => o x (o' x hx)) s' q'
    | exc c x env2 =>
      rw [e] at h
      exact fun d F' H' g' o' s' q' => h d F' H' (g.trans g' fun x hx => .inl (o x hx)) (fun x hx => o x (o' x hx)) s' q'
    | stuck => rw [e] at h; exact h
  | exc c x e => exact h
  | stuck => exact h
theorem Post.go {Rel : Hp → Hp → SEnv → α → β → Prop} {F H F1 H1 : Hp} {env env1 : SEnv} {r : Rs α} {Q : β → Hp → Prop} (h : Post K mg W σ Rel F H env r Q) (g : Go (O σ env) F H F1 H1) (o : Own σ env env1) : Post K mg W σ Rel F1 H1 env1 r Q := by
  cases r with
  | ok a e => exact fun b F' H' g' o' s' q' => h b F' H' (g.trans g' fun x hx => .inl (o x hx)) (fun x hx => o x (o' x hx)) s' q'
  | exc c x e => exact fun d F' H' g' o' s' q' => h d F' H' (g.trans g' fun x hx => .inl (o x hx)) (fun x hx => o x (o' x hx)) s' q'
  | stuck => exact h
/-- a reading of an evaluation -/
def tR (K : Frag) (mg : Str → Option Value) (W : WX) (Rel : L2.St → Hp → Hp → Hp → SEnv → α → β → Prop) (ev : SEnv → Rs α) : L2.St → Hp → (β → Hp → Prop) → Prop := fun σ H Q => ∃ F env, Sim K F H σ env ∧ Post K mg W σ (Rel σ H) F H env (ev env) Q
end
/-- a value; several; nothing but itself -/
def RE (K : Frag) (σ : L2.St) (H0 F H : Hp) (env : SEnv) (w : Vw) (v : V) : Prop := VwR K F H H0 σ env w v
def isTmp : Vw → Bool
  | .tmp _ => true
  | _ => false
/-- none of these is a list just made that stands at a -/
def NoTmp (a : Addr) : List Vw → List V → Prop
  | w :: ws, v :: vs => (isTmp w = true → v ≠ .ref a) ∧ NoTmp a ws vs
  | _, _ => True
def REs (K : Frag) (σ : L2.St) (H0 F H : Hp) (env : SEnv) : List Vw → List V → Prop
  | [], [] => True
  | w :: ws, v :: vs => VwR K F H H0 σ env w v ∧ (∀ a, isTmp w = true → v = .ref a → NoTmp a ws vs) ∧ REs K σ H0 F H env ws vs
  | _, _ => False
theorem REs.fresh {K : Frag} {σ : L2.St} {H0 F H : Hp} {env : SEnv} {a : Addr} (ha : H0 a ≠ none) : ∀ {ws : List Vw} {vs : List V}, REs K σ H0 F H env ws vs → NoTmp a ws vs
  | [], [], _ => trivial
  | [], _ :: _, _ => trivial
  | _ :: _, [], _ => trivial
  | w :: ws, v :: vs, h => by
    refine ⟨fun t z => ?_, REs.fresh ha h.2.2⟩
    cases w with
    | tmp ds =>
      obtain ⟨b, _, e, _, _, _, h5, _⟩ := h.1
      rw [z] at e
      cases e
      exact ha h5
    | now d => cases t
    | late i => cases t
def RI {α : Type} (σ : L2.St) (H0 F H : Hp) (env : SEnv) (a b : α) : Prop := a = b
/-- what is walked yields just these -/
def Yld (K : Frag) (F0 : Hp) (ds : List D) (J : It) : Prop := ∀ (i : Nat) (F H : Hp), Ex F0 F → Ex F H →
  (∀ d, ds[i]? = some d → J.go i H ∧ ∀ x H', J.yld i H x H' → ∃ F', Go (fun _ => False) F H F' H' ∧ Ex F' H' ∧ Dp K F' x d) ∧ (i = ds.length → J.stop i H)
def RY (K : Frag) (σ : L2.St) (H0 F H : Hp) (env : SEnv) (ds : List D) (J : It) : Prop := Yld K F ds J
abbrev tE (K : Frag) (mg : Str → Option Value) (W : WX) (ev : SEnv → Rs Vw) : TE := tR K mg W (RE K) ev
abbrev tEs (K : Frag) (mg : Str → Option Value) (W : WX) (ev : SEnv → Rs (List Vw)) : TA := tR K mg W (REs K) ev
abbrev tB' (K : Frag) (mg : Str → Option Value) (W : WX) (ev : SEnv → Rs Bool) : TT := tR K mg W RI ev
abbrev tO (K : Frag) (mg : Str → Option Value) (W : WX) (ev : SEnv → Rs (Option Int)) : TO := tR K mg W RI ev
abbrev tI (K : Frag) (mg : Str → Option Value) (W : WX) (ev : SEnv → Rs (List D)) : TI := tR K mg W (RY K) ev

section
variable {K : Frag} {F F' H H' H0 : Hp} {σ : L2.St} {env env' : SEnv}
theorem Sim.eqlen (s : Sim K F H σ env) (s' : Sim K F' H' σ env') : env'.length = env.length := s'.len.trans s.len.symm
theorem RE.go {w : Vw} {v : V} (s : Sim K F H σ env) (s' : Sim K F' H' σ env') (g : Go (O σ env) F H F' H') (o : Own σ env env') (r : RE K σ H0 F H env w v) : RE K σ H0 F' H' env' w v := VwR.go g o (s.eqlen s') r
theorem REs.go (s : Sim K F H σ env) (s' : Sim K F' H' σ env') (g : Go (O σ env) F H F' H') (o : Own σ env env') : ∀ {ws : List Vw} {vs : List V}, REs K σ H0 F H env ws vs → REs K σ H0 F' H' env' ws vs
  | [], [], _ => trivial
  | _ :: _, _ :: _, h => ⟨VwR.go g o (s.eqlen s') h.1, h.2.1, REs.go s s' g o h.2.2⟩
  | [], _ :: _, h => h.elim
  | _ :: _, [], h => h.elim
theorem RE.early {M : Addr → Prop} {w : Vw} {v : V} {F1 H1 : Hp} (g : Go M F1 H1 F' H') (r : RE K σ H' F H env w v) : RE K σ H1 F H env w v := VwR.early g r
theorem REs.early {M : Addr → Prop} {F1 H1 : Hp} (g : Go M F1 H1 F' H') : ∀ {ws : List Vw} {vs : List V}, REs K σ H' F H env ws vs → REs K σ H1 F H env ws vs
  | [], [], _ => trivial
  | _ :: _, _ :: _, h => ⟨VwR.early g h.1, h.2.1, REs.early g h.2.2⟩
  | [], _ :: _, h => h.elim
  | _ :: _, [], h => h.elim
/-- an operation's end: new objects alone -/
theorem fin (s : Sim K F H σ env) (g : Go (fun _ => False) F H F' H') (sub : Ex F' H') : Go (O σ env) F H F' H' ∧ Sim K F' H' σ env :=
  ⟨g.mono fun _ h => h.elim, s.go g sub fun _ _ h => h⟩
theorem VwN.vw {w : Vw} {v : V} (s : Sim K F H σ env) (g : Go (fun _ => False) F H F' H') (r : VwN K F' H' H w v) (h0 : ∀ a, H a = none → H0 a = none) : VwR K F' H' H0 σ env w v := by
  cases w with
  | now d => exact r
  | late i => exact r.elim
  | tmp ds =>
    obtain ⟨a, vs, e, h1, h2, h3, h4⟩ := r
    refine ⟨a, vs, e, h1, h2, fun z => ?_, h0 a h3, h4⟩
    obtain ⟨_, vs', e'⟩ := s.ofree z
    rw [h3] at e'
    cases e'
/-- a slot is set -/
theorem mine_set {i j : Nat} {sl : Sl} {es : List D} (h : Mine (env.set i sl) j es) : (j = i ∧ (sl = .own es ∨ sl = .bor es)) ∨ (j ≠ i ∧ Mine env j es) := by
  by_cases hj : i = j
  · subst hj
    left
    refine ⟨rfl, ?_⟩
    unfold Mine at h
    by_cases hl : i < env.length
    · rw [List.getElem?_set_self hl] at h
      simpa using h
    · rw [List.getElem?_eq_none (by simpa using hl)] at h
      simp at h
  · right
    refine ⟨Ne.symm hj, ?_⟩
    unfold Mine at h ⊢
    rw [List.getElem?_set_ne hj] at h
    exact h
theorem Sim.freeze (s : Sim K F H σ env) {i : Nat} {ds : List D} (e : Mine env i ds) : ∃ F', Go (O σ env) F H F' H ∧ Own σ env (env.set i (.sh (.list ds))) ∧ Sim K F' H σ (env.set i (.sh (.list ds))) ∧ (∃ v, σ[i]? = some (some v) ∧ Dp K F' v (.list ds)) ∧ ∀ x, F' x = F x ∨ O σ env x := by
  obtain ⟨a, vs, h1, h2, h3, h4⟩ := s.own i ds e
  have mem : O σ env a := ⟨i, ds, e, h1⟩
  have g : Go (O σ env) F H (upd F a (.lst vs)) H := Go.freeze mem h3
  have gx := g.ex
  have dp : Dp K (upd F a (.lst vs)) (.ref a) (.list ds) := .lst (.inl (.inl upd_same)) (dpa_ex gx _ _ h4)
  have hl : i < env.length := by
    rcases e with e | e <;> exact (List.getElem?_eq_some_iff.mp e).1
  refine ⟨_, g, fun b hb => ?_, ⟨fun b o z => ?_, by rw [List.length_set]; exact s.len, fun j d ej => ?_, fun j es m => ?_, fun j k b es fs m m' => ?_⟩, ⟨_, h1, dp⟩, fun x => ?_⟩
  · obtain ⟨j, es, m, ej⟩ := hb
    rcases mine_set m with ⟨_, z | z⟩ | ⟨_, m⟩
    · cases z
    · cases z
    · exact ⟨j, es, m, ej⟩
  · by_cases hb : b = a
    · subst hb; rw [upd_same] at z; cases z; exact h2
    · rw [upd_ne hb] at z; exact s.sub b o z
  · by_cases hj : i = j
    · subst hj
      rw [List.getElem?_set_self hl] at ej
      cases ej
      exact ⟨_, h1, dp⟩
    · rw [List.getElem?_set_ne hj] at ej
      obtain ⟨v, q1, q2⟩ := s.sh j d ej
      exact ⟨v, q1, dp_ex gx _ _ q2⟩
  · rcases mine_set m with ⟨_, z | z⟩ | ⟨hj, m⟩
    · cases z
    · cases z
    · obtain ⟨b, ws, q1, q2, q3, q4⟩ := s.own j es m
      refine ⟨b, ws, q1, q2, ?_, dpa_ex gx _ _ q4⟩
      rw [upd_ne (fun (z : b = a) => hj (s.dis j i a es ds m e (z ▸ q1) h1))]
      exact q3
  · rcases mine_set m with ⟨_, z | z⟩ | ⟨_, m⟩
    · cases z
    · cases z
    · rcases mine_set m' with ⟨_, z | z⟩ | ⟨_, m'⟩
      · cases z
      · cases z
      · exact s.dis j k b es fs m m'
  · by_cases hx : x = a
    · exact .inr (hx ▸ mem)
    · exact .inl (upd_ne hx)
theorem keepF_ok {M : Addr → Prop} (s : Sim K F H σ env) {w : Vw} {v : V} {d : D} (r : VwR K F H H0 σ env w v) (e : keepF env w = some (d, env')) (hm : ∀ a, (H0 a = none → M a) ∧ (O σ env a → M a)) :
    ∃ F', Go M F H F' H ∧ Own σ env env' ∧ Sim K F' H σ env' ∧ Dp K F' v d ∧ ∀ x, F' x = F x ∨ O σ env x ∨ (isTmp w = true ∧ v = .ref x) := by
  cases w with
  | now d' =>
    cases e
    exact ⟨F, Go.refl _ _ _, fun _ h => h, s, r, fun x => .inl rfl⟩
  | tmp ds =>
    cases e
    obtain ⟨a, vs, rfl, h1, h2, h3, h4, h5⟩ := r
    have g : Go M F H (upd F a (.lst vs)) H := Go.freeze ((hm a).1 h4) h2
    have g' : Go (fun b => b = a) F H (upd F a (.lst vs)) H := Go.freeze rfl h2
    have sub : Ex (upd F a (.lst vs)) H := fun b o z => by
      by_cases hb : b = a
      · subst hb; rw [upd_same] at z; cases z; exact h1
      · rw [upd_ne hb] at z; exact s.sub b o z
    refine ⟨_, g, fun _ h => h, s.go g' sub (fun b ob (z : b = a) => h3 (z ▸ ob)), .lst (.inl (.inl upd_same)) (dpa_ex g.ex _ _ h5), fun x => ?_⟩
    by_cases hx : x = a
    · exact .inr (.inr ⟨rfl, by rw [hx]⟩)
    · exact .inl (upd_ne hx)
  | late i =>
    obtain ⟨r, _⟩ := r
    cases q : env[i]? with
    | none => simp [keepF, q] at e
    | some sl =>
      cases sl with
      | no => simp [keepF, q] at e
      | bor ds => simp [keepF, q] at e
      | sh d' =>
        simp only [keepF, q, Option.some.injEq, Prod.mk.injEq] at e
        obtain ⟨rfl, rfl⟩ := e
        obtain ⟨v', h1, h2⟩ := s.sh i _ q
        rw [r] at h1
        cases h1
        exact ⟨F, Go.refl _ _ _, fun _ h => h, s, h2, fun x => .inl rfl⟩
      | own ds =>
        simp only [keepF, q, Option.some.injEq, Prod.mk.injEq] at e
        obtain ⟨rfl, rfl⟩ := e
        obtain ⟨F', g, o, s', ⟨v', h1, h2⟩, hx⟩ := s.freeze (i := i) (.inl q)
        rw [r] at h1
        cases h1
        exact ⟨F', g.mono fun a h => .inl ((hm a).2 h), o, s', h2, fun x => (hx x).elim .inl fun z => .inr (.inl z)⟩
/-- a list just made, where another one is frozen -/
theorem VwR.kept {w : Vw} {v : V} (r : VwR K F H H0 σ env w v) (ex : Ex F F') (o : Own σ env env') (hl : env'.length = env.length) (hx : ∀ a, isTmp w = true → v = .ref a → F' a = F a) : VwR K F' H H0 σ env' w v := by
  cases w with
  | now d => exact dp_ex ex _ _ r
  | late i => exact ⟨r.1, hl ▸ r.2⟩
  | tmp ds =>
    obtain ⟨a, vs, e, h1, h2, h3, h4, h5⟩ := r
    exact ⟨a, vs, e, h1, (hx a rfl e).trans h2, fun z => h3 (o a z), h4, dpa_ex ex _ _ h5⟩
theorem VwR.notO {w : Vw} {v : V} (r : VwR K F H H0 σ env w v) (t : isTmp w = true) {a : Addr} (e : v = .ref a) : ¬ O σ env a := by
  cases w with
  | now d => cases t
  | late i => cases t
  | tmp ds =>
    obtain ⟨b, vs, e', _, _, h3, _⟩ := r
    rw [e] at e'
    cases e'
    exact h3
theorem keepN_ok {M : Addr → Prop} : ∀ {ws : List Vw} {vs : List V} {ds : List D} {F : Hp} {env env' : SEnv}, Sim K F H σ env → REs K σ H0 F H env ws vs → keepN env ws = some (ds, env') → (∀ a, (H0 a = none → M a) ∧ (O σ env a → M a)) →
    ∃ F', Go M F H F' H ∧ Own σ env env' ∧ Sim K F' H σ env' ∧ DpAll K F' vs ds
  | [], [], ds, F, env, env', s, _, e, _ => by
    cases e
    exact ⟨F, Go.refl _ _ _, fun _ h => h, s, .nil⟩
  | [], _ :: _, _, _, _, _, _, h, _, _ => h.elim
  | _ :: _, [], _, _, _, _, _, h, _, _ => h.elim
  | w :: ws, v :: vs, ds, F, env, env', s, h, e, hm => by
    obtain ⟨h1, h2, h3⟩ := h
    unfold keepN at e
    cases e1 : keepF env w with
    | none => rw [e1] at e; cases e
    | some p =>
      obtain ⟨d, env1⟩ := p
      rw [e1] at e
      have e : (keepN env1 ws).bind (fun q => some (d :: q.1, q.2)) = some (ds, env') := e
      cases e2 : keepN env1 ws with
      | none => rw [e2] at e; cases e
      | some q =>
        obtain ⟨ds', env2⟩ := q
        rw [e2] at e
        have e : some (d :: ds', env2) = some (ds, env') := e
        cases e
        obtain ⟨F1, g1, o1, s1, p1, hx⟩ := keepF_ok (M := M) s h1 e1 hm
        have rest : ∀ {ws : List Vw} {vs : List V}, REs K σ H0 F H env ws vs → (∀ a, isTmp w = true → v = .ref a → NoTmp a ws vs) → REs K σ H0 F1 H env1 ws vs := by
          intro ws
          induction ws with
          | nil => intro vs r _; cases vs <;> exact r
          | cons w' ws ih =>
            intro vs r n
            cases vs with
            | nil => exact r
            | cons v' vs =>
              refine ⟨VwR.kept r.1 g1.ex o1 (s.eqlen s1) fun a t z => ?_, r.2.1, ih r.2.2 fun a t z => (n a t z).2⟩
              rcases hx a with q | q | ⟨q, q'⟩
              · exact q
              · exact absurd q (VwR.notO r.1 t z)
              · exact absurd z ((n a q q').1 t)
        obtain ⟨F2, g2, o2, s2, p2⟩ := keepN_ok (M := M) s1 (rest h3 h2) e2 fun a => ⟨(hm a).1, fun z => (hm a).2 (o1 a z)⟩
        exact ⟨F2, g1.trans g2 fun x h => .inl h, fun a z => o1 a (o2 a z), s2, .cons (dp_ex g2.ex _ _ p1) p2⟩
theorem look_keep {w : Vw} {d : D} (e : keepF env w = some (d, env')) : True := trivial
end
end PyE

set_option Elab.async false
set_option linter.all false
set_option autoImplicit false
set_option maxRecDepth 100000
set_option maxHeartbeats 4000000
/-! # Slots set and forgotten; a comprehension's loop -/
namespace PyE
open PySem PySem.Spec PyProof.Rows L2

section
variable {K : Frag} {F F' H H' H0 : Hp} {σ τ : L2.St} {env env' : SEnv}
theorem set_len {i : Nat} {x : Option V} : (σ.set i x).length = σ.length := List.length_set
/-- slot i: a datum that stays -/
theorem Sim.setSh (s : Sim K F H σ env) {i : Nat} {v : V} {d : D} (hi : i < env.length) (r : Dp K F v d) : Sim K F H (σ.set i (some v)) (env.set i (.sh d)) := by
  have hs : i < σ.length := by rw [← s.len]; exact hi
  have oth : ∀ {j : Nat} {es : List D}, Mine (env.set i (.sh d)) j es → j ≠ i ∧ Mine env j es := fun m => by
    rcases mine_set m with ⟨_, z | z⟩ | h
    · cases z
    · cases z
    · exact h
  refine ⟨s.sub, by rw [List.length_set, List.length_set]; exact s.len, fun j d' e => ?_, fun j es m => ?_, fun j k a es fs m m' e1 e2 => ?_⟩
  · by_cases hj : i = j
    · subst hj
      rw [List.getElem?_set_self hi] at e
      cases e
      exact ⟨v, List.getElem?_set_self hs, r⟩
    · rw [List.getElem?_set_ne hj] at e ⊢
      exact s.sh j d' e
  · obtain ⟨hj, m⟩ := oth m
    obtain ⟨a, vs, q1, q2⟩ := s.own j es m
    exact ⟨a, vs, by rw [List.getElem?_set_ne (Ne.symm hj)]; exact q1, q2⟩
  · obtain ⟨hj, m⟩ := oth m
    obtain ⟨hk, m'⟩ := oth m'
    rw [List.getElem?_set_ne (Ne.symm hj)] at e1
    rw [List.getElem?_set_ne (Ne.symm hk)] at e2
    exact s.dis j k a es fs m m' e1 e2
theorem own_setSh (s : Sim K F H σ env) {i : Nat} {v : Option V} {d : D} : ∀ a, O (σ.set i v) (env.set i (.sh d)) a → O σ env a := by
  rintro a ⟨j, es, m, e⟩
  rcases mine_set m with ⟨_, z | z⟩ | ⟨hj, m⟩
  · cases z
  · cases z
  · rw [List.getElem?_set_ne (Ne.symm hj)] at e
    exact ⟨j, es, m, e⟩
/-- slot i: nothing -/
theorem Sim.setNo (s : Sim K F H σ env) {i : Nat} : Sim K F H (σ.set i none) (env.set i .no) := by
  have oth : ∀ {j : Nat} {es : List D}, Mine (env.set i .no) j es → j ≠ i ∧ Mine env j es := fun m => by
    rcases mine_set m with ⟨_, z | z⟩ | h
    · cases z
    · cases z
    · exact h
  refine ⟨s.sub, by rw [List.length_set, List.length_set]; exact s.len, fun j d' e => ?_, fun j es m => ?_, fun j k a es fs m m' e1 e2 => ?_⟩
  · by_cases hj : i = j
    · subst hj
      by_cases hl : i < env.length
      · rw [List.getElem?_set_self hl] at e
        cases e
      · rw [List.getElem?_eq_none (by simpa using hl)] at e
        cases e
    · rw [List.getElem?_set_ne hj] at e ⊢
      exact s.sh j d' e
  · obtain ⟨hj, m⟩ := oth m
    obtain ⟨a, vs, q1, q2⟩ := s.own j es m
    exact ⟨a, vs, by rw [List.getElem?_set_ne (Ne.symm hj)]; exact q1, q2⟩
  · obtain ⟨hj, m⟩ := oth m
    obtain ⟨hk, m'⟩ := oth m'
    rw [List.getElem?_set_ne (Ne.symm hj)] at e1
    rw [List.getElem?_set_ne (Ne.symm hk)] at e2
    exact s.dis j k a es fs m m' e1 e2
theorem own_setNo {i : Nat} {v : Option V} : ∀ a, O (σ.set i v) (env.set i .no) a → O σ env a := by
  rintro a ⟨j, es, m, e⟩
  rcases mine_set m with ⟨_, z | z⟩ | ⟨hj, m⟩
  · cases z
  · cases z
  · rw [List.getElem?_set_ne (Ne.symm hj)] at e
    exact ⟨j, es, m, e⟩
/-- slot i: a list just made -/
theorem Sim.setOwn (s : Sim K F H σ env) {i : Nat} {a : Addr} {vs : List V} {ds : List D} (hi : i < env.length) (h1 : H a = some (.lst vs)) (h2 : F a = none) (h3 : ¬ O σ env a) (h4 : DpAll K F vs ds) : Sim K F H (σ.set i (some (.ref a))) (env.set i (.own ds)) := by
  have hs : i < σ.length := by rw [← s.len]; exact hi
  have oth : ∀ {j : Nat} {es : List D}, Mine (env.set i (.own ds)) j es → (j = i ∧ es = ds) ∨ (j ≠ i ∧ Mine env j es) := fun m => by
    rcases mine_set m with ⟨e, z | z⟩ | h
    · cases z; exact .inl ⟨e, rfl⟩
    · cases z
    · exact .inr h
  refine ⟨s.sub, by rw [List.length_set, List.length_set]; exact s.len, fun j d' e => ?_, fun j es m => ?_, fun j k b es fs m m' e1 e2 => ?_⟩
  · by_cases hj : i = j
    · subst hj
      rw [List.getElem?_set_self hi] at e
      cases e
    · rw [List.getElem?_set_ne hj] at e ⊢
      exact s.sh j d' e
  · rcases oth m with ⟨rfl, rfl⟩ | ⟨hj, m⟩
    · exact ⟨a, vs, List.getElem?_set_self hs, h1, h2, h4⟩
    · obtain ⟨b, ws, q1, q2⟩ := s.own j es m
      exact ⟨b, ws, by rw [List.getElem?_set_ne (Ne.symm hj)]; exact q1, q2⟩
  · rcases oth m with ⟨rfl, rfl⟩ | ⟨hj, m⟩
    · rw [List.getElem?_set_self hs] at e1
      cases e1
      rcases oth m' with ⟨rfl, rfl⟩ | ⟨hk, m'⟩
      · rfl
      · rw [List.getElem?_set_ne (Ne.symm hk)] at e2
        exact absurd ⟨k, fs, m', e2⟩ h3
    · rw [List.getElem?_set_ne (Ne.symm hj)] at e1
      have hO : O σ env b := ⟨j, es, m, e1⟩
      have hM : Mine env j es := m
      rcases oth m' with ⟨hki, hkd⟩ | ⟨hk, m'⟩
      · rw [hki, List.getElem?_set_self hs] at e2
        cases e2
        exact absurd hO h3
      · rw [List.getElem?_set_ne (Ne.symm hk)] at e2
        exact s.dis j k b es fs hM m' e1 e2
theorem own_setOwn {i : Nat} {a : Addr} {ds : List D} : ∀ b, O (σ.set i (some (.ref a))) (env.set i (.own ds)) b → O σ env b ∨ b = a := by
  rintro b ⟨j, es, m, e⟩
  rcases mine_set m with ⟨rfl, _⟩ | ⟨hj, m⟩
  · by_cases hs : j < σ.length
    · rw [List.getElem?_set_self hs] at e
      cases e
      exact .inr rfl
    · rw [List.getElem?_eq_none (by simpa using hs)] at e
      cases e
  · rw [List.getElem?_set_ne (Ne.symm hj)] at e
    exact .inl ⟨j, es, m, e⟩
/-- this frame's list at slot i is written -/
theorem Sim.setMine (s : Sim K F H σ env) {i : Nat} {a : Addr} {vs : List V} {ds es : List D} {sl : Sl} (m : Mine env i ds) (hsl : (env[i]? = some (.own ds) ∧ sl = .own es) ∨ (env[i]? = some (.bor ds) ∧ sl = .bor es)) (ha : σ[i]? = some (some (.ref a))) (h4 : DpAll K F vs es) :
    Go (O σ env) F H F (upd H a (.lst vs)) ∧ Sim K F (upd H a (.lst vs)) σ (env.set i sl) ∧ Own σ env (env.set i sl) := by
  have hi : i < env.length := by rcases m with e | e <;> exact (List.getElem?_eq_some_iff.mp e).1
  obtain ⟨a', vs', q1, q2, q3, q4⟩ := s.own i ds m
  rw [ha] at q1
  cases q1
  have oth : ∀ {j : Nat} {fs : List D}, Mine (env.set i sl) j fs → (j = i ∧ fs = es) ∨ (j ≠ i ∧ Mine env j fs) := fun mm => by
    rcases mine_set mm with ⟨e, z⟩ | h
    · left
      refine ⟨e, ?_⟩
      rcases hsl with ⟨_, r⟩ | ⟨_, r⟩ <;> subst r <;> rcases z with z | z <;> cases z <;> rfl
    · exact .inr h
  have mo : ∀ b, O σ (env.set i sl) b → O σ env b := by
    rintro b ⟨j, fs, mm, e⟩
    rcases oth mm with ⟨rfl, rfl⟩ | ⟨_, mm⟩
    · exact ⟨j, ds, m, e⟩
    · exact ⟨j, fs, mm, e⟩
  refine ⟨Go.write ⟨i, ds, m, ha⟩, ⟨s.sub.right q3, by rw [List.length_set]; exact s.len, fun j d' e => ?_, fun j fs mm => ?_, fun j k b fs gs mm mm' e1 e2 => ?_⟩, mo⟩
  · by_cases hj : i = j
    · subst hj
      rw [List.getElem?_set_self hi] at e
      rcases hsl with ⟨_, r⟩ | ⟨_, r⟩ <;> subst r <;> cases e
    · rw [List.getElem?_set_ne hj] at e
      exact s.sh j d' e
  · rcases oth mm with ⟨rfl, rfl⟩ | ⟨hj, mm⟩
    · exact ⟨a, vs, ha, upd_same, q3, h4⟩
    · obtain ⟨b, ws, p1, p2, p3, p4⟩ := s.own j fs mm
      refine ⟨b, ws, p1, ?_, p3, p4⟩
      rw [upd_ne (fun (z : b = a) => hj (s.dis j i a fs ds mm m (z ▸ p1) ha))]
      exact p2
  · rcases oth mm with ⟨rfl, rfl⟩ | ⟨hj, mm⟩
    · rcases oth mm' with ⟨rfl, rfl⟩ | ⟨hk, mm'⟩
      · rfl
      · exact s.dis j k b ds gs m mm' e1 e2
    · have hM : Mine env j fs := mm
      rcases oth mm' with ⟨hki, hkd⟩ | ⟨hk, mm'⟩
      · rw [hki] at e2 ⊢
        exact s.dis j i b fs ds hM m e1 e2
      · exact s.dis j k b fs gs hM mm' e1 e2
theorem Sim.wipe (s : Sim K F H σ env) : ∀ own : List Nat, Sim K F H (L2.wipe σ own) (wipeE env own)
  | [] => s
  | i :: own => (Sim.wipe s own).setNo
theorem own_wipe : ∀ (own : List Nat) (a : Addr), O (L2.wipe σ own) (wipeE env own) a → O σ env a
  | [], _, h => h
  | i :: own, a, h => own_wipe own a (own_setNo a h)
theorem wipeE_len : ∀ own : List Nat, (wipeE env own).length = env.length
  | [] => rfl
  | i :: own => by unfold wipeE; rw [List.length_set, wipeE_len own]
theorem putS_ok {i : Nat} {sl : Sl} (e : putS env i sl = some env') : env' = env.set i sl ∧ i < env.length := by
  unfold putS at e
  cases q : env[i]? with
  | none => rw [q] at e; cases e
  | some x =>
    rw [q] at e
    have hl := (List.getElem?_eq_some_iff.mp q).1
    cases x with
    | bor _ => cases e
    | no => cases e; exact ⟨rfl, hl⟩
    | sh _ => cases e; exact ⟨rfl, hl⟩
    | own _ => cases e; exact ⟨rfl, hl⟩
/-- a target: what the slots are behind it -/
def gT (K : Frag) : Tg → TG
  | .one i => gName i
  | .many is => gTup K is.length (gN is)
where gN : List Nat → TGs
  | [] => gNil
  | i :: is => gCons (gName i) (gN is)
theorem setN_ok : ∀ {is : List Nat} {ds : List D} {vs : List V} {σ : L2.St} {env env' : SEnv} {Q : L2.St → Hp → Prop}, Sim K F H σ env → DpAll K F vs ds → putN env is ds = some env' →
    (∀ σ', Sim K F H σ' env' → (∀ a, O σ' env' a → O σ env a) → (∀ own : List Nat, (∀ i ∈ is, i ∈ own) → L2.wipe σ' own = L2.wipe σ own) → Q σ' H) → gT.gN is vs σ H Q
  | [], [], _, σ, env, env', Q, s, r, e, h => by
    cases r
    cases e
    exact ⟨rfl, h σ s (fun _ h => h) fun _ _ => rfl⟩
  | i :: is, d :: ds, _, σ, env, env', Q, s, r, e, h => by
    cases r with
    | @cons v vs _ _ r1 r2 =>
      unfold putN at e
      cases e1 : putS env i (.sh d) with
      | none => rw [e1] at e; cases e
      | some env1 =>
        rw [e1] at e
        obtain ⟨rfl, hi⟩ := putS_ok e1
        refine ⟨v, vs, rfl, ?_⟩
        refine setN_ok (s.setSh hi r1) r2 e fun σ' s' o' w' => h σ' s' (fun a z => own_setSh s a (o' a z)) fun own hm => ?_
        rw [w' own fun j hj => hm j (List.mem_cons_of_mem _ hj)]
        exact wipe_set _ _ _ (hm i List.mem_cons_self)
  | [], _ :: _, _, _, _, _, _, _, _, e, _ => by cases e
  | _ :: _, [], _, _, _, _, _, _, _, e, _ => by cases e
where
  wipe_set (σ : L2.St) {i : Nat} (x : Option V) : ∀ own : List Nat, i ∈ own → L2.wipe (σ.set i x) own = L2.wipe σ own
  | [], h => by cases h
  | j :: own, h => by
    show (L2.wipe (σ.set i x) own).set j none = (L2.wipe σ own).set j none
    by_cases hj : i ∈ own
    · rw [wipe_set σ x own hj]
    · have hij : i = j := by
        rcases List.mem_cons.mp h with e | e
        · exact e
        · exact absurd e hj
      subst hij
      rw [wipe_out σ x own hj, List.set_set]
  wipe_out (σ : L2.St) {i : Nat} (x : Option V) : ∀ own : List Nat, i ∉ own → L2.wipe (σ.set i x) own = (L2.wipe σ own).set i x
  | [], _ => rfl
  | j :: own, h => by
    show (L2.wipe (σ.set i x) own).set j none = ((L2.wipe σ own).set j none).set i x
    have hij : i ≠ j := fun e => h (e ▸ List.mem_cons_self)
    rw [wipe_out σ x own fun z => h (List.mem_cons_of_mem _ z), List.set_comm _ _ hij]
def tgS : Tg → List Nat
  | .one i => [i]
  | .many is => is
theorem putT_ok {tg : Tg} {d : D} {v : V} {Q : L2.St → Hp → Prop} (s : Sim K F H σ env) (r : Dp K F v d) (e : putT env tg d = some env')
    (h : ∀ σ', Sim K F H σ' env' → (∀ a, O σ' env' a → O σ env a) → (∀ own : List Nat, (∀ i ∈ tgS tg, i ∈ own) → L2.wipe σ' own = L2.wipe σ own) → Q σ' H) : gT K tg v σ H Q := by
  cases tg with
  | one i =>
    obtain ⟨rfl, hi⟩ := putS_ok e
    exact h _ (s.setSh hi r) (own_setSh s) fun own hm => setN_ok.wipe_set _ _ _ (hm i List.mem_cons_self)
  | many is =>
    cases d with
    | tuple ds =>
      cases r with
      | tup q al =>
        have hl : ∀ {is : List Nat} {ds : List D} {env : SEnv}, putN env is ds = some env' → ds.length = is.length := by
          intro is
          induction is with
          | nil => intro ds env e; cases ds with
            | nil => rfl
            | cons _ _ => cases e
          | cons i is ih => intro ds env e; cases ds with
            | nil => cases e
            | cons d ds =>
              unfold putN at e
              cases e1 : putS env i (.sh d) with
              | none => rw [e1] at e; cases e
              | some env1 =>
                rw [e1] at e
                rw [List.length_cons, List.length_cons, ih e]
        exact ⟨_, _, rfl, s.sub.sqt q, (dpa_len al).trans (hl e), setN_ok s al e h⟩
    | _ => cases e
/-- .. where the slot's rule is to be known of every slot -/
theorem backE_len (old : SEnv) : ∀ own : List Nat, (backE old env own).length = env.length
  | [] => rfl
  | i :: own => by unfold backE; rw [List.length_set, backE_len old own]

/-! ### the loop of a comprehension -/
/-- between two turns: the new list at A holds os -/
structure LI (K : Frag) (M : Addr → Prop) (F0 H0 : Hp) (τ : L2.St) (A : Addr) (os : List D) (F H : Hp) (env : SEnv) : Prop where
  sim : Sim K F H τ env
  go : Go M F0 H0 F H
  own : ∀ a, O τ env a → M a
  acc : ∃ vs, H A = some (.lst vs) ∧ DpAll K F vs os
  fa : F A = none
  no : ¬ M A
theorem lc_loop {M : Addr → Prop} {F0 H0 : Hp} {τ : L2.St} {A : Addr} {step : D → SEnv → Rs (List D)} {J : It} {G : V → Hp → (Hp → Prop) → Prop} {QEnd : Hp → Prop} {ds os0 out : List D} {en env1 : SEnv} {F1 H1 : Hp}
    (y : Yld K F1 ds J) (e : lcL step ds env1 = .ok out en) (i0 : LI K M F0 H0 τ A os0 F1 H1 env1)
    (turn : ∀ (d : D) (a : List D) (env env' : SEnv) (os : List D) (F H : Hp) (x : V) (Nx : Hp → Prop), step d env = .ok a env' → os.length + a.length ≤ (os0 ++ out).length → LI K M F0 H0 τ A os F H env → Dp K F x d → (∀ F' H', LI K M F0 H0 τ A (os ++ a) F' H' env' → Ex F F' → Nx H') → G x H Nx)
    (hend : ∀ F H, LI K M F0 H0 τ A (os0 ++ out) F H en → Ex F1 F → QEnd H) :
    ∃ W : Nat → Nat → Hp → Prop, (∃ m, W 0 m H1) ∧ ∀ i m H, W i m H → (J.stop i H ∧ QEnd H) ∨ (J.go i H ∧ ∃ Nx : Hp → Prop, (∀ H', Nx H' → ∃ m', m' < m ∧ W (i + 1) m' H') ∧ ∀ x H', J.yld i H x H' → G x H' Nx) := by
  refine ⟨fun i m H => m = ds.length - i ∧ i ≤ ds.length ∧ ∃ F env os rest, Ex F1 F ∧ lcL step (ds.drop i) env = .ok rest en ∧ os ++ rest = os0 ++ out ∧ LI K M F0 H0 τ A os F H env, ⟨_, rfl, Nat.zero_le _, F1, env1, os0, out, Ex.refl _, e, rfl, i0⟩, ?_⟩
  rintro i m H ⟨rfl, hi, F, env, os, rest, ex, el, eo, li⟩
  by_cases hlt : i < ds.length
  · right
    have hd : ds[i]? = some ds[i] := List.getElem?_eq_getElem hlt
    obtain ⟨hgo, hy⟩ := (y i F H ex li.sim.sub).1 _ hd
    rw [List.drop_eq_getElem_cons hlt] at el
    unfold lcL at el
    cases e1 : step ds[i] env with
    | exc c x e2 => rw [e1] at el; cases el
    | stuck => rw [e1] at el; cases el
    | ok a env2 =>
      rw [e1] at el
      have el : (lcL step (ds.drop (i + 1)) env2).bind (fun b e' => .ok (a ++ b) e') = .ok rest en := el
      cases e3 : lcL step (ds.drop (i + 1)) env2 with
      | exc c x e2 => rw [e3] at el; cases el
      | stuck => rw [e3] at el; cases el
      | ok b en' =>
        rw [e3] at el
        have el : (Rs.ok (a ++ b) en' : Rs (List D)) = .ok rest en := el
        cases el
        refine ⟨hgo, fun H' => ∃ F', LI K M F0 H0 τ A (os ++ a) F' H' env2 ∧ Ex F F', fun H' ⟨F', li', ex'⟩ => ⟨ds.length - (i + 1), by omega, rfl, hlt, F', env2, os ++ a, b, ex.trans ex', e3, by rw [List.append_assoc]; exact eo, li'⟩, fun x H' hx => ?_⟩
        obtain ⟨F', g, sub, dp⟩ := hy x H' hx
        obtain ⟨vs, h1, h2⟩ := li.acc
        refine turn ds[i] a env env2 os F' H' x _ e1 (by rw [← eo, List.length_append, List.length_append]; omega) ⟨li.sim.go g sub fun _ _ h => h, li.go.trans g fun _ h => h.elim, li.own, ⟨vs, g.keep _ _ (fun h => h) h1, dpa_ex g.ex _ _ h2⟩, g.fz _ (fun h => h) (by rw [h1]; simp) li.fa, li.no⟩ dp fun F2 H2 li2 ex2 => ⟨F2, li2, g.ex.trans ex2⟩
  · have hi' : i = ds.length := by omega
    subst hi'
    rw [List.drop_length] at el
    cases el
    refine .inl ⟨(y _ F H ex li.sim.sub).2 rfl, hend F H ?_ ex⟩
    rw [List.append_nil] at eo
    rw [← eo]
    exact li
/-- an item goes onto the new list -/
theorem LI.push {M : Addr → Prop} {F0 H0 : Hp} {A : Addr} {os : List D} {d : D} {v : V} (hA : H0 A = none) (li : LI K M F0 H0 τ A os F H env) (r : Dp K F v d) : ∃ vs, H A = some (.lst vs) ∧ vs.length = os.length ∧ LI K M F0 H0 τ A (os ++ [d]) F (upd H A (.lst (vs ++ [v]))) env := by
  obtain ⟨vs, h1, h2⟩ := li.acc
  have nO : ¬ O τ env A := fun z => li.no (li.own A z)
  refine ⟨vs, h1, dpa_len h2, ⟨⟨li.sim.sub.right li.fa, li.sim.len, li.sim.sh, fun i es m => ?_, li.sim.dis⟩, ?_, li.own, ⟨_, upd_same, dpa_app h2 (.cons r .nil)⟩, li.fa, li.no⟩⟩
  · obtain ⟨a, ws, q1, q2, q3, q4⟩ := li.sim.own i es m
    refine ⟨a, ws, q1, ?_, q3, q4⟩
    rw [upd_ne (fun (z : a = A) => nO ⟨i, es, m, z ▸ q1⟩)]
    exact q2
  · exact li.go.trans (Go.write (M := fun x => x = A) rfl) fun x (hx : x = A) => .inr (hx ▸ hA)
end
end PyE

set_option Elab.async false
set_option linter.all false
set_option autoImplicit false
set_option maxRecDepth 100000
set_option maxHeartbeats 4000000
/-! # What is walked: a list or a tuple; enumerate of a tuple -/
namespace PySem
open Builtin
set_option maxHeartbeats 1000000 in
theorem meets_enumerate_newT (l : Addr) (items : Array Value) (n : Nat) (dct : Option Addr) (sl : Array (Option Value)) :
    Meets (Builtin.«enumerate.__new__» ⟨[.type "enumerate", .ref l], []⟩) (fun _ R s => s.heap.get? l = some { cls := .type "tuple", dict := dct, data := .seq items n, slots := sl } ∧
      R (.ok (.ret (.ref (s.heap.push { cls := .type "tuple_iterator", data := .fields #[.ref l, .int 0 0] }).objs.size)))
        { s with heap := (s.heap.push { cls := .type "tuple_iterator", data := .fields #[.ref l, .int 0 0] }).push { cls := .type "enumerate", data := .fields #[.none, .bool false, .ref s.heap.objs.size, rawInt 0, .none, .none] } }) :=
  .of_wp fun prog w A R s h => by
    obtain ⟨hp, g, d, tk, os⟩ := s; obtain ⟨hl, h⟩ := h
    have hsub := sub_enumerate
    have hL : Heap.IsTuple (Shared.heap ⟨hp, g, d, tk, os⟩) l items := ⟨_, hl, rfl, n, rfl⟩
    wp_walk using PySem.AutoSeq1.wpAny_loadPart' hl
    refine wpAny_stack_any fun st => wpAny_pure ?_
    split
    · rename_i c _ _ _ _ _
      cases (c == Value.type "enumerate")
      · wp_walk using PySem.AutoSeq1.wpAny_loadPart' hl, wpAny_pyIter_tuple hL
        exact ⟨_, rfl, h⟩
      · wp_walk using PySem.AutoSeq1.wpAny_loadPart' hl, wpAny_pyIter_tuple hL
        exact ⟨_, rfl, h⟩
    · wp_walk using PySem.AutoSeq1.wpAny_loadPart' hl, wpAny_pyIter_tuple hL
      exact ⟨_, rfl, h⟩
section
variable {prog : Program} {w : World} {A : Around} {E : Value → Shared → Prop} {s : Shared}
theorem call_enumerate_tuple {l : Addr} {items : Array Value} {Q : Value → Shared → Prop} (hL : s.heap.IsTuple l items)
    (h : ∀ h', IsEnum h' (s.heap.objs.size + 1) s.heap.objs.size 0 .none → h'.IsTupleIter s.heap.objs.size l 0 → h'.objs.size = s.heap.objs.size + 2 →
      (∀ b o, s.heap.get? b = some o → h'.get? b = some o) → Q (.ref (s.heap.objs.size + 1)) { s with heap := h' }) :
    wpAny (model prog w) A (call (.type "enumerate") [.ref l]) Q E s := by
  obtain ⟨⟨c, dct, dt, sl⟩, hl, hc, n, hd⟩ := hL
  replace hc : c = .type "tuple" := hc
  replace hd : dt = .seq items n := hd
  subst hc hd
  refine callType_new F.called_enumerate (by decide) (F.typeCall_enumerate_1 _) (F.newCall_enumerate_1 _) (fun obj => F.args_object_init_2 obj _) F.entry_enumerate_new
    (meets_enumerate_newT l items n dct sl) ⟨hl, ?_⟩
  have hz : (s.heap.push { cls := .type "tuple_iterator", data := .fields #[.ref l, .int 0 0] }).objs.size = s.heap.objs.size + 1 := Heap.size_push ..
  show _ ∧ _
  rw [hz]
  have he : IsEnum ((s.heap.push { cls := .type "tuple_iterator", data := .fields #[.ref l, .int 0 0] }).push
      { cls := .type "enumerate", data := .fields #[.none, .bool false, .ref s.heap.objs.size, rawInt 0, .none, .none] }) (s.heap.objs.size + 1) s.heap.objs.size 0 .none := by
    have := Heap.get?_push_size (s.heap.push { cls := .type "tuple_iterator", data := .fields #[.ref l, .int 0 0] })
      (o := { cls := .type "enumerate", data := .fields #[.none, .bool false, .ref s.heap.objs.size, rawInt 0, .none, .none] }) rfl
    rw [hz] at this; exact this
  refine ⟨⟨_, he, rfl⟩, h _ he ⟨_, Heap.get?_push_of_some _ (Heap.get?_push_size _ rfl), rfl, rfl⟩ (by rw [Heap.size_push, hz]) fun b o x => Heap.get?_push_of_some _ (Heap.get?_push_of_some _ x)⟩
end
end PySem
namespace PyE
open PySem PySem.Spec PyProof.Rows L2
/-- the tuple at a, each item in a new pair -/
def IteT (K : Frag) (a : Addr) : It :=
  ⟨fun i H => ∃ (xs : List V) (x : V), SqT K H a xs ∧ xs[i]? = some x, fun i H v H' => ∃ T x, v = .ref T ∧ H T = none ∧ H' = upd H T (.tup [.int (i : Nat), x]) ∧ ∀ xs, SqT K H a xs → xs[i]? = some x, fun i H => ∃ xs : List V, SqT K H a xs ∧ xs.length = i⟩
theorem turn_enumT {P : Program} {w : World} {K : Frag} {elts : List Expr} {kk : Nat} {tpos : Pos} (a e it : Addr) :
    Turn P w K (.Tuple elts kk tpos) (IteT K a) [e, it] e (fun i h => (∃ old, IsEnum h e it ((i : Nat) : Int) old) ∧ h.IsTupleIter it a i ∧ e ≠ it ∧ a ≠ it ∧ a ≠ e) where
  mem := by simp
  obj := fun i h st b hb => by
    obtain ⟨⟨old, he⟩, ⟨o, ho, hc, hd⟩, _⟩ := st
    have e' : b = e ∨ b = it := by simpa using hb
    rcases e' with z | z
    · rw [z]; exact ⟨_, he, fun v q => nomatch q⟩
    · rw [z]; exact ⟨o, ho, fun v q => by rw [hd] at q; cases q⟩
  keep := fun i h h' st k => let ⟨⟨old, he⟩, hi, hne⟩ := st; ⟨⟨old, k e (by simp) _ he⟩, hi.at fun o q => k it (by simp) o q, hne⟩
  item := by
    intro X hP hw hK hc i pins s σ H E I hf st hg
    subst hP hw hK
    obtain ⟨⟨old, he⟩, hit, hne, hai, hae⟩ := st
    obtain ⟨xs, x, hq, hx⟩ := hg
    obtain ⟨its, rv, p, hz⟩ := I.tuple hq
    obtain ⟨u, hu, ru⟩ := rv.get hx
    have hel : e < s.heap.objs.size := Heap.lt_size he
    have hil : it < s.heap.objs.size := by obtain ⟨_, q, _⟩ := hit; exact Heap.lt_size q
    have hlt : i < its.toArray.size := by
      have := (List.getElem?_eq_some_iff.mp hu).1
      simpa using this
    refine wpAny_pyNext_enum_itemD (Draws.tuple (A := X.A.in1) (I.ok.hd hc) it a hai its.toArray) he ⟨hit, p⟩ hlt hne (by simp only [List.mem_cons, List.not_mem_nil, or_false, not_or]; exact ⟨hne, Ne.symm hae⟩) fun x0 h' tk hx0 ho hst' hT hsz hk => ?_
    have ex0 : x0 = u := by
      have h1 : its[i]? = some x0 := by simpa using hx0
      rw [hu] at h1
      exact (Option.some.inj h1).symm
    subst ex0
    obtain ⟨hit', p'⟩ := hst'
    refine ⟨_, rfl, wpAny_letOwnedTupleGo_enum (s := { s with heap := h', toks := tk + 1 }) ho fun h'' he' sb => ?_⟩
    have hT2 : h''.get? s.heap.objs.size = some { cls := .type "tuple", data := .seq #[.int i tk, x0] } := (sb.2 _ (Nat.ne_of_gt hel)).trans hT
    have new : ObjOk X.prog X.w (upd H s.heap.objs.size (.tup [.int (i : Nat), x])) h'' s.heap.objs.size (.tup [.int (i : Nat), x]) :=
      ⟨by show 2 ≤ sizeLine; decide, [.int i tk, x0], .cons ⟨_, rfl⟩ (.cons ru .nil), ⟨_, hT2, rfl, _, rfl⟩⟩
    have I1 : Inv X pins σ (upd H s.heap.objs.size (.tup [.int (i : Nat), x])) { s with heap := h'', toks := tk + 1 } :=
      I.turnedNew (ch := [e, it]) (fun b ob hb q => (sb.2 b (fun z => hb (by simp [z]))).trans (hk b ob (fun z => hb (by simp [z])) (fun z => hb (by simp [z])) q)) hf (Nat.le_refl _) new
    refine ⟨.ref s.heap.objs.size, _, I1, rfl, ⟨_, x, rfl, I.hok.fresh (Nat.le_refl _), rfl, fun ys hy => by rw [I.tuple_inj hy hq]; exact hx⟩, ⟨⟨x0, ?_⟩, hit'.at fun o q => (sb.2 it (Ne.symm hne)).trans q, hne, hai, hae⟩, fun b hb => ?_⟩
    · have e1 : ((i + 1 : Nat) : Int) = (i : Int) + 1 := by omega
      rw [e1]; exact he'
    · have hb' : b < s.heap.objs.size := by
        have e' : b = e ∨ b = it := by simpa using hb
        rcases e' with z | z
        · rw [z]; exact hel
        · rw [z]; exact hil
      rw [upd_ne (Nat.ne_of_lt hb')]
      exact (hf b hb).1
  done := by
    intro X hP hw hK hc i pins s σ H E I hf st hg
    subst hP hw hK
    obtain ⟨⟨old, he⟩, hit, hne, hai, hae⟩ := st
    obtain ⟨xs, hq, hx⟩ := hg
    obtain ⟨its, rv, p, hz⟩ := I.tuple hq
    obtain ⟨f0, f1, f2, f3, f4, f5⟩ := hf it (by simp)
    have hl := rv.length
    have ei : i = its.toArray.size := by rw [List.size_toArray, ← hl, hx]
    exact wpAny_pyNext_enum_endD (Draws.tuple (A := X.A.in1) (I.ok.hd hc) it a hai its.toArray) he (by rw [← ei]; exact ⟨hit, p⟩) fun h' eb => ⟨rfl, I.turned (t' := s.toks) (fun b o hb q => eb b o hb q) f0 f1 f3 f4 f5⟩
  self := fun A i s Q E st h => let ⟨⟨_, he⟩, _⟩ := st; wpAny_pyIter_enum he h
section
variable {X : Cx}
/-- enumerate(e), e a list or a tuple -/
theorem pi_enumB {e : Expr} {ta : TA} {p pos tpos : Pos} {elts : List Expr} {kk : Nat} (hg : Gl X "enumerate") (hm : X.mg "enumerate" = none) (ha : PA X [e] ta) (hs : starEach [e] X.env = [(false, eval e X.env)]) :
    PI X (.Tuple elts kk tpos) (.Call (.Name "enumerate" p) [e] [] pos) (fun σ H R => ta σ H fun vs H1 => ∃ x, vs = [x] ∧ ((∃ a, x = .ref a ∧ (∃ xs, SqL X.K H1 a xs) ∧ R (Ite X.K a) H1) ∨ (∃ a, x = .ref a ∧ (∃ xs, SqT X.K H1 a xs) ∧ R (IteT X.K a) H1))) := by
  refine ⟨fun pins s σ H R I h => ?_⟩
  refine Call_ (ld_blt I hg hm boot_enumerate (PyProof.Rows.callWith_type1 (thn (ha.run pos pins s σ H _ I h) fun us s1 ⟨vs, H1, I1, r1, q1⟩ => ?_) hs rfl))
  obtain ⟨x, ex, q1⟩ := q1
  subst ex
  cases r1 with
  | cons r rr =>
    cases rr
    rcases q1 with ⟨a, e, ⟨xs, hq⟩, q⟩ | ⟨a, e, ⟨xs, hq⟩, q⟩
    · subst e
      cases r
      obtain ⟨its, rv, p', hz⟩ := I1.list hq
      refine call_enumerate_list p'.isList fun h' he hit hsz hk => wpAny_pyIter_enum he ?_
      have I2 : Inv X pins σ H1 { s1 with heap := h' } := I1.kept (t' := s1.toks) hk
      refine ⟨s1.heap.objs.size + 1, [s1.heap.objs.size + 1, s1.heap.objs.size], _, _, H1, rfl, I2, turn_enum a (s1.heap.objs.size + 1) s1.heap.objs.size, ⟨⟨.none, he⟩, hit, Nat.succ_ne_self _⟩, fun b hb => ?_, q⟩
      have e' : b = s1.heap.objs.size + 1 ∨ b = s1.heap.objs.size := by simpa using hb
      have hle : s1.heap.objs.size ≤ b := by
        rcases e' with z | z
        · rw [z]; exact Nat.le_succ _
        · rw [z]; exact Nat.le_refl _
      exact I1.fpOk hle (I1.hok.fresh hle)
    · subst e
      cases r
      obtain ⟨its, rv, p', hz⟩ := I1.tuple hq
      have hlt : a < s1.heap.objs.size := p'.lt
      refine call_enumerate_tuple (show s1.heap.IsTuple a its.toArray from p') fun h' he hit hsz hk => wpAny_pyIter_enum he ?_
      have I2 : Inv X pins σ H1 { s1 with heap := h' } := I1.kept (t' := s1.toks) hk
      refine ⟨s1.heap.objs.size + 1, [s1.heap.objs.size + 1, s1.heap.objs.size], _, _, H1, rfl, I2, turn_enumT a (s1.heap.objs.size + 1) s1.heap.objs.size, ⟨⟨.none, he⟩, hit, Nat.succ_ne_self _, Nat.ne_of_lt hlt, Nat.ne_of_lt (Nat.lt_succ_of_lt hlt)⟩, fun b hb => ?_, q⟩
      have e' : b = s1.heap.objs.size + 1 ∨ b = s1.heap.objs.size := by simpa using hb
      have hle : s1.heap.objs.size ≤ b := by
        rcases e' with z | z
        · rw [z]; exact Nat.le_succ _
        · rw [z]; exact Nat.le_refl _
      exact I1.fpOk hle (I1.hok.fresh hle)
theorem pi_seq {e tg : Expr} {te : TE} (he : PE X e te) : PI X tg e (fun σ H R => te σ H fun x H1 => (∃ a, x = .ref a ∧ (∃ xs, SqL X.K H1 a xs) ∧ R (Itl X.K a) H1) ∨ (∃ a, x = .ref a ∧ (∃ xs, SqT X.K H1 a xs) ∧ R (Itt X.K a) H1)) := by
  refine ⟨fun pins s σ H R I h => ?_⟩
  refine thn (he.run pins s σ H _ I h) fun v s1 ⟨x, H1, I1, r1, q1⟩ => ?_
  rcases q1 with ⟨a, e, ⟨xs, hq⟩, q⟩ | ⟨a, e, ⟨xs, hq⟩, q⟩
  · subst e
    cases r1
    obtain ⟨its, rv, p, hz⟩ := I1.list hq
    refine wpAny_pyIter_list p.isList ?_
    refine ⟨s1.heap.objs.size, [s1.heap.objs.size], _, _, H1, rfl, I1.kept (t' := s1.toks) fun b o e => Heap.get?_push_of_some _ e, turn_list a _, ⟨_, Heap.get?_push_size _ rfl, rfl, rfl⟩, fun b hb => ?_, q⟩
    have e : b = s1.heap.objs.size := by simpa using hb
    subst e
    exact I1.fpOk (Nat.le_refl _) (I1.hok.fresh (Nat.le_refl _))
  · subst e
    cases r1
    obtain ⟨its, rv, p, hz⟩ := I1.tuple hq
    refine wpAny_pyIter_tuple (show s1.heap.IsTuple a its.toArray from p) ?_
    refine ⟨s1.heap.objs.size, [s1.heap.objs.size], _, _, H1, rfl, I1.kept (t' := s1.toks) fun b o e => Heap.get?_push_of_some _ e, turn_tuple a _, ⟨_, Heap.get?_push_size _ rfl, rfl, rfl⟩, fun b hb => ?_, q⟩
    have e : b = s1.heap.objs.size := by simpa using hb
    subst e
    exact I1.fpOk (Nat.le_refl _) (I1.hok.fresh (Nat.le_refl _))
end
end PyE

set_option Elab.async false
set_option linter.all false
set_option autoImplicit false
set_option maxRecDepth 100000
set_option maxHeartbeats 4000000
/-! # The text and the small language: a checker, and that what it takes is run as the evaluator says -/
namespace PyE
open PySem PySem.Spec PyProof.Rows L2

/-! ### equality of data, decided -/
mutual
def sameD : D → D → Bool
  | .none, .none => true
  | .bool a, .bool b => a == b
  | .int a, .int b => a == b
  | .str a, .str b => a == b
  | .list xs, .list ys => sameL xs ys
  | .tuple xs, .tuple ys => sameL xs ys
  | _, _ => false
def sameL : List D → List D → Bool
  | [], [] => true
  | x :: xs, y :: ys => sameD x y && sameL xs ys
  | _, _ => false
end
mutual
theorem sameD_eq : ∀ (a b : D), sameD a b = true → a = b
  | .none, b, h => by cases b <;> first | rfl | (simp [sameD] at h)
  | .bool a, b, h => by cases b <;> simp [sameD] at h; subst h; rfl
  | .int a, b, h => by cases b <;> simp [sameD] at h; subst h; rfl
  | .str a, b, h => by cases b <;> simp [sameD] at h; subst h; rfl
  | .list xs, b, h => by
    cases b <;> simp [sameD] at h
    rw [sameL_eq xs _ h]
  | .tuple xs, b, h => by
    cases b <;> simp [sameD] at h
    rw [sameL_eq xs _ h]
  | .dict _, b, h => by cases b <;> simp [sameD] at h
theorem sameL_eq : ∀ (a b : List D), sameL a b = true → a = b
  | [], b, h => by cases b <;> simp [sameL] at h; rfl
  | x :: xs, b, h => by
    cases b with
    | nil => simp [sameL] at h
    | cons y ys =>
      simp only [sameL, Bool.and_eq_true] at h
      rw [sameD_eq x y h.1, sameL_eq xs ys h.2]
end

/-! ### the checker -/
structure Gam where
  N : List Str
  con : List (Str × D)
structure Sc where
  sc : Scope
  fn : Str → Bool
def visB (sc : Scope) (x : Str) : Bool := match sc.names.lookup x with
  | some .local => true
  | some .cell => true
  | some .free => true
  | _ => false
def locB (S : Sc) (x : Str) : Bool := match S.sc.names.lookup x with
  | some .local => true
  | some .cell => S.fn x
  | _ => false
def glB (sc : Scope) (x : Str) : Bool := match sc.names.lookup x with
  | some .globalImplicit => true
  | _ => false
def okName (x : Str) : Bool := !(x == ("__debug__" : Str)) && !(x == ("__classdict__" : Str)) && !(x == ("__name__" : Str))
def notStar : Expr → Bool
  | .Starred _ _ => false
  | _ => true
def notSet : Expr → Bool
  | .Set _ _ _ => false
  | _ => true
def notSlice : Expr → Bool
  | .Slice _ _ _ _ => false
  | _ => true
/-- isTrue takes the value's truth -/
def plainB : Expr → Bool
  | .UnaryOp .Not _ _ => false
  | .BoolOp _ _ _ => false
  | .IfExp _ _ _ _ => false
  | .Compare _ _ _ _ => false
  | _ => true
def noComp : Expr → Bool
  | .ListComp _ _ _ _ => false
  | .SetComp _ _ _ _ => false
  | .DictComp _ _ _ _ _ => false
  | _ => true
def constOk : D → Const → Bool
  | .none, .none => true
  | .bool a, .bool b => a == b
  | .int a, .int b => a == b
  | .str a, .str b => a == b
  | _, _ => false
def bfName : Bf → Str
  | .len => "len" | .sum => "sum" | .all => "all" | .any => "any" | .abs => "abs" | .min => "min" | .max => "max"
  | .tuple => "tuple" | .list => "list" | .int => "int" | .bool => "bool"
def tyS : Ty → Str
  | .int => "int" | .bool => "bool" | .str => "str" | .tuple => "tuple" | .list => "list"
def chkNm (Γ : Gam) (S : Sc) : List Nat → List Expr → Bool
  | [], [] => true
  | i :: is, .Name x _ :: es => decide (Γ.N[i]? = some x) && locB S x && chkNm Γ S is es
  | _, _ => false
def chkTg (Γ : Gam) (S : Sc) : Tg → Expr → Bool
  | .one i, .Name x _ => decide (Γ.N[i]? = some x) && locB S x
  | .many is, .Tuple es _ _ => chkNm Γ S is es
  | _, _ => false
def chkTy (S : Sc) : List Ty → List Expr → Bool
  | [], [] => true
  | t :: ts, .Name x _ :: es => (x == tyS t) && glB S.sc x && chkTy S ts es
  | _, _ => false
def ownP (N : List Str) (own : List Nat) : List (Str × Nat) := own.map fun i => ((N[i]?).getD default, i)
/-- the scope that runs in a comprehension's block -/
def blkS (S : Sc) (scope : Scope) : Sc := ⟨relS scope S.sc, fun x => scope.names.lookup x == some .cell⟩

mutual
def chkE (Γ : Gam) (S : Sc) : IE → Expr → Bool
  | .k d, x => match x with
    | .Constant c _ _ => constOk d c
    | _ => false
  | .v i, x => match x with
    | .Name x _ => decide (Γ.N[i]? = some x) && visB S.sc x && okName x
    | _ => false
  | .g n d, x => match x with
    | .Name x _ => (n == x) && glB S.sc x && okName x && (match Γ.con.lookup x with
      | some d' => sameD d d'
      | none => false)
    | _ => false
  | .bin op a b, x => match x with
    | .BinOp y o z _ => decide (op = o) && chkE Γ S a y && chkE Γ S b z
    | _ => false
  | .neg a, x => match x with
    | .UnaryOp .USub y _ => chkE Γ S a y
    | _ => false
  | .cmp op a b, x => match x with
    | .Compare y [o] [z] _ => decide (op = o) && notSet z && chkE Γ S a y && chkE Γ S b z
    | _ => false
  | .cmp2 op op' a b c, x => match x with
    | .Compare y [o, o'] [z, w] _ => decide (op = o) && decide (op' = o') && notSet w && chkE Γ S a y && chkE Γ S b z && chkE Γ S c w
    | _ => false
  | .and a b, x => match x with
    | .BoolOp .And (y :: z :: r) pos => chkE Γ S a y && (match r with
      | [] => chkE Γ S b z
      | _ => chkE Γ S b (.BoolOp .And (z :: r) pos))
    | _ => false
  | .or a b, x => match x with
    | .BoolOp .Or (y :: z :: r) pos => chkE Γ S a y && (match r with
      | [] => chkE Γ S b z
      | _ => chkE Γ S b (.BoolOp .Or (z :: r) pos))
    | _ => false
  | .nt a, x => match x with
    | .UnaryOp .Not y _ => chkE Γ S a y
    | _ => false
  | .ife t a b, x => match x with
    | .IfExp y z w _ => chkE Γ S t y && chkE Γ S a z && chkE Γ S b w
    | _ => false
  | .tup es, x => match x with
    | .Tuple ys _ _ => chkEs Γ S es ys
    | _ => false
  | .lst es, x => match x with
    | .List ys _ => chkEs Γ S es ys
    | _ => false
  | .ix a b, x => match x with
    | .Subscript y z _ => notSlice z && chkE Γ S a y && chkE Γ S b z
    | _ => false
  | .sl a lo hi, x => match x with
    | .Subscript y (.Slice l h none _) _ => chkE Γ S a y && chkO Γ S lo l && chkO Γ S hi h
    | _ => false
  | .call f es, x => match x with
    | .Call (.Name g _) ys [] _ => (f == g) && glB S.sc g && okName g && chkEs Γ S es ys
    | _ => false
  | .callb f i es, x => match x with
    | .Call (.Name g _) (.Name y _ :: ys) [] _ => (f == g) && glB S.sc g && okName g && decide (Γ.N[i]? = some y) && visB S.sc y && okName y && chkEs Γ S es ys
    | _ => false
  | .bf f es, x => match x with
    | .Call (.Name g _) (y :: ys) [] _ => (bfName f == g) && glB S.sc g && chkEs Γ S es (y :: ys)
    | _ => false
  | .isi a ts tupled, x => match x with
    | .Call (.Name g _) [y, z] [] _ => (g == ("isinstance" : Str)) && glB S.sc g && chkE Γ S a y && (match tupled, ts, z with
      | false, [t], .Name n _ => (n == tyS t) && glB S.sc n
      | true, ts, .Tuple ns _ _ => chkTy S ts ns && decide (ts.length ≤ 1000)
      | _, _, _ => false) && notStar y
    | _ => false
  | .lc e tg it c own, x => match x with
    | .ListComp y [⟨tgx, itx, ifs, 0⟩] scope _ => blkC Γ.N S.sc scope (ownP Γ.N own) && notSet itx && chkI Γ S it tgx itx && chkTg Γ (blkS S scope) tg tgx && (tgS tg).all (fun i => own.contains i) && chkC Γ (blkS S scope) c ifs && chkE Γ (blkS S scope) e y
    | _ => false
  | .lc2 e tg it c tg2 it2 c2 own own2, x => match x with
    | .ListComp y [⟨tgx, itx, ifs, 0⟩, ⟨tgx2, itx2, ifs2, 0⟩] scope _ => blkC Γ.N S.sc scope (ownP Γ.N own) && notSet itx && notSet itx2 && chkI Γ S it tgx itx && chkTg Γ (blkS S scope) tg tgx && (tgS tg).all (fun i => own.contains i) && chkC Γ (blkS S scope) c ifs &&
        own2.all (fun i => own.contains i) && chkI Γ (blkS S scope) it2 tgx2 itx2 && chkTg Γ (blkS S scope) tg2 tgx2 && (tgS tg2).all (fun i => own2.contains i) && chkC Γ (blkS S scope) c2 ifs2 && chkE Γ (blkS S scope) e y
    | _ => false
def chkEs (Γ : Gam) (S : Sc) : IEs → List Expr → Bool
  | .nil, xs => match xs with
    | [] => true
    | _ => false
  | .cons e es, xs => match xs with
    | x :: ys => notStar x && chkE Γ S e x && chkEs Γ S es ys
    | _ => false
def chkO (Γ : Gam) (S : Sc) : IO → Option Expr → Bool
  | .none, x => match x with
    | none => true
    | _ => false
  | .some e, x => match x with
    | some y => chkE Γ S e y
    | _ => false
def chkC (Γ : Gam) (S : Sc) : IO → List Expr → Bool
  | .none, xs => match xs with
    | [] => true
    | _ => false
  | .some e, xs => match xs with
    | [y] => chkE Γ S e y
    | _ => false
def chkI (Γ : Gam) (S : Sc) : II → Expr → Expr → Bool
  | .seq e, _, x => chkE Γ S e x
  | .r1 a, _, x => match x with
    | .Call (.Name g _) [y] [] _ => (g == ("range" : Str)) && glB S.sc g && notStar y && chkE Γ S a y
    | _ => false
  | .r2 a b, _, x => match x with
    | .Call (.Name g _) [y, z] [] _ => (g == ("range" : Str)) && glB S.sc g && notStar y && notStar z && chkE Γ S a y && chkE Γ S b z
    | _ => false
  | .r3 a b c, _, x => match x with
    | .Call (.Name g _) [y, z, w] [] _ => (g == ("range" : Str)) && glB S.sc g && notStar y && notStar z && notStar w && chkE Γ S a y && chkE Γ S b z && chkE Γ S c w
    | _ => false
  | .enum e, tg, x => match tg, x with
    | .Tuple _ _ _, .Call (.Name g _) [y] [] _ => (g == ("enumerate" : Str)) && glB S.sc g && notStar y && chkE Γ S e y
    | _, _ => false
end

/-! ### small facts of the text -/
theorem star_of {e : Expr} {es : List Expr} {env : Env} (h : notStar e = true) : starEach (e :: es) env = (false, eval e env) :: starEach es env := by
  cases e <;> first | rfl | (exact absurd h (by simp [notStar]))
theorem noStars {Γ : Gam} {S : Sc} : ∀ {es : IEs} {xs : List Expr}, chkEs Γ S es xs = true → ∀ (pos : Pos) (env : Env), (backTo pos (starEach xs env)).any (·.1) = false
  | .nil, [], _, _, _ => rfl
  | .nil, _ :: _, h, _, _ => by simp [chkEs] at h
  | .cons e es, [], h, _, _ => by simp [chkEs] at h
  | .cons e es, x :: xs, h, pos, env => by
    simp only [chkEs, Bool.and_eq_true] at h
    rw [star_of h.1.1]
    have ih := noStars h.2 pos env
    simpa [backTo] using ih
theorem plainIx_of {b : Expr} (h : notSlice b = true) : PlainIx b := by
  intro o i
  cases b <;> first | rfl | (exact absurd h (by simp [notSlice]))
theorem marks_of {b : Expr} (op : CmpOp) (h : notSet b = true) : behindInMarks op b = false := by
  cases b <;> first | rfl | (exact absurd h (by simp [notSet]))
theorem folded_of {e : Expr} {env : Env} (h : notSet e = true) (x : Value) : foldedSetIterable e env x = pure x := by
  cases e <;> first | rfl | (exact absurd h (by simp [notSet]))
theorem plain_of {e : Expr} {env : Env} (h : plainB e = true) (whole : Sem Value) : isTrue e env whole = (do let v ← whole; standAt e.pos; holding [v] (truthy v)) := by
  cases e with
  | UnaryOp op x p => cases op <;> first | rfl | (exact absurd h (by simp [plainB]))
  | BoolOp _ _ _ => exact absurd h (by simp [plainB])
  | IfExp _ _ _ _ => exact absurd h (by simp [plainB])
  | Compare _ _ _ _ => exact absurd h (by simp [plainB])
  | _ => rfl
theorem swaps_of {e : Expr} {t : Option Expr} {l : Nat} {env : Env} (h : noComp e = true) : swapsWith e t l env = pure false := by
  cases e <;> first | rfl | (exact absurd h (by simp [noComp]))
theorem okName_of {x : Str} (h : okName x = true) : (x == ("__debug__" : Str)) = false ∧ (x == ("__classdict__" : Str)) = false ∧ x ≠ ("__name__" : Str) := by
  unfold okName at h
  simp only [Bool.and_eq_true, Bool.not_eq_true'] at h
  exact ⟨h.1.1, h.1.2, by simpa using h.2⟩
theorem visB_of {sc : Scope} {x : Str} (h : visB sc x = true) : Vis sc x := by
  unfold visB at h
  split at h
  · rename_i e; exact .inl e
  · rename_i e; exact .inr (.inl e)
  · rename_i e; exact .inr (.inr e)
  · cases h
theorem ownP_snd {N : List Str} (own : List Nat) : (ownP N own).map (·.2) = own := by
  unfold ownP
  rw [List.map_map]
  exact List.map_id _
end PyE

set_option Elab.async false
set_option linter.all false
set_option autoImplicit false
set_option maxRecDepth 100000
set_option maxHeartbeats 4000000
/-! # What the checker takes is run as the evaluator says: expressions -/
namespace PyE
open PySem PySem.Spec PyProof.Rows L2

/-- what a def promises the others -/
def spF (K : Frag) (mg : Str → Option Value) (fs : FnSem) : Sp := fun vs H Q E => vs.length = fs.arity ∧
  ((fs.bor = false ∧ ∃ F ds, Ex F H ∧ DpAll K F vs ds ∧ match fs.run ds with
    | .ret d _ => ∀ v F' H', Go (fun _ => False) F H F' H' → Ex F' H' → Dp K F' v d → Q v H'
    | .exc c x _ => ∀ dd F' H', Go (fun _ => False) F H F' H' → Ex F' H' → XAt K F' H' dd x → ∀ C, mg c = some (.ref C) → E (.ref C) (some dd) H'
    | .stuck => False) ∨
   (fs.bor = true ∧ ∃ F a vr ws bs ds, vs = .ref a :: vr ∧ Ex F H ∧ H a = some (.lst ws) ∧ F a = none ∧ DpAll K F ws bs ∧ DpAll K F vr ds ∧ match fs.run (.list bs :: ds) with
    | .ret d b' => ∀ v F' H' ws', Go (fun x => x = a) F H F' H' → Ex F' H' → H' a = some (.lst ws') → F' a = none → DpAll K F' ws' b' → Dp K F' v d → Q v H'
    | .exc c x b' => ∀ dd F' H' ws', Go (fun x => x = a) F H F' H' → Ex F' H' → H' a = some (.lst ws') → F' a = none → DpAll K F' ws' b' → XAt K F' H' dd x → ∀ C, mg c = some (.ref C) → E (.ref C) (some dd) H'
    | .stuck => False))
def blts : List Str := ["len", "sum", "all", "any", "abs", "min", "max", "tuple", "list", "int", "bool", "str", "isinstance", "range", "enumerate", "zip", "sorted", "set", "dict", "reversed"]
structure Cok (Φ : Fns) (Γ : Gam) (S : Sc) (m : Nat) (W : WX) (X : Cx) : Prop where
  hN : X.N = Γ.N
  nd : Γ.N.Nodup
  hsc : X.env.scope = S.sc
  hfn : X.fn = S.fn
  calm : X.calm = true
  room : Room m X.A
  tk : Takes X W
  con : ∀ x d, Γ.con.lookup x = some d → ∃ u v, X.mg x = some u ∧ RelV v u ∧ Dp X.K (fun _ => none) v d
  fn : ∀ f fs, Φ f = some fs → ∃ fa fd ps, X.mg f = some (.ref fa) ∧ PySem.W.keepIn X.K (.ref fa) = true ∧ Binds X.K fd ps [] ∧ FnOk X.prog X.w X.K X.mg X.base (L2.CX X.prog X.w) m fa fd ps (spF X.K X.mg fs)
  blt : ∀ x ∈ blts, X.mg x = none
abbrev W0 : WX := fun _ _ _ _ => False
section
variable {Φ : Fns} {Γ : Gam} {S : Sc} {m : Nat} {W : WX} {X : Cx}
theorem Cok.blk (C : Cok Φ Γ S m W X) (scope : Scope) (s : Shared) (H : Hp) (A : Addr) (cl : List (Str × Addr)) (fp : List Addr) : Cok Φ Γ (blkS S scope) m W0 (X.blk s H scope (compEnvC scope cl A X.env) fp) :=
  ⟨C.hN, C.nd, by show relS scope X.env.scope = _; rw [C.hsc]; rfl, rfl, C.calm, C.room, takes0, C.con, C.fn, C.blt⟩
theorem Cok.ix (C : Cok Φ Γ S m W X) {i : Nat} {x : Str} (h : Γ.N[i]? = some x) : X.N[i]? = some x := by rw [C.hN]; exact h
theorem Cok.vis (C : Cok Φ Γ S m W X) {x : Str} (h : visB S.sc x = true) : Vis X.env.scope x := by rw [C.hsc]; exact visB_of h
theorem Cok.gl (C : Cok Φ Γ S m W X) {x : Str} (h : glB S.sc x = true) : Gl X x := by
  show X.env.scope.names.lookup x = _
  rw [C.hsc]
  unfold glB at h
  split at h
  · assumption
  · cases h
theorem Cok.loc (C : Cok Φ Γ S m W X) {x : Str} (h : locB S x = true) : L2.Loc X.env.scope x ∧ (X.fn x = true ∨ X.env.scope.names.lookup x = some .local) := by
  unfold locB at h
  unfold L2.Loc
  rw [C.hsc, C.hfn]
  split at h
  · rename_i e; exact ⟨.inl e, .inr e⟩
  · rename_i e; exact ⟨.inr e, .inl h⟩
  · cases h
theorem Cok.hu (C : Cok Φ Γ S m W X) : X.A.units + 64 < cLine := C.room.units
theorem pe_imp {e : Expr} {t t' : TE} (h : PE X e t) (hi : ∀ σ H Q, t' σ H Q → t σ H Q) : PE X e t' := ⟨fun pins s σ H Q I q => h.run pins s σ H Q I (hi σ H Q q)⟩
theorem pt_imp {e : Expr} {t t' : TT} (h : PT X e t) (hi : ∀ σ H Q, t' σ H Q → t σ H Q) : PT X e t' := ⟨fun pins s σ H Q I q => h.run pins s σ H Q I (hi σ H Q q)⟩
theorem pw_imp {e : Expr} {t t' : TT} (h : PW X e t) (hi : ∀ σ H Q, t' σ H Q → t σ H Q) : PW X e t' := ⟨fun wh pins s σ H Q I q => h.run wh pins s σ H Q I (hi σ H Q q)⟩
theorem pa_imp {e : List Expr} {t t' : TA} (h : PA X e t) (hi : ∀ σ H Q, t' σ H Q → t σ H Q) : PA X e t' := ⟨fun pos pins s σ H Q I q => h.run pos pins s σ H Q I (hi σ H Q q)⟩
theorem pi_imp {tg e : Expr} {t t' : TI} (h : PI X tg e t) (hi : ∀ σ H Q, t' σ H Q → t σ H Q) : PI X tg e t' := ⟨fun pins s σ H Q I q => h.run pins s σ H Q I (hi σ H Q q)⟩
theorem po_imp {e : Option Expr} {t t' : TO} (h : PO X e t) (hi : ∀ σ H Q, t' σ H Q → t σ H Q) : PO X e t' := ⟨fun pins s σ H Q I q => h.run pins s σ H Q I (hi σ H Q q)⟩
theorem pts_imp {e : List Expr} {t t' : TT} (h : PTs X e t) (hi : ∀ σ H Q, t' σ H Q → t σ H Q) : PTs X e t' := ⟨fun pins s σ H Q I q => h.run pins s σ H Q I (hi σ H Q q)⟩
end
section
variable {K : Frag} {mg : Str → Option Value} {W : WX} {σ : L2.St} {F H : Hp} {env : SEnv}
theorem one {γ δ : Type} {Rel : Hp → Hp → SEnv → γ → δ → Prop} {A : SEnv → Rs Vw} {k : Vw → SEnv → Rs γ} {Q : δ → Hp → Prop} (s : Sim K F H σ env) (h : Post K mg W σ Rel F H env ((A env).bind k) Q) :
    tE K mg W A σ H (fun v1 H1 => ∃ x env1 F1, Go (O σ env) F H F1 H1 ∧ Own σ env env1 ∧ Sim K F1 H1 σ env1 ∧ RE K σ H F1 H1 env1 x v1 ∧ Post K mg W σ Rel F1 H1 env1 (k x env1) Q) :=
  ⟨F, env, s, Post.bind (Rel1 := RE K σ H) h⟩
theorem two {γ δ : Type} {Rel : Hp → Hp → SEnv → γ → δ → Prop} {A B : SEnv → Rs Vw} {k : Vw → Vw → SEnv → Rs γ} {Q : δ → Hp → Prop} (s : Sim K F H σ env)
    (h : Post K mg W σ Rel F H env ((A env).bind fun x e1 => (B e1).bind fun y e2 => k x y e2) Q) :
    tE K mg W A σ H (fun v1 H1 => tE K mg W B σ H1 (fun v2 H2 => ∃ x y env2 F2, Go (O σ env) F H F2 H2 ∧ Own σ env env2 ∧ Sim K F2 H2 σ env2 ∧ RE K σ H F2 H2 env2 x v1 ∧ RE K σ H F2 H2 env2 y v2 ∧ Post K mg W σ Rel F2 H2 env2 (k x y env2) Q)) := by
  refine ⟨F, env, s, (Post.bind (Rel1 := RE K σ H) h).imp ?_⟩
  rintro v1 H1 ⟨x, env1, F1, g1, o1, s1, r1, h1⟩
  refine ⟨F1, env1, s1, (Post.bind (Rel1 := RE K σ H1) h1).imp ?_⟩
  rintro v2 H2 ⟨y, env2, F2, g2, o2, s2, r2, h2⟩
  exact ⟨x, y, env2, F2, g1.trans g2 (fun a z => .inl (o1 a z)), fun a z => o1 a (o2 a z), s2, RE.go s1 s2 g2 o2 r1, RE.early g1 r2, h2⟩
/-- an operation that ends an evaluation -/
theorem post_rn {w : Vw} {H0 : Hp} {Q : VK} (s : Sim K F H σ env) (h : Post K mg W σ (RE K σ H0) F H env (.ok w env) Q) (h0 : ∀ a, H a = none → H0 a = none) : RN K F H w Q := fun v F' H' g sub r =>
  let ⟨g', s'⟩ := fin s g sub
  h v F' H' g' (fun _ z => z) s' (VwN.vw s g r h0)
theorem post_now {w : Vw} {v : V} {H0 : Hp} {Q : VK} (s : Sim K F H σ env) (h : Post K mg W σ (RE K σ H0) F H env (.ok w env) Q) (r : RE K σ H0 F H env w v) : Q v H := h v F H (Go.refl _ _ _) (fun _ z => z) s r
theorem post_it {α : Type} {a : α} {Q : α → Hp → Prop} {H0 : Hp} (s : Sim K F H σ env) (h : Post K mg W σ (RI σ H0) F H env (.ok a env) Q) : Q a H := h a F H (Go.refl _ _ _) (fun _ z => z) s rfl
theorem noK {d : D} {v : V} (h : Dp K (fun _ => none) v d) : Dp K F v d := dp_ex (fun _ _ (z : (none : Option HO) = some _) => by cases z) _ _ h
end
section
variable {Φ : Fns} {Γ : Gam} {S : Sc} {m : Nat} {W : WX} {X : Cx}
abbrev TE' (X : Cx) (W : WX) (ev : SEnv → Rs Vw) : TE := tE X.K X.mg W ev

/-! ### names and constants -/
theorem p_now {v : V} {d : D} {x : Expr} (h : PE X x (tC v)) (r : ∀ F, Dp X.K F v d) : PE X x (TE' X W fun env => .ok (.now d) env) := by
  refine pe_imp h fun σ H Q q => ?_
  obtain ⟨F, env, s, q⟩ := q
  exact post_now (H0 := H) s q (r F)
theorem p_k {d : D} {x : Expr} (hc : chkE Γ S (.k d) x = true) : PE X x (TE' X W (evE Φ (.k d))) := by
  show PE X x (TE' X W fun env => .ok (.now d) env)
  unfold chkE at hc
  split at hc
  · rename_i c j pos
    unfold constOk at hc
    split at hc
    · exact p_now pe_non fun F => .non
    · have := eq_of_beq hc; subst this; exact p_now pe_bl fun F => .bl _
    · have := eq_of_beq hc; subst this; exact p_now pe_int fun F => .int _
    · have := eq_of_beq hc; subst this; exact p_now pe_str fun F => .str _
    · cases hc
  · cases hc
theorem p_v (C : Cok Φ Γ S m W X) {i : Nat} {x : Expr} (hc : chkE Γ S (.v i) x = true) : PE X x (TE' X W (evE Φ (.v i))) := by
  unfold chkE at hc
  split at hc
  · rename_i n pos
    simp only [Bool.and_eq_true, decide_eq_true_eq] at hc
    obtain ⟨o1, o2, o3⟩ := okName_of hc.2
    refine pe_imp (pe_var (C.ix hc.1.1) (C.vis hc.1.2) o1 o2) fun σ H Q ⟨F, env, s, q⟩ => ?_
    unfold evE at q
    cases e : env[i]? with
    | none => rw [e] at q; exact q.elim
    | some sl =>
      rw [e] at q
      have hl := (List.getElem?_eq_some_iff.mp e).1
      cases sl with
      | no => exact q.elim
      | sh d =>
        obtain ⟨v, h1, h2⟩ := s.sh i d e
        exact ⟨v, h1, post_now (H0 := H) s q h2⟩
      | own ds =>
        obtain ⟨a, vs, h1, _⟩ := s.own i ds (.inl e)
        exact ⟨_, h1, post_now (H0 := H) (w := .late i) s q ⟨h1, hl⟩⟩
      | bor ds =>
        obtain ⟨a, vs, h1, _⟩ := s.own i ds (.inr e)
        exact ⟨_, h1, post_now (H0 := H) (w := .late i) s q ⟨h1, hl⟩⟩
  · cases hc
theorem p_g (C : Cok Φ Γ S m W X) {n : Str} {d : D} {x : Expr} (hc : chkE Γ S (.g n d) x = true) : PE X x (TE' X W (evE Φ (.g n d))) := by
  unfold chkE at hc
  split at hc
  · rename_i y pos
    simp only [Bool.and_eq_true] at hc
    obtain ⟨⟨⟨h1, h2⟩, h3⟩, h4⟩ := hc
    obtain ⟨o1, o2, o3⟩ := okName_of h3
    split at h4
    · rename_i d' e
      have := sameD_eq _ _ h4
      subst this
      obtain ⟨u, v, q1, q2, q3⟩ := C.con _ _ e
      exact p_now (pe_glob (C.gl h2) q1 q2 o1) fun F => noK q3
    · cases h4
  · cases hc

/-! ### operators -/
theorem p_bin (C : Cok Φ Γ S m W X) {op : Operator} {a b : IE} {xa xb : Expr} {pos : Pos} (ha : PE X xa (TE' X W (evE Φ a))) (hb : PE X xb (TE' X W (evE Φ b))) : PE X (.BinOp xa op xb pos) (TE' X W (evE Φ (.bin op a b))) := by
  refine pe_imp (pe_op (opBin op) ha hb) fun σ H Q ⟨F, env, s, q⟩ => ?_
  obtain ⟨F1, env1, s1, q1⟩ := two s q
  refine ⟨F1, env1, s1, q1.imp fun v1 H1 ⟨F2, env2, s2, q2⟩ => ⟨F2, env2, s2, q2.imp ?_⟩⟩
  rintro v2 H2 ⟨x, y, env2, F2, g, o, s2, r1, r2, p⟩
  cases e1 : look env2 x with
  | none => rw [e1] at p; exact p.elim
  | some d =>
    cases e2 : look env2 y with
    | none => rw [e1, e2] at p; exact p.elim
    | some d' =>
      rw [e1, e2] at p
      have p : Post X.K X.mg W σ (RE X.K σ H) F2 H2 env2 (Rs.opt (binD op d d') env2) Q := p
      cases e3 : binD op d d' with
      | none => rw [e3] at p; exact p.elim
      | some w =>
        rw [e3] at p
        exact ⟨F2, d, d', w, s2.sub, look_vr s2 r1 e1, look_vr s2 r2 e2, e3, post_rn s2 p fun a z => g.fresh z⟩
theorem p_neg (C : Cok Φ Γ S m W X) {a : IE} {xa : Expr} {pos : Pos} (ha : PE X xa (TE' X W (evE Φ a))) : PE X (.UnaryOp .USub xa pos) (TE' X W (evE Φ (.neg a))) := by
  refine pe_imp (pe_un unNeg ha) fun σ H Q ⟨F, env, s, q⟩ => ?_
  obtain ⟨F1, env1, s1, q1⟩ := one s q
  refine ⟨F1, env1, s1, q1.imp ?_⟩
  rintro v1 H1 ⟨x, env2, F2, g, o, s2, r1, p⟩
  cases e1 : look env2 x with
  | none => rw [e1] at p; exact p.elim
  | some d =>
    rw [e1] at p
    cases d with
    | int i => exact ⟨F2, i, look_vr s2 r1 e1, post_now s2 p (.int _)⟩
    | _ => exact p.elim
theorem cmp_end {op : CmpOp} {σ : L2.St} {H0 F H : Hp} {env : SEnv} {x y : Vw} {v1 v2 : V} {Q : VK} (s : Sim X.K F H σ env) (r1 : RE X.K σ H0 F H env x v1) (r2 : RE X.K σ H0 F H env y v2)
    (p : Post X.K X.mg W σ (RE X.K σ H0) F H env (match look env x, look env y with
      | some d, some d' => .opt ((cmpD op d d').map fun b => .now (.bool b)) env
      | _, _ => .stuck) Q) : rCmp X.K op v1 v2 H Q := by
  cases e1 : look env x with
  | none => rw [e1] at p; exact p.elim
  | some d =>
    cases e2 : look env y with
    | none => rw [e1, e2] at p; exact p.elim
    | some d' =>
      rw [e1, e2] at p
      have p : Post X.K X.mg W σ (RE X.K σ H0) F H env (Rs.opt ((cmpD op d d').map fun b => .now (.bool b)) env) Q := p
      cases e3 : cmpD op d d' with
      | none => rw [e3] at p; exact p.elim
      | some b =>
        rw [e3] at p
        exact ⟨F, d, d', b, s.sub, look_vr s r1 e1, look_vr s r2 e2, e3, post_now s p (.bl _)⟩
theorem cmp_two {op : CmpOp} {a b : IE} {σ : L2.St} {H : Hp} {Q : VK} (q : TE' X W (evE Φ (.cmp op a b)) σ H Q) : tOp (rCmp X.K op) (TE' X W (evE Φ a)) (TE' X W (evE Φ b)) σ H Q := by
  obtain ⟨F, env, s, q⟩ := q
  obtain ⟨F1, env1, s1, q1⟩ := two s q
  refine ⟨F1, env1, s1, q1.imp fun v1 H1 ⟨F2, env2, s2, q2⟩ => ⟨F2, env2, s2, q2.imp ?_⟩⟩
  rintro v2 H2 ⟨x, y, env2, F2, g, o, s2, r1, r2, p⟩
  exact cmp_end s2 r1 r2 p
theorem p_cmp (C : Cok Φ Γ S m W X) {op : CmpOp} {a b : IE} {xa xb : Expr} {pos : Pos} (hs : notSet xb = true) (ha : PE X xa (TE' X W (evE Φ a))) (hb : PE X xb (TE' X W (evE Φ b))) : PE X (.Compare xa [op] [xb] pos) (TE' X W (evE Φ (.cmp op a b))) :=
  pe_imp (pe_cmpR (opCmp C.hu op) ha hb (marks_of op hs)) fun σ H Q q => cmp_two q
theorem evT_of {e : IE} {σ : L2.St} {H : Hp} {Q : Bool → Hp → Prop} (q : tB' X.K X.mg W (evT Φ e) σ H Q) : TE' X W (evE Φ e) σ H (fun v H' => ∃ k, TruV X.K v H' k ∧ Q k H') := by
  obtain ⟨F, env, s, q⟩ := q
  obtain ⟨F1, env1, s1, q1⟩ := one s q
  refine ⟨F1, env1, s1, q1.imp ?_⟩
  rintro v1 H1 ⟨x, env2, F2, g, o, s2, r1, p⟩
  cases e1 : look env2 x with
  | none =>
    have : truR env2 x = none := by unfold truR; rw [e1]; rfl
    rw [this] at p
    exact p.elim
  | some d =>
    cases e2 : truD d with
    | none =>
      have : truR env2 x = none := by unfold truR; rw [e1]; exact e2
      rw [this] at p
      exact p.elim
    | some b =>
      have : truR env2 x = some b := by unfold truR; rw [e1]; exact e2
      rw [this] at p
      exact ⟨b, tru_of s2.sub (look_vr s2 r1 e1) e2, post_it s2 p⟩
/-- a test whose text isTrue takes by the value -/
theorem t_plain {e : IE} {x : Expr} (hp : plainB x = true) (h : PE X x (TE' X W (evE Φ e))) : PT X x (tB' X.K X.mg W (evT Φ e)) :=
  pt_imp (pt_truth h (plain_of hp)) fun σ H Q q => evT_of q
theorem t_cmp (C : Cok Φ Γ S m W X) {op : CmpOp} {a b : IE} {xa xb : Expr} {pos : Pos} (hs : notSet xb = true) (ha : PE X xa (TE' X W (evE Φ a))) (hb : PE X xb (TE' X W (evE Φ b))) : PT X (.Compare xa [op] [xb] pos) (tB' X.K X.mg W (evT Φ (.cmp op a b))) := by
  refine pt_imp (pt_cmpR (opCmp C.hu op) ha hb (marks_of op hs)) fun σ H Q q => ?_
  obtain ⟨F, env, s, q⟩ := evT_of q
  obtain ⟨F1, env1, s1, q1⟩ := two s q
  refine ⟨F1, env1, s1, q1.imp fun v1 H1 ⟨F2, env2, s2, q2⟩ => ⟨F2, env2, s2, q2.imp ?_⟩⟩
  rintro v2 H2 ⟨x, y, env2, F2, g, o, s2, r1, r2, p⟩
  obtain ⟨F3, d, d', b, h1, h2, h3, h4, k, h5, h6⟩ := cmp_end s2 r1 r2 p
  have h5 : k = b := h5
  subst h5
  exact ⟨F3, d, d', k, h1, h2, h3, h4, k, rfl, h6⟩
theorem last_of {op op' : CmpOp} {b c : Expr} (h : notSet c = true) : lastMarks [op, op'] [b, c] = false := by
  show behindInMarks op' c = false
  exact marks_of op' h
theorem cmp2_two {o o' : CmpOp} {a b c : IE} {σ : L2.St} {H : Hp} {Q Q' : VK} (hQ : ∀ k H, Q (.bl k) H → Q' (.bl k) H) (q : TE' X W (evE Φ (.cmp2 o o' a b c)) σ H Q) : tChain (rCmp X.K o) (rCmp X.K o') (TE' X W (evE Φ a)) (TE' X W (evE Φ b)) (TE' X W (evE Φ c)) σ H Q' := by
  obtain ⟨F, env, s, q⟩ := q
  obtain ⟨F1, env1, s1, q1⟩ := two s q
  refine ⟨F1, env1, s1, q1.imp fun v1 H1 ⟨F2, env2, s2, q2⟩ => ⟨F2, env2, s2, q2.imp ?_⟩⟩
  rintro v2 H2 ⟨x, y, env2, F2, g, ow, s2, r1, r2, p⟩
  cases e1 : look env2 x with
  | none => rw [e1] at p; exact p.elim
  | some d =>
    cases e2 : look env2 y with
    | none => rw [e1, e2] at p; exact p.elim
    | some d' =>
      rw [e1, e2] at p
      cases e3 : cmpD o d d' with
      | none =>
        simp only [e3] at p
        exact p.elim
      | some b' =>
        refine ⟨F2, d, d', b', s2.sub, look_vr s2 r1 e1, look_vr s2 r2 e2, e3, b', rfl, ?_⟩
        cases b' with
        | false =>
          simp only [e3] at p
          exact hQ _ _ (post_now (w := .now (.bool false)) s2 p (.bl _))
        | true =>
          simp only [e3] at p
          show TE' X W (evE Φ c) σ H2 _
          obtain ⟨F3, env3, s3, q3⟩ := one s2 p
          refine ⟨F3, env3, s3, q3.imp ?_⟩
          rintro v3 H3 ⟨z, env4, F4, g4, o4, s4, r4, p4⟩
          obtain ⟨F5, d5, d6, b5, h1, h2, h3, h4, h5⟩ := cmp_end s4 (RE.go s2 s4 g4 o4 r2) (RE.early g r4) p4
          exact ⟨F5, d5, d6, b5, h1, h2, h3, h4, hQ _ _ h5⟩
theorem p_cmp2 (C : Cok Φ Γ S m W X) {o o' : CmpOp} {a b c : IE} {xa xb xc : Expr} {pos : Pos} (hs : notSet xc = true) (ha : PE X xa (TE' X W (evE Φ a))) (hb : PE X xb (TE' X W (evE Φ b))) (hc : PE X xc (TE' X W (evE Φ c))) : PE X (.Compare xa [o, o'] [xb, xc] pos) (TE' X W (evE Φ (.cmp2 o o' a b c))) :=
  pe_imp (pe_chain (opCmp C.hu o) (opCmp C.hu o') ha hb hc (last_of hs)) fun σ H Q q => cmp2_two (fun _ _ z => z) q
theorem t_cmp2 (C : Cok Φ Γ S m W X) {o o' : CmpOp} {a b c : IE} {xa xb xc : Expr} {pos : Pos} (hs : notSet xc = true) (ha : PE X xa (TE' X W (evE Φ a))) (hb : PE X xb (TE' X W (evE Φ b))) (hc : PE X xc (TE' X W (evE Φ c))) : PT X (.Compare xa [o, o'] [xb, xc] pos) (tB' X.K X.mg W (evT Φ (.cmp2 o o' a b c))) := by
  refine pt_imp (pt_chain (opCmp C.hu o) (opCmp C.hu o') ha hb hc (last_of hs)) fun σ H Q q => ?_
  exact cmp2_two (fun k H' ⟨k', h5, h6⟩ => ⟨k, rfl, by have h5 : k' = k := h5; rw [← h5]; exact h6⟩) (evT_of q)

/-! ### and, or, not, a if t else b -/
theorem tru_case {σ : L2.St} {H0 F H : Hp} {env : SEnv} {x : Vw} {v : V} (s : Sim X.K F H σ env) (r : RE X.K σ H0 F H env x v) {b : Bool} (e : truR env x = some b) : TruV X.K v H b := by
  unfold truR at e
  cases e1 : look env x with
  | none => rw [e1] at e; cases e
  | some d => rw [e1] at e; exact tru_of s.sub (look_vr s r e1) e
theorem bind_ok {α β : Type} {a : α} {e : SEnv} {f : α → SEnv → Rs β} : (Rs.ok a e).bind f = f a e := rfl
/-- one of two, by a bool -/
@[reducible] def sel {α : Type} (x y : α) : Bool → α
  | true => x
  | false => y
theorem if_T {b : Bool} {A B : Prop} (e : b = true) (h : A) : if b = true then A else B := by rw [if_pos e]; exact h
theorem if_F {b : Bool} {A B : Prop} (e : b = false) (h : B) : if b = true then A else B := by rw [if_neg (by rw [e]; exact Bool.false_ne_true)]; exact h
theorem p_and {a b : IE} {xa xb : Expr} {xr : List Expr} {pos : Pos} (ha : PE X xa (TE' X W (evE Φ a))) (hb : PE X (.BoolOp .And (xb :: xr) pos) (TE' X W (evE Φ b))) : PE X (.BoolOp .And (xa :: xb :: xr) pos) (TE' X W (evE Φ (.and a b))) := by
  refine pe_imp (pe_andT ha hb) fun σ H Q q => ?_
  obtain ⟨F, env, s, q⟩ := q
  obtain ⟨F1, env1, s1, q1⟩ := one s q
  refine ⟨F1, env1, s1, q1.imp ?_⟩
  rintro v1 H1 ⟨x, env2, F2, g, o, s2, r1, p⟩
  cases e : truR env2 x with
  | none => rw [e] at p; exact p.elim
  | some c =>
    refine ⟨c, tru_case s2 r1 e, ?_⟩
    rw [e] at p
    cases c with
    | true => exact if_T rfl ⟨F2, env2, s2, p.rel fun _ _ _ _ _ z => RE.early g z⟩
    | false => exact if_F rfl (post_now s2 p r1)
theorem p_or {a b : IE} {xa xb : Expr} {xr : List Expr} {pos : Pos} (ha : PE X xa (TE' X W (evE Φ a))) (hb : PE X (.BoolOp .Or (xb :: xr) pos) (TE' X W (evE Φ b))) : PE X (.BoolOp .Or (xa :: xb :: xr) pos) (TE' X W (evE Φ (.or a b))) := by
  refine pe_imp (pe_orT ha hb) fun σ H Q q => ?_
  obtain ⟨F, env, s, q⟩ := q
  obtain ⟨F1, env1, s1, q1⟩ := one s q
  refine ⟨F1, env1, s1, q1.imp ?_⟩
  rintro v1 H1 ⟨x, env2, F2, g, o, s2, r1, p⟩
  cases e : truR env2 x with
  | none => rw [e] at p; exact p.elim
  | some c =>
    refine ⟨c, tru_case s2 r1 e, ?_⟩
    rw [e] at p
    cases c with
    | true => exact if_T rfl (post_now s2 p r1)
    | false => exact if_F rfl ⟨F2, env2, s2, p.rel fun _ _ _ _ _ z => RE.early g z⟩
theorem p_nt {a : IE} {xa : Expr} {pos : Pos} (ha : PE X xa (TE' X W (evE Φ a))) : PE X (.UnaryOp .Not xa pos) (TE' X W (evE Φ (.nt a))) := by
  refine pe_imp (pe_notT ha) fun σ H Q q => ?_
  obtain ⟨F, env, s, q⟩ := q
  obtain ⟨F1, env1, s1, q1⟩ := one s q
  refine ⟨F1, env1, s1, q1.imp ?_⟩
  rintro v1 H1 ⟨x, env2, F2, g, o, s2, r1, p⟩
  cases e : truR env2 x with
  | none => rw [e] at p; exact p.elim
  | some c =>
    rw [e] at p
    exact ⟨c, tru_case s2 r1 e, post_now s2 p (.bl _)⟩
/-- a test, then what hangs on it -/
theorem test_then {t : IE} {γ δ : Type} {Rel : Hp → Hp → SEnv → γ → δ → Prop} {k : Bool → SEnv → Rs γ} {σ : L2.St} {F H : Hp} {env : SEnv} {Q : δ → Hp → Prop} (s : Sim X.K F H σ env)
    (h : Post X.K X.mg W σ Rel F H env ((evE Φ t env).bind fun x e1 => match truR e1 x with
      | some true => k true e1
      | some false => k false e1
      | none => .stuck) Q) :
    tB' X.K X.mg W (evT Φ t) σ H (fun b H1 => ∃ env1 F1, Go (O σ env) F H F1 H1 ∧ Own σ env env1 ∧ Sim X.K F1 H1 σ env1 ∧ Post X.K X.mg W σ Rel F1 H1 env1 (k b env1) Q) := by
  have h' : Post X.K X.mg W σ Rel F H env ((evT Φ t env).bind k) Q := by
    have e : (evT Φ t env).bind k = ((evE Φ t env).bind fun x e1 => match truR e1 x with
      | some true => k true e1
      | some false => k false e1
      | none => .stuck) := by
      unfold evT
      cases evE Φ t env with
      | ok a e1 =>
        rw [bind_ok, bind_ok]
        cases truR e1 a with
        | none => rfl
        | some b => cases b <;> rfl
      | exc c x e1 => rfl
      | stuck => rfl
    rw [e]
    exact h
  refine ⟨F, env, s, (Post.bind (Rel1 := RI σ H) h').imp ?_⟩
  rintro b H1 ⟨a, env1, F1, g, o, s1, rfl, p⟩
  exact ⟨env1, F1, g, o, s1, p⟩
theorem p_ife {t a b : IE} {xt xa xb : Expr} {pos : Pos} (ht : PT X xt (tB' X.K X.mg W (evT Φ t))) (ha : PE X xa (TE' X W (evE Φ a))) (hb : PE X xb (TE' X W (evE Φ b))) : PE X (.IfExp xt xa xb pos) (TE' X W (evE Φ (.ife t a b))) := by
  refine pe_imp (pe_ifExp ht ha hb) fun σ H Q q => ?_
  obtain ⟨F, env, s, q⟩ := q
  have q : Post X.K X.mg W σ (RE X.K σ H) F H env ((evE Φ t env).bind fun x e1 => match truR e1 x with
      | some true => (fun (b' : Bool) e1 => sel (evE Φ a e1) (evE Φ b e1) b') true e1
      | some false => (fun (b' : Bool) e1 => sel (evE Φ a e1) (evE Φ b e1) b') false e1
      | none => .stuck) Q := q
  obtain ⟨F1, env1, s1, q1⟩ := test_then (k := fun (b' : Bool) e1 => sel (evE Φ a e1) (evE Φ b e1) b') s q
  refine ⟨F1, env1, s1, q1.imp ?_⟩
  rintro c H1 ⟨env2, F2, g, o, s2, p⟩
  cases c with
  | true => exact if_T rfl ⟨F2, env2, s2, p.rel fun _ _ _ _ _ z => RE.early g z⟩
  | false => exact if_F rfl ⟨F2, env2, s2, p.rel fun _ _ _ _ _ z => RE.early g z⟩
theorem t_ife {t a b : IE} {xt xa xb : Expr} {pos : Pos} (ht : PT X xt (tB' X.K X.mg W (evT Φ t))) (ha : PT X xa (tB' X.K X.mg W (evT Φ a))) (hb : PT X xb (tB' X.K X.mg W (evT Φ b))) : PT X (.IfExp xt xa xb pos) (tB' X.K X.mg W (evT Φ (.ife t a b))) := by
  refine ⟨fun pins s σ H Q I h => ?_⟩
  obtain ⟨F, env, sm, q⟩ := h
  have e : evT Φ (.ife t a b) env = ((evE Φ t env).bind fun x e1 => match truR e1 x with
      | some true => (fun (b' : Bool) e1 => sel (evT Φ a e1) (evT Φ b e1) b') true e1
      | some false => (fun (b' : Bool) e1 => sel (evT Φ a e1) (evT Φ b e1) b') false e1
      | none => .stuck) := by
    show ((evE Φ t env).bind _).bind _ = _
    cases evE Φ t env with
    | ok x e1 =>
      rw [bind_ok, bind_ok]
      cases truR e1 x with
      | none => rfl
      | some b' => cases b' <;> rfl
    | exc c x e1 => rfl
    | stuck => rfl
  rw [e] at q
  show wpAny _ _ (do if ← isTrue xt X.env (eval xt X.env) then isTrue xa X.env (eval xa X.env) else isTrue xb X.env (eval xb X.env)) _ _ _
  refine wpAny_bind (thn (ht.run pins s σ H _ I (test_then (k := fun (b' : Bool) e1 => sel (evT Φ a e1) (evT Φ b e1) b') sm q)) fun c s1 ⟨H1, I1, env2, F2, g, o, s2, p⟩ => ?_)
  cases c with
  | true => exact ha.run pins s1 σ H1 Q I1 ⟨F2, env2, s2, p⟩
  | false => exact hb.run pins s1 σ H1 Q I1 ⟨F2, env2, s2, p⟩
theorem evT_and {a b : IE} {env : SEnv} : evT Φ (.and a b) env = ((evE Φ a env).bind fun x e1 => match truR e1 x with
      | some true => (fun (b' : Bool) e1 => sel (evT Φ b e1) (.ok false e1) b') true e1
      | some false => (fun (b' : Bool) e1 => sel (evT Φ b e1) (.ok false e1) b') false e1
      | none => .stuck) := by
  show ((evE Φ a env).bind _).bind _ = _
  cases evE Φ a env with
  | ok x e1 =>
    rw [bind_ok, bind_ok]
    cases h : truR e1 x with
    | none => rfl
    | some b' =>
      cases b' with
      | true => rfl
      | false =>
        show Rs.opt (truR e1 x) e1 = _
        rw [h]
  | exc c x e1 => rfl
  | stuck => rfl
theorem evT_or {a b : IE} {env : SEnv} : evT Φ (.or a b) env = ((evE Φ a env).bind fun x e1 => match truR e1 x with
      | some true => (fun (b' : Bool) e1 => sel (.ok true e1) (evT Φ b e1) b') true e1
      | some false => (fun (b' : Bool) e1 => sel (.ok true e1) (evT Φ b e1) b') false e1
      | none => .stuck) := by
  show ((evE Φ a env).bind _).bind _ = _
  cases evE Φ a env with
  | ok x e1 =>
    rw [bind_ok, bind_ok]
    cases h : truR e1 x with
    | none => rfl
    | some b' =>
      cases b' with
      | false => rfl
      | true =>
        show Rs.opt (truR e1 x) e1 = _
        rw [h]
  | exc c x e1 => rfl
  | stuck => rfl
theorem evT_nt {a : IE} {env : SEnv} : evT Φ (.nt a) env = (evT Φ a env).bind fun b e1 => .ok (!b) e1 := by
  show ((evE Φ a env).bind _).bind _ = ((evE Φ a env).bind _).bind _
  cases evE Φ a env with
  | ok x e1 =>
    rw [bind_ok, bind_ok]
    cases truR e1 x with
    | none => rfl
    | some b' => rfl
  | exc c x e1 => rfl
  | stuck => rfl
theorem t_and {a b : IE} {xa xb : Expr} {xr : List Expr} {pos : Pos} (ha : PT X xa (tB' X.K X.mg W (evT Φ a))) (hb : PW X (.BoolOp .And (xb :: xr) pos) (tB' X.K X.mg W (evT Φ b))) : PW X (.BoolOp .And (xa :: xb :: xr) pos) (tB' X.K X.mg W (evT Φ (.and a b))) := by
  refine pw_imp (pw_and ha hb) fun σ H Q q => ?_
  obtain ⟨F, env, s, q⟩ := q
  rw [evT_and] at q
  obtain ⟨F1, env1, s1, q1⟩ := test_then (k := fun (b' : Bool) e1 => sel (evT Φ b e1) (.ok false e1) b') s q
  refine ⟨F1, env1, s1, q1.imp ?_⟩
  rintro c H1 ⟨env2, F2, g, o, s2, p⟩
  cases c with
  | true => exact if_T rfl ⟨F2, env2, s2, p⟩
  | false => exact if_F rfl (post_it (H0 := H) s2 p)
theorem t_or {a b : IE} {xa xb : Expr} {xr : List Expr} {pos : Pos} (ha : PT X xa (tB' X.K X.mg W (evT Φ a))) (hb : PW X (.BoolOp .Or (xb :: xr) pos) (tB' X.K X.mg W (evT Φ b))) : PW X (.BoolOp .Or (xa :: xb :: xr) pos) (tB' X.K X.mg W (evT Φ (.or a b))) := by
  refine pw_imp (pw_or ha hb) fun σ H Q q => ?_
  obtain ⟨F, env, s, q⟩ := q
  rw [evT_or] at q
  obtain ⟨F1, env1, s1, q1⟩ := test_then (k := fun (b' : Bool) e1 => sel (.ok true e1) (evT Φ b e1) b') s q
  refine ⟨F1, env1, s1, q1.imp ?_⟩
  rintro c H1 ⟨env2, F2, g, o, s2, p⟩
  cases c with
  | true => exact if_T rfl (post_it (H0 := H) s2 p)
  | false => exact if_F rfl ⟨F2, env2, s2, p⟩
theorem t_nt {a : IE} {xa : Expr} {pos : Pos} (ha : PT X xa (tB' X.K X.mg W (evT Φ a))) : PT X (.UnaryOp .Not xa pos) (tB' X.K X.mg W (evT Φ (.nt a))) := by
  refine pt_imp (pt_not ha) fun σ H Q q => ?_
  obtain ⟨F, env, s, q⟩ := q
  rw [evT_nt] at q
  refine ⟨F, env, s, (Post.bind (Rel1 := RI σ H) q).imp ?_⟩
  rintro b H1 ⟨a', env1, F1, g, o, s1, rfl, p⟩
  exact post_it (H0 := H) s1 p

/-! ### displays, subscripts, slices -/
theorem keep_end {σ : L2.St} {H0 F H : Hp} {env env' : SEnv} {ws : List Vw} {vs : List V} {ds : List D} (s : Sim X.K F H σ env) (r : REs X.K σ H0 F H env ws vs) (e : keepN env ws = some (ds, env')) :
    ∃ F', Go (fun a => O σ env a ∨ H0 a = none) F H F' H ∧ Own σ env env' ∧ Sim X.K F' H σ env' ∧ DpAll X.K F' vs ds := keepN_ok s r e fun a => ⟨fun z => .inr z, fun z => .inl z⟩
/-- an evaluation's end behind a step that froze lists just made -/
theorem Post.froze {α β : Type} {Rel : Hp → Hp → SEnv → α → β → Prop} {σ : L2.St} {F0 H0 F H F' : Hp} {env0 env env' : SEnv} {a : α} {Q : β → Hp → Prop} {K : Frag} {mg : Str → Option Value}
    (h : Post K mg W σ Rel F0 H0 env0 (.ok a env') Q) (g : Go (O σ env0) F0 H0 F H) (o : Own σ env0 env) (g' : Go (fun a => O σ env a ∨ H0 a = none) F H F' H) (o' : Own σ env env') :
    ∀ b F2 H2, Go (O σ env') F' H F2 H2 → Sim K F2 H2 σ env' → Rel F2 H2 env' a b → Q b H2 := fun b F2 H2 g2 s2 r =>
  h b F2 H2 ((g.trans g' fun x z => z.elim (fun z => .inl (o x z)) .inr).trans g2 fun x z => .inl (o x (o' x z))) (fun x z => o x (o' x z)) s2 r
end
end PyE

set_option Elab.async false
set_option linter.all false
set_option autoImplicit false
set_option maxRecDepth 100000
set_option maxHeartbeats 4000000
/-! # What the checker takes is run as the evaluator says: displays, calls, what is walked, comprehensions -/
namespace PyE
open PySem PySem.Spec PyProof.Rows L2
section
variable {Φ : Fns} {Γ : Gam} {S : Sc} {m : Nat} {W : WX} {X : Cx}
theorem a_nil : PA X [] (tEs X.K X.mg W (evEs Φ .nil)) := pa_imp pa_nil fun σ H Q q => by
  obtain ⟨F, env, s, q⟩ := q
  exact q [] F H (Go.refl _ _ _) (fun _ z => z) s trivial
theorem a_cons {e : IE} {es : IEs} {x : Expr} {xs : List Expr} (hs : notStar x = true) (he : PE X x (TE' X W (evE Φ e))) (hes : PA X xs (tEs X.K X.mg W (evEs Φ es))) : PA X (x :: xs) (tEs X.K X.mg W (evEs Φ (.cons e es))) := by
  refine pa_imp (pa_cons he hes (star_of hs)) fun σ H Q q => ?_
  obtain ⟨F, env, s, q⟩ := q
  obtain ⟨F1, env1, s1, q1⟩ := one s q
  refine ⟨F1, env1, s1, q1.imp ?_⟩
  rintro v H1 ⟨w, env2, F2, g, o, s2, r, p⟩
  refine ⟨F2, env2, s2, (Post.bind (Rel1 := REs X.K σ H1) p).imp ?_⟩
  rintro vs H2 ⟨ws, env3, F3, g3, o3, s3, r3, p3⟩
  refine p3 (v :: vs) F3 H2 (Go.refl _ _ _) (fun _ z => z) s3 ⟨RE.go s2 s3 g3 o3 r, fun a t z => ?_, REs.early g r3⟩
  refine REs.fresh ?_ r3
  cases w with
  | tmp ds =>
    obtain ⟨b, _, e, h1, _⟩ := r
    rw [z] at e
    cases e
    rw [h1]
    simp
  | now d => cases t
  | late i => cases t
/-- arguments, kept -/
theorem keep_all {es : IEs} {γ δ : Type} {Rel : Hp → Hp → SEnv → γ → δ → Prop} {k : List D → SEnv → Rs γ} {σ : L2.St} {F H : Hp} {env : SEnv} {Q : δ → Hp → Prop} (s : Sim X.K F H σ env)
    (h : Post X.K X.mg W σ Rel F H env ((evEs Φ es env).bind fun ws e1 => match keepN e1 ws with
      | some (ds, e2) => k ds e2
      | none => .stuck) Q) :
    tEs X.K X.mg W (evEs Φ es) σ H (fun vs H1 => ∃ ds env1 F1, Go (O σ env) F H F1 H1 ∧ Own σ env env1 ∧ Sim X.K F1 H1 σ env1 ∧ DpAll X.K F1 vs ds ∧ Post X.K X.mg W σ Rel F1 H1 env1 (k ds env1) Q) := by
  refine ⟨F, env, s, ?_⟩
  cases e0 : evEs Φ es env with
  | ok ws env1 =>
    rw [e0, bind_ok] at h
    intro vs F1 H1 g o s1 r
    cases e : keepN env1 ws with
    | none => rw [e] at h; exact h.elim
    | some q =>
      obtain ⟨ds, env2⟩ := q
      rw [e] at h
      have h : Post X.K X.mg W σ Rel F H env (k ds env2) Q := h
      obtain ⟨F2, g2, o2, s2, al⟩ := keep_end s1 r e
      have gg : Go (O σ env) F H F2 H1 := g.trans g2 fun x z => z.elim (fun z => .inl (o x z)) .inr
      exact ⟨ds, env2, F2, gg, fun x z => o x (o2 x z), s2, al, h.go gg fun x z => o x (o2 x z)⟩
  | exc c x env1 => rw [e0] at h; exact h
  | stuck => rw [e0] at h; exact h
/-- one value, kept -/
theorem keep_one {e : IE} {γ δ : Type} {Rel : Hp → Hp → SEnv → γ → δ → Prop} {k : D → SEnv → Rs γ} {σ : L2.St} {F H : Hp} {env : SEnv} {Q : δ → Hp → Prop} (s : Sim X.K F H σ env)
    (h : Post X.K X.mg W σ Rel F H env ((evE Φ e env).bind fun w e1 => match keepF e1 w with
      | some (d, e2) => k d e2
      | none => .stuck) Q) :
    TE' X W (evE Φ e) σ H (fun v H1 => ∃ d env1 F1, Go (O σ env) F H F1 H1 ∧ Own σ env env1 ∧ Sim X.K F1 H1 σ env1 ∧ Dp X.K F1 v d ∧ Post X.K X.mg W σ Rel F1 H1 env1 (k d env1) Q) := by
  refine ⟨F, env, s, ?_⟩
  cases e0 : evE Φ e env with
  | ok w env1 =>
    rw [e0, bind_ok] at h
    intro v F1 H1 g o s1 r
    cases e : keepF env1 w with
    | none => rw [e] at h; exact h.elim
    | some q =>
      obtain ⟨d, env2⟩ := q
      rw [e] at h
      have h : Post X.K X.mg W σ Rel F H env (k d env2) Q := h
      obtain ⟨F2, g2, o2, s2, al, _⟩ := keepF_ok (M := fun a => O σ env1 a ∨ H a = none) s1 r e fun a => ⟨fun z => .inr z, fun z => .inl z⟩
      have gg : Go (O σ env) F H F2 H1 := g.trans g2 fun x z => z.elim (fun z => .inl (o x z)) .inr
      exact ⟨d, env2, F2, gg, fun x z => o x (o2 x z), s2, al, h.go gg fun x z => o x (o2 x z)⟩
  | exc c x env1 => rw [e0] at h; exact h
  | stuck => rw [e0] at h; exact h
theorem p_tup {es : IEs} {xs : List Expr} {j : Nat} {pos : Pos} (h : PA X xs (tEs X.K X.mg W (evEs Φ es))) : PE X (.Tuple xs j pos) (TE' X W (evE Φ (.tup es))) := by
  refine pe_imp (pe_tup h) fun σ H Q q => ?_
  obtain ⟨F, env, s, q⟩ := q
  obtain ⟨F1, env1, s1, q1⟩ := keep_all (k := fun ds e2 => (if szOk ds.length then Rs.ok (Vw.now (.tuple ds)) e2 else .stuck : Rs Vw)) s q
  refine ⟨F1, env1, s1, q1.imp ?_⟩
  rintro vs H1 ⟨ds, env2, F2, g, o, s2, al, p⟩
  have hl := dpa_len al
  cases hz : szOk ds.length with
  | false => simp only [hz] at p; exact p.elim
  | true =>
    simp only [hz] at p
    exact ⟨by rw [hl]; exact szOk_le hz, fun a ha => (post_rn s2 p fun x z => g.fresh z).tup s2.sub al ha⟩
theorem p_lst {es : IEs} {xs : List Expr} {pos : Pos} (h : PA X xs (tEs X.K X.mg W (evEs Φ es))) : PE X (.List xs pos) (TE' X W (evE Φ (.lst es))) := by
  refine pe_imp (pe_lst h) fun σ H Q q => ?_
  obtain ⟨F, env, s, q⟩ := q
  obtain ⟨F1, env1, s1, q1⟩ := keep_all (k := fun ds e2 => (if szOk ds.length then Rs.ok (Vw.tmp ds) e2 else .stuck : Rs Vw)) s q
  refine ⟨F1, env1, s1, q1.imp ?_⟩
  rintro vs H1 ⟨ds, env2, F2, g, o, s2, al, p⟩
  have hl := dpa_len al
  cases hz : szOk ds.length with
  | false => simp only [hz] at p; exact p.elim
  | true =>
    simp only [hz] at p
    exact ⟨by rw [hl]; exact szOk_le hz, fun a ha => (post_rn s2 p fun x z => g.fresh z).lst s2.sub al ha⟩
theorem p_ix {a b : IE} {xa xb : Expr} {pos : Pos} (hs : notSlice xb = true) (ha : PE X xa (TE' X W (evE Φ a))) (hb : PE X xb (TE' X W (evE Φ b))) : PE X (.Subscript xa xb pos) (TE' X W (evE Φ (.ix a b))) := by
  refine pe_imp (pe_ix ixAll ha hb (plainIx_of hs)) fun σ H Q q => ?_
  obtain ⟨F, env, s, q⟩ := q
  obtain ⟨F1, env1, s1, q1⟩ := two s q
  refine ⟨F1, env1, s1, q1.imp fun v1 H1 ⟨F2, env2, s2, q2⟩ => ⟨F2, env2, s2, q2.imp ?_⟩⟩
  rintro v2 H2 ⟨x, y, env2, F2, g, o, s2, r1, r2, p⟩
  cases e1 : look env2 x with
  | none => rw [e1] at p; exact p.elim
  | some d =>
    cases e2 : look env2 y with
    | none => rw [e1, e2] at p; exact p.elim
    | some d' =>
      rw [e1, e2] at p
      have p : Post X.K X.mg W σ (RE X.K σ H) F2 H2 env2 (Rs.opt ((ixD d d').map .now) env2) Q := p
      cases e3 : ixD d d' with
      | none => rw [e3] at p; exact p.elim
      | some w =>
        rw [e3] at p
        exact ⟨F2, d, d', w, s2.sub, look_vr s2 r1 e1, look_vr s2 r2 e2, e3, fun v r => post_now (w := .now w) s2 p r⟩
theorem o_none : PO X none (tO X.K X.mg W (evO Φ .none)) := po_imp po_none fun σ H Q q => by
  obtain ⟨F, env, s, q⟩ := q
  exact post_it (H0 := H) s q
theorem o_some {e : IE} {x : Expr} (he : PE X x (TE' X W (evE Φ e))) : PO X (some x) (tO X.K X.mg W (evO Φ (.some e))) := by
  refine po_imp (po_some he) fun σ H Q q => ?_
  obtain ⟨F, env, s, q⟩ := q
  obtain ⟨F1, env1, s1, q1⟩ := one s q
  refine ⟨F1, env1, s1, q1.imp ?_⟩
  rintro v H1 ⟨w, env2, F2, g, o, s2, r, p⟩
  cases e1 : look env2 w with
  | none => rw [e1] at p; exact p.elim
  | some d =>
    rw [e1] at p
    cases d with
    | int i => exact ⟨i, (look_vr s2 r e1).int, post_it (H0 := H) s2 p⟩
    | _ => exact p.elim
theorem p_sl {a : IE} {lo hi : IO} {xa : Expr} {xl xh : Option Expr} {p2 pos : Pos} (ha : PE X xa (TE' X W (evE Φ a))) (hl : PO X xl (tO X.K X.mg W (evO Φ lo))) (hh : PO X xh (tO X.K X.mg W (evO Φ hi))) : PE X (.Subscript xa (.Slice xl xh none p2) pos) (TE' X W (evE Φ (.sl a lo hi))) := by
  refine pe_imp (pe_slice slAll ha hl hh) fun σ H Q q => ?_
  obtain ⟨F, env, s, q⟩ := q
  obtain ⟨F1, env1, s1, q1⟩ := one s q
  refine ⟨F1, env1, s1, q1.imp ?_⟩
  rintro v1 H1 ⟨x, env2, F2, g2, o2, s2, r1, p⟩
  refine ⟨F2, env2, s2, (Post.bind (Rel1 := RI σ H1) p).imp ?_⟩
  rintro l H2 ⟨l', env3, F3, g3, o3, s3, rfl, p⟩
  refine ⟨F3, env3, s3, (Post.bind (Rel1 := RI σ H2) p).imp ?_⟩
  rintro h H3 ⟨h', env4, F4, g4, o4, s4, rfl, p⟩
  have r1' := RE.go s3 s4 g4 o4 (RE.go s2 s3 g3 o3 r1)
  cases e1 : look env4 x with
  | none => rw [e1] at p; exact p.elim
  | some d =>
    rw [e1] at p
    have p : Post X.K X.mg W σ (RE X.K σ H) F4 H3 env4 (Rs.opt (slD d l' h') env4) Q := p
    cases e3 : slD d l' h' with
    | none => rw [e3] at p; exact p.elim
    | some w =>
      rw [e3] at p
      exact ⟨F4, d, w, s4.sub, look_vr s4 r1' e1, e3, post_rn s4 p fun a z => g2.fresh (g3.fresh (g4.fresh z))⟩

/-! ### calls -/
theorem pe_callS0 {k : Nat} {f : Addr} {fd : FuncData} {ps : List Str} {sp : Sp} {E : L2.St → XK} {CX : CXT} {x : Str} {p pos : Pos} (F : FnOk X.prog X.w X.K X.mg X.base CX k f fd ps sp) (hr : Room k X.A) (hg : Gl X x) (hm : X.mg x = some (.ref f)) (hk : PySem.W.keepIn X.K (.ref f) = true) (hb : Binds X.K fd ps []) (hx : ∀ σ, PassesAt CX X σ (E σ))
    (hdb : (x == ("__debug__" : Str)) = false) : PE X (.Call (.Name x p) [] [] pos) (tCallS sp E tNil) := by
  refine ⟨fun pins s σ H Q I h => ?_⟩
  refine wpAny_Call_Name_kw (ld_glob I hg hm ?_ hdb)
  exact PySem.W.callWith_K0 I.kIn hk (run_fnS (us := []) F hr hb (hx σ) I .nil h)
theorem pe_false {x : Expr} {t : TE} (h : ∀ σ H Q, ¬ t σ H Q) : PE X x t := ⟨fun _ _ σ H Q _ q => (h σ H Q q).elim⟩
/-- any call of a def of the text -/
theorem pe_callA {k : Nat} {f : Addr} {fd : FuncData} {ps : List Str} {sp : Sp} {E : L2.St → XK} {CX : CXT} {x : Str} {p pos : Pos} {xs : List Expr} {t : TA} (F : FnOk X.prog X.w X.K X.mg X.base CX k f fd ps sp) (hr : Room k X.A) (hg : Gl X x) (hm : X.mg x = some (.ref f)) (hk : PySem.W.keepIn X.K (.ref f) = true) (hb : Binds X.K fd ps []) (hx : ∀ σ, PassesAt CX X σ (E σ))
    (hdb : (x == ("__debug__" : Str)) = false) (ha : PA X xs t) (hs : ∀ e es, xs = e :: es → starEach (e :: es) X.env = (false, eval e X.env) :: starEach es X.env ∧ (backTo pos (starEach es X.env)).any (·.1) = false) (h0 : xs = [] → ∀ σ H Q, t σ H Q → Q [] H) :
    PE X (.Call (.Name x p) xs [] pos) (tCallS sp E t) := by
  cases xs with
  | nil => exact pe_imp (pe_callS0 F hr hg hm hk hb hx hdb) fun σ H Q q => h0 rfl σ H _ q
  | cons e es =>
    obtain ⟨h1, h2⟩ := hs e es rfl
    exact pe_callS F hr hg hm hk hb hx ha hdb h1 h2
theorem stars_of : ∀ {es : IEs} {xs : List Expr}, chkEs Γ S es xs = true → ∀ (pos : Pos) (env : Env) (e : Expr) (r : List Expr), xs = e :: r → starEach (e :: r) env = (false, eval e env) :: starEach r env ∧ (backTo pos (starEach r env)).any (·.1) = false
  | .nil, _, h, _, _, _, _, z => by subst z; simp [chkEs] at h
  | .cons ie es, _, h, pos, env, e, r, z => by
    subst z
    simp only [chkEs, Bool.and_eq_true] at h
    exact ⟨star_of h.1.1, noStars h.2 pos env⟩
theorem p_call (C : Cok Φ Γ S m W X) {f : Str} {es : IEs} {xs : List Expr} {p pos : Pos} (hc : chkEs Γ S es xs = true) (hg : glB S.sc f = true) (ho : okName f = true) (h : PA X xs (tEs X.K X.mg W (evEs Φ es))) :
    PE X (.Call (.Name f p) xs [] pos) (TE' X W (evE Φ (.call f es))) := by
  obtain ⟨o1, o2, o3⟩ := okName_of ho
  cases hΦ : Φ f with
  | none =>
    refine pe_false fun σ H Q q => ?_
    obtain ⟨F, env, s, q⟩ := q
    unfold evE at q
    rw [hΦ] at q
    exact q
  | some fs =>
    obtain ⟨fa, fd, ps, h1, h2, h3, h4⟩ := C.fn f fs hΦ
    refine pe_imp (pe_callA (E := WE W) h4 C.room (C.gl hg) h1 h2 h3 (fun σ => passAt C.tk σ) o1 h (fun e es' z => stars_of hc pos X.env e es' z) (fun z σ H Q q => ?_)) fun σ H Q q => ?_
    · subst z
      cases es with
      | cons _ _ => simp [chkEs] at hc
      | nil =>
        obtain ⟨F, env, s, q⟩ := q
        exact q [] F H (Go.refl _ _ _) (fun _ z => z) s trivial
    · obtain ⟨F, env, s, q⟩ := q
      have q : Post X.K X.mg W σ (RE X.K σ H) F H env ((evEs Φ es env).bind fun ws e1 => match keepN e1 ws with
        | some (ds, e2) => callK fs ds e2
        | none => .stuck) Q := by
        unfold evE at q
        rw [hΦ] at q
        exact q
      obtain ⟨F1, env1, s1, q1⟩ := keep_all (k := callK fs) s q
      refine ⟨F1, env1, s1, q1.imp ?_⟩
      rintro vs H1 ⟨ds, env2, F2, g, o, s2, al, p⟩
      unfold callK at p
      cases hb : (!fs.bor && ds.length == fs.arity) with
      | false => simp only [hb] at p; exact p.elim
      | true =>
        simp only [hb, if_true] at p
        rw [Bool.and_eq_true] at hb
        have hb1 : fs.bor = false := by simpa using hb.1
        have hb2 : ds.length = fs.arity := by simpa using hb.2
        refine ⟨(dpa_len al).trans hb2, .inl ⟨hb1, F2, ds, s2.sub, al, ?_⟩⟩
        cases hrun : fs.run ds with
        | stuck => rw [hrun] at p; exact p.elim
        | ret d b =>
          rw [hrun] at p
          intro v F' H' g' sub dp
          obtain ⟨g2, s3⟩ := fin s2 g' sub
          exact p v F' H' g2 (fun _ z => z) s3 dp
        | exc c x b =>
          rw [hrun] at p
          intro dd F' H' g' sub xa Ca hCa
          obtain ⟨g2, s3⟩ := fin s2 g' sub
          exact p dd F' H' g2 (fun _ z => z) s3 xa Ca hCa
theorem p_callb (C : Cok Φ Γ S m W X) {f : Str} {i : Nat} {es : IEs} {y : Str} {xs : List Expr} {p py pos : Pos} (hc : chkEs Γ S es xs = true) (hg : glB S.sc f = true) (ho : okName f = true) (hi : Γ.N[i]? = some y) (hv : visB S.sc y = true) (hy : okName y = true) (h : PA X xs (tEs X.K X.mg W (evEs Φ es))) :
    PE X (.Call (.Name f p) (.Name y py :: xs) [] pos) (TE' X W (evE Φ (.callb f i es))) := by
  obtain ⟨o1, o2, o3⟩ := okName_of ho
  obtain ⟨y1, y2, y3⟩ := okName_of hy
  cases hΦ : Φ f with
  | none =>
    refine pe_false fun σ H Q q => ?_
    obtain ⟨F, env, s, q⟩ := q
    unfold evE at q
    rw [hΦ] at q
    exact q
  | some fs =>
    obtain ⟨fa, fd, ps, h1, h2, h3, h4⟩ := C.fn f fs hΦ
    have hvar : PE X (.Name y py) (tVar i) := pe_var (C.ix hi) (C.vis hv) y1 y2
    refine pe_imp (pe_callA (E := WE W) h4 C.room (C.gl hg) h1 h2 h3 (fun σ => passAt C.tk σ) o1 (pa_cons hvar h rfl) (fun e es' z => by
      cases z
      exact ⟨rfl, noStars hc pos X.env⟩) (fun z => by cases z)) fun σ H Q q => ?_
    obtain ⟨F, env, s, q⟩ := q
    have q : Post X.K X.mg W σ (RE X.K σ H) F H env (match some fs, isMine env i with
      | some fs, true => (evEs Φ es env).bind fun ws e1 => match keepN e1 ws with
        | some (ds, e2) => callbK fs i ds e2
        | none => .stuck
      | _, _ => .stuck) Q := by
      unfold evE at q
      rw [hΦ] at q
      exact q
    cases hm : isMine env i with
    | false => rw [hm] at q; exact q.elim
    | true =>
      rw [hm] at q
      have q : Post X.K X.mg W σ (RE X.K σ H) F H env ((evEs Φ es env).bind fun ws e1 => match keepN e1 ws with
        | some (ds, e2) => callbK fs i ds e2
        | none => .stuck) Q := q
      have hM : ∃ bs, Mine env i bs := by
        unfold isMine at hm
        split at hm
        · rename_i bs e; exact ⟨bs, .inl e⟩
        · rename_i bs e; exact ⟨bs, .inr e⟩
        · cases hm
      obtain ⟨bs0, hM⟩ := hM
      obtain ⟨a, vs0, ha, _⟩ := s.own i bs0 hM
      refine ⟨.ref a, ha, ?_⟩
      obtain ⟨F1, env1, s1, q1⟩ := keep_all (k := callbK fs i) s q
      refine ⟨F1, env1, s1, q1.imp ?_⟩
      rintro vs H1 ⟨ds, env2, F2, g, o, s2, al, p⟩
      unfold callbK at p
      cases hb : (fs.bor && ds.length + 1 == fs.arity) with
      | false => simp only [hb] at p; exact p.elim
      | true =>
        simp only [hb, if_true] at p
        rw [Bool.and_eq_true] at hb
        have hb2 : ds.length + 1 = fs.arity := by simpa using hb.2
        have main : ∀ (bs : List D) (mk : List D → Sl), (∀ es fs', (mk es = .own fs' ∨ mk es = .bor fs') → fs' = es) → ((env2[i]? = some (.own bs) ∧ mk = Sl.own) ∨ (env2[i]? = some (.bor bs) ∧ mk = Sl.bor)) →
            Post X.K X.mg W σ (RE X.K σ H) F2 H1 env2 (match fs.run (.list bs :: ds) with
              | .ret d b => .ok (.now d) (env2.set i (mk b))
              | .exc c x b => .exc c x (env2.set i (mk b))
              | .stuck => .stuck) Q → spF X.K X.mg fs (.ref a :: vs) H1 Q (WE W σ) := by
          intro bs mk hmk hsl p
          have hM2 : Mine env2 i bs := hsl.elim (fun z => .inl z.1) fun z => .inr z.1
          obtain ⟨a', ws, e1, e2, e3, e4⟩ := s2.own i bs hM2
          rw [ha] at e1
          cases e1
          have hO : O σ env2 a := ⟨i, bs, hM2, ha⟩
          refine ⟨by rw [List.length_cons, dpa_len al]; exact hb2, .inr ⟨hb.1, F2, a, vs, ws, bs, ds, rfl, s2.sub, e2, e3, e4, al, ?_⟩⟩
          -- behind the call: the list at a holds ws'
          have back : ∀ {F' H' : Hp} {ws' : List V} {b' : List D}, Go (fun x => x = a) F2 H1 F' H' → Ex F' H' → H' a = some (.lst ws') → F' a = none → DpAll X.K F' ws' b' →
              Go (O σ env2) F2 H1 F' H' ∧ Own σ env2 (env2.set i (mk b')) ∧ Sim X.K F' H' σ (env2.set i (mk b')) := by
            intro F' H' ws' b' g' sub ha' fa' al'
            refine ⟨g'.mono fun x z => .inl (z ▸ hO), ?_, ?_⟩
            · rintro x ⟨j, es', mm, ej⟩
              rcases mine_set mm with ⟨rfl, _⟩ | ⟨_, mm⟩
              · exact ⟨j, bs, hM2, ej⟩
              · exact ⟨j, es', mm, ej⟩
            · have hil : i < env2.length := by rcases hM2 with e | e <;> exact (List.getElem?_eq_some_iff.mp e).1
              refine ⟨sub, by rw [List.length_set]; exact s2.len, fun j d e => ?_, fun j es' mm => ?_, fun j k b es' fs' mm mm' q1 q2 => ?_⟩
              · by_cases hj : i = j
                · subst hj
                  rw [List.getElem?_set_self hil] at e
                  rcases hsl with ⟨_, z⟩ | ⟨_, z⟩ <;> subst z <;> cases e
                · rw [List.getElem?_set_ne hj] at e
                  obtain ⟨v, q1, q2⟩ := s2.sh j d e
                  exact ⟨v, q1, dp_ex g'.ex _ _ q2⟩
              · rcases mine_set mm with ⟨rfl, z⟩ | ⟨hj, mm⟩
                · have := hmk _ _ z
                  subst this
                  exact ⟨a, ws', ha, ha', fa', al'⟩
                · obtain ⟨b, us, q1, q2, q3, q4⟩ := s2.own j es' mm
                  have hba : ¬ b = a := fun z => hj (s2.dis j i a es' bs mm hM2 (z ▸ q1) ha)
                  exact ⟨b, us, q1, g'.keep b _ hba q2, g'.fz b hba (by rw [q2]; simp) q3, dpa_ex g'.ex _ _ q4⟩
              · have old : ∀ {j : Nat} {es' : List D}, Mine (env2.set i (mk b')) j es' → ∃ fs', Mine env2 j fs' := fun mm => by
                  rcases mine_set mm with ⟨rfl, _⟩ | ⟨_, mm⟩
                  · exact ⟨bs, hM2⟩
                  · exact ⟨_, mm⟩
                obtain ⟨_, m1⟩ := old mm
                obtain ⟨_, m2⟩ := old mm'
                exact s2.dis j k b _ _ m1 m2 q1 q2
          cases hrun : fs.run (.list bs :: ds) with
          | stuck => rw [hrun] at p; exact p.elim
          | ret d b =>
            rw [hrun] at p
            intro v F' H' ws' g' sub ha' fa' al' dp
            obtain ⟨g2, o2, s3⟩ := back g' sub ha' fa' al'
            exact p v F' H' g2 o2 s3 dp
          | exc c x b =>
            rw [hrun] at p
            intro dd F' H' ws' g' sub ha' fa' al' xa Ca hCa
            obtain ⟨g2, o2, s3⟩ := back g' sub ha' fa' al'
            exact p dd F' H' g2 o2 s3 xa Ca hCa
        cases e2 : env2[i]? with
        | none => rw [e2] at p; exact p.elim
        | some sl =>
          rw [e2] at p
          cases sl with
          | no => exact p.elim
          | sh _ => exact p.elim
          | own bs => exact main bs Sl.own (fun es fs' z => by rcases z with z | z <;> cases z <;> rfl) (.inl ⟨e2, rfl⟩) p
          | bor bs => exact main bs Sl.bor (fun es fs' z => by rcases z with z | z <;> cases z <;> rfl) (.inr ⟨e2, rfl⟩) p

/-! ### built-in functions, isinstance -/
theorem looks_vr {σ : L2.St} {H0 F H : Hp} {env : SEnv} (s : Sim X.K F H σ env) : ∀ {ws : List Vw} {vs : List V} {ds : List D}, REs X.K σ H0 F H env ws vs → looks env ws = some ds →
    ∃ n, n = ds.length ∧ vs.length = n ∧ ∀ (i : Nat) d v, ds[i]? = some d → vs[i]? = some v → VR X.K F H v d
  | [], [], ds, _, e => by
    cases e
    exact ⟨0, rfl, rfl, fun i d v h => by simp at h⟩
  | [], _ :: _, _, h, _ => h.elim
  | _ :: _, [], _, h, _ => h.elim
  | w :: ws, v :: vs, ds, h, e => by
    unfold looks at e
    cases e1 : look env w with
    | none => rw [e1] at e; cases e
    | some d =>
      rw [e1] at e
      have e : (looks env ws).bind (fun ds => some (d :: ds)) = some ds := e
      cases e2 : looks env ws with
      | none => rw [e2] at e; cases e
      | some ds' =>
        rw [e2] at e
        have e : some (d :: ds') = some ds := e
        cases e
        obtain ⟨n, h1, h2, h3⟩ := looks_vr s h.2.2 e2
        refine ⟨n + 1, by rw [List.length_cons, h1], by rw [List.length_cons, h2], fun i d0 v0 p1 p2 => ?_⟩
        cases i with
        | zero =>
          cases p1
          cases p2
          exact look_vr s h.1 e1
        | succ i => exact h3 i d0 v0 p1 p2
theorem bf_in (f : Bf) : bfName f ∈ blts := by cases f <;> decide +kernel
theorem p_bf (C : Cok Φ Γ S m W X) {f : Bf} {es : IEs} {g : Str} {x : Expr} {xs : List Expr} {p pos : Pos} (hc : chkEs Γ S es (x :: xs) = true) (hg : glB S.sc g = true) (hn : bfName f = g) (h : PA X (x :: xs) (tEs X.K X.mg W (evEs Φ es))) :
    PE X (.Call (.Name g p) (x :: xs) [] pos) (TE' X W (evE Φ (.bf f es))) := by
  subst hn
  have hm := C.blt _ (bf_in f)
  have st := stars_of hc pos X.env x xs rfl
  have goal : ∀ σ H Q, TE' X W (evE Φ (.bf f es)) σ H Q → tCB (rBf X.K f) (tEs X.K X.mg W (evEs Φ es)) σ H Q := by
    intro σ H Q q
    obtain ⟨F, env, s, q⟩ := q
    refine ⟨F, env, s, (Post.bind (Rel1 := REs X.K σ H) q).imp ?_⟩
    rintro vs H1 ⟨ws, env1, F1, g, o, s1, r, p⟩
    cases e : looks env1 ws with
    | none => rw [e] at p; exact p.elim
    | some ds =>
      rw [e] at p
      have p : Post X.K X.mg W σ (RE X.K σ H) F1 H1 env1 (Rs.opt (bfD f ds) env1) Q := p
      cases e3 : bfD f ds with
      | none => rw [e3] at p; exact p.elim
      | some w =>
        rw [e3] at p
        exact ⟨F1, ds, w, s1.sub, looks_vr s1 r e, e3, post_rn s1 p fun a z => g.fresh z⟩
  have hr := bfAll (X := X) C.calm C.hu f
  cases f with
  | tuple => exact pe_imp (pe_callTy hr (C.gl hg) hm (by decide +kernel) h (by decide +kernel) (by decide +kernel) st.1 st.2) goal
  | list => exact pe_imp (pe_callTy hr (C.gl hg) hm (by decide +kernel) h (by decide +kernel) (by decide +kernel) st.1 st.2) goal
  | int => exact pe_imp (pe_callTy hr (C.gl hg) hm (by decide +kernel) h (by decide +kernel) (by decide +kernel) st.1 st.2) goal
  | bool => exact pe_imp (pe_callTy hr (C.gl hg) hm (by decide +kernel) h (by decide +kernel) (by decide +kernel) st.1 st.2) goal
  | len => exact pe_imp (pe_callB hr (C.gl hg) hm (by decide +kernel) h (by decide +kernel) (by decide +kernel) st.1 st.2) goal
  | sum => exact pe_imp (pe_callB hr (C.gl hg) hm (by decide +kernel) h (by decide +kernel) (by decide +kernel) st.1 st.2) goal
  | all => exact pe_imp (pe_callB hr (C.gl hg) hm (by decide +kernel) h (by decide +kernel) (by decide +kernel) st.1 st.2) goal
  | any => exact pe_imp (pe_callB hr (C.gl hg) hm (by decide +kernel) h (by decide +kernel) (by decide +kernel) st.1 st.2) goal
  | abs => exact pe_imp (pe_callB hr (C.gl hg) hm (by decide +kernel) h (by decide +kernel) (by decide +kernel) st.1 st.2) goal
  | min => exact pe_imp (pe_callB hr (C.gl hg) hm (by decide +kernel) h (by decide +kernel) (by decide +kernel) st.1 st.2) goal
  | max => exact pe_imp (pe_callB hr (C.gl hg) hm (by decide +kernel) h (by decide +kernel) (by decide +kernel) st.1 st.2) goal
/-- a class's name, as a value -/
theorem pe_ty (C : Cok Φ Γ S m W X) {t : Ty} {n : Str} {p : Pos} (hn : n = tyS t) (hg : glB S.sc n = true) : PE X (.Name n p) (tC (.ty (tyN t))) := by
  subst hn
  have hm : X.mg (tyS t) = none := C.blt _ (by cases t <;> decide +kernel)
  refine pe_bltn (u := .type (tyN t)) (C.gl hg) hm ?_ rfl ?_ ?_ <;> cases t <;> decide +kernel
theorem clsv (t : Ty) : ClsV (.ty (tyN t)) (.type (tyN t)) := .ty _
theorem p_isi1 (C : Cok Φ Γ S m W X) {a : IE} {t : Ty} {x : Expr} {g n : Str} {p pn pos : Pos} (hg : glB S.sc g = true) (hgn : g = "isinstance") (hs : notStar x = true) (hn : n = tyS t) (hgl : glB S.sc n = true) (ha : PE X x (TE' X W (evE Φ a))) :
    PE X (.Call (.Name g p) [x, .Name n pn] [] pos) (TE' X W (evE Φ (.isi a [t] false))) := by
  subst hgn
  have hm := C.blt "isinstance" (by decide +kernel)
  refine pe_imp (pe_callB call_isi (C.gl hg) hm (by decide +kernel) (pa_cons ha (pa_cons (pe_ty C hn hgl) pa_nil rfl) (star_of hs)) (by decide +kernel) (by decide +kernel) (star_of hs) rfl) fun σ H Q q => ?_
  obtain ⟨F, env, s, q⟩ := q
  obtain ⟨F1, env1, s1, q1⟩ := one s q
  refine ⟨F1, env1, s1, q1.imp ?_⟩
  rintro v H1 ⟨w, env2, F2, g, o, s2, r, p⟩
  cases e1 : look env2 w with
  | none => rw [e1] at p; exact p.elim
  | some d =>
    rw [e1] at p
    have vr := look_vr s2 r e1
    have fin' : (∀ kvs, d ≠ .dict kvs) → Post X.K X.mg W σ (RE X.K σ H) F2 H1 env2 (.ok (.now (.bool ([t].any (isTy d)))) env2) Q → rIsi X.K [v, .ty (tyN t)] H1 Q := fun hd p => by
      obtain ⟨n, h1, h2⟩ := tyx_of s2.sub vr hd
      refine ⟨v, _, _, _, isTy d t, rfl, clsv t, h1, kit_ty (h2 t), ?_⟩
      have e : [t].any (isTy d) = isTy d t := by simp
      rw [e] at p
      exact post_now (w := .now (.bool (isTy d t))) s2 p (.bl _)
    cases d with
    | dict kvs => exact p.elim
    | _ => exact fin' (fun _ z => by cases z) p
theorem pa_tys (C : Cok Φ Γ S m W X) : ∀ {ts : List Ty} {ns : List Expr}, chkTy S ts ns = true → PA X ns (fun _ H Q => Q (ts.map fun t => V.ty (tyN t)) H)
  | [], ns, h => by
    cases ns with
    | nil => exact pa_imp pa_nil fun _ _ _ q => q
    | cons _ _ => cases h
  | t :: ts, ns, h => by
    cases ns with
    | nil => cases h
    | cons n ns =>
      cases n <;> first | cases h | skip
      simp only [chkTy, Bool.and_eq_true] at h
      exact pa_imp (pa_cons (pe_ty C (by simpa using h.1.1) h.1.2) (pa_tys C h.2) rfl) fun _ _ _ q => q
theorem kit_tys {d : D} {n : String} {K : Frag} (h2 : ∀ t, kitB n (tyN t) = some (isTy d t)) : ∀ ts : List Ty, PySem.W.kitAny K (.type n) (ts.map fun t => Value.type (tyN t)) = some (ts.any (isTy d))
  | [] => kitAny_nil
  | t :: ts => by
    refine kitAny_cons (b := isTy d t) (kit_ty (h2 t)) (fun e => ?_) (fun e => ?_)
    · rw [List.any_cons, e, Bool.false_or]
      exact kit_tys h2 ts
    · rw [List.any_cons, e, Bool.true_or]
theorem paired_tys : ∀ ts : List Ty, Paired ClsV (ts.map fun t => V.ty (tyN t)) (ts.map fun t => Value.type (tyN t))
  | [] => .nil
  | t :: ts => .cons (clsv t) (paired_tys ts)
theorem p_isiT (C : Cok Φ Γ S m W X) {a : IE} {ts : List Ty} {x : Expr} {ns : List Expr} {j : Nat} {g : Str} {p pt pos : Pos} (hg : glB S.sc g = true) (hgn : g = "isinstance") (hs : notStar x = true) (hn : chkTy S ts ns = true) (hl : ts.length ≤ 1000) (ha : PE X x (TE' X W (evE Φ a))) :
    PE X (.Call (.Name g p) [x, .Tuple ns j pt] [] pos) (TE' X W (evE Φ (.isi a ts true))) := by
  subst hgn
  have hm := C.blt "isinstance" (by decide +kernel)
  refine pe_imp (pe_callB call_isiT (C.gl hg) hm (by decide +kernel) (pa_cons ha (pa_cons (pe_tup (pa_tys C hn)) pa_nil rfl) (star_of hs)) (by decide +kernel) (by decide +kernel) (star_of hs) rfl) fun σ H Q q => ?_
  obtain ⟨F, env, s, q⟩ := q
  obtain ⟨F1, env1, s1, q1⟩ := one s q
  refine ⟨F1, env1, s1, q1.imp ?_⟩
  rintro v H1 ⟨w, env2, F2, g, o, s2, r, p⟩
  refine ⟨by rw [List.length_map]; exact Nat.le_trans hl (by decide), fun tp htp => ?_⟩
  have gn : Go (fun _ => False) F2 H1 (upd F2 tp (.tup (ts.map fun t => V.ty (tyN t)))) (upd H1 tp (.tup (ts.map fun t => V.ty (tyN t)))) := Go.new s2.sub htp
  have sub := s2.sub.both tp (.tup (ts.map fun t => V.ty (tyN t)))
  obtain ⟨g3, s3⟩ := fin s2 gn sub
  have r3 : RE X.K σ H _ _ env2 w v := RE.go s2 s3 g3 (fun _ z => z) r
  cases e1 : look env2 w with
  | none => rw [e1] at p; exact p.elim
  | some d =>
    rw [e1] at p
    have vr := look_vr s3 r3 e1
    have fin' : (∀ kvs, d ≠ .dict kvs) → Post X.K X.mg W σ (RE X.K σ H) F2 H1 env2 (.ok (.now (.bool (ts.any (isTy d)))) env2) Q → rIsiT X.K [v, .ref tp] (upd H1 tp (.tup (ts.map fun t => V.ty (tyN t)))) Q := fun hd p => by
      obtain ⟨n, h1, h2⟩ := tyx_of s3.sub vr hd
      exact ⟨v, tp, _, _, _, _, rfl, upd_same, paired_tys ts, h1, kit_tys h2 ts, p _ _ _ g3 (fun _ z => z) s3 (.bl _)⟩
    cases d with
    | dict kvs => exact p.elim
    | _ => exact fin' (fun _ z => by cases z) p

/-! ### what is walked -/
theorem yld_rg {F : Hp} (lo : Int) (n : Nat) : Yld X.K F (rgD lo n) (Itr lo n) := by
  intro i F' H e sub
  have hl : (rgD lo n).length = n := by simp [rgD]
  refine ⟨fun d hd => ?_, fun h => by rw [hl] at h; exact Nat.le_of_eq h.symm⟩
  have hi : i < n := by
    have := (List.getElem?_eq_some_iff.mp hd).1
    rwa [hl] at this
  have hd' : d = .int (lo + (i : Nat)) := by
    unfold rgD at hd
    rw [List.getElem?_map, List.getElem?_range hi] at hd
    exact (Option.some.inj hd).symm
  subst hd'
  refine ⟨hi, fun x H' h => ?_⟩
  obtain ⟨rfl, rfl⟩ := h
  exact ⟨F', Go.refl _ _ _, sub, .int _⟩
theorem yld_rgC {F : Hp} (lo c : Int) (n : Nat) : Yld X.K F (rgC lo c n) (Itc lo c n) := by
  intro i F' H e sub
  have hl : (rgC lo c n).length = n := by simp [rgC]
  refine ⟨fun d hd => ?_, fun h => by rw [hl] at h; exact Nat.le_of_eq h.symm⟩
  have hi : i < n := by
    have := (List.getElem?_eq_some_iff.mp hd).1
    rwa [hl] at this
  have hd' : d = .int (lo + (i : Nat) * c) := by
    unfold rgC at hd
    rw [List.getElem?_map, List.getElem?_range hi] at hd
    exact (Option.some.inj hd).symm
  subst hd'
  refine ⟨hi, fun x H' h => ?_⟩
  obtain ⟨rfl, rfl⟩ := h
  exact ⟨F', Go.refl _ _ _, sub, .int _⟩
theorem yld_list {F : Hp} {a : Addr} {vs : List V} {ds : List D} (h : SqL X.K F a vs) (al : DpAll X.K F vs ds) : Yld X.K F ds (Itl X.K a) := by
  intro i F' H e sub
  have hs : SqL X.K H a vs := (e.trans sub).sql h
  refine ⟨fun d hd => ?_, fun hi => ⟨vs, hs, by rw [hi, dpa_len al]; exact Nat.le_refl _⟩⟩
  obtain ⟨v, h1, h2⟩ := dpa_get al hd
  refine ⟨⟨vs, v, hs, h1⟩, fun x H' hx => ?_⟩
  obtain ⟨rfl, hy⟩ := hx
  have := hy vs hs
  rw [h1] at this
  cases this
  exact ⟨F', Go.refl _ _ _, sub, dp_ex e _ _ h2⟩
theorem yld_tup {F : Hp} {a : Addr} {vs : List V} {ds : List D} (h : SqT X.K F a vs) (al : DpAll X.K F vs ds) : Yld X.K F ds (Itt X.K a) := by
  intro i F' H e sub
  have hs : SqT X.K H a vs := (e.trans sub).sqt h
  refine ⟨fun d hd => ?_, fun hi => ⟨vs, hs, by rw [hi, dpa_len al]; exact Nat.le_refl _⟩⟩
  obtain ⟨v, h1, h2⟩ := dpa_get al hd
  refine ⟨⟨vs, v, hs, h1⟩, fun x H' hx => ?_⟩
  obtain ⟨rfl, hy⟩ := hx
  have := hy vs hs
  rw [h1] at this
  cases this
  exact ⟨F', Go.refl _ _ _, sub, dp_ex e _ _ h2⟩
theorem enum_get : ∀ (ds : List D) (n i : Nat), (enumD n ds)[i]? = (ds[i]?).map fun d => .tuple [.int ((n + i : Nat) : Int), d]
  | [], _, i => by simp [enumD]
  | d :: ds, n, 0 => by simp [enumD]
  | d :: ds, n, i + 1 => by
    have ih := enum_get ds (n + 1) i
    rw [enumD, List.getElem?_cons_succ, List.getElem?_cons_succ, ih]
    have e : n + 1 + i = n + (i + 1) := by omega
    rw [e]
theorem enum_len : ∀ (ds : List D) (n : Nat), (enumD n ds).length = ds.length
  | [], _ => rfl
  | d :: ds, n => by rw [enumD, List.length_cons, List.length_cons, enum_len ds]
theorem enum_pair {F' H : Hp} {T : Addr} {x : V} {d : D} {i : Nat} (sub : Ex F' H) (hT : H T = none) (r : Dp X.K F' x d) :
    ∃ F2, Go (fun _ => False) F' H F2 (upd H T (.tup [.int (i : Nat), x])) ∧ Ex F2 (upd H T (.tup [.int (i : Nat), x])) ∧ Dp X.K F2 (.ref T) (.tuple [.int ((0 + i : Nat) : Int), d]) := by
  have g : Go (fun _ => False) F' H (upd F' T (.tup [.int (i : Nat), x])) (upd H T (.tup [.int (i : Nat), x])) := Go.new sub hT
  refine ⟨_, g, sub.both _ _, .tup (.inl (.inl upd_same)) (.cons ?_ (.cons (dp_ex g.ex _ _ r) .nil))⟩
  rw [Nat.zero_add]
  exact .int _
theorem yld_enum {F : Hp} {a : Addr} {vs : List V} {ds : List D} (h : SqL X.K F a vs) (al : DpAll X.K F vs ds) : Yld X.K F (enumD 0 ds) (Ite X.K a) := by
  intro i F' H e sub
  have hs : SqL X.K H a vs := (e.trans sub).sql h
  refine ⟨fun d hd => ?_, fun hi => ⟨vs, hs, by rw [hi, enum_len, dpa_len al]; exact Nat.le_refl _⟩⟩
  rw [enum_get] at hd
  cases h0 : ds[i]? with
  | none => rw [h0] at hd; cases hd
  | some d0 =>
    rw [h0] at hd
    cases hd
    obtain ⟨v, h1, h2⟩ := dpa_get al h0
    refine ⟨⟨vs, v, hs, h1⟩, fun x H' hx => ?_⟩
    obtain ⟨T, y, rfl, hT, rfl, hy⟩ := hx
    have := hy vs hs
    rw [h1] at this
    cases this
    exact enum_pair sub hT (dp_ex e _ _ h2)
theorem yld_enumT {F : Hp} {a : Addr} {vs : List V} {ds : List D} (h : SqT X.K F a vs) (al : DpAll X.K F vs ds) : Yld X.K F (enumD 0 ds) (IteT X.K a) := by
  intro i F' H e sub
  have hs : SqT X.K H a vs := (e.trans sub).sqt h
  refine ⟨fun d hd => ?_, fun hi => ⟨vs, hs, by rw [hi, enum_len, dpa_len al]⟩⟩
  rw [enum_get] at hd
  cases h0 : ds[i]? with
  | none => rw [h0] at hd; cases hd
  | some d0 =>
    rw [h0] at hd
    cases hd
    obtain ⟨v, h1, h2⟩ := dpa_get al h0
    refine ⟨⟨vs, v, hs, h1⟩, fun x H' hx => ?_⟩
    obtain ⟨T, y, rfl, hT, rfl, hy⟩ := hx
    have := hy vs hs
    rw [h1] at this
    cases this
    exact enum_pair sub hT (dp_ex e _ _ h2)
theorem post_y {σ : L2.St} {H0 F H : Hp} {env : SEnv} {ds : List D} {J : It} {R : It → Hp → Prop} (s : Sim X.K F H σ env) (p : Post X.K X.mg W σ (RY X.K σ H0) F H env (.ok ds env) R) (y : Yld X.K F ds J) : R J H := p J F H (Go.refl _ _ _) (fun _ z => z) s y
theorem i_seq {e : IE} {x tg : Expr} (he : PE X x (TE' X W (evE Φ e))) : PI X tg x (tI X.K X.mg W (evI Φ (.seq e))) := by
  refine pi_imp (pi_seq he) fun σ H R q => ?_
  obtain ⟨F, env, s, q⟩ := q
  obtain ⟨F1, env1, s1, q1⟩ := keep_one (k := fun d e2 => Rs.opt (seqD d) e2) s q
  refine ⟨F1, env1, s1, q1.imp ?_⟩
  rintro v H1 ⟨d, env2, F2, g, o, s2, dp, p⟩
  cases d with
  | list ds =>
    cases dp with
    | lst h1 al => exact .inl ⟨_, rfl, ⟨_, s2.sub.sql h1⟩, post_y s2 p (yld_list h1 al)⟩
  | tuple ds =>
    cases dp with
    | tup h1 al => exact .inr ⟨_, rfl, ⟨_, s2.sub.sqt h1⟩, post_y s2 p (yld_tup h1 al)⟩
  | _ => exact p.elim
theorem rOk_of {i : Int} (h : rOk i = true) : -(2 ^ 62) ≤ i ∧ i < 2 ^ 62 := by
  have := inB_of h
  omega
theorem i_r1 (C : Cok Φ Γ S m W X) {a : IE} {x tg : Expr} {g : Str} {p pos : Pos} (hg : glB S.sc g = true) (hn : g = "range") (hs : notStar x = true) (ha : PE X x (TE' X W (evE Φ a))) : PI X tg (.Call (.Name g p) [x] [] pos) (tI X.K X.mg W (evI Φ (.r1 a))) := by
  subst hn
  refine pi_imp (pi_range1 (C.gl hg) (C.blt "range" (by decide +kernel)) (pa_cons ha pa_nil (star_of hs)) (star_of hs)) fun σ H R q => ?_
  obtain ⟨F, env, s, q⟩ := q
  obtain ⟨F1, env1, s1, q1⟩ := one s q
  refine ⟨F1, env1, s1, q1.imp ?_⟩
  rintro v H1 ⟨w, env2, F2, g, o, s2, r, p⟩
  cases e1 : look env2 w with
  | none => rw [e1] at p; exact p.elim
  | some d =>
    rw [e1] at p
    cases d with
    | int j =>
      have p : Post X.K X.mg W σ (RY X.K σ H) F2 H1 env2 (if rOk j then .ok (rgD 0 j.toNat) env2 else .stuck) R := p
      cases hz : rOk j with
      | false => rw [hz] at p; exact p.elim
      | true =>
        rw [hz] at p
        have := (look_vr s2 r e1).int
        subst this
        exact ⟨j, rfl, (rOk_of hz).1, (rOk_of hz).2, post_y s2 p (yld_rg 0 _)⟩
    | _ => exact p.elim
theorem i_r2 (C : Cok Φ Γ S m W X) {a b : IE} {x y tg : Expr} {g : Str} {p pos : Pos} (hg : glB S.sc g = true) (hn : g = "range") (hs : notStar x = true) (hs2 : notStar y = true) (ha : PE X x (TE' X W (evE Φ a))) (hb : PE X y (TE' X W (evE Φ b))) : PI X tg (.Call (.Name g p) [x, y] [] pos) (tI X.K X.mg W (evI Φ (.r2 a b))) := by
  subst hn
  have e2 : starEach [y] X.env = [(false, eval y X.env)] := star_of hs2
  refine pi_imp (pi_range2 (C.gl hg) (C.blt "range" (by decide +kernel)) (pa_cons ha (pa_cons hb pa_nil (star_of hs2)) (star_of hs)) (by rw [star_of hs, e2]) e2) fun σ H R q => ?_
  obtain ⟨F, env, s, q⟩ := q
  obtain ⟨F1, env1, s1, q1⟩ := two s q
  refine ⟨F1, env1, s1, q1.imp fun v1 H1 ⟨F2, env2, s2, q2⟩ => ⟨F2, env2, s2, q2.imp ?_⟩⟩
  rintro v2 H2 ⟨w1, w2, env2, F2, g, o, s2, r1, r2, p⟩
  cases e1 : look env2 w1 with
  | none => rw [e1] at p; exact p.elim
  | some d =>
    cases e2 : look env2 w2 with
    | none => rw [e1, e2] at p; cases d <;> exact p.elim
    | some d' =>
      rw [e1, e2] at p
      cases d with
      | int i =>
        cases d' with
        | int j =>
          have p : Post X.K X.mg W σ (RY X.K σ H) F2 H2 env2 (if rOk i && rOk j then .ok (rgD i (j - i).toNat) env2 else .stuck) R := p
          cases hz : (rOk i && rOk j) with
          | false => rw [hz] at p; exact p.elim
          | true =>
            rw [hz] at p
            rw [Bool.and_eq_true] at hz
            have h1 := (look_vr s2 r1 e1).int
            have h2 := (look_vr s2 r2 e2).int
            subst h1 h2
            exact ⟨i, j, rfl, ⟨(rOk_of hz.1).1, (rOk_of hz.1).2, (rOk_of hz.2).1, (rOk_of hz.2).2⟩, post_y s2 p (yld_rg i _)⟩
        | _ => exact p.elim
      | _ => exact p.elim
theorem i_r3 (C : Cok Φ Γ S m W X) {a b c : IE} {x y z tg : Expr} {g : Str} {p pos : Pos} (hg : glB S.sc g = true) (hn : g = "range") (hs : notStar x = true) (hs2 : notStar y = true) (hs3 : notStar z = true) (ha : PE X x (TE' X W (evE Φ a))) (hb : PE X y (TE' X W (evE Φ b))) (hc : PE X z (TE' X W (evE Φ c))) : PI X tg (.Call (.Name g p) [x, y, z] [] pos) (tI X.K X.mg W (evI Φ (.r3 a b c))) := by
  subst hn
  have e3 : starEach [z] X.env = [(false, eval z X.env)] := star_of hs3
  refine pi_imp (pi_range3 (C.gl hg) (C.blt "range" (by decide +kernel)) (pa_cons ha (pa_cons hb (pa_cons hc pa_nil (star_of hs3)) (star_of hs2)) (star_of hs)) (star_of hs) (by rw [star_of hs2, e3]; rfl)) fun σ H R q => ?_
  obtain ⟨F, env, s, q⟩ := q
  obtain ⟨F1, env1, s1, q1⟩ := two s q
  refine ⟨F1, env1, s1, q1.imp fun v1 H1 ⟨F2, env2, s2, q2⟩ => ⟨F2, env2, s2, q2.imp ?_⟩⟩
  rintro v2 H2 ⟨w1, w2, env2, F2, g, o, s2, r1, r2, p⟩
  obtain ⟨F3, env3, s3, q3⟩ := one s2 p
  refine ⟨F3, env3, s3, q3.imp ?_⟩
  rintro v3 H3 ⟨w3, env4, F4, g4, o4, s4, r3, p⟩
  have r1 := RE.go s2 s4 g4 o4 r1
  have r2 := RE.go s2 s4 g4 o4 r2
  cases e1 : look env4 w1 with
  | none => rw [e1] at p; exact p.elim
  | some d =>
    cases e2 : look env4 w2 with
    | none => rw [e1, e2] at p; cases d <;> exact p.elim
    | some d' =>
      cases e3 : look env4 w3 with
      | none => rw [e1, e2, e3] at p; cases d <;> cases d' <;> exact p.elim
      | some d'' =>
        rw [e1, e2, e3] at p
        cases d with
        | int i =>
          cases d' with
          | int j =>
            cases d'' with
            | int k =>
              have p : Post X.K X.mg W σ (RY X.K σ H) F4 H3 env4 (if k != 0 && decide (k.natAbs < 1073741824) && Builtin.Range.small i j k && decide (0 ≤ Builtin.Range.rangeSize i j k) then .ok (rgC i k (Builtin.Range.rangeSize i j k).toNat) env4 else .stuck) R := p
              cases hz : (k != 0 && decide (k.natAbs < 1073741824) && Builtin.Range.small i j k && decide (0 ≤ Builtin.Range.rangeSize i j k)) with
              | false => rw [hz] at p; exact p.elim
              | true =>
                rw [hz] at p
                simp only [Bool.and_eq_true, decide_eq_true_eq, bne_iff_ne, ne_eq] at hz
                have h1 := (look_vr s4 r1 e1).int
                have h2 := (look_vr s4 r2 e2).int
                have h3 := (look_vr s4 r3 e3).int
                subst h1 h2 h3
                exact ⟨i, j, k, _, rfl, ⟨hz.1.1.1, hz.1.1.2, hz.1.2, (Int.toNat_of_nonneg hz.2).symm⟩, post_y s4 p (yld_rgC i k _)⟩
            | _ => exact p.elim
          | _ => exact p.elim
        | _ => exact p.elim
theorem i_enum (C : Cok Φ Γ S m W X) {e : IE} {x : Expr} {g : Str} {es : List Expr} {j : Nat} {p tpos pos : Pos} (hg : glB S.sc g = true) (hn : g = "enumerate") (hs : notStar x = true) (he : PE X x (TE' X W (evE Φ e))) : PI X (.Tuple es j tpos) (.Call (.Name g p) [x] [] pos) (tI X.K X.mg W (evI Φ (.enum e))) := by
  subst hn
  refine pi_imp (pi_enumB (C.gl hg) (C.blt "enumerate" (by decide +kernel)) (pa_cons he pa_nil (star_of hs)) (star_of hs)) fun σ H R q => ?_
  obtain ⟨F, env, s, q⟩ := q
  obtain ⟨F1, env1, s1, q1⟩ := keep_one (k := enumK) s q
  refine ⟨F1, env1, s1, q1.imp ?_⟩
  rintro v H1 ⟨d, env2, F2, g, o, s2, dp, p⟩
  refine ⟨v, rfl, ?_⟩
  cases d with
  | list ds =>
    cases dp with
    | lst h1 al => exact .inl ⟨_, rfl, ⟨_, s2.sub.sql h1⟩, post_y s2 p (yld_enum h1 al)⟩
  | tuple ds =>
    cases dp with
    | tup h1 al => exact .inr ⟨_, rfl, ⟨_, s2.sub.sqt h1⟩, post_y s2 p (yld_enumT h1 al)⟩
  | _ => exact p.elim
end
end PyE

set_option Elab.async false
set_option linter.all false
set_option autoImplicit false
set_option maxRecDepth 100000
set_option maxHeartbeats 4000000
/-! # What the checker takes is run as the evaluator says: comprehensions; all expressions -/
namespace PyE
open PySem PySem.Spec PyProof.Rows L2
section
variable {K : Frag} {F F1 F' H H1 H' F0 H0 : Hp} {σ τ τ' : L2.St} {env env1 en env' : SEnv}
theorem wipeE_out {i : Nat} : ∀ {own : List Nat}, i ∉ own → (wipeE env own)[i]? = env[i]?
  | [], _ => rfl
  | j :: own, h => by
    show ((wipeE env own).set j .no)[i]? = _
    rw [List.getElem?_set_ne (fun (z : j = i) => h (z ▸ List.mem_cons_self))]
    exact wipeE_out fun z => h (List.mem_cons_of_mem _ z)
theorem wipeE_in {i : Nat} {sl : Sl} : ∀ {own : List Nat}, i ∈ own → (wipeE env own)[i]? = some sl → sl = .no
  | j :: own, h, e => by
    have e : ((wipeE env own).set j .no)[i]? = some sl := e
    by_cases hj : j = i
    · subst hj
      by_cases hl : j < (wipeE env own).length
      · rw [List.getElem?_set_self hl] at e
        exact (Option.some.inj e).symm
      · rw [List.getElem?_eq_none (by simpa using hl)] at e
        cases e
    · rw [List.getElem?_set_ne hj] at e
      rcases List.mem_cons.mp h with z | z
      · exact absurd z.symm hj
      · exact wipeE_in z e
theorem mine_wipe {i : Nat} {ds : List D} {own : List Nat} (m : Mine (wipeE env own) i ds) : i ∉ own ∧ Mine env i ds := by
  have hn : i ∉ own := fun z => by
    rcases m with m | m <;> cases wipeE_in z m
  unfold Mine at m ⊢
  rw [wipeE_out hn] at m
  exact ⟨hn, m⟩
theorem wipe_out' {i : Nat} : ∀ {own : List Nat}, i ∉ own → (L2.wipe σ own)[i]? = σ[i]?
  | [], _ => rfl
  | j :: own, h => by
    show ((L2.wipe σ own).set j none)[i]? = _
    rw [List.getElem?_set_ne (fun (z : j = i) => h (z ▸ List.mem_cons_self))]
    exact wipe_out' fun z => h (List.mem_cons_of_mem _ z)
theorem backE_out {old : SEnv} {i : Nat} : ∀ {own : List Nat}, i ∉ own → (backE old env own)[i]? = env[i]?
  | [], _ => rfl
  | j :: own, h => by
    show ((backE old env own).set j _)[i]? = _
    rw [List.getElem?_set_ne (fun (z : j = i) => h (z ▸ List.mem_cons_self))]
    exact backE_out fun z => h (List.mem_cons_of_mem _ z)
theorem backE_in {old : SEnv} {i : Nat} {sl : Sl} (hl : env.length = old.length) : ∀ {own : List Nat}, i ∈ own → (backE old env own)[i]? = some sl → old[i]? = some sl
  | j :: own, h, e => by
    have e : ((backE old env own).set j (old.getD j .no))[i]? = some sl := e
    by_cases hj : j = i
    · subst hj
      by_cases hlt : j < (backE old env own).length
      · rw [List.getElem?_set_self hlt] at e
        rw [backE_len, hl] at hlt
        rw [List.getD_eq_getElem?_getD, List.getElem?_eq_getElem hlt] at e
        rw [List.getElem?_eq_getElem hlt]
        exact e
      · rw [List.getElem?_eq_none (by simpa using hlt)] at e
        cases e
    · rw [List.getElem?_set_ne hj] at e
      rcases List.mem_cons.mp h with z | z
      · exact absurd z.symm hj
      · exact backE_in hl z e
theorem mine_back {old : SEnv} {i : Nat} {ds : List D} {own : List Nat} (hl : env.length = old.length) (m : Mine (backE old env own) i ds) : (i ∈ own ∧ Mine old i ds) ∨ (i ∉ own ∧ Mine env i ds) := by
  by_cases h : i ∈ own
  · exact .inl ⟨h, m.elim (fun z => .inl (backE_in hl h z)) fun z => .inr (backE_in hl h z)⟩
  · unfold Mine at m
    rw [backE_out h] at m
    exact .inr ⟨h, m⟩
/-- behind a block, the frame's own names as they were -/
theorem Sim.back {own : List Nat} (s1 : Sim K F1 H1 σ env1) (g : Go (O (L2.wipe σ own) (wipeE env1 own)) F1 H1 F H) (s : Sim K F H (L2.wipe σ own) en) (ho : ∀ a, O (L2.wipe σ own) en a → O (L2.wipe σ own) (wipeE env1 own) a) :
    Sim K F H σ (backE env1 en own) ∧ Own σ env1 (backE env1 en own) := by
  have hl : en.length = env1.length := by rw [s.len, wipe_length, s1.len]
  have away : ∀ {i : Nat} {ds : List D} {a : Addr}, i ∈ own → Mine env1 i ds → σ[i]? = some (some (.ref a)) → ¬ O (L2.wipe σ own) (wipeE env1 own) a := by
    rintro i ds a hi m e ⟨j, es, mj, ej⟩
    obtain ⟨hj, mj⟩ := mine_wipe mj
    rw [wipe_out' hj] at ej
    exact hj (s1.dis i j a ds es m mj e ej ▸ hi)
  refine ⟨⟨s.sub, by rw [backE_len, hl, s1.len], fun i d e => ?_, fun i ds m => ?_, fun i j a ds es m m' e1 e2 => ?_⟩, ?_⟩
  · by_cases h : i ∈ own
    · obtain ⟨v, q1, q2⟩ := s1.sh i d (backE_in hl h e)
      exact ⟨v, q1, dp_ex g.ex _ _ q2⟩
    · rw [backE_out h] at e
      obtain ⟨v, q1, q2⟩ := s.sh i d e
      rw [wipe_out' h] at q1
      exact ⟨v, q1, q2⟩
  · rcases mine_back hl m with ⟨h, m⟩ | ⟨h, m⟩
    · obtain ⟨a, vs, q1, q2, q3, q4⟩ := s1.own i ds m
      have n := away h m q1
      exact ⟨a, vs, q1, g.keep a _ n q2, g.fz a n (by rw [q2]; simp) q3, dpa_ex g.ex _ _ q4⟩
    · obtain ⟨a, vs, q1, q2⟩ := s.own i ds m
      rw [wipe_out' h] at q1
      exact ⟨a, vs, q1, q2⟩
  · rcases mine_back hl m with ⟨h, m⟩ | ⟨h, m⟩
    · rcases mine_back hl m' with ⟨h', m'⟩ | ⟨h', m'⟩
      · exact s1.dis i j a ds es m m' e1 e2
      · exact absurd (ho a ⟨j, es, m', by rw [wipe_out' h']; exact e2⟩) (away h m e1)
    · rcases mine_back hl m' with ⟨h', m'⟩ | ⟨h', m'⟩
      · exact absurd (ho a ⟨i, ds, m, by rw [wipe_out' h]; exact e1⟩) (away h' m' e2)
      · exact s.dis i j a ds es m m' (by rw [wipe_out' h]; exact e1) (by rw [wipe_out' h']; exact e2)
  · rintro a ⟨i, ds, m, e⟩
    rcases mine_back hl m with ⟨h, m⟩ | ⟨h, m⟩
    · exact ⟨i, ds, m, e⟩
    · obtain ⟨j, es, mj, ej⟩ := ho a ⟨i, ds, m, by rw [wipe_out' h]; exact e⟩
      obtain ⟨hj, mj⟩ := mine_wipe mj
      rw [wipe_out' hj] at ej
      exact ⟨j, es, mj, ej⟩
theorem wipe_sub : ∀ (own2 own : List Nat), (∀ i ∈ own2, i ∈ own) → L2.wipe (L2.wipe σ own2) own = L2.wipe σ own
  | [], _, _ => rfl
  | i :: own2, own, h => by
    show L2.wipe ((L2.wipe σ own2).set i none) own = _
    rw [setN_ok.wipe_set _ _ own (h i List.mem_cons_self)]
    exact wipe_sub own2 own fun j hj => h j (List.mem_cons_of_mem _ hj)
theorem LI.step {M N : Addr → Prop} {A : Addr} {os : List D} (li : LI K M F0 H0 τ A os F H env) (g : Go N F H F' H') (hN : ∀ x, N x → M x ∨ (H0 x = none ∧ x ≠ A)) (s : Sim K F' H' τ' env') (ho : ∀ a, O τ' env' a → M a) : LI K M F0 H0 τ' A os F' H' env' := by
  obtain ⟨vs, h1, h2⟩ := li.acc
  have nA : ¬ N A := fun z => (hN A z).elim li.no fun z => z.2 rfl
  exact ⟨s, li.go.trans g fun x z => (hN x z).imp id And.left, ho, ⟨vs, g.keep A _ nA h1, dpa_ex g.ex _ _ h2⟩, g.fz A nA (by rw [h1]; simp) li.fa, li.no⟩
theorem LI.wipe {M : Addr → Prop} {A : Addr} {os : List D} (own : List Nat) (li : LI K M F0 H0 τ A os F H env) : LI K M F0 H0 (L2.wipe τ own) A os F H (wipeE env own) :=
  li.step (N := fun _ => False) (Go.refl _ _ _) (fun _ z => z.elim) (li.sim.wipe own) fun a z => li.own a (own_wipe own a z)
end

section
variable {Φ : Fns} {Γ : Gam} {S : Sc} {m : Nat} {W : WX} {X : Cx}
theorem pgs_nm (C : Cok Φ Γ S m W X) : ∀ {is : List Nat} {xs : List Expr}, chkNm Γ S is xs = true → PGs X xs (gT.gN is) ∧ (assignEach xs X.env).length = is.length ∧ (assignEach xs X.env).findIdx? (·.1) = none
  | [], xs, h => by
    cases xs with
    | nil => exact ⟨pgs_nil, rfl, rfl⟩
    | cons _ _ => cases h
  | i :: is, xs, h => by
    cases xs with
    | nil => cases h
    | cons x xs =>
      cases x <;> first | cases h | skip
      simp only [chkNm, Bool.and_eq_true, decide_eq_true_eq] at h
      obtain ⟨⟨h1, h2⟩, h3⟩ := h
      obtain ⟨h4, h5⟩ := C.loc h2
      obtain ⟨q1, q2, q3⟩ := pgs_nm C h3
      refine ⟨pgs_cons (pg_name (by rw [C.hN]; exact C.nd) (C.ix h1) h4 h5) q1 rfl, ?_, ?_⟩
      · show (assignEach xs X.env).length + 1 = _
        rw [q2, List.length_cons]
      · show List.findIdx? (·.1) ((false, _) :: assignEach xs X.env) = none
        rw [List.findIdx?_cons, q3]
        rfl
theorem pg_T (C : Cok Φ Γ S m W X) {tg : Tg} {x : Expr} (h : chkTg Γ S tg x = true) : PG X x (gT X.K tg) := by
  cases tg with
  | one i =>
    cases x <;> first | cases h | skip
    simp only [chkTg, Bool.and_eq_true, decide_eq_true_eq] at h
    obtain ⟨h4, h5⟩ := C.loc h.2
    exact pg_name (by rw [C.hN]; exact C.nd) (C.ix h.1) h4 h5
  | many is =>
    cases x <;> first | cases h | skip
    obtain ⟨q1, q2, q3⟩ := pgs_nm C (is := is) h
    exact pg_tup C.calm q1 q2 q3

/-- one turn -/
theorem lc_turn {K : Frag} {mg : Str → Option Value} {c : IO} {e : IE} {tg : Tg} {own : List Nat} {M : Addr → Prop} {F0 H0 : Hp} {σ : L2.St} {A : Addr} {d : D} {a os : List D} {env env' : SEnv} {F H : Hp} {x : V} {Nx : Hp → Prop} (hA : H0 A = none) (htg : ∀ i ∈ tgS tg, i ∈ own)
    (es : lcStep (evC Φ c) (evE Φ e) tg own d env = .ok a env') (hlen : os.length + a.length ≤ sizeLine) (li : LI K M F0 H0 (L2.wipe σ own) A os F H env) (dp : Dp K F x d) (nx : ∀ F' H', LI K M F0 H0 (L2.wipe σ own) A (os ++ a) F' H' env' → Ex F F' → Nx H') :
    gT K tg x (L2.wipe σ own) H fun σ2 H2 => L2.wipe σ2 own = L2.wipe σ own ∧ tB' K mg W0 (evC Φ c) σ2 H2 fun b H3 =>
      if b = true then tE K mg W0 (evE Φ e) σ2 H3 fun y H4 => ∃ acc, H4 A = some (.lst acc) ∧ acc.length < sizeLine ∧ Nx (upd H4 A (.lst (acc ++ [y]))) else Nx H3 := by
  unfold lcStep at es
  cases e1 : putT env tg d with
  | none => rw [e1] at es; cases es
  | some en1 =>
    rw [e1] at es
    have es : (evC Φ c en1).bind (fun ok en2 => if ok then (evE Φ e en2).bind fun w en3 => match keepF en3 w with
      | some (d, en4) => .ok [d] (wipeE en4 own)
      | none => .stuck
    else .ok [] (wipeE en2 own)) = .ok a env' := es
    refine putT_ok li.sim dp e1 fun σ2 s2 o2 w2 => ?_
    have hw : L2.wipe σ2 own = L2.wipe σ own := (w2 own htg).trans (wipe_sub own own fun _ z => z)
    refine ⟨hw, ?_⟩
    have li2 : LI K M F0 H0 σ2 A os F H en1 := li.step (N := fun _ => False) (Go.refl _ _ _) (fun _ z => z.elim) s2 fun a z => li.own a (o2 a z)
    refine ⟨F, en1, s2, ?_⟩
    cases e2 : evC Φ c en1 with
    | exc c' x' en2 => rw [e2] at es; cases es
    | stuck => rw [e2] at es; cases es
    | ok okb en2 =>
      rw [e2, bind_ok] at es
      intro b F3 H3 g3 o3 s3 hb
      have hb : okb = b := hb
      subst hb
      have li3 : LI K M F0 H0 σ2 A os F3 H3 en2 := li2.step g3 (fun x z => .inl (li2.own x z)) s3 fun a z => li2.own a (o3 a z)
      cases okb with
      | false =>
        have es : (Rs.ok [] (wipeE en2 own) : Rs (List D)) = .ok a env' := es
        cases es
        refine if_F rfl (nx F3 H3 ?_ g3.ex)
        rw [List.append_nil, ← hw]
        exact li3.wipe own
      | true =>
        have es : (evE Φ e en2).bind (fun w en3 => match keepF en3 w with
          | some (d, en4) => .ok [d] (wipeE en4 own)
          | none => .stuck) = .ok a env' := es
        refine if_T rfl ?_
        refine ⟨F3, en2, s3, ?_⟩
        cases e3 : evE Φ e en2 with
        | exc c' x' en2 => rw [e3] at es; cases es
        | stuck => rw [e3] at es; cases es
        | ok w en3 =>
          rw [e3, bind_ok] at es
          intro y F4 H4 g4 o4 s4 r4
          have li4 : LI K M F0 H0 σ2 A os F4 H4 en3 := li3.step g4 (fun x z => .inl (li3.own x z)) s4 fun a z => li3.own a (o4 a z)
          cases e4 : keepF en3 w with
          | none => rw [e4] at es; cases es
          | some q =>
            obtain ⟨d', en4⟩ := q
            rw [e4] at es
            have es : (Rs.ok [d'] (wipeE en4 own) : Rs (List D)) = .ok a env' := es
            cases es
            obtain ⟨F5, g5, o5, s5, dp5, _⟩ := keepF_ok (M := fun a => O σ2 en3 a ∨ H3 a = none) s4 r4 e4 fun a => ⟨.inr, .inl⟩
            have hA3 : H3 A ≠ none := by
              obtain ⟨vs, h1, _⟩ := li3.acc
              rw [h1]; simp
            have li5 : LI K M F0 H0 σ2 A os F5 H4 en4 := li4.step g5 (fun x z => z.elim (fun z => .inl (li4.own x z)) fun z => .inr ⟨li3.go.fresh z, fun q => hA3 (q ▸ z)⟩) s5 fun a z => li4.own a (o5 a z)
            obtain ⟨vs, h1, h2, li6⟩ := li5.push hA dp5
            refine ⟨vs, h1, ?_, nx F5 _ ?_ ((g3.ex.trans g4.ex).trans g5.ex)⟩
            · rw [h2]
              have : ([d'] : List D).length = 1 := rfl
              omega
            · rw [← hw]
              exact li6.wipe own
/-- one turn, with a second clause -/
theorem lc2_turn {K : Frag} {mg : Str → Option Value} {c c2 : IO} {e : IE} {it2 : II} {tg tg2 : Tg} {own own2 : List Nat} {M : Addr → Prop} {F0 H0 : Hp} {σ : L2.St} {A : Addr} {d : D} {a os : List D} {env env' : SEnv} {F H : Hp} {x : V} {Nx : Hp → Prop} (hA : H0 A = none) (htg : ∀ i ∈ tgS tg, i ∈ own) (htg2 : ∀ i ∈ tgS tg2, i ∈ own2) (hsub : ∀ i ∈ own2, i ∈ own)
    (es : lc2Step (evC Φ c) (evI Φ it2) (evC Φ c2) (evE Φ e) tg tg2 own own2 d env = .ok a env') (hlen : os.length + a.length ≤ sizeLine) (li : LI K M F0 H0 (L2.wipe σ own) A os F H env) (dp : Dp K F x d) (nx : ∀ F' H', LI K M F0 H0 (L2.wipe σ own) A (os ++ a) F' H' env' → Ex F F' → Nx H') :
    gT K tg x (L2.wipe σ own) H fun σ2 H2 => L2.wipe σ2 own = L2.wipe σ own ∧ tB' K mg W0 (evC Φ c) σ2 H2 fun b H3 =>
      if b = true then tI K mg W0 (evI Φ it2) σ2 H3 fun J1 H4 => ∃ W1 : Nat → Nat → Hp → Prop, (∃ m, W1 0 m H4) ∧ ∀ j k H, W1 j k H →
        (J1.stop j H ∧ Nx H) ∨ (J1.go j H ∧ ∃ Nx1 : Hp → Prop, (∀ H', Nx1 H' → ∃ k', k' < k ∧ W1 (j + 1) k' H') ∧ ∀ x H', J1.yld j H x H' → gT K tg2 x (L2.wipe σ2 own2) H' fun σ3 H5 => L2.wipe σ3 own2 = L2.wipe σ2 own2 ∧ tB' K mg W0 (evC Φ c2) σ3 H5 fun b H6 =>
          if b = true then tE K mg W0 (evE Φ e) σ3 H6 fun y H7 => ∃ acc, H7 A = some (.lst acc) ∧ acc.length < sizeLine ∧ Nx1 (upd H7 A (.lst (acc ++ [y]))) else Nx1 H6)
      else Nx H3 := by
  unfold lc2Step at es
  cases e1 : putT env tg d with
  | none => rw [e1] at es; cases es
  | some en1 =>
    rw [e1] at es
    have es : (evC Φ c en1).bind (fun ok en2 => if ok then (evI Φ it2 en2).bind fun ds2 en3 =>
        match lcL (lcStep (evC Φ c2) (evE Φ e) tg2 own2) ds2 (wipeE en3 own2) with
        | .ok out en4 => .ok out (wipeE en4 own)
        | _ => .stuck
      else .ok [] (wipeE en2 own)) = .ok a env' := es
    refine putT_ok li.sim dp e1 fun σ2 s2 o2 w2 => ?_
    have hw : L2.wipe σ2 own = L2.wipe σ own := (w2 own htg).trans (wipe_sub own own fun _ z => z)
    refine ⟨hw, ?_⟩
    have li2 : LI K M F0 H0 σ2 A os F H en1 := li.step (N := fun _ => False) (Go.refl _ _ _) (fun _ z => z.elim) s2 fun a z => li.own a (o2 a z)
    refine ⟨F, en1, s2, ?_⟩
    cases e2 : evC Φ c en1 with
    | exc c' x' en2 => rw [e2] at es; cases es
    | stuck => rw [e2] at es; cases es
    | ok okb en2 =>
      rw [e2, bind_ok] at es
      intro b F3 H3 g3 o3 s3 hb
      have hb : okb = b := hb
      subst hb
      have li3 : LI K M F0 H0 σ2 A os F3 H3 en2 := li2.step g3 (fun x z => .inl (li2.own x z)) s3 fun a z => li2.own a (o3 a z)
      cases okb with
      | false =>
        have es : (Rs.ok [] (wipeE en2 own) : Rs (List D)) = .ok a env' := es
        cases es
        refine if_F rfl (nx F3 H3 ?_ g3.ex)
        rw [List.append_nil, ← hw]
        exact li3.wipe own
      | true =>
        have es : (evI Φ it2 en2).bind (fun ds2 en3 =>
          match lcL (lcStep (evC Φ c2) (evE Φ e) tg2 own2) ds2 (wipeE en3 own2) with
          | .ok out en4 => .ok out (wipeE en4 own)
          | _ => .stuck) = .ok a env' := es
        refine if_T rfl ?_
        refine ⟨F3, en2, s3, ?_⟩
        cases e3 : evI Φ it2 en2 with
        | exc c' x' en2 => rw [e3] at es; cases es
        | stuck => rw [e3] at es; cases es
        | ok ds2 en3 =>
          rw [e3, bind_ok] at es
          intro J1 F4 H4 g4 o4 s4 y4
          have li4 : LI K M F0 H0 σ2 A os F4 H4 en3 := li3.step g4 (fun x z => .inl (li3.own x z)) s4 fun a z => li3.own a (o4 a z)
          cases e4 : lcL (lcStep (evC Φ c2) (evE Φ e) tg2 own2) ds2 (wipeE en3 own2) with
          | exc c' x' en2 => rw [e4] at es; cases es
          | stuck => rw [e4] at es; cases es
          | ok out en4 =>
            rw [e4] at es
            have es : (Rs.ok out (wipeE en4 own) : Rs (List D)) = .ok a env' := es
            cases es
            refine lc_loop (G := fun x H' Nx1 => gT K tg2 x (L2.wipe σ2 own2) H' fun σ3 H5 => L2.wipe σ3 own2 = L2.wipe σ2 own2 ∧ tB' K mg W0 (evC Φ c2) σ3 H5 fun b H6 =>
              if b = true then tE K mg W0 (evE Φ e) σ3 H6 fun y H7 => ∃ acc, H7 A = some (.lst acc) ∧ acc.length < sizeLine ∧ Nx1 (upd H7 A (.lst (acc ++ [y]))) else Nx1 H6) y4 e4 (li4.wipe own2) (fun d a' env env' os' F5 H5 x Nx1 es5 hl5 li5 dp5 nx5 => ?_) fun F5 H5 li5 ex5 => ?_
            · refine lc_turn hA htg2 es5 ?_ li5 dp5 nx5
              refine Nat.le_trans hl5 ?_
              rw [List.length_append]
              exact hlen
            · refine nx F5 H5 ?_ ((g3.ex.trans g4.ex).trans ex5)
              · have := li5.wipe own
                rw [wipe_sub own2 own hsub, hw] at this
                exact this

/-! ### comprehensions -/
theorem lcEnd_ok {σ : L2.St} {F1 H1 H0 : Hp} {env1 : SEnv} {own : List Nat} {r : Rs (List D)} {Q : VK} (p : Post X.K X.mg W σ (RE X.K σ H0) F1 H1 env1 (lcEnd env1 own r) Q) : ∃ out en, r = .ok out en ∧ szOk out.length = true ∧ Post X.K X.mg W σ (RE X.K σ H0) F1 H1 env1 (.ok (.tmp out) (backE env1 en own)) Q := by
  unfold lcEnd at p
  cases r with
  | exc c x e => exact p.elim
  | stuck => exact p.elim
  | ok out en =>
    cases hz : szOk out.length with
    | false => simp only [hz] at p; exact p.elim
    | true => simp only [hz, if_true] at p; exact ⟨out, en, rfl, hz, p⟩
/-- the new list, ahead of the first turn -/
theorem LI.first {σ : L2.St} {F H : Hp} {env : SEnv} {A : Addr} {own : List Nat} (s : Sim X.K F H σ env) (hA : H A = none) : LI X.K (O (L2.wipe σ own) (wipeE env own)) F H (L2.wipe σ own) A [] F (upd H A (.lst [])) (wipeE env own) := by
  have nO : ¬ O σ env A := fun z => by
    obtain ⟨_, vs, h⟩ := s.ofree z
    rw [hA] at h
    cases h
  have g : Go (fun _ => False) F H F (upd H A (.lst [])) := Go.newM hA
  have s' : Sim X.K F (upd H A (.lst [])) σ env := s.go g (s.sub.right (s.sub.none hA)) fun _ _ z => z
  exact ⟨s'.wipe own, Go.newM hA, fun _ z => z, ⟨[], upd_same, .nil⟩, s.sub.none hA, fun z => nO (own_wipe own A z)⟩
theorem lc_fin {σ : L2.St} {F1 H1 H0 F H : Hp} {env1 en : SEnv} {own : List Nat} {A : Addr} {out : List D} {Q : VK} (s1 : Sim X.K F1 H1 σ env1) (p : Post X.K X.mg W σ (RE X.K σ H0) F1 H1 env1 (.ok (.tmp out) (backE env1 en own)) Q)
    (li : LI X.K (O (L2.wipe σ own) (wipeE env1 own)) F1 H1 (L2.wipe σ own) A out F H en) (hA : H1 A = none) (h0 : ∀ a, H1 a = none → H0 a = none) : Q (.ref A) H := by
  obtain ⟨s, o⟩ := s1.back li.go li.sim li.own
  obtain ⟨vs, h1, h2⟩ := li.acc
  refine p (.ref A) F H (li.go.mono fun x z => .inl (own_wipe own x z)) o s ⟨A, vs, rfl, h1, li.fa, fun z => ?_, h0 A hA, h2⟩
  obtain ⟨_, vs', h⟩ := s1.ofree (o A z)
  rw [hA] at h
  cases h
theorem bigOut {out : List D} (h : szOk out.length = true) : out.length ≤ sizeLine := szOk_le h
theorem rd_lc {c : IO} {e : IE} {it : II} {tg : Tg} {own : List Nat} (htg : ∀ i ∈ tgS tg, i ∈ own) {σ : L2.St} {H : Hp} {Q : VK} (q : TE' X W (evE Φ (.lc e tg it c own)) σ H Q) :
    tLc (tI X.K X.mg W (evI Φ it)) (gT X.K tg) (tB' X.K X.mg W0 (evC Φ c)) (tE X.K X.mg W0 (evE Φ e)) own σ H Q := by
  obtain ⟨F, env, s, q⟩ := q
  refine ⟨F, env, s, (Post.bind (Rel1 := RY X.K σ H) q).imp ?_⟩
  rintro J H1 ⟨ds, env1, F1, g1, o1, s1, y1, p⟩ A hA
  obtain ⟨out, en, e1, hz, p⟩ := lcEnd_ok p
  refine lc_loop (G := fun x H' Nx => gT X.K tg x (L2.wipe σ own) H' fun σ2 H2 => L2.wipe σ2 own = L2.wipe σ own ∧ tB' X.K X.mg W0 (evC Φ c) σ2 H2 fun b H3 =>
      if b = true then tE X.K X.mg W0 (evE Φ e) σ2 H3 fun y H4 => ∃ acc, H4 A = some (.lst acc) ∧ acc.length < sizeLine ∧ Nx (upd H4 A (.lst (acc ++ [y]))) else Nx H3) y1 e1 (LI.first s1 hA) (fun d a env env' os F5 H5 x Nx es5 hl5 li5 dp5 nx5 => ?_) fun F5 H5 li5 ex5 => ?_
  · exact lc_turn hA htg es5 (Nat.le_trans hl5 (bigOut hz)) li5 dp5 nx5
  · exact lc_fin s1 p li5 hA fun a z => g1.fresh z
theorem rd_lc2 {c c2 : IO} {e : IE} {it it2 : II} {tg tg2 : Tg} {own own2 : List Nat} (htg : ∀ i ∈ tgS tg, i ∈ own) (htg2 : ∀ i ∈ tgS tg2, i ∈ own2) (hsub : ∀ i ∈ own2, i ∈ own) {σ : L2.St} {H : Hp} {Q : VK} (q : TE' X W (evE Φ (.lc2 e tg it c tg2 it2 c2 own own2)) σ H Q) :
    tLc2 (tI X.K X.mg W (evI Φ it)) (gT X.K tg) (tB' X.K X.mg W0 (evC Φ c)) (tI X.K X.mg W0 (evI Φ it2)) (gT X.K tg2) (tB' X.K X.mg W0 (evC Φ c2)) (tE X.K X.mg W0 (evE Φ e)) own own2 σ H Q := by
  obtain ⟨F, env, s, q⟩ := q
  refine ⟨F, env, s, (Post.bind (Rel1 := RY X.K σ H) q).imp ?_⟩
  rintro J H1 ⟨ds, env1, F1, g1, o1, s1, y1, p⟩ A hA
  obtain ⟨out, en, e1, hz, p⟩ := lcEnd_ok p
  refine lc_loop (G := fun x H' Nx => gT X.K tg x (L2.wipe σ own) H' fun σ2 H2 => L2.wipe σ2 own = L2.wipe σ own ∧ tB' X.K X.mg W0 (evC Φ c) σ2 H2 fun b H3 =>
      if b = true then tI X.K X.mg W0 (evI Φ it2) σ2 H3 fun J1 H4 => ∃ W1 : Nat → Nat → Hp → Prop, (∃ m, W1 0 m H4) ∧ ∀ j k H, W1 j k H →
        (J1.stop j H ∧ Nx H) ∨ (J1.go j H ∧ ∃ Nx1 : Hp → Prop, (∀ H', Nx1 H' → ∃ k', k' < k ∧ W1 (j + 1) k' H') ∧ ∀ x H', J1.yld j H x H' → gT X.K tg2 x (L2.wipe σ2 own2) H' fun σ3 H5 => L2.wipe σ3 own2 = L2.wipe σ2 own2 ∧ tB' X.K X.mg W0 (evC Φ c2) σ3 H5 fun b H6 =>
          if b = true then tE X.K X.mg W0 (evE Φ e) σ3 H6 fun y H7 => ∃ acc, H7 A = some (.lst acc) ∧ acc.length < sizeLine ∧ Nx1 (upd H7 A (.lst (acc ++ [y]))) else Nx1 H6)
      else Nx H3) y1 e1 (LI.first s1 hA) (fun d a env env' os F5 H5 x Nx es5 hl5 li5 dp5 nx5 => ?_) fun F5 H5 li5 ex5 => ?_
  · exact lc2_turn hA htg htg2 hsub es5 (Nat.le_trans hl5 (bigOut hz)) li5 dp5 nx5
  · exact lc_fin s1 p li5 hA fun a z => g1.fresh z
end
end PyE

set_option Elab.async false
set_option linter.all false
set_option autoImplicit false
set_option maxRecDepth 100000
set_option maxHeartbeats 4000000
/-! # All expressions -/
namespace PyE
open PySem PySem.Spec PyProof.Rows L2
section
variable {Φ : Fns} {Γ : Gam} {m : Nat}
def R3 (Φ : Fns) (X : Cx) (W : WX) (e : IE) (x : Expr) : Prop := PE X x (TE' X W (evE Φ e)) ∧ PT X x (tB' X.K X.mg W (evT Φ e)) ∧ ((∃ op vs pos, x = .BoolOp op vs pos) → PW X x (tB' X.K X.mg W (evT Φ e)))
theorem R3.plain {X : Cx} {W : WX} {e : IE} {x : Expr} (hp : plainB x = true) (h : PE X x (TE' X W (evE Φ e))) : R3 Φ X W e x :=
  ⟨h, t_plain hp h, fun ⟨_, _, _, z⟩ => by subst z; cases hp⟩
theorem R3.mk' {X : Cx} {W : WX} {e : IE} {x : Expr} (h : PE X x (TE' X W (evE Φ e))) (h2 : PT X x (tB' X.K X.mg W (evT Φ e))) (hn : ∀ op vs pos, x ≠ .BoolOp op vs pos) : R3 Φ X W e x :=
  ⟨h, h2, fun ⟨o, v, p, z⟩ => absurd z (hn o v p)⟩
theorem mem_all {own : List Nat} {l : List Nat} (h : l.all (fun i => own.contains i) = true) : ∀ i ∈ l, i ∈ own := fun i hi => by
  have := List.all_eq_true.mp h i hi
  simpa using this
theorem nodup' {S : Sc} {W : WX} {X : Cx} (C : Cok Φ Γ S m W X) : X.N.Nodup := by rw [C.hN]; exact C.nd
theorem blkok {S : Sc} {W : WX} {X : Cx} (C : Cok Φ Γ S m W X) {scope : Scope} {own : List Nat} (h : blkC Γ.N S.sc scope (ownP Γ.N own) = true) : BlkOk X.N X.env.scope scope (ownP Γ.N own) := by
  rw [C.hN, C.hsc]; exact blkOk_by h
mutual
theorem sndE : ∀ (e : IE) {S : Sc} {W : WX} {X : Cx} (C : Cok Φ Γ S m W X) (x : Expr), chkE Γ S e x = true → R3 Φ X W e x
  | .k d, S, W, X, C, x, hc => by
    refine R3.plain ?_ (p_k hc)
    unfold chkE at hc
    split at hc
    · rfl
    · cases hc
  | .v i, S, W, X, C, x, hc => by
    refine R3.plain ?_ (p_v C hc)
    unfold chkE at hc
    split at hc
    · rfl
    · cases hc
  | .g n d, S, W, X, C, x, hc => by
    refine R3.plain ?_ (p_g C hc)
    unfold chkE at hc
    split at hc
    · rfl
    · cases hc
  | .bin op a b, S, W, X, C, x, hc => by
    unfold chkE at hc
    split at hc
    · simp only [Bool.and_eq_true, decide_eq_true_eq] at hc
      obtain ⟨⟨rfl, h1⟩, h2⟩ := hc
      exact R3.plain rfl (p_bin C (sndE a C _ h1).1 (sndE b C _ h2).1)
    · cases hc
  | .neg a, S, W, X, C, x, hc => by
    unfold chkE at hc
    split at hc
    · exact R3.plain rfl (p_neg C (sndE a C _ hc).1)
    · cases hc
  | .cmp op a b, S, W, X, C, x, hc => by
    unfold chkE at hc
    split at hc
    · simp only [Bool.and_eq_true, decide_eq_true_eq] at hc
      obtain ⟨⟨⟨rfl, h0⟩, h1⟩, h2⟩ := hc
      exact R3.mk' (p_cmp C h0 (sndE a C _ h1).1 (sndE b C _ h2).1) (t_cmp C h0 (sndE a C _ h1).1 (sndE b C _ h2).1) fun _ _ _ z => by cases z
    · cases hc
  | .cmp2 op op' a b c, S, W, X, C, x, hc => by
    unfold chkE at hc
    split at hc
    · simp only [Bool.and_eq_true, decide_eq_true_eq] at hc
      obtain ⟨⟨⟨⟨⟨rfl, rfl⟩, h0⟩, h1⟩, h2⟩, h3⟩ := hc
      exact R3.mk' (p_cmp2 C h0 (sndE a C _ h1).1 (sndE b C _ h2).1 (sndE c C _ h3).1) (t_cmp2 C h0 (sndE a C _ h1).1 (sndE b C _ h2).1 (sndE c C _ h3).1) fun _ _ _ z => by cases z
    · cases hc
  | .and a b, S, W, X, C, x, hc => by
    unfold chkE at hc
    split at hc
    · rename_i y z r pos
      simp only [Bool.and_eq_true] at hc
      obtain ⟨h1, h2⟩ := hc
      obtain ⟨q1, q2, _⟩ := sndE a C _ h1
      cases r with
      | nil =>
        obtain ⟨p1, p2, _⟩ := sndE b C _ h2
        have w := t_and q2 (pw_and1 p2) (pos := pos)
        exact ⟨p_and q1 (pe_one p1), w.pt, fun _ => w⟩
      | cons z' r =>
        obtain ⟨p1, _, p3⟩ := sndE b C _ h2
        have w := t_and q2 (p3 ⟨_, _, _, rfl⟩)
        exact ⟨p_and q1 p1, w.pt, fun _ => w⟩
    · cases hc
  | .or a b, S, W, X, C, x, hc => by
    unfold chkE at hc
    split at hc
    · rename_i y z r pos
      simp only [Bool.and_eq_true] at hc
      obtain ⟨h1, h2⟩ := hc
      obtain ⟨q1, q2, _⟩ := sndE a C _ h1
      cases r with
      | nil =>
        obtain ⟨p1, p2, _⟩ := sndE b C _ h2
        have w := t_or q2 (pw_or1 p2) (pos := pos)
        exact ⟨p_or q1 (pe_one p1), w.pt, fun _ => w⟩
      | cons z' r =>
        obtain ⟨p1, _, p3⟩ := sndE b C _ h2
        have w := t_or q2 (p3 ⟨_, _, _, rfl⟩)
        exact ⟨p_or q1 p1, w.pt, fun _ => w⟩
    · cases hc
  | .nt a, S, W, X, C, x, hc => by
    unfold chkE at hc
    split at hc
    · obtain ⟨q1, q2, _⟩ := sndE a C _ hc
      exact R3.mk' (p_nt q1) (t_nt q2) fun _ _ _ z => by cases z
    · cases hc
  | .ife t a b, S, W, X, C, x, hc => by
    unfold chkE at hc
    split at hc
    · simp only [Bool.and_eq_true] at hc
      obtain ⟨⟨h1, h2⟩, h3⟩ := hc
      obtain ⟨q1, q2, _⟩ := sndE t C _ h1
      obtain ⟨r1, r2, _⟩ := sndE a C _ h2
      obtain ⟨s1, s2, _⟩ := sndE b C _ h3
      exact R3.mk' (p_ife q2 r1 s1) (t_ife q2 r2 s2) fun _ _ _ z => by cases z
    · cases hc
  | .tup es, S, W, X, C, x, hc => by
    unfold chkE at hc
    split at hc
    · exact R3.plain rfl (p_tup (sndEs es C _ hc))
    · cases hc
  | .lst es, S, W, X, C, x, hc => by
    unfold chkE at hc
    split at hc
    · exact R3.plain rfl (p_lst (sndEs es C _ hc))
    · cases hc
  | .ix a b, S, W, X, C, x, hc => by
    unfold chkE at hc
    split at hc
    · simp only [Bool.and_eq_true] at hc
      obtain ⟨⟨h0, h1⟩, h2⟩ := hc
      exact R3.plain rfl (p_ix h0 (sndE a C _ h1).1 (sndE b C _ h2).1)
    · cases hc
  | .sl a lo hi, S, W, X, C, x, hc => by
    unfold chkE at hc
    split at hc
    · simp only [Bool.and_eq_true] at hc
      obtain ⟨⟨h0, h1⟩, h2⟩ := hc
      exact R3.plain rfl (p_sl (sndE a C _ h0).1 (sndO lo C _ h1) (sndO hi C _ h2))
    · cases hc
  | .call f es, S, W, X, C, x, hc => by
    unfold chkE at hc
    split at hc
    · rename_i g p ys pos
      simp only [Bool.and_eq_true, beq_iff_eq] at hc
      obtain ⟨⟨⟨rfl, h1⟩, h2⟩, h3⟩ := hc
      exact R3.plain rfl (p_call C h3 h1 h2 (sndEs es C _ h3))
    · cases hc
  | .callb f i es, S, W, X, C, x, hc => by
    unfold chkE at hc
    split at hc
    · simp only [Bool.and_eq_true, beq_iff_eq, decide_eq_true_eq] at hc
      obtain ⟨⟨⟨⟨⟨⟨rfl, h1⟩, h2⟩, h3⟩, h4⟩, h5⟩, h6⟩ := hc
      exact R3.plain rfl (p_callb C h6 h1 h2 h3 h4 h5 (sndEs es C _ h6))
    · cases hc
  | .bf f es, S, W, X, C, x, hc => by
    unfold chkE at hc
    split at hc
    · simp only [Bool.and_eq_true, beq_iff_eq] at hc
      obtain ⟨⟨h0, h1⟩, h2⟩ := hc
      exact R3.plain rfl (p_bf C h2 h1 h0 (sndEs es C _ h2))
    · cases hc
  | .isi a ts tupled, S, W, X, C, x, hc => by
    unfold chkE at hc
    split at hc
    · rename_i g p y z pos
      simp only [Bool.and_eq_true, beq_iff_eq] at hc
      obtain ⟨⟨⟨⟨h0, h1⟩, h2⟩, h3⟩, h4⟩ := hc
      split at h3
      · simp only [Bool.and_eq_true, beq_iff_eq] at h3
        exact R3.plain rfl (p_isi1 C h1 h0 h4 h3.1 h3.2 (sndE a C _ h2).1)
      · simp only [Bool.and_eq_true, decide_eq_true_eq] at h3
        exact R3.plain rfl (p_isiT C h1 h0 h4 h3.1 h3.2 (sndE a C _ h2).1)
      · cases h3
    · cases hc
  | .lc e tg it c own, S, W, X, C, x, hc => by
    unfold chkE at hc
    split at hc
    · rename_i y tgx itx ifs scope pos
      simp only [Bool.and_eq_true] at hc
      obtain ⟨⟨⟨⟨⟨⟨h0, h1⟩, h2⟩, h3⟩, h4⟩, h5⟩, h6⟩ := hc
      refine R3.plain rfl (pe_imp (pe_lc (g := gT X.K tg) (tt := tB' X.K X.mg W0 (evC Φ c)) (te := tE X.K X.mg W0 (evE Φ e)) C.calm (nodup' C) (sndI it C _ _ h2) (blkok C h0) (fun s H A cl fp => pg_T (C.blk scope s H A cl fp) h3) (fun s H A cl fp => sndC c (C.blk scope s H A cl fp) _ h5) (fun s H A cl fp => (sndE e (C.blk scope s H A cl fp) _ h6).1) (folded_of h1)) fun σ H Q q => ?_)
      rw [ownP_snd]
      exact rd_lc (mem_all h4) q
    · cases hc
  | .lc2 e tg it c tg2 it2 c2 own own2, S, W, X, C, x, hc => by
    unfold chkE at hc
    split at hc
    · rename_i y tgx itx ifs tgx2 itx2 ifs2 scope pos
      simp only [Bool.and_eq_true] at hc
      obtain ⟨⟨⟨⟨⟨⟨⟨⟨⟨⟨⟨⟨h0, h1⟩, h1'⟩, h2⟩, h3⟩, h4⟩, h5⟩, h6⟩, h7⟩, h8⟩, h9⟩, h10⟩, h11⟩ := hc
      refine R3.plain rfl (pe_imp (pe_lc2 (g := gT X.K tg) (g1 := gT X.K tg2) (vs1 := own2) (tt := tB' X.K X.mg W0 (evC Φ c)) (te := tE X.K X.mg W0 (evE Φ e)) (wi1 := tI X.K X.mg W0 (evI Φ it2)) (tt1 := tB' X.K X.mg W0 (evC Φ c2)) C.calm (nodup' C) (sndI it C _ _ h2) (blkok C h0) (fun i hi => by rw [ownP_snd]; exact mem_all h6 i hi) (fun s H A cl fp => pg_T (C.blk scope s H A cl fp) h3) (fun s H A cl fp => sndC c (C.blk scope s H A cl fp) _ h5)
        (fun s H A cl fp => sndI it2 (C.blk scope s H A cl fp) _ _ h7) (fun s H A cl fp => pg_T (C.blk scope s H A cl fp) h8) (fun s H A cl fp => sndC c2 (C.blk scope s H A cl fp) _ h10)
        (fun s H A cl fp => (sndE e (C.blk scope s H A cl fp) _ h11).1) (folded_of h1) (fun env x => folded_of h1' x)) fun σ H Q q => ?_)
      rw [ownP_snd]
      exact rd_lc2 (mem_all h4) (mem_all h9) (mem_all h6) q
    · cases hc
theorem sndEs : ∀ (es : IEs) {S : Sc} {W : WX} {X : Cx} (C : Cok Φ Γ S m W X) (xs : List Expr), chkEs Γ S es xs = true → PA X xs (tEs X.K X.mg W (evEs Φ es))
  | .nil, S, W, X, C, xs, hc => by
    unfold chkEs at hc
    split at hc
    · exact a_nil
    · cases hc
  | .cons e es, S, W, X, C, xs, hc => by
    unfold chkEs at hc
    split at hc
    · simp only [Bool.and_eq_true] at hc
      exact a_cons hc.1.1 (sndE e C _ hc.1.2).1 (sndEs es C _ hc.2)
    · cases hc
theorem sndO : ∀ (o : IO) {S : Sc} {W : WX} {X : Cx} (C : Cok Φ Γ S m W X) (x : Option Expr), chkO Γ S o x = true → PO X x (tO X.K X.mg W (evO Φ o))
  | .none, S, W, X, C, x, hc => by
    unfold chkO at hc
    split at hc
    · exact o_none
    · cases hc
  | .some e, S, W, X, C, x, hc => by
    unfold chkO at hc
    split at hc
    · exact o_some (sndE e C _ hc).1
    · cases hc
theorem sndC : ∀ (o : IO) {S : Sc} {W : WX} {X : Cx} (C : Cok Φ Γ S m W X) (xs : List Expr), chkC Γ S o xs = true → PTs X xs (tB' X.K X.mg W (evC Φ o))
  | .none, S, W, X, C, xs, hc => by
    unfold chkC at hc
    split at hc
    · exact pts_imp pts_nil fun σ H Q q => by
        obtain ⟨F, env, s, q⟩ := q
        exact post_it (H0 := H) s q
    · cases hc
  | .some e, S, W, X, C, xs, hc => by
    unfold chkC at hc
    split at hc
    · exact pts_one (sndE e C _ hc).2.1
    · cases hc
theorem sndI : ∀ (it : II) {S : Sc} {W : WX} {X : Cx} (C : Cok Φ Γ S m W X) (tg x : Expr), chkI Γ S it tg x = true → PI X tg x (tI X.K X.mg W (evI Φ it))
  | .seq e, S, W, X, C, tg, x, hc => by
    unfold chkI at hc
    exact i_seq (sndE e C _ hc).1
  | .r1 a, S, W, X, C, tg, x, hc => by
    unfold chkI at hc
    split at hc
    · simp only [Bool.and_eq_true, beq_iff_eq] at hc
      obtain ⟨⟨⟨h0, h1⟩, h2⟩, h3⟩ := hc
      exact i_r1 C h1 h0 h2 (sndE a C _ h3).1
    · cases hc
  | .r2 a b, S, W, X, C, tg, x, hc => by
    unfold chkI at hc
    split at hc
    · simp only [Bool.and_eq_true, beq_iff_eq] at hc
      obtain ⟨⟨⟨⟨⟨h0, h1⟩, h2⟩, h3⟩, h4⟩, h5⟩ := hc
      exact i_r2 C h1 h0 h2 h3 (sndE a C _ h4).1 (sndE b C _ h5).1
    · cases hc
  | .r3 a b c, S, W, X, C, tg, x, hc => by
    unfold chkI at hc
    split at hc
    · simp only [Bool.and_eq_true, beq_iff_eq] at hc
      obtain ⟨⟨⟨⟨⟨⟨⟨h0, h1⟩, h2⟩, h3⟩, h3'⟩, h4⟩, h5⟩, h6⟩ := hc
      exact i_r3 C h1 h0 h2 h3 h3' (sndE a C _ h4).1 (sndE b C _ h5).1 (sndE c C _ h6).1
    · cases hc
  | .enum e, S, W, X, C, tg, x, hc => by
    unfold chkI at hc
    split at hc
    · simp only [Bool.and_eq_true, beq_iff_eq] at hc
      obtain ⟨⟨⟨h0, h1⟩, h2⟩, h3⟩ := hc
      exact i_enum C h1 h0 h2 (sndE e C _ h3).1
    · cases hc
end
end
end PyE

set_option Elab.async false
set_option linter.all false
set_option autoImplicit false
set_option maxRecDepth 100000
set_option maxHeartbeats 4000000
/-! # An own error over Exception (with own classes between) whose __init__ stores one field, at: made, raised, read -/
namespace PySem
namespace HandSPX
open Builtin Builtin.ObjectAttr
abbrev exTl : List Value := [.type "Exception", .type "BaseException", .type "object"]
def refsEX : List Value → Bool
  | .ref _ :: r => refsEX r
  | l => l == exTl
theorem refsEX_cases : ∀ l : List Value, refsEX l = true → (∃ c r, l = .ref c :: r ∧ refsEX r = true) ∨ l = exTl
  | [], e => .inr (beq_iff_eq.mp e)
  | .ref c :: r, e => .inl ⟨c, r, rfl, e⟩
  | .none :: _, e => .inr (beq_iff_eq.mp e)
  | .ellipsis :: _, e => .inr (beq_iff_eq.mp e)
  | .notImplemented :: _, e => .inr (beq_iff_eq.mp e)
  | .bool _ :: _, e => .inr (beq_iff_eq.mp e)
  | .int _ _ :: _, e => .inr (beq_iff_eq.mp e)
  | .float _ _ :: _, e => .inr (beq_iff_eq.mp e)
  | .str _ _ :: _, e => .inr (beq_iff_eq.mp e)
  | .bytes _ _ :: _, e => .inr (beq_iff_eq.mp e)
  | .type _ :: _, e => .inr (beq_iff_eq.mp e)
  | .builtin _ :: _, e => .inr (beq_iff_eq.mp e)
theorem refsEX_pass (self : Value) : ∀ l : List Value, refsEX l = true → refuseLoop self "__setattr__" l = pure () := by
  intro l
  induction l with
  | nil => intro e; exact absurd e (by decide)
  | cons a r ih =>
    intro e
    rcases refsEX_cases (a :: r) e with ⟨c, r', q, h⟩ | q
    · obtain ⟨rfl, rfl⟩ := List.cons.inj q
      rw [refuseLoop_ref]; exact ih h
    · rw [q]; exact F.store_Exception.passes self
theorem refsEX_contains (X : String) : ∀ l : List Value, refsEX l = true → l.contains (.type X) = exTl.contains (.type X) := by
  intro l
  induction l with
  | nil => intro e; exact absurd e (by decide)
  | cons a r ih =>
    intro e
    rcases refsEX_cases (a :: r) e with ⟨c, r', q, h⟩ | q
    · obtain ⟨rfl, rfl⟩ := List.cons.inj q
      rw [List.contains_cons, ih h]; rfl
    · rw [q]
theorem refsEX_ne {l : List Value} (e : refsEX l = true) : l.isEmpty = false := by
  cases l with
  | nil => exact absurd e (by decide)
  | cons _ _ => rfl
section
variable {prog : Program} {w : World} {A : Around} {E : Value → Shared → Prop} {R : Result → Shared → Prop} {hp : Heap} {g : Array GenState} {d : Drawn} {t : Nat} {os : OsState}
theorem exc_osaE {K : W.Frag} {name : Str} {tk : Tok} {v : Value} {x C : Addr} {fv : Array Value} {cd : ClassData}
    (X : K.In hp) (hx : hp.get? x = some { cls := .ref C, data := .fields fv }) (hcd : W.clsIn K C = some cd) (hm : refsEX cd.mro = true) (hh : cd.hasDict = true) (ha : W.findIn K (.ref C) name = some none)
    (hq : ∀ h' tk' dx, (∀ b o, b ≠ x → hp.get? b = some o → h'.get? b = some o) → hp.objs.size ≤ dx → dx ≠ x → h'.get? x = some { cls := .ref C, dict := some dx, data := .fields fv } →
      h'.Ns1 dx (fun y => if y = name then some v else none) → R (.ok (.ret .none)) ⟨h', g, d, tk', os⟩) :
    codeAny (model prog w) A (.call (.builtin "object.__setattr__") ⟨[.ref x, .str name tk, v], []⟩) R ⟨hp, g, d, t, os⟩ := by
  have I : W.InstAt hp x { cls := .ref C, data := .fields fv } C none := ⟨hx, rfl, rfl, trivial⟩
  have SF := F.store_object
  have ne := refsEX_ne hm
  have hob : cd.mro.contains (.type "object") = true := (refsEX_contains "object" _ hm).trans (by decide +kernel)
  have hxs : x ≠ hp.objs.size := Nat.ne_of_lt (Heap.lt_size hx)
  have sub : W.Looks (model prog w) hp (isInstance (.ref x) (.type "object")) true := I.type.andThen (W.looks_mroIn X (by unfold W.mroIn; rw [hcd, Option.bind_some, if_neg (by rw [ne]; decide), hob]))
  refine codeAny_call_builtin SF.slot.plain SF.entry (@W.check_slot (model prog w) _ _ ⟨hp, g, d, t, os⟩ "object.__setattr__" "object" "__setattr__" (.ref x) [.str name tk, v] [] _ SF.kind SF.split sub (SF.args (.ref x) (.str name tk) v) ?_)
  have hmr : W.Looks (model prog w) hp (mroOf (.ref C)) cd.mro := (W.looks_clsIn X hcd).andThen .now
  have L3 : W.Looks (model prog w) hp (storeTaker? none) none := .now
  have hcls : W.Looks (model prog w) hp (classData C) cd := W.looks_clsIn X hcd
  rw [W.osa_eq, refuse_eq]
  refine wpAny_bind (wpAny_bind (I.type.at (wpAny_bind (hmr.at ?_))))
  rw [refsEX_pass _ _ hm]
  refine wpAny_pure (wpAny_bind (I.type.at (wpAny_bind ((W.looks_findIn X ha).at (wpAny_bind (L3.at ?_))))))
  show wpAny _ _ (storeInOwnDict (.ref x) (.ref C) (.str name tk) name v false) _ _ _
  obtain ⟨nm, bs, mro, ns, qn, hd, sn, sb, ab, col, del⟩ := cd
  dsimp only at hh
  subst hh
  unfold storeInOwnDict ownDictForStores
  repeat (first | with_reducible refine store_in_new ?_ ?_ | with_reducible refine wpAny_loadPart_at hx ?_ | with_reducible refine hcls.at ?_ | wp_step)
  · exact ⟨_, #[], _, (Heap.get?_update_ne _ _ _ _ hxs.symm).trans (Heap.get?_push_at rfl rfl), rfl, fun e he => absurd he (by simp), fun _ => rfl⟩
  · intro h' tk' hn' hs
    have hx₁ : (hp.push { cls := .type "dict", data := .dict #[] }).get? x = some { cls := .ref C, data := .fields fv } := Heap.get?_push_of_some _ hx
    refine hq h' tk' hp.objs.size (fun b o hb ho => ?_) (Nat.le_refl _) hxs.symm ?_ hn'
    · exact (hs.2 b (Nat.ne_of_lt (Heap.lt_size ho))).trans ((Heap.get?_update_ne _ _ _ _ hb).trans (Heap.get?_push_of_some _ ho))
    · exact (hs.2 x hxs).trans (Heap.get?_update_self _ hx₁ rfl)
end
end HandSPX
end PySem
namespace PySem
namespace BadX
open PySem.W PySem.Calls PyProof.Rows PySem.HandSPX
/-! ### the text of __init__ -/
def iA (p1 p2 : Pos) : Arguments := { posonlyargs := [], args := [{ arg := "self", annotation := none, pos := p1 }, { arg := "at", annotation := none, pos := p2 }], vararg := none, kwonlyargs := [], kw_defaults := [], kwarg := none, defaults := [] }
def iB (q1 q2 q3 q4 : Pos) : List Stmt := [.Assign [.Attribute (.Name "self" q1) "at" q2] (.Name "at" q3) q4]
def iS : Scope := { kind := .function, names := [(PySem.Str.ofString "self", .local), (PySem.Str.ofString "at", .local)], isGenerator := false, isCoroutine := false, more := [] }
/-- what the written part says of BadValue, at C, and of its __init__, at fI -/
structure BadTxt (K : Frag) (mg : Str → Option Value) (C fI : Addr) : Prop where
  gC : mg "BadValue" = some (.ref C)
  cls : ∃ nm q N bs bm sn sub ab col dd k0 k1 k2 k3 k5, K.lookup C = some (excClassObj nm q C N bs bm true sn sub ab col dd k0 k1 k2 k3 k5 "Exception.__new__") ∧ refsEX bm = true
  sa : findIn K (.ref C) "__setattr__" = some (some (.builtin "object.__setattr__"))
  ga : findIn K (.ref C) "__getattribute__" = some (some (.builtin "BaseException.__getattribute__"))
  gg : findIn K (.ref C) "__getattr__" = some none
  noN : findIn K (.ref C) "at" = some none
  iC : findIn K (.ref C) "__init__" = some (some (.ref fI))
  tC : typeIn K (.ref fI) = some (.type "function")
  kC : keepIn K (.ref C) = true
  exC : subIn K (.ref C) (.type "BaseException") = some true
  tyC : typeIn K (.ref C) = some (.type "type")
  hdC : hasDictIn K C = true
  te : exmOne K (.ref C) (.ref C) = some true
  fn : ∃ (oc : Value) (od : Option Addr) (doc pm : Value) (an : Option Addr) (cdv ct : Value) (osl : Array (Option Value)) (p1 p2 q1 q2 q3 q4 : Pos),
    K.lookup fI = some ⟨oc, od, .func (fnOf "__init__" "BadValue.__init__" (iA p1 p2) (iB q1 q2 q3 q4) iS .none .none doc pm an cdv ct), osl⟩ ∧ codeIn K cdv "BadValue.__init__" = true
theorem one_size (v : Value) : [v].length ≤ sizeLine := by
  rw [sizeLine_eq]
  exact (by decide : 1 ≤ 16777216)
theorem kept_but {K : Frag} {h h' : Heap} {x : Addr} (X : K.In h) (hx : K.lookup x = none) (k : ∀ b o, b ≠ x → h.get? b = some o → h'.get? b = some o) : K.In h' := fun a o e =>
  k a o (fun z => by rw [z, hx] at e; cases e) (X a o e)
theorem ldC {M : Model} {s : Shared} {name : Str} {scope : Scope} {L a : Addr} {cd : Value} {m : Str → Option Value} {x : Str} {pos : Pos} {v : Value} {Q : Value → Shared → Prop} {A : Around} {E : Value → Shared → Prop} (hn : s.heap.Ns L m) (hv : m x = some v) (h : Q v s)
    (hk : scope.kind = .function := by rfl) (hl : (envOfC name scope L a cd).kindOf x = some .local := by rfl) (hd : (x == ("__debug__" : Str)) = false := by decide) :
    wpAny M A (eval (.Name x pos) (envOfC name scope L a cd)) Q E s := wpAny_Name (wpAny_loadName_local hk hl hn hv h) hd
/-- what __init__ leaves of a fresh exception at x -/
structure InitEnd (h h' : Heap) (x C dx t1 : Addr) (v : Value) : Prop where
  keep : ∀ b o, b ≠ x → h.get? b = some o → h'.get? b = some o
  obj : h'.get? x = some { cls := .ref C, dict := some dx, data := .fields #[.ref t1, .none, .none, .none, .bool false, .none] }
  dbig : h.objs.size ≤ dx
  dne : dx ≠ x
  ns : h'.Ns1 dx (fun y => if y = "at" then some v else none)
/-- a made BadValue -/
structure OwnMade (h h' : Heap) (e C d : Addr) (v : Value) : Prop where
  keep : ∀ b o, h.get? b = some o → h'.get? b = some o
  new : h.objs.size ≤ e
  obj : ∃ oe vs, h'.get? e = some oe ∧ oe.cls = .ref C ∧ oe.dict = some d ∧ oe.data = .fields vs ∧ vs[1]? = some .none
  dbig : h.objs.size ≤ d
  dne : d ≠ e
  ns : h'.Ns1 d (fun y => if y = "at" then some v else none)
section
variable {prog : Program} {w : World} {A : Around} {E : Value → Shared → Prop} {R : Result → Shared → Prop} {s : Shared} {K : Frag} {mg : Str → Option Value} {C fI : Addr}
theorem bad_init (T : BadTxt K mg C fI) {x t0 : Addr} {v : Value} (X : K.In s.heap) (hlim : s.heap.NoLimit) (hx : s.heap.get? x = some (excO C t0)) (hnx : K.lookup x = none) (hroom : A.depth < recursionLimit)
    (hq : ∀ h' tk dx, InitEnd s.heap h' x C dx t0 v → R (.ok (.ret .none)) { s with heap := h', toks := tk }) :
    codeAny (model prog w) A (.call (.ref fI) ⟨[.ref x, v], []⟩) R s := by
  obtain ⟨oc, od, doc, pm, an, cdv, ct, osl, p1, p2, q1, q2, q3, q4, ho, hcd⟩ := T.fn
  obtain ⟨nm, q, N, bs, bm, sn, sub, ab, col, dd, k0, k1, k2, k3, k5, hC, hbm⟩ := T.cls
  have hcl : clsIn K C = some { name := nm, bases := bs, mro := .ref C :: bm, ns := N, qualname := q, hasDict := true, slotNames := sn, subclasses := sub, abstract := ab, collection := col, hasDel := false } := by unfold clsIn; rw [hC] <;> rfl
  refine Att.call_fn (binds := [("self", .ref x), ("at", v)]) X hlim ho hcd hroom (BindsTo.of_eq (by first | rfl | with_unfolding_all rfl)) (by first | rfl | decide | with_unfolding_all rfl) (fun s₁ IC => ?_) rfl rfl rfl
  obtain ⟨h₁, tk₁, rfl⟩ := IC.toInCall.same
  have k : ∀ b o, s.heap.get? b = some o → h₁.get? b = some o := IC.toInCall.keep
  have hn := IC.toInCall.ns
  have hxL : s.heap.objs.size ≠ x := Nat.ne_of_gt (Heap.lt_size hx)
  have X₁ : K.In h₁ := X.keeps k
  have hx₁ := k _ _ hx
  -- self.at = at
  show wpAny _ _ (execs _ _) _ _ _
  refine wpAny_execs_cons (plainObj_wpAny_Assign_Attribute ?_)
  refine ldC (v := v) hn (by first | rfl | with_unfolding_all rfl | kernel_rfl) (ldC (v := .ref x) hn (by first | rfl | with_unfolding_all rfl | kernel_rfl) ?_)
  refine set_plain X₁ (ox := excO C t0) (od := none) ⟨hx₁, rfl, rfl, trivial⟩ T.sa ?_
  refine exc_osaE X₁ hx₁ hcl (show refsEX (.ref C :: bm) = true from hbm) rfl T.noN (fun h₃ tk₃ dx k₃ dn dne hx₃ hn₃ => ?_)
  show wpAny _ _ (execs _ _) _ _ _
  have z : s.heap.objs.size < h₁.objs.size := hn.lt
  exact wpAny_execs_nil (hq h₃ tk₃ dx ⟨fun b o hb e => k₃ b o hb (k b o e), hx₃, Nat.le_of_lt (Nat.lt_of_lt_of_le z dn), dne, hn₃⟩)
theorem bad_made (T : BadTxt K mg C fI) {v : Value} (X : K.In s.heap) (hlim : s.heap.NoLimit) (hroom : A.depth + 1 < recursionLimit)
    (hq : ∀ h' tk e d, OwnMade s.heap h' e C d v → R (.ok (.ret (.ref e))) { s with heap := h', toks := tk }) :
    codeAny (model prog w) A (.call (.ref C) ⟨[v], []⟩) R s := by
  obtain ⟨nm, q, N, bs, bm, sn, sub, ab, col, dd, k0, k1, k2, k3, k5, hC, hbm⟩ := T.cls
  obtain ⟨hp, g, dr, tk, os⟩ := s
  have k : ∀ b o, hp.get? b = some o → ((hp.push (kdv_tup [v])).push (excO C hp.objs.size)).get? b = some o := fun b o e => Heap.get?_push_of_some _ (Heap.get?_push_of_some _ e)
  have hget : ((hp.push (kdv_tup [v])).push (excO C hp.objs.size)).get? (hp.objs.size + 1) = some (excO C hp.objs.size) := by heap_get
  have hnx : K.lookup (hp.objs.size + 1) = none := by
    cases e : K.lookup (hp.objs.size + 1) with
    | none => rfl
    | some o =>
      have z : hp.get? (hp.objs.size + 1) = some o := X _ _ e
      exact absurd (Nat.lt_of_succ_lt (Heap.lt_size z)) (Nat.lt_irrefl _)
  refine call_own F.excBase_Exception (fun X => refsEX_contains X bm hbm) (X _ _ hC) (looks_findIn X T.iC) (fun self => bind_fn X self T.tC) (one_size v) ?_
  refine bad_init (s := ⟨(hp.push (kdv_tup [v])).push (excO C hp.objs.size), g, dr, tk, os⟩) T (X.keeps k) (hlim.keeps k) hget hnx ?_ fun h' tk' dx ⟨k', hx, dn, dne, hns⟩ => ?_
  · show A.depth + 1 < recursionLimit
    exact hroom
  · have old : ∀ b o, hp.get? b = some o → h'.get? b = some o := fun b o e => k' b o (Nat.ne_of_lt (Nat.lt_succ_of_lt (Heap.lt_size e))) (k b o e)
    have z : hp.objs.size + 1 + 1 ≤ dx := by
      first
        | (simpa only [Heap.size_push] using dn)
        | exact dn
        | (have q := dn; rw [Heap.size_push, Heap.size_push] at q; exact q)
    exact ⟨rfl, hq h' tk' (hp.objs.size + 1) dx ⟨old, Nat.le_succ _, ⟨_, _, hx, rfl, rfl, rfl, rfl⟩, Nat.le_trans (Nat.le_trans (Nat.le_succ _) (Nat.le_succ _)) z, dne, hns⟩⟩
end
end BadX
end PySem
namespace L2
open PySem PySem.Spec PyProof.Rows
theorem relO_bad {v : V} {v' : Value} (r : RelV v v') (f : Str) : RelO (List.lookup f [(("at" : Str), v)]) (if f = "at" then some v' else none) := by
  by_cases hw : f = "at"
  · subst hw
    rw [if_pos rfl]
    have q : List.lookup ("at" : Str) [(("at" : Str), v)] = some v := by simp [List.lookup]
    rw [q]
    exact r
  · rw [if_neg hw]
    have qw : (f == ("at" : Str)) = false := by simpa using hw
    have q2 : List.lookup f [(("at" : Str), v)] = none := by simp [List.lookup, qw]
    rw [q2]
    trivial
section
variable {X : Cx} {C fI : Addr}
/-- BadValue(e) -/
def tMkBad (C : Addr) (ta : TA) : St → Hp → XK → Prop := fun σ H Q => ta σ H fun vs H1 => ∃ v, vs = [v] ∧ ∀ d, H1 d = none → Q (.ref C) (some d) (upd H1 d (.xd [(("at" : Str), v)]))
theorem pmk_bad {a : Expr} {ta : TA} {p pos : Pos} {k : Nat} (T : PySem.BadX.BadTxt X.K X.mg C fI) (hr : Room k X.A) (ha : PA X [a] ta) (hg : Gl X "BadValue" := by rfl)
    (he : starEach (a :: []) X.env = (false, eval a X.env) :: starEach [] X.env := by rfl) (hpl : (backTo pos (starEach [] X.env)).any (·.1) = false := by rfl) :
    PMk X (.Call (.Name "BadValue" p) [a] [] pos) (tMkBad C ta) := by
  intro pins s σ H Q I h
  refine wpAny_Call_Name_kw (ld_glob I hg T.gC ?_)
  refine PySem.W.callWith_K (h₀ := X.base) I.ok.mod.kin T.kC (thn (ha.run pos pins s σ H _ I h) fun us s1 hh => ?_) he hpl
  obtain ⟨vs, H1, I1, r1, v, ev, q1⟩ := hh
  subst ev
  refine ⟨I1.kIn, ?_⟩
  cases r1 with
  | cons rv rn =>
    rename_i v' us'
    cases rn
    show wpAny _ _ (call (.ref C) [v']) _ _ _
    have hlim := I1.nolimit
    obtain ⟨hp, g, dr, tk, os⟩ := s1
    refine wpAny_call (PySem.BadX.bad_made T I1.kIn hlim (by have := hr.dp; omega) fun h' tk' e d M => ?_)
    show MkP X pins σ Q (.ref e) ⟨h', g, dr, tk', os⟩
    obtain ⟨oe, fv, hoe, hc, hd, hdat, h1⟩ := M.obj
    have hns := M.ns
    obtain ⟨G', g1, g2⟩ := restrict h' fun b => decide (b ≠ e)
    have gk : ∀ b, b ≠ e → G'.get? b = h'.get? b := fun b hb => g1 b (decide_eq_true hb)
    have ge : G'.get? e = none := g2 e (by simp)
    have old : ∀ b o, hp.get? b = some o → G'.get? b = some o := fun b o q => (gk b (Nat.ne_of_lt (Nat.lt_of_lt_of_le (Heap.lt_size q) M.new))).trans (M.keep b o q)
    have ob : ObjOk X.prog X.w (upd H1 d (.xd [(("at" : Str), v)])) G' d (.xd [(("at" : Str), v)]) :=
      ⟨_, hns.at (fun o q => (gk d M.dne).trans q), fun f => relO_bad rv f⟩
    have J : Inv X pins σ (upd H1 d (.xd [(("at" : Str), v)])) ⟨G', g, dr, tk', os⟩ := I1.laid (t' := tk') old M.dbig ob
    refine ⟨e, oe, fv, ⟨G', g, dr, tk', os⟩, _, .ref C, some d, rfl, J, fun b o q => ?_, ge, hoe, ⟨hc, hd⟩, hdat, h1, ?_, rfl, I1.bare, raises_own T.exC T.tyC, q1 d (I1.hok.fresh M.dbig)⟩
    · by_cases hb : b = e
      · have q' : G'.get? b = some o := q
        rw [hb, ge] at q'; cases q'
      · exact (gk b hb).symm.trans q
    · rw [upd_ne (Ne.symm M.dne)]
      exact I1.hok.fresh M.new
/-- raise BadValue(e) -/
def tRaiseBad (C : Addr) (W : WX) (ta : TA) : TS := fun _ σ H => tMkBad C ta σ H fun cls d H' => W cls d σ H'
theorem ps_raiseBad {a : Expr} {ta : TA} {W : WX} {p pos pos2 : Pos} {k : Nat} (hc : X.calm = true) (T : PySem.BadX.BadTxt X.K X.mg C fI) (hr : Room k X.A) (tk : Takes X W) (ha : PA X [a] ta) (hg : Gl X "BadValue" := by rfl)
    (he : starEach (a :: []) X.env = (false, eval a X.env) :: starEach [] X.env := by rfl) (hpl : (backTo pos (starEach [] X.env)).any (·.1) = false := by rfl) :
    PS X (.Raise (some (.Call (.Name "BadValue" p) [a] [] pos)) none pos2) (tRaiseBad C W ta) := ps_raise hc tk (pmk_bad T hr ha hg he hpl)
/-- error.at, error the exception that the suite holds (at a; its class cls, its dict d) -/
def tAtBad (C : Addr) (a : Addr) (cls : Value) (d : Option Addr) (te : TE) : TE := fun σ H Q => te σ H fun x H1 => x = .ref a ∧ cls = .ref C ∧ ∃ (dd : Addr) (v : V), d = some dd ∧ H1 dd = some (.xd [(("at" : Str), v)]) ∧ Q v H1
theorem pe_atBad {a : Addr} {oe : Obj} {cls : Value} {d : Option Addr} {pn : List (Addr × Obj)} {e : Expr} {te : TE} {pos : Pos} (T : PySem.BadX.BadTxt X.K X.mg C fI) (hz : Zc cls d oe) (hf : ∃ vs, oe.data = .fields vs) (he : PE (X.suite a ((a, oe) :: pn)) e te)
    (hb : attributeBase e "at" X.env (eval e X.env) = eval e X.env := by rfl) :
    PE (X.suite a ((a, oe) :: pn)) (.Attribute e "at" pos) (tAtBad C a cls d te) := by
  refine ⟨fun pins s σ H Q I h => ?_⟩
  refine attr_of hb (thn (he.run pins s σ H _ I h) fun u s1 hh => ?_)
  obtain ⟨x, H1, I1, rx, ex, ec, dd, v, ed, ea, q⟩ := hh
  subst ex
  obtain rfl : u = Value.ref a := rx
  subst ec
  subst ed
  obtain ⟨ha, _⟩ := I1.pin (a, oe) (List.mem_append_left _ List.mem_cons_self)
  obtain ⟨vs, hd⟩ := hf
  have hx : ObjOk X.prog X.w H1 s1.heap dd (.xd [(("at" : Str), v)]) := I1.hok dd _ ea
  obtain ⟨mA, hns, hr⟩ := hx
  obtain ⟨od, ho, hl⟩ := lookIn_ns hns
  have l : List.lookup ("at" : Str) [(("at" : Str), v)] = some v := by simp [List.lookup]
  obtain ⟨u, hu, ru⟩ := RelO.some_of (v := v) (o := mA "at") (by rw [← l]; exact hr "at")
  have J : PySem.W.InstAt s1.heap a oe C (some od) := ⟨ha, hz.1, by unfold PySem.W.notCls; rw [hd] <;> rfl, by rw [hz.2]; exact ho⟩
  exact HandSPX.exc_get I1.kIn J T.ga T.gg T.exC (PySem.W.findObj_own T.hdC T.noN rfl (by rw [hl, hu])) (handed_of ru) ⟨v, H1, I1.tok _, ru, q⟩
end
end L2

set_option Elab.async false
set_option linter.all false
set_option autoImplicit false
set_option maxRecDepth 100000
set_option maxHeartbeats 4000000
/-! # Statements: what the evaluator promises of them -/
namespace PyE
open PySem PySem.Spec PyProof.Rows L2
section
variable {K : Frag} {mg : Str → Option Value} {W : WX}
def FPost (K : Frag) (mg : Str → Option Value) (W : WX) (M : Addr → Prop) (F H : Hp) (Z : Ends) (r : FR) : Prop := match r with
  | .nxt e => ∀ σ' F' H', Go M F H F' H' → (∀ a, O σ' e a → M a ∨ H a = none) → Sim K F' H' σ' e → Z.nx σ' H'
  | .brk e => ∀ σ' F' H', Go M F H F' H' → (∀ a, O σ' e a → M a ∨ H a = none) → Sim K F' H' σ' e → Z.bk σ' H'
  | .cnt e => ∀ σ' F' H', Go M F H F' H' → (∀ a, O σ' e a → M a ∨ H a = none) → Sim K F' H' σ' e → Z.ct σ' H'
  | .ret d e => ∀ v σ' F' H', Go M F H F' H' → (∀ a, O σ' e a → M a ∨ H a = none) → Sim K F' H' σ' e → Dp K F' v d → Z.rt v H'
  | .exc c x e => ∀ d σ' F' H', Go M F H F' H' → (∀ a, O σ' e a → M a ∨ H a = none) → Sim K F' H' σ' e → XAt K F' H' d x → ∀ C, mg c = some (.ref C) → W (.ref C) (some d) σ' H'
  | .stuck => False
theorem FPost.go {M M' : Addr → Prop} {F H F1 H1 : Hp} {Z : Ends} {r : FR} (h : FPost K mg W M F H Z r) (g : Go M F H F1 H1) (hm : ∀ x, M' x → M x ∨ H x = none) : FPost K mg W M' F1 H1 Z r := by
  have own : ∀ {σ' : L2.St} {e : SEnv}, (∀ a, O σ' e a → M' a ∨ H1 a = none) → ∀ a, O σ' e a → M a ∨ H a = none := fun h a z => (h a z).elim (hm a) fun q => .inr (g.fresh q)
  cases r with
  | nxt e => exact fun σ' F' H' g' o s => h σ' F' H' (g.trans g' hm) (own o) s
  | brk e => exact fun σ' F' H' g' o s => h σ' F' H' (g.trans g' hm) (own o) s
  | cnt e => exact fun σ' F' H' g' o s => h σ' F' H' (g.trans g' hm) (own o) s
  | ret d e => exact fun v σ' F' H' g' o s => h v σ' F' H' (g.trans g' hm) (own o) s
  | exc c x e => exact fun d σ' F' H' g' o s => h d σ' F' H' (g.trans g' hm) (own o) s
  | stuck => exact h
abbrev Up (M : Addr → Prop) (H : Hp) : Addr → Prop := fun x => M x ∨ H x = none
theorem FPost.toF {α β : Type} {M : Addr → Prop} {F H : Hp} {Z : Ends} {σ : L2.St} {env : SEnv} {Rel : Hp → Hp → SEnv → α → β → Prop} {r : Rs α} {f : α → SEnv → FR} (hM : ∀ a, O σ env a → M a) (h : FPost K mg W M F H Z (r.toF f)) :
    Post K mg W σ Rel F H env r (fun b H1 => ∃ a env1 F1, Go M F H F1 H1 ∧ Own σ env env1 ∧ Sim K F1 H1 σ env1 ∧ Rel F1 H1 env1 a b ∧ FPost K mg W (Up M H) F1 H1 Z (f a env1)) := by
  cases r with
  | ok a e =>
    intro b F1 H1 g o s q
    have g' : Go M F H F1 H1 := g.mono fun x z => .inl (hM x z)
    have h : FPost K mg W M F H Z (f a e) := h
    exact ⟨a, e, F1, g', o, s, q, h.go g' fun x z => z⟩
  | exc c x e =>
    have h : FPost K mg W M F H Z (.exc c x e) := h
    intro d F' H' g o s xa C hC
    exact h d σ F' H' (g.mono fun x z => .inl (hM x z)) (fun a z => .inl (hM a (o a z))) s xa C hC
  | stuck => exact h
theorem fone {M : Addr → Prop} {F H : Hp} {Z : Ends} {σ : L2.St} {env : SEnv} {A : SEnv → Rs Vw} {k : Vw → SEnv → FR} (s : Sim K F H σ env) (hM : ∀ a, O σ env a → M a) (h : FPost K mg W M F H Z ((A env).toF k)) :
    tE K mg W A σ H (fun v1 H1 => ∃ x env1 F1, Go M F H F1 H1 ∧ (∀ a, O σ env1 a → Up M H a) ∧ Sim K F1 H1 σ env1 ∧ RE K σ H F1 H1 env1 x v1 ∧ FPost K mg W (Up M H) F1 H1 Z (k x env1)) :=
  ⟨F, env, s, (FPost.toF (Rel := RE K σ H) hM h).imp fun b H1 ⟨a, env1, F1, g, o, s1, r, p⟩ => ⟨a, env1, F1, g, fun a z => .inl (hM a (o a z)), s1, r, p⟩⟩
theorem fkeep {M : Addr → Prop} {F H : Hp} {Z : Ends} {σ : L2.St} {env : SEnv} {A : SEnv → Rs Vw} {k : D → SEnv → FR} (s : Sim K F H σ env) (hM : ∀ a, O σ env a → M a)
    (h : FPost K mg W M F H Z ((A env).toF fun w e1 => match keepF e1 w with
      | some (d, e2) => k d e2
      | none => .stuck)) :
    tE K mg W A σ H (fun v1 H1 => ∃ d env2 F2, Go M F H F2 H1 ∧ (∀ a, O σ env2 a → Up M H a) ∧ Sim K F2 H1 σ env2 ∧ Dp K F2 v1 d ∧ FPost K mg W (Up M H) F2 H1 Z (k d env2)) := by
  obtain ⟨F0, env0, s0, p0⟩ := fone s hM h
  refine ⟨F0, env0, s0, p0.imp ?_⟩
  rintro v1 H1 ⟨x, env1, F1, g, o, s1, r, p⟩
  cases e : keepF env1 x with
  | none => rw [e] at p; exact p.elim
  | some q =>
    obtain ⟨d, env2⟩ := q
    rw [e] at p
    have p : FPost K mg W (Up M H) F1 H1 Z (k d env2) := p
    obtain ⟨F2, g2, o2, s2, dp, _⟩ := keepF_ok (M := Up M H) s1 r e fun a => ⟨.inr, o a⟩
    exact ⟨d, env2, F2, g.trans g2 fun x z => z, fun a z => o a (o2 a z), s2, dp, p.go g2 fun x z => .inl z⟩
theorem putW_ok {M : Addr → Prop} {F H H0 : Hp} {σ : L2.St} {env e2 : SEnv} {w : Vw} {v : V} {i : Nat} (s : Sim K F H σ env) (hm : ∀ a, (H0 a = none → M a) ∧ (O σ env a → M a)) (r : VwR K F H H0 σ env w v) (e : putW env i w = some e2) :
    ∃ F2, Go M F H F2 H ∧ Sim K F2 H (σ.set i (some v)) e2 ∧ ∀ a, O (σ.set i (some v)) e2 a → M a := by
  have gen : ∀ {p : D × SEnv}, keepF env w = some p → putS p.2 i (.sh p.1) = some e2 → ∃ F2, Go M F H F2 H ∧ Sim K F2 H (σ.set i (some v)) e2 ∧ ∀ a, O (σ.set i (some v)) e2 a → M a := by
    rintro ⟨d, e1⟩ h1 h2
    obtain ⟨F2, g2, o2, s2, dp, _⟩ := keepF_ok (M := M) s r h1 hm
    obtain ⟨rfl, hi⟩ := putS_ok h2
    exact ⟨F2, g2, s2.setSh hi dp, fun a z => (hm a).2 (o2 a (own_setSh s2 a z))⟩
  cases w with
  | tmp ds =>
    obtain ⟨rfl, hi⟩ := putS_ok (show putS env i (.own ds) = some e2 from e)
    obtain ⟨a, vs, rfl, h1, h2, h3, h4, h5⟩ := r
    refine ⟨F, Go.refl _ _ _, s.setOwn hi h1 h2 h3 h5, fun b z => ?_⟩
    rcases own_setOwn b z with q | q
    · exact (hm b).2 q
    · exact (hm b).1 (q ▸ h4)
  | now d => exact gen (p := (d, env)) rfl e
  | late j =>
    have e : (keepF env (.late j)).bind (fun p => putS p.2 i (.sh p.1)) = some e2 := e
    cases h1 : keepF env (.late j) with
    | none => rw [h1] at e; cases e
    | some p => rw [h1] at e; exact gen h1 e
/-- a statement's reading -/
def tS (K : Frag) (mg : Str → Option Value) (W : WX) (ev : SEnv → FR) : TS := fun Z σ H => ∃ F env M, Sim K F H σ env ∧ (∀ a, O σ env a → M a) ∧ FPost K mg W M F H Z (ev env)
theorem FPost.tS {M M' : Addr → Prop} {F H F1 H1 : Hp} {Z : Ends} {σ : L2.St} {env : SEnv} {ev : SEnv → FR} (h : FPost K mg W M F H Z (ev env)) (g : Go M F H F1 H1) (s : Sim K F1 H1 σ env) (o : ∀ a, O σ env a → Up M H a) : PyE.tS K mg W ev Z σ H1 :=
  ⟨F1, env, Up M H, s, o, h.go g fun x z => z⟩
/-- the turns of a for -/
theorem for_loop {M1 : Addr → Prop} {F1 H1 : Hp} {σ1 : L2.St} {env1 : SEnv} {ds : List D} {J : It} {Z : Ends} {step : D → SEnv → FR} {g : TG} {tb : TS}
    (y : Yld K F1 ds J) (s : Sim K F1 H1 σ1 env1) (o : ∀ a, O σ1 env1 a → M1 a) (h : FPost K mg W M1 F1 H1 Z (forL step ds env1))
    (turn : ∀ (d : D) (env : SEnv) (F H : Hp) (σ : L2.St) (M : Addr → Prop) (x : V) (Z' : Ends), Sim K F H σ env → (∀ a, O σ env a → M a) → Dp K F x d → FPost K mg W M F H Z' (step d env) → g x σ H fun σ2 H2 => tb Z' σ2 H2) :
    ∃ W : Nat → Nat → L2.St → Hp → Prop, (∃ m, W 0 m σ1 H1) ∧ ∀ i m σ H, W i m σ H →
      (J.stop i H ∧ Z.nx σ H) ∨ (J.go i H ∧ ∃ N : L2.St → Hp → Prop, (∀ σ' H', N σ' H' → ∃ m', m' < m ∧ W (i + 1) m' σ' H') ∧ ∀ x H', J.yld i H x H' → g x σ H' fun σ2 H2 => tb { Z with nx := N, ct := N, bk := Z.nx } σ2 H2) := by
  refine ⟨fun i m σ H => m = ds.length - i ∧ i ≤ ds.length ∧ ∃ F env M, Ex F1 F ∧ Sim K F H σ env ∧ (∀ a, O σ env a → M a) ∧ FPost K mg W M F H Z (forL step (ds.drop i) env), ⟨_, rfl, Nat.zero_le _, F1, env1, M1, Ex.refl _, s, o, h⟩, ?_⟩
  rintro i m σ H ⟨rfl, hi, F, env, M, ex, s, o, p⟩
  by_cases hlt : i < ds.length
  · right
    have hd : ds[i]? = some ds[i] := List.getElem?_eq_getElem hlt
    obtain ⟨hgo, hy⟩ := (y i F H ex s.sub).1 _ hd
    rw [List.drop_eq_getElem_cons hlt] at p
    unfold forL at p
    refine ⟨hgo, fun σ' H' => ∃ F' env' M', Ex F1 F' ∧ Sim K F' H' σ' env' ∧ (∀ a, O σ' env' a → M' a) ∧ FPost K mg W M' F' H' Z (forL step (ds.drop (i + 1)) env'), fun σ' H' ⟨F', env', M', ex', s', o', p'⟩ => ⟨ds.length - (i + 1), by omega, rfl, hlt, F', env', M', ex', s', o', p'⟩, fun x H' hx => ?_⟩
    obtain ⟨F2, g2, sub2, dp⟩ := hy x H' hx
    refine turn ds[i] env F2 H' σ M x _ (s.go g2 sub2 fun _ _ h => h) o dp ?_
    have g2' : Go M F H F2 H' := g2.mono fun _ z => z.elim
    cases e1 : step ds[i] env with
    | nxt e =>
      rw [e1] at p
      exact fun σ' F' H'' g' o' s' => ⟨F', e, Up M H', ex.trans (g2.ex.trans g'.ex), s', o', p.go (g2'.trans g' fun x z => .inl z) fun x z => z.imp id g2'.fresh⟩
    | cnt e =>
      rw [e1] at p
      exact fun σ' F' H'' g' o' s' => ⟨F', e, Up M H', ex.trans (g2.ex.trans g'.ex), s', o', p.go (g2'.trans g' fun x z => .inl z) fun x z => z.imp id g2'.fresh⟩
    | brk e =>
      rw [e1] at p
      have p : FPost K mg W M F H Z (.nxt e) := p
      exact p.go g2' fun x z => .inl z
    | ret d e =>
      rw [e1] at p
      have p : FPost K mg W M F H Z (.ret d e) := p
      exact p.go g2' fun x z => .inl z
    | exc c q e =>
      rw [e1] at p
      have p : FPost K mg W M F H Z (.exc c q e) := p
      exact p.go g2' fun x z => .inl z
    | stuck => rw [e1] at p; exact p.elim
  · have hi' : i = ds.length := by omega
    subst hi'
    rw [List.drop_length] at p
    exact .inl ⟨(y _ F H ex s.sub).2 rfl, p σ F H (Go.refl _ _ _) (fun a z => .inl (o a z)) s⟩
end
end PyE

set_option Elab.async false
set_option linter.all false
set_option autoImplicit false
set_option maxRecDepth 100000
set_option maxHeartbeats 4000000
/-! # Statements: the checker, and that what it takes is run as the evaluator says -/
namespace PyE
open PySem PySem.Spec PyProof.Rows L2

/-! ### the checker -/
/-- a comprehension's own scope -/
def compScope : Expr → Option Scope
  | .ListComp _ _ s _ => some s
  | .SetComp _ _ s _ => some s
  | .DictComp _ _ _ s _ => some s
  | _ => none
def swB (S : Sc) (y : Str) (py : Pos) (x : Expr) : Bool := match compScope x with
  | none => false
  | some s => (S.sc.names.lookup y == some .local) && py.line == x.pos.line && !(s.names.any fun (n, k) => n == y && (k == .local || k == .cell))
def isLcE : IE → Bool
  | .lc _ _ _ _ _ => true
  | .lc2 _ _ _ _ _ _ _ _ _ => true
  | _ => false
def isTup : Expr → Bool
  | .Tuple _ _ _ => true
  | _ => false
/-- a tuple of constants alone, or more than three -/
def noSwap (ts : List Expr) (x : Expr) : Bool := match x with
  | .Tuple vs _ _ => !(ts.length == 2 || ts.length == 3) || vs.all (foldedForSure 8)
  | _ => true
def parOk (S : Sc) (ts vs : List Expr) : Bool := match ts, vs with
  | [.Name x px, .Name y py], [a, b] => (S.sc.names.lookup x == some .local) && (S.sc.names.lookup y == some .local) && px.line == py.line && notStar a && notStar b && !(vs.all (foldedForSure 8)) && !(vs.all (constantsAlone 8)) && decide (x ≠ y)
  | [.Name x px, .Name y py, .Name z pz], [a, b, c] => (S.sc.names.lookup x == some .local) && (S.sc.names.lookup y == some .local) && (S.sc.names.lookup z == some .local) && px.line == py.line && px.line == pz.line && notStar a && notStar b && notStar c && !(vs.all (foldedForSure 8)) && !(vs.all (constantsAlone 8)) && decide (x ≠ y ∧ x ≠ z ∧ y ≠ z)
  | _, _ => false
def chkKV (Γ : Gam) (S : Sc) : IE → Expr → Bool
  | .k d, x => chkE Γ S (.k d) x
  | .v i, x => chkE Γ S (.v i) x
  | _, _ => false
mutual
def chkS (Γ : Gam) (S : Sc) : IS → Stmt → Bool
  | .asg i e, st => match st with
    | .Assign [.Name y py] x pos => decide (Γ.N[i]? = some y) && locB S y && chkE Γ S e x && (!swB S y py x || isLcE e)
    | _ => false
  | .asgT is e, st => match st with
    | .Assign [.Tuple ts k p] x pos => chkNm Γ S is ts && chkE Γ S e x && noSwap ts x && noComp x
    | _ => false
  | .par is es, st => match st with
    | .Assign [.Tuple ts k p] (.Tuple xs k2 p2) pos => chkNm Γ S is ts && chkEs Γ S es xs && parOk S ts xs
    | _ => false
  | .aug i op e, st => match st with
    | .AugAssign (.Name y _) o x _ => decide (Γ.N[i]? = some y) && locB S y && decide (op = o) && (decide (op = .Add) || decide (op = .Sub)) && chkE Γ S e x
    | _ => false
  | .app i e, st => match st with
    | .Expr (.Call (.Attribute (.Name y py) m ap) [x] [] cp) pos => decide (Γ.N[i]? = some y) && visB S.sc y && okName y && (m == ("append" : Str)) && ap.endLine == cp.line && notStar x && chkE Γ S e x
    | _ => false
  | .set i a e, st => match st with
    | .Assign [.Subscript (.Name y _) z _] x _ => decide (Γ.N[i]? = some y) && visB S.sc y && okName y && notSlice z && noComp x && !isTup x && chkE Γ S a z && chkE Γ S e x
    | _ => false
  | .ex e, st => match st with
    | .Expr x _ => noComp x && chkE Γ S e x
    | _ => false
  | .ret e, st => match st with
    | .Return (some x) _ => chkE Γ S e x
    | _ => false
  | .retN, st => match st with
    | .Return none _ => true
    | _ => false
  | .ite t a b, st => match st with
    | .If x y z _ => chkE Γ S t x && chkSs Γ S a y && chkSs Γ S b z
    | _ => false
  | .for_ tg it b, st => match st with
    | .For tgx itx y [] _ => notSet itx && chkI Γ S it tgx itx && chkTg Γ S tg tgx && chkSs Γ S b y
    | _ => false
  | .whl t b, st => match st with
    | .While x y [] _ => chkE Γ S t x && chkSs Γ S b y
    | _ => false
  | .brk, st => match st with
    | .Break _ => true
    | _ => false
  | .cnt, st => match st with
    | .Continue _ => true
    | _ => false
  | .pass, st => match st with
    | .Pass _ => true
    | _ => false
  | .raise c e, st => match st with
    | .Raise (some (.Call (.Name g _) [x] [] _)) none _ => (c == g) && (c == ("BadValue" : Str)) && glB S.sc g && notStar x && chkE Γ S e x
    | _ => false
  | .tryAt b c i e, st => match st with
    | .Try y [.ExceptHandler (some (.Name g _)) (some n) [.Return (some (.Compare (.Attribute (.Name n' _) f _) [.Eq] [x] _)) _] _] [] [] _ =>
      (c == g) && (c == ("BadValue" : Str)) && glB S.sc g && decide (Γ.N[i]? = some n) && (S.sc.names.lookup n == some .local) && (n == n') && okName n && (f == ("at" : Str)) && notSet x && chkKV Γ S e x && chkSs Γ S b y
    | _ => false
def chkSs (Γ : Gam) (S : Sc) : ISs → List Stmt → Bool
  | .nil, sts => match sts with
    | [] => true
    | _ => false
  | .cons s r, sts => match sts with
    | st :: rest => chkS Γ S s st && chkSs Γ S r rest
    | _ => false
end

/-- the context of statements -/
structure Sok (Φ : Fns) (Γ : Gam) (S : Sc) (m : Nat) (W : WX) (X : Cx) : Prop extends Cok Φ Γ S m W X where
  po : PassesOwn (model X.prog X.w) X.A X.env X.xe
  fk : S.sc.kind = .function
  stk : X.stack = X.env :: X.outer
  fr : X.env.frame = some X.env.locals
  pm : 1 ≤ m
  bad : ∃ C fI, PySem.BadX.BadTxt X.K X.mg C fI
section
variable {Φ : Fns} {Γ : Gam} {S : Sc} {m : Nat} {W : WX} {X : Cx}
theorem ps_imp {st : Stmt} {t t' : TS} (h : PS X st t) (hi : ∀ Z σ H, t' Z σ H → t Z σ H) : PS X st t' := ⟨fun pins s σ H Z I q => h.run pins s σ H Z I (hi Z σ H q)⟩
theorem pss_imp {st : List Stmt} {t t' : TS} (h : PSs X st t) (hi : ∀ Z σ H, t' Z σ H → t Z σ H) : PSs X st t' := ⟨fun pins s σ H Z I q => h.run pins s σ H Z I (hi Z σ H q)⟩
abbrev TS' (X : Cx) (W : WX) (ev : SEnv → FR) : TS := tS X.K X.mg W ev
theorem here {K : Frag} {mg : Str → Option Value} {M : Addr → Prop} {F H : Hp} {Z : Ends} {σ : L2.St} {env : SEnv} (h : FPost K mg W M F H Z (.nxt env)) (s : Sim K F H σ env) (o : ∀ a, O σ env a → M a) : Z.nx σ H :=
  h σ F H (Go.refl _ _ _) (fun a z => .inl (o a z)) s
/-! ### swaps -/
theorem sw_not {x : Expr} {y : Str} {py : Pos} {l : Nat} {env : Env} (hk : env.scope.kind = .function) (hS : env.scope = S.sc) (h : swB S y py x = false) : swapsWith x (some (.Name y py)) l env = pure false := by
  have key : ∀ {s : Scope}, compScope x = some s → (env.kindOf y == some .local && py.line == x.pos.line && !(s.names.any fun (n, k) => n == y && (k == .local || k == .cell))) = false := fun {s} e => by
    unfold swB at h
    rw [e] at h
    have hy : env.kindOf y = S.sc.names.lookup y := by show env.scope.names.lookup y = _; rw [hS]
    rw [hy]
    exact h
  have hb : env.blockKind = .function := by unfold Env.blockKind; rw [hk]; rfl
  have hb' : (env.blockKind == .function) = true := by rw [hb]; rfl
  cases x with
  | ListComp a b s p =>
    have := key (s := s) rfl
    unfold swapsWith
    simp only [hb', Bool.true_and, this]
  | SetComp a b s p =>
    have := key (s := s) rfl
    unfold swapsWith
    simp only [hb', Bool.true_and, this]
  | DictComp a b c s p =>
    have := key (s := s) rfl
    unfold swapsWith
    simp only [hb', Bool.true_and, this]
  | _ => rfl
theorem sw_yes {a : Expr} {b : List Comprehension} {s : Scope} {p : Pos} {y : Str} {py : Pos} {l : Nat} {env : Env} (hk : env.scope.kind = .function) (hS : env.scope = S.sc) (h : swB S y py (.ListComp a b s p) = true) : swapsWith (.ListComp a b s p) (some (.Name y py)) l env = pure true ∧ env.scope.names.lookup y = some .local := by
  have h : ((S.sc.names.lookup y == some .local) && py.line == p.line && !(s.names.any fun (n, k) => n == y && (k == .local || k == .cell))) = true := h
  simp only [Bool.and_eq_true, Bool.not_eq_true'] at h
  have h1 : env.scope.names.lookup y = some .local := by rw [hS]; exact eq_of_beq h.1.1
  exact ⟨sw_true hk h1 h.1.2 h.2, h1⟩
theorem sw0 {x : Expr} {t : Expr} {l : Nat} {env : Env} (h : noComp x = true) : swapsWithSole [t] x l env = pure false := swaps_of h
theorem ss_one {t x : Expr} {env : Env} (h : ∀ ts k p, t ≠ .Tuple ts k p) (h2 : ∀ ts p, t ≠ .List ts p) : swappedStores [t] x env = pure none := by
  unfold swappedStores
  cases t <;> first | (exact absurd rfl (h _ _ _)) | (exact absurd rfl (h2 _ _)) | rfl
theorem ss_tup {ts : List Expr} {k : Nat} {p : Pos} {x : Expr} {env : Env} (h : noSwap ts x = true) : swappedStores [.Tuple ts k p] x env = pure none := by
  unfold swappedStores
  cases x with
  | Tuple vs k2 p2 =>
    have h : (!(ts.length == 2 || ts.length == 3) || vs.all (foldedForSure 8)) = true := h
    simp only [pure_bind]
    split
    · rfl
    · split
      · rfl
      · split
        · rfl
        · rename_i h1 _ _
          rw [Bool.or_eq_true] at h
          rcases h with h | h
          · rw [h] at h1
            simp at h1
          · rw [if_pos h]
  | _ => rfl

/-! ### assignments -/
theorem asg_rd {te : TE} {i : Nat} {e : IE} {X' : Cx} (hte : te = TE' X W (evE Φ e)) {n : Nat} {Z : Ends} {σ : L2.St} {H : Hp} (q : TS' X W (evS Φ n (.asg i e)) Z σ H) : tAsg te (gName i) Z σ H := by
  subst hte
  obtain ⟨F, env, M, s, o, p⟩ := q
  obtain ⟨F1, env1, s1, q1⟩ := fone s o p
  refine ⟨F1, env1, s1, q1.imp ?_⟩
  rintro v H1 ⟨w, env2, F2, g, o2, s2, r, p⟩
  cases e1 : putW env2 i w with
  | none => rw [e1] at p; exact p.elim
  | some e2 =>
    rw [e1] at p
    have p : FPost X.K X.mg W (Up M H) F2 H1 Z (.nxt e2) := p
    obtain ⟨F3, g3, s3, o3⟩ := putW_ok (M := Up M H) s2 (fun a => ⟨.inr, o2 a⟩) r e1
    exact here (p.go g3 fun x z => .inl z) s3 o3
theorem asgT_rd {is : List Nat} {e : IE} {n : Nat} {Z : Ends} {σ : L2.St} {H : Hp} (q : TS' X W (evS Φ n (.asgT is e)) Z σ H) : tAsg (TE' X W (evE Φ e)) (gT X.K (.many is)) Z σ H := by
  obtain ⟨F, env, M, s, o, p⟩ := q
  obtain ⟨F1, env1, s1, q1⟩ := fkeep (k := fun d e2 => match putT e2 (.many is) d with
      | some e3 => FR.nxt e3
      | none => .stuck) s o p
  refine ⟨F1, env1, s1, q1.imp ?_⟩
  rintro v H1 ⟨d, env2, F2, g, o2, s2, dp, p⟩
  cases e1 : putT env2 (.many is) d with
  | none => rw [e1] at p; exact p.elim
  | some e2 =>
    rw [e1] at p
    exact putT_ok s2 dp e1 fun σ3 s3 o3 _ => here p s3 fun a z => o2 a (o3 a z)
theorem par_end {M : Addr → Prop} {F H : Hp} {Z : Ends} {σ : L2.St} {e2 : SEnv} {is : List Nat} {ds : List D} {vs : List V} (s : Sim X.K F H σ e2) (o : ∀ a, O σ e2 a → M a) (dp : DpAll X.K F vs ds) (p : FPost X.K X.mg W M F H Z (match putN e2 is ds with
      | some e3 => FR.nxt e3
      | none => .stuck)) : gT.gN is vs σ H Z.nx := by
  cases e1 : putN e2 is ds with
  | none => rw [e1] at p; exact p.elim
  | some e3 =>
    rw [e1] at p
    exact setN_ok s dp e1 fun σ3 s3 o3 _ => here p s3 fun a z => o a (o3 a z)
theorem par_rd {is : List Nat} {es : IEs} {n : Nat} {Z : Ends} {σ : L2.St} {H : Hp} (q : TS' X W (evS Φ n (.par is es)) Z σ H) : tEs X.K X.mg W (evEs Φ es) σ H (fun vs H1 => gT.gN is vs σ H1 Z.nx) := by
  obtain ⟨F, env, M, s, o, p⟩ := q
  refine ⟨F, env, s, (FPost.toF (Rel := REs X.K σ H) o p).imp ?_⟩
  rintro vs H1 ⟨ws, env1, F1, g, o1, s1, r, p⟩
  cases e1 : keepN env1 ws with
  | none => rw [e1] at p; exact p.elim
  | some q =>
    obtain ⟨ds, e2⟩ := q
    rw [e1] at p
    have p : FPost X.K X.mg W (Up M H) F1 H1 Z (match putN e2 is ds with
      | some e3 => FR.nxt e3
      | none => .stuck) := p
    obtain ⟨F2, g2, o2, s2, dp⟩ := keepN_ok (M := Up M H) s1 r e1 fun a => ⟨.inr, fun z => .inl (o a (o1 a z))⟩
    exact par_end s2 (fun a z => .inl (o a (o1 a (o2 a z)))) dp (p.go g2 fun x z => .inl z)
theorem aug_rd {i : Nat} {op : Operator} {e : IE} {f : Int → Int → Int} (hf : ∀ a b : Int, binD op (.int a) (.int b) = some (.now (.int (f a b)))) {n : Nat} {Z : Ends} {σ : L2.St} {H : Hp} (q : TS' X W (evS Φ n (.aug i op e)) Z σ H) : tAug i (TE' X W (evE Φ e)) (ipI f) Z σ H := by
  obtain ⟨F, env, M, s, o, p⟩ := q
  unfold evS at p
  cases e0 : env[i]? with
  | none => rw [e0] at p; exact p.elim
  | some sl =>
    rw [e0] at p
    cases sl with
    | no => exact p.elim
    | own _ => exact p.elim
    | bor _ => exact p.elim
    | sh d =>
      obtain ⟨x, h1, h2⟩ := s.sh i d e0
      refine ⟨x, h1, ?_⟩
      obtain ⟨F1, env1, s1, q1⟩ := fone s o p
      refine ⟨F1, env1, s1, q1.imp ?_⟩
      rintro v H1 ⟨w, env2, F2, g, o2, s2, r, p⟩
      cases d with
      | int a =>
        cases e1 : look env2 w with
        | none => rw [e1] at p; exact p.elim
        | some d' =>
          rw [e1] at p
          cases d' with
          | int b =>
            have p : FPost X.K X.mg W (Up M H) F2 H1 Z (match binD op (.int a) (.int b) with
              | some (.now d') => (match putS env2 i (.sh d') with
                | some e2 => FR.nxt e2
                | none => .stuck)
              | _ => .stuck) := p
            rw [hf a b] at p
            have p : FPost X.K X.mg W (Up M H) F2 H1 Z (match putS env2 i (.sh (.int (f a b))) with
                | some e2 => FR.nxt e2
                | none => .stuck) := p
            cases e2 : putS env2 i (.sh (.int (f a b))) with
            | none => rw [e2] at p; exact p.elim
            | some e3 =>
              rw [e2] at p
              obtain ⟨rfl, hi⟩ := putS_ok e2
              have hv := (look_vr s2 r e1).int
              subst hv
              cases h2
              exact ⟨a, b, rfl, rfl, here p (s2.setSh hi (.int _)) fun a z => o2 a (own_setSh s2 a z)⟩
          | _ => exact p.elim
      | _ => exact p.elim

/-! ### lists that are written -/
theorem mine_of {env : SEnv} {i : Nat} {ds : List D} (h : env[i]? = some (.own ds) ∨ env[i]? = some (.bor ds)) : Mine env i ds := h
/-- the kinds of slot that a list of this frame's is in -/
theorem two_kinds {F H : Hp} {M : Addr → Prop} {Z : Ends} {env : SEnv} {i : Nat} {f : List D → FR} {g : List D → FR} (p : FPost X.K X.mg W M F H Z (match env[i]? with
    | some (.own ds) => f ds
    | some (.bor ds) => g ds
    | _ => .stuck)) : (∃ ds, env[i]? = some (.own ds) ∧ FPost X.K X.mg W M F H Z (f ds)) ∨ (∃ ds, env[i]? = some (.bor ds) ∧ FPost X.K X.mg W M F H Z (g ds)) := by
  cases e : env[i]? with
  | none => rw [e] at p; exact p.elim
  | some sl =>
    rw [e] at p
    cases sl with
    | no => exact p.elim
    | sh _ => exact p.elim
    | own ds => exact .inl ⟨ds, rfl, p⟩
    | bor ds => exact .inr ⟨ds, rfl, p⟩
end
end PyE

set_option Elab.async false
set_option linter.all false
set_option autoImplicit false
set_option maxRecDepth 100000
set_option maxHeartbeats 4000000
/-! # All statements -/
namespace PyE
open PySem PySem.Spec PyProof.Rows L2
section
variable {Φ : Fns} {Γ : Gam} {S : Sc} {m : Nat} {W : WX} {X : Cx}
theorem isMine_of {env : SEnv} {i : Nat} (h : isMine env i = true) : ∃ ds, Mine env i ds := by
  unfold isMine at h
  split at h
  · rename_i ds e; exact ⟨ds, .inl e⟩
  · rename_i ds e; exact ⟨ds, .inr e⟩
  · cases h
theorem if_mine {F H : Hp} {M : Addr → Prop} {Z : Ends} {env : SEnv} {i : Nat} {r : FR} (p : FPost X.K X.mg W M F H Z (if isMine env i = true then r else .stuck)) : isMine env i = true ∧ FPost X.K X.mg W M F H Z r := by
  cases h : isMine env i with
  | false => rw [h] at p; exact p.elim
  | true => rw [h] at p; exact ⟨rfl, p⟩
theorem app_end {M : Addr → Prop} {F H : Hp} {Z : Ends} {σ : L2.St} {e2 : SEnv} {i : Nat} {d : D} {v : V} {a : Addr} (s : Sim X.K F H σ e2) (o : ∀ a, O σ e2 a → M a) (ha : σ[i]? = some (some (.ref a))) (dp : Dp X.K F v d) (p : FPost X.K X.mg W M F H Z (appK e2 i d)) :
    rAppend (.ref a) [v] H (fun _ H3 => Z.nx σ H3) := by
  unfold appK at p
  have fin : ∀ {ds : List D} {sl : Sl}, Mine e2 i ds → ((e2[i]? = some (.own ds) ∧ sl = .own (ds ++ [d])) ∨ (e2[i]? = some (.bor ds) ∧ sl = .bor (ds ++ [d]))) → FPost X.K X.mg W M F H Z (if szOk (ds.length + 1) = true then .nxt (e2.set i sl) else .stuck) → rAppend (.ref a) [v] H (fun _ H3 => Z.nx σ H3) := by
    intro ds sl mi hsl p
    cases hz : szOk (ds.length + 1) with
    | false => rw [hz] at p; exact p.elim
    | true =>
      rw [hz] at p
      have p : FPost X.K X.mg W M F H Z (.nxt (e2.set i sl)) := p
      obtain ⟨a', vs, q1, q2, q3, q4⟩ := s.own i ds mi
      rw [ha] at q1
      cases q1
      obtain ⟨g, s3, o3⟩ := s.setMine (vs := vs ++ [v]) mi hsl ha (dpa_app q4 (.cons dp .nil))
      refine ⟨a, vs, v, rfl, rfl, q2, ?_, here (p.go (g.mono fun x z => .inl (o x z)) fun x z => .inl z) s3 fun x z => o x (o3 x z)⟩
      have := dpa_len q4
      have hz' : ds.length + 1 ≤ 16777216 := by unfold szOk at hz; exact of_decide_eq_true hz
      rw [sizeLine_eq]
      omega
  rcases two_kinds p with ⟨ds, e, p⟩ | ⟨ds, e, p⟩
  · exact fin (.inl e) (.inl ⟨e, rfl⟩) p
  · exact fin (.inr e) (.inr ⟨e, rfl⟩) p
theorem set_end {M : Addr → Prop} {F H : Hp} {Z : Ends} {σ : L2.St} {e2 : SEnv} {i : Nat} {d : D} {v : V} {a : Addr} {j : Int} (s : Sim X.K F H σ e2) (o : ∀ a, O σ e2 a → M a) (ha : σ[i]? = some (some (.ref a))) (dp : Dp X.K F v d) (p : FPost X.K X.mg W M F H Z (setK e2 i j d)) :
    rSetL (.ref a) (.int j) v H (fun H3 => Z.nx σ H3) := by
  unfold setK at p
  have fin : ∀ {ds : List D} {f : Nat → Sl}, Mine e2 i ds → (∀ k, (e2[i]? = some (.own ds) ∧ f k = .own (ds.set k d)) ∨ (e2[i]? = some (.bor ds) ∧ f k = .bor (ds.set k d))) → FPost X.K X.mg W M F H Z (match ixN ds.length j with
      | some m => .nxt (e2.set i (f m))
      | none => .stuck) → rSetL (.ref a) (.int j) v H (fun H3 => Z.nx σ H3) := by
    intro ds f mi hsl p
    cases hz : ixN ds.length j with
    | none => rw [hz] at p; exact p.elim
    | some k =>
      rw [hz] at p
      have p : FPost X.K X.mg W M F H Z (.nxt (e2.set i (f k))) := p
      obtain ⟨a', vs, q1, q2, q3, q4⟩ := s.own i ds mi
      rw [ha] at q1
      cases q1
      obtain ⟨g, s3, o3⟩ := s.setMine (vs := vs.set k v) mi (hsl k) ha (dpa_set dp k q4)
      exact ⟨a, vs, j, k, rfl, rfl, q2, by rw [dpa_len q4]; exact hz, here (p.go (g.mono fun x z => .inl (o x z)) fun x z => .inl z) s3 fun x z => o x (o3 x z)⟩
  rcases two_kinds p with ⟨ds, e, p⟩ | ⟨ds, e, p⟩
  · exact fin (f := fun k => .own (ds.set k d)) (.inl e) (fun k => .inl ⟨e, rfl⟩) p
  · exact fin (f := fun k => .bor (ds.set k d)) (.inr e) (fun k => .inr ⟨e, rfl⟩) p
theorem app_rd {i : Nat} {e : IE} {n : Nat} {Z : Ends} {σ : L2.St} {H : Hp} (q : TS' X W (evS Φ n (.app i e)) Z σ H) : tDrop (tBM X.K "list" rAppend (tVar i) (tCons (TE' X W (evE Φ e)) tNil)) Z σ H := by
  obtain ⟨F, env, M, s, o, p⟩ := q
  unfold evS at p
  obtain ⟨hm, p⟩ := if_mine p
  obtain ⟨ds0, mi⟩ := isMine_of hm
  obtain ⟨a, vs, q1, q2, q3, q4⟩ := s.own i ds0 mi
  refine ⟨_, q1, .inl ⟨rfl, vs, .inl (.inl q2)⟩, ?_⟩
  obtain ⟨F1, env1, s1, p1⟩ := fkeep (k := fun d e2 => appK e2 i d) s o p
  refine ⟨F1, env1, s1, p1.imp ?_⟩
  rintro v H1 ⟨d, env2, F2, g, o2, s2, dp, p⟩
  exact app_end s2 o2 q1 dp p
theorem set_rd {i : Nat} {a e : IE} {n : Nat} {Z : Ends} {σ : L2.St} {H : Hp} (q : TS' X W (evS Φ n (.set i a e)) Z σ H) : tAsg (TE' X W (evE Φ e)) (gSub (tVar i) (TE' X W (evE Φ a)) rSetL) Z σ H := by
  obtain ⟨F, env, M, s, o, p⟩ := q
  unfold evS at p
  obtain ⟨hm, p⟩ := if_mine p
  obtain ⟨ds0, mi⟩ := isMine_of hm
  obtain ⟨a0, vs, q1, q2, q3, q4⟩ := s.own i ds0 mi
  obtain ⟨F1, env1, s1, p1⟩ := fkeep (k := fun d e2 => (evE Φ a e2).toF fun x e3 => match look e3 x with
      | some (.int j) => setK e3 i j d
      | _ => .stuck) s o p
  refine ⟨F1, env1, s1, p1.imp ?_⟩
  rintro v H1 ⟨d, env2, F2, g, o2, s2, dp, p⟩
  refine ⟨_, q1, ?_⟩
  obtain ⟨F3, env3, s3, p3⟩ := fone s2 o2 p
  refine ⟨F3, env3, s3, p3.imp ?_⟩
  rintro j H2 ⟨x, env4, F4, g4, o4, s4, r, p⟩
  cases e1 : look env4 x with
  | none => rw [e1] at p; exact p.elim
  | some dj =>
    rw [e1] at p
    cases dj with
    | int k =>
      have hv := (look_vr s4 r e1).int
      subst hv
      exact set_end s4 o4 q1 (dp_ex g4.ex _ _ dp) p
    | _ => exact p.elim

/-! ### the rest -/
theorem ex_rd {e : IE} {n : Nat} {Z : Ends} {σ : L2.St} {H : Hp} (q : TS' X W (evS Φ n (.ex e)) Z σ H) : tDrop (TE' X W (evE Φ e)) Z σ H := by
  obtain ⟨F, env, M, s, o, p⟩ := q
  obtain ⟨F1, env1, s1, q1⟩ := fone s o p
  refine ⟨F1, env1, s1, q1.imp ?_⟩
  rintro v H1 ⟨w, env2, F2, g, o2, s2, r, p⟩
  exact here p s2 o2
theorem ret_rd {e : IE} {n : Nat} {Z : Ends} {σ : L2.St} {H : Hp} (q : TS' X W (evS Φ n (.ret e)) Z σ H) : tRet (TE' X W (evE Φ e)) Z σ H := by
  obtain ⟨F, env, M, s, o, p⟩ := q
  obtain ⟨F1, env1, s1, q1⟩ := fkeep (k := fun d e2 => FR.ret d e2) s o p
  refine ⟨F1, env1, s1, q1.imp ?_⟩
  rintro v H1 ⟨d, env2, F2, g, o2, s2, dp, p⟩
  exact p v σ F2 H1 (Go.refl _ _ _) (fun a z => .inl (o2 a z)) s2 dp
theorem retN_rd {n : Nat} {Z : Ends} {σ : L2.St} {H : Hp} (q : TS' X W (evS Φ n .retN) Z σ H) : tRetN Z σ H := by
  obtain ⟨F, env, M, s, o, p⟩ := q
  exact p .non σ F H (Go.refl _ _ _) (fun a z => .inl (o a z)) s .non
theorem nx_rd {Z : Ends} {σ : L2.St} {H : Hp} (q : TS' X W (fun env => .nxt env) Z σ H) : tNext Z σ H := by
  obtain ⟨F, env, M, s, o, p⟩ := q
  exact here p s o
theorem brk_rd {n : Nat} {Z : Ends} {σ : L2.St} {H : Hp} (q : TS' X W (evS Φ n .brk) Z σ H) : tBreak Z σ H := by
  obtain ⟨F, env, M, s, o, p⟩ := q
  exact p σ F H (Go.refl _ _ _) (fun a z => .inl (o a z)) s
theorem cnt_rd {n : Nat} {Z : Ends} {σ : L2.St} {H : Hp} (q : TS' X W (evS Φ n .cnt) Z σ H) : tCont Z σ H := by
  obtain ⟨F, env, M, s, o, p⟩ := q
  exact p σ F H (Go.refl _ _ _) (fun a z => .inl (o a z)) s
theorem ite_rd {t : IE} {a b : ISs} {n : Nat} {Z : Ends} {σ : L2.St} {H : Hp} (q : TS' X W (evS Φ n (.ite t a b)) Z σ H) : tIfS (tB' X.K X.mg W (evT Φ t)) (TS' X W (evSs Φ n a)) (TS' X W (evSs Φ n b)) Z σ H := by
  obtain ⟨F, env, M, s, o, p⟩ := q
  refine ⟨F, env, s, (FPost.toF (Rel := RI σ H) o p).imp ?_⟩
  rintro b' H1 ⟨c, env1, F1, g, o1, s1, r, p⟩
  have r : c = b' := r
  subst r
  cases c with
  | true => exact if_T rfl ⟨F1, env1, Up M H, s1, fun a z => .inl (o a (o1 a z)), p⟩
  | false => exact if_F rfl ⟨F1, env1, Up M H, s1, fun a z => .inl (o a (o1 a z)), p⟩
theorem for_rd {tg : Tg} {it : II} {b : ISs} {n : Nat} {Z : Ends} {σ : L2.St} {H : Hp} (q : TS' X W (evS Φ n (.for_ tg it b)) Z σ H) : tFor (tI X.K X.mg W (evI Φ it)) (gT X.K tg) (TS' X W (evSs Φ n b)) Z σ H := by
  obtain ⟨F, env, M, s, o, p⟩ := q
  refine ⟨F, env, s, (FPost.toF (Rel := RY X.K σ H) o p).imp ?_⟩
  rintro J H1 ⟨ds, env1, F1, g, o1, s1, y, p⟩
  refine for_loop (g := gT X.K tg) (tb := TS' X W (evSs Φ n b)) y s1 (fun a z => .inl (o a (o1 a z))) p ?_
  intro d env F H σ M x Z' s o dp p
  cases e1 : putT env tg d with
  | none => rw [e1] at p; exact p.elim
  | some e2 =>
    rw [e1] at p
    exact putT_ok s dp e1 fun σ3 s3 o3 _ => ⟨F, e2, M, s3, fun a z => o a (o3 a z), p⟩
theorem whl_rd {t : IE} {b : ISs} {n : Nat} {Z : Ends} {σ : L2.St} {H : Hp} (q : TS' X W (evS Φ n (.whl t b)) Z σ H) : tWhile (tB' X.K X.mg W (evT Φ t)) (TS' X W (evSs Φ n b)) Z σ H := by
  obtain ⟨F, env, M, s, o, p⟩ := q
  have p : FPost X.K X.mg W M F H Z (whlL (evT Φ t) (evSs Φ n b) n env) := p
  refine ⟨fun m σ H => ∃ F env M, Sim X.K F H σ env ∧ (∀ a, O σ env a → M a) ∧ FPost X.K X.mg W M F H Z (whlL (evT Φ t) (evSs Φ n b) m env), ⟨n, F, env, M, s, o, p⟩, ?_⟩
  rintro m σ H ⟨F, env, M, s, o, p⟩
  cases m with
  | zero => exact p.elim
  | succ m =>
    unfold whlL at p
    refine ⟨F, env, s, (FPost.toF (Rel := RI σ H) o p).imp ?_⟩
    rintro b' H1 ⟨c, env1, F1, g, o1, s1, r, p⟩
    have r : c = b' := r
    subst r
    have o1' : ∀ a, O σ env1 a → Up M H a := fun a z => .inl (o a (o1 a z))
    cases c with
    | false => exact if_F rfl (here p s1 o1')
    | true =>
      refine if_T rfl ⟨fun σ' H' => ∃ F env M, Sim X.K F H' σ' env ∧ (∀ a, O σ' env a → M a) ∧ FPost X.K X.mg W M F H' Z (whlL (evT Φ t) (evSs Φ n b) m env), fun σ' H' h => ⟨m, Nat.lt_succ_self m, h⟩, F1, env1, Up M H, s1, o1', ?_⟩
      have p : FPost X.K X.mg W (Up M H) F1 H1 Z (match evSs Φ n b env1 with
        | .nxt e' => whlL (evT Φ t) (evSs Φ n b) m e'
        | .cnt e' => whlL (evT Φ t) (evSs Φ n b) m e'
        | .brk e' => .nxt e'
        | r => r) := p
      cases e1 : evSs Φ n b env1 with
      | nxt e =>
        rw [e1] at p
        exact fun σ' F' H'' g' o' s' => ⟨F', e, Up (Up M H) H1, s', o', p.go g' fun x z => z⟩
      | cnt e =>
        rw [e1] at p
        exact fun σ' F' H'' g' o' s' => ⟨F', e, Up (Up M H) H1, s', o', p.go g' fun x z => z⟩
      | brk e => rw [e1] at p; exact p
      | ret d e => rw [e1] at p; exact p
      | exc c q e => rw [e1] at p; exact p
      | stuck => rw [e1] at p; exact p.elim
theorem seq_rd {a : IS} {b : ISs} {n : Nat} {Z : Ends} {σ : L2.St} {H : Hp} (q : TS' X W (evSs Φ n (.cons a b)) Z σ H) : tSeq (TS' X W (evS Φ n a)) (TS' X W (evSs Φ n b)) Z σ H := by
  obtain ⟨F, env, M, s, o, p⟩ := q
  refine ⟨F, env, M, s, o, ?_⟩
  have p : FPost X.K X.mg W M F H Z ((evS Φ n a env).bind fun e => evSs Φ n b e) := p
  cases e1 : evS Φ n a env with
  | nxt e =>
    rw [e1] at p
    have p : FPost X.K X.mg W M F H Z (evSs Φ n b e) := p
    exact fun σ' F' H'' g' o' s' => ⟨F', e, Up M H, s', o', p.go g' fun x z => z⟩
  | cnt e => rw [e1] at p; exact p
  | brk e => rw [e1] at p; exact p
  | ret d e => rw [e1] at p; exact p
  | exc c q e => rw [e1] at p; exact p
  | stuck => rw [e1] at p; exact p.elim
theorem raise_rd {C fI : Addr} (T : PySem.BadX.BadTxt X.K X.mg C fI) {e : IE} {n : Nat} {Z : Ends} {σ : L2.St} {H : Hp} (q : TS' X W (evS Φ n (.raise "BadValue" e)) Z σ H) : tRaiseBad C W (tCons (TE' X W (evE Φ e)) tNil) Z σ H := by
  obtain ⟨F, env, M, s, o, p⟩ := q
  obtain ⟨F1, env1, s1, q1⟩ := fkeep (k := fun d e2 => FR.exc "BadValue" d e2) s o p
  refine ⟨F1, env1, s1, q1.imp ?_⟩
  rintro v H1 ⟨d, env2, F2, g, o2, s2, dp, p⟩
  refine ⟨v, rfl, fun dd hd => ?_⟩
  have g3 : Go (Up M H) F2 H1 F2 (upd H1 dd (.xd [(("at" : Str), v)])) := Go.newM hd
  have f0 : F2 dd = none := by
    cases q : F2 dd with
    | none => rfl
    | some u => rw [s2.sub dd u q] at hd; cases hd
  exact p dd σ F2 _ g3 (fun a z => .inl (o2 a z)) (s2.go (M := fun _ => False) (Go.newM hd) (s2.sub.right f0) fun _ _ z => z) ⟨f0, v, upd_same, dp⟩ C T.gC
end
end PyE

set_option Elab.async false
set_option linter.all false
set_option autoImplicit false
set_option maxRecDepth 100000
set_option maxHeartbeats 4000000
/-! # What the statements' checker takes is run as the evaluator says -/
namespace PyE
open PySem PySem.Spec PyProof.Rows L2
section
variable {Φ : Fns} {Γ : Gam} {S : Sc} {m : Nat} {W : WX} {X : Cx}
theorem Sok.kind (C : Sok Φ Γ S m W X) : X.env.scope.kind = .function := by rw [C.hsc]; exact C.fk
theorem Sok.nd' (C : Sok Φ Γ S m W X) : X.N.Nodup := by rw [C.hN]; exact C.nd
theorem Sok.tr (C : Sok Φ Γ S m W X) (W' : WX) (pn : List (Addr × Obj)) (xe : Value → Shared → Prop) (tk : Takes (X.tr pn xe) W') (po : PassesOwn (model X.prog X.w) X.A X.env xe) : Sok Φ Γ S m W' (X.tr pn xe) :=
  ⟨⟨C.hN, C.nd, C.hsc, C.hfn, C.calm, C.room, tk, C.con, C.fn, C.blt⟩, po, C.fk, C.stk, C.fr, C.pm, C.bad⟩
theorem assign_one {t : Expr} {env : Env} (h : notStar t = true) : (assignEach [t] env).map (·.2) = [assign t env] := by
  cases t <;> first | rfl | (exact absurd h (by simp [notStar]))
/-- name = e -/
theorem s_asg (C : Sok Φ Γ S m W X) {i : Nat} {e : IE} {y : Str} {py pos : Pos} {x : Expr} {n : Nat} (h1 : Γ.N[i]? = some y) (h2 : locB S y = true) (h3 : chkE Γ S e x = true) (h4 : (!swB S y py x || isLcE e) = true) : PS X (.Assign [.Name y py] x pos) (TS' X W (evS Φ n (.asg i e))) := by
  obtain ⟨l1, l2⟩ := C.loc h2
  cases hs : swB S y py x with
  | false => exact ps_imp (ps_set C.nd' (C.ix h1) l1 (sndE e C.toCok _ h3).1 (sw_not C.kind C.hsc hs) l2) fun Z σ H q => asg_rd rfl (X' := X) q
  | true =>
    rw [hs] at h4
    cases e <;> first | (cases h4; done) | skip
    · rename_i e tg it c own
      unfold chkE at h3
      split at h3
      · rename_i y' tgx itx ifs scope pos'
        simp only [Bool.and_eq_true] at h3
        obtain ⟨⟨⟨⟨⟨⟨h0, g1⟩, g2⟩, g3⟩, g4⟩, g5⟩, g6⟩ := h3
        obtain ⟨s1, s2⟩ := sw_yes (l := pos.line) C.kind C.hsc hs
        refine ps_imp (ps_setLc C.calm C.nd' (C.ix h1) s2 s1 (g := gT X.K tg) (tt := tB' X.K X.mg W0 (evC Φ c)) (te := tE X.K X.mg W0 (evE Φ e)) (sndI it C.toCok _ _ g2) (blkok C.toCok h0) (fun s H A cl fp => pg_T (C.toCok.blk scope s H A cl fp) g3) (fun s H A cl fp => sndC c (C.toCok.blk scope s H A cl fp) _ g5)
          (fun s H A cl fp => (sndE e (C.toCok.blk scope s H A cl fp) _ g6).1) (folded_of g1)) fun Z σ H q => ?_
        rw [ownP_snd]
        have q' := asg_rd (X' := X) rfl q
        exact rd_lc (mem_all g4) q'
      · cases h3
    · rename_i e tg it c tg2 it2 c2 own own2
      unfold chkE at h3
      split at h3
      · rename_i y' tgx itx ifs tgx2 itx2 ifs2 scope pos'
        simp only [Bool.and_eq_true] at h3
        obtain ⟨⟨⟨⟨⟨⟨⟨⟨⟨⟨⟨⟨h0, g1⟩, g1'⟩, g2⟩, g3⟩, g4⟩, g5⟩, g6⟩, g7⟩, g8⟩, g9⟩, g10⟩, g11⟩ := h3
        obtain ⟨s1, s2⟩ := sw_yes (l := pos.line) C.kind C.hsc hs
        refine ps_imp (ps_setLc2 C.calm C.nd' (C.ix h1) s2 s1 (g := gT X.K tg) (g1 := gT X.K tg2) (vs1 := own2) (tt := tB' X.K X.mg W0 (evC Φ c)) (te := tE X.K X.mg W0 (evE Φ e)) (wi1 := tI X.K X.mg W0 (evI Φ it2)) (tt1 := tB' X.K X.mg W0 (evC Φ c2)) (sndI it C.toCok _ _ g2) (blkok C.toCok h0) (fun i hi => by rw [ownP_snd]; exact mem_all g6 i hi)
          (fun s H A cl fp => pg_T (C.toCok.blk scope s H A cl fp) g3) (fun s H A cl fp => sndC c (C.toCok.blk scope s H A cl fp) _ g5)
          (fun s H A cl fp => sndI it2 (C.toCok.blk scope s H A cl fp) _ _ g7) (fun s H A cl fp => pg_T (C.toCok.blk scope s H A cl fp) g8) (fun s H A cl fp => sndC c2 (C.toCok.blk scope s H A cl fp) _ g10)
          (fun s H A cl fp => (sndE e (C.toCok.blk scope s H A cl fp) _ g11).1) (folded_of g1) (fun env x => folded_of g1' x)) fun Z σ H q => ?_
        rw [ownP_snd]
        have q' := asg_rd (X' := X) rfl q
        exact rd_lc2 (mem_all g4) (mem_all g9) (mem_all g6) q'
      · cases h3
/-- a, b = x, y -/
theorem swap2 {x y : Str} {px py pt pt2 : Pos} {kt k2 : Nat} {a b : Expr} {env : Env} (hk : env.scope.kind = .function) (hx : env.scope.names.lookup x = some .local) (hy : env.scope.names.lookup y = some .local) (hl : (px.line == py.line) = true) (ha : notStar a = true) (hb : notStar b = true)
    (h1 : [a, b].all (foldedForSure 8) = false) (h2 : [a, b].all (constantsAlone 8) = false) (hne : x ≠ y) :
    swappedStores [.Tuple [.Name x px, .Name y py] kt pt] (.Tuple [a, b] k2 pt2) env = pure (some [x, y]) := by
  have kx : (env.kindOf x == some .local) = true := by rw [show env.kindOf x = some .local from hx]; rfl
  have ky : (env.kindOf y == some .local) = true := by rw [show env.kindOf y = some .local from hy]; rfl
  have hbk : env.blockKind = .function := by unfold Env.blockKind; rw [hk]; rfl
  have hl' : px.line = py.line := eq_of_beq hl
  have er : [x, y].eraseDups = [x, y] := by
    have : (y == x) = false := by simpa using (Ne.symm hne)
    simp [List.eraseDups, List.eraseDupsBy, List.eraseDupsBy.loop, this]
  unfold swappedStores
  simp only [hbk, h1, h2, List.any_cons, List.any_nil, List.filterMap_cons, List.filterMap_nil, List.head?_cons, Option.map_some, Option.getD_some, Expr.pos, kx, ky, hl', beq_self_eq_true, Bool.and_self, if_true, er, List.length_cons, List.length_nil, pure_bind]
  rw [if_neg (by decide)]
  split
  · exact absurd ha (by simp [notStar])
  split
  · exact absurd hb (by simp [notStar])
  rfl
theorem swap3 {x y z : Str} {px py pz pt pt2 : Pos} {kt k2 : Nat} {a b c : Expr} {env : Env} (hk : env.scope.kind = .function) (hx : env.scope.names.lookup x = some .local) (hy : env.scope.names.lookup y = some .local) (hz : env.scope.names.lookup z = some .local) (hl : (px.line == py.line) = true) (hl2 : (px.line == pz.line) = true) (ha : notStar a = true) (hb : notStar b = true) (hc : notStar c = true)
    (h1 : [a, b, c].all (foldedForSure 8) = false) (h2 : [a, b, c].all (constantsAlone 8) = false) (hne : x ≠ y ∧ x ≠ z ∧ y ≠ z) :
    swappedStores [.Tuple [.Name x px, .Name y py, .Name z pz] kt pt] (.Tuple [a, b, c] k2 pt2) env = pure (some [x, y, z]) := by
  have kx : (env.kindOf x == some .local) = true := by rw [show env.kindOf x = some .local from hx]; rfl
  have ky : (env.kindOf y == some .local) = true := by rw [show env.kindOf y = some .local from hy]; rfl
  have kz : (env.kindOf z == some .local) = true := by rw [show env.kindOf z = some .local from hz]; rfl
  have hbk : env.blockKind = .function := by unfold Env.blockKind; rw [hk]; rfl
  have hl' : px.line = py.line := eq_of_beq hl
  have hl2' : py.line = pz.line := hl'.symm.trans (eq_of_beq hl2)
  have er : [x, y, z].eraseDups = [x, y, z] := by
    have e1 : (y == x) = false := by simpa using (Ne.symm hne.1)
    have e2 : (z == x) = false := by simpa using (Ne.symm hne.2.1)
    have e3 : (z == y) = false := by simpa using (Ne.symm hne.2.2)
    simp [List.eraseDups, List.eraseDupsBy, List.eraseDupsBy.loop, e1, e2, e3]
  unfold swappedStores
  simp only [hbk, h1, h2, List.any_cons, List.any_nil, List.filterMap_cons, List.filterMap_nil, List.head?_cons, Option.map_some, Option.getD_some, Expr.pos, kx, ky, kz, hl', hl2', beq_self_eq_true, Bool.and_self, if_true, er, List.length_cons, List.length_nil, pure_bind]
  rw [if_neg (by decide)]
  split
  · exact absurd ha (by simp [notStar])
  split
  · exact absurd hb (by simp [notStar])
  split
  · exact absurd hc (by simp [notStar])
  rfl
end
end PyE

set_option Elab.async false
set_option linter.all false
set_option autoImplicit false
set_option maxRecDepth 100000
set_option maxHeartbeats 4000000
/-! # Every statement that the checker takes is run as the evaluator says -/
namespace PyE
open PySem PySem.Spec PyProof.Rows L2
section
variable {Φ : Fns} {Γ : Gam} {S : Sc} {m : Nat} {W : WX} {X : Cx}
theorem p_kv (C : Sok Φ Γ S m W X) {e : IE} {x : Expr} (hc : chkKV Γ S e x = true) (a : Addr) (pn : List (Addr × Obj)) : ∃ te : TE, PE (X.suite a pn) x te ∧ ∀ σ H Q, (match e with
    | .k d => ∀ v, (∀ F, Dp X.K F v d) → Q v H
    | .v j => ∃ v, σ[j]? = some (some v) ∧ Q v H
    | _ => False) → te σ H Q := by
  cases e <;> first | (cases hc; done) | skip
  · rename_i d
    have hc : chkE Γ S (.k d) x = true := hc
    unfold chkE at hc
    split at hc
    · rename_i c j pos
      unfold constOk at hc
      split at hc
      · exact ⟨_, pe_non, fun σ H Q h => h _ fun F => .non⟩
      · have := eq_of_beq hc; subst this; exact ⟨_, pe_bl, fun σ H Q h => h _ fun F => .bl _⟩
      · have := eq_of_beq hc; subst this; exact ⟨_, pe_int, fun σ H Q h => h _ fun F => .int _⟩
      · have := eq_of_beq hc; subst this; exact ⟨_, pe_str, fun σ H Q h => h _ fun F => .str _⟩
      · cases hc
    · cases hc
  · rename_i i
    have hc : chkE Γ S (.v i) x = true := hc
    unfold chkE at hc
    split at hc
    · rename_i n pos
      simp only [Bool.and_eq_true, decide_eq_true_eq] at hc
      obtain ⟨o1, o2, o3⟩ := okName_of hc.2
      exact ⟨_, pe_var (X := X.suite a pn) (i := i) (C.ix hc.1.1) (C.vis hc.1.2) o1 o2, fun σ H Q h => h⟩
    · cases hc
theorem s_try (C : Sok Φ Γ S m W X) {b : ISs} {i : Nat} {e : IE} {k : Nat} {y : List Stmt} {n : Str} {x : Expr} {p1 p2 p3 p4 p5 p6 pos : Pos} (hg : glB S.sc "BadValue" = true) (hi : Γ.N[i]? = some n) (hn : S.sc.names.lookup n = some .local) (ho : okName n = true) (hs : notSet x = true) (he : chkKV Γ S e x = true)
    (hb : ∀ (W' : WX) (pn : List (Addr × Obj)) (xe : Value → Shared → Prop), Sok Φ Γ S m W' (X.tr pn xe) → PSs (X.tr pn xe) y (TS' X W' (evSs Φ k b))) :
    PS X (.Try y [.ExceptHandler (some (.Name "BadValue" p1)) (some n) [.Return (some (.Compare (.Attribute (.Name n p2) "at" p3) [.Eq] [x] p4)) p5] p6] [] [] pos) (TS' X W (evS Φ k (.tryAt b "BadValue" i e))) := by
  obtain ⟨Cl, fI, T⟩ := C.bad
  obtain ⟨o1, o2, o3⟩ := okName_of ho
  have hk : X.env.kindOf n = some .local := by show X.env.scope.names.lookup n = _; rw [C.hsc]; exact hn
  have te : ∀ (a : Addr) (pn : List (Addr × Obj)), ∃ te : TE, PE (X.suite a pn) x te ∧ ∀ σ H Q, (match e with
    | .k d => ∀ v, (∀ F, Dp X.K F v d) → Q v H
    | .v j => ∃ v, σ[j]? = some (some v) ∧ Q v H
    | _ => False) → te σ H Q := fun a pn => p_kv C he a pn
  let ts : Addr → Value → Option Addr → TS := fun a cls d => fun Z σ H => tAtBad Cl a cls d (tVar i) σ H fun v1 H1 => (match e with
    | .k d => ∀ v, (∀ F, Dp X.K F v d) → rCmp X.K .Eq v1 v H1 Z.rt
    | .v j => ∃ v, σ[j]? = some (some v) ∧ rCmp X.K .Eq v1 v H1 Z.rt
    | _ => False)
  refine ps_imp (ps_try_as (i := i) (c := .ref Cl) (tb := fun W' => TS' X W' (evSs Φ k b)) (ts := ts) (Wout := W) C.stk C.fr C.nd' (C.ix hi) hk ⟨C.gl hg, by decide, .inl T.gC⟩ C.tk (fun W' pn xe tk po => hb W' pn xe (C.tr W' pn xe tk po)) ?_) ?_
  · intro a oe cls d pn hz hf
    obtain ⟨te, h1, h2⟩ := te a ((a, oe) :: pn)
    refine pss_imp (pss_one (ps_ret (pe_cmpR (opCmp (X := X.suite a ((a, oe) :: pn)) C.hu .Eq) (pe_atBad T hz hf (pe_var (X := X.suite a ((a, oe) :: pn)) (C.ix hi) (.inl hk) o1 o2)) h1 (marks_of .Eq hs)))) ?_
    rintro Z σ H ⟨v, e1, z1, z2, dd, v2, z3, z4, q⟩
    refine ⟨v, e1, z1, z2, dd, v2, z3, z4, ?_⟩
    exact h2 σ H _ q
  · rintro Z σ H ⟨F, env, M, s, o, p⟩
    refine ⟨F, env, M, s, o, ?_⟩
    unfold evS at p
    cases e1 : evSs Φ k b env with
    | nxt e' => rw [e1] at p; exact p
    | cnt e' => rw [e1] at p; exact p
    | brk e' => rw [e1] at p; exact p
    | ret d e' => rw [e1] at p; exact p
    | stuck => rw [e1] at p; exact p.elim
    | exc c' xx env2 =>
      rw [e1] at p
      have pq : FPost X.K X.mg W M F H Z (if (("BadValue" : Str) == c' && decide (i < env2.length)) = true then (match e with
        | .k d => (match cmpD .Eq xx d with | some b => FR.ret (.bool b) env2 | none => .stuck)
        | .v j => (match env2[j]? with
          | some (.sh d) => if i == j then .stuck else (match cmpD .Eq xx d with | some b => FR.ret (.bool b) env2 | none => .stuck)
          | _ => .stuck)
        | _ => .stuck) else .stuck) := p
      clear p
      cases hc : (("BadValue" : Str) == c' && decide (i < env2.length)) with
      | false => rw [hc] at pq; exact pq.elim
      | true =>
        rw [hc, if_pos rfl] at pq
        simp only [Bool.and_eq_true, beq_iff_eq, decide_eq_true_eq] at hc
        obtain ⟨rfl, hl⟩ := hc
        intro d' σ' F' H' g o' s' xa C' hC'
        have : C' = Cl := by
          rw [T.gC] at hC'
          injection hC' with z
          injection z with z
          exact z.symm
        subst this
        obtain ⟨x0, v, x1, x2⟩ := xa
        refine ⟨true, T.te, fun _ a ha => ?_, fun z => by cases z⟩
        have hl' : i < σ'.length := by rw [← s'.len]; exact hl
        have fin : ∀ {d : D} {v2 : V}, Dp X.K F' v2 d → FPost X.K X.mg W M F H Z (match cmpD .Eq xx d with | some b => FR.ret (.bool b) env2 | none => .stuck) → rCmp X.K .Eq v v2 H' Z.rt := by
          intro d v2 r p
          cases e2 : cmpD .Eq xx d with
          | none => rw [e2] at p; exact p.elim
          | some b =>
            rw [e2] at p
            exact ⟨F', xx, d, b, s'.sub, VR.of s'.sub x2, VR.of s'.sub r, e2, p (.bl b) σ' F' H' g o' s' (.bl b)⟩
        refine ⟨.ref a, List.getElem?_set_self hl', rfl, rfl, d', v, rfl, x1, ?_⟩
        cases e with
        | k d => exact fun v2 r => fin (r F') pq
        | v j =>
          have p : FPost X.K X.mg W M F H Z (match env2[j]? with
            | some (.sh d) => if (i == j) = true then .stuck else (match cmpD .Eq xx d with | some b => FR.ret (.bool b) env2 | none => .stuck)
            | _ => .stuck) := pq
          cases e3 : env2[j]? with
          | none => rw [e3] at p; exact p.elim
          | some sl =>
            rw [e3] at p
            cases sl with
            | sh d =>
              have p : FPost X.K X.mg W M F H Z (if (i == j) = true then .stuck else (match cmpD .Eq xx d with | some b => FR.ret (.bool b) env2 | none => .stuck)) := p
              cases hij : (i == j) with
              | true => rw [hij] at p; exact p.elim
              | false =>
                rw [hij] at p
                obtain ⟨v2, q1, q2⟩ := s'.sh j d e3
                have hne : i ≠ j := by simpa using hij
                exact ⟨v2, by rw [List.getElem?_set_ne hne]; exact q1, fin q2 p⟩
            | _ => exact p.elim
        | _ => exact pq.elim
mutual
theorem sndS : ∀ (s : IS) {W : WX} {X : Cx} (C : Sok Φ Γ S m W X) (n : Nat) (st : Stmt), chkS Γ S s st = true → PS X st (TS' X W (evS Φ n s))
  | .asg i e, W, X, C, n, st, hc => by
    unfold chkS at hc
    split at hc
    · rename_i y py x pos
      simp only [Bool.and_eq_true, decide_eq_true_eq] at hc
      obtain ⟨⟨⟨h1, h2⟩, h3⟩, h4⟩ := hc
      exact s_asg C h1 h2 h3 h4
    · cases hc
  | .asgT is e, W, X, C, n, st, hc => by
    unfold chkS at hc
    split at hc
    · rename_i ts k p x pos
      simp only [Bool.and_eq_true] at hc
      obtain ⟨⟨⟨h1, h2⟩, h3⟩, h4⟩ := hc
      exact ps_imp (ps_asg (sndE e C.toCok _ h2).1 (pg_T C.toCok (tg := .many is) h1) (sw0 h4) (ss_tup h3)) fun Z σ H q => asgT_rd q
    · cases hc
  | .par is es, W, X, C, n, st, hc => by
    unfold chkS at hc
    split at hc
    · rename_i ts k p xs k2 p2 pos
      simp only [Bool.and_eq_true] at hc
      obtain ⟨⟨h1, h2⟩, h3⟩ := hc
      unfold parOk at h3
      split at h3
      · rename_i x px y py a b
        simp only [Bool.and_eq_true, beq_iff_eq, Bool.not_eq_true', decide_eq_true_eq] at h3
        obtain ⟨⟨⟨⟨⟨⟨⟨g1, g2⟩, g3⟩, g4⟩, g5⟩, g6⟩, g7⟩, g8⟩ := h3
        match is, h1 with
        | [i, j], h1 =>
          simp only [chkNm, Bool.and_eq_true, decide_eq_true_eq] at h1
          obtain ⟨⟨i1, i2⟩, ⟨j1, j2⟩, _⟩ := h1
          have hij : i ≠ j := fun z => g8 (by rw [z, j1] at i1; exact (Option.some.inj i1).symm)
          rw [← C.hsc] at g1 g2
          refine ps_imp (ps_par C.calm C.nd' (C.ix i1) (C.ix j1) hij g1 g2 (sndEs es C.toCok _ h2) (swap2 C.kind g1 g2 (by rw [g3]; exact beq_self_eq_true _) g4 g5 g6 g7 g8)) fun Z σ H q => ?_
          have q' := par_rd q
          obtain ⟨F, env, s, q'⟩ := q'
          refine ⟨F, env, s, q'.imp ?_⟩
          rintro vs H1 ⟨v, r, rfl, w, r2, rfl, rfl, z⟩
          exact ⟨v, w, rfl, z⟩
        | [], h1 => cases h1
        | [i], h1 => simp [chkNm] at h1
        | i :: j :: l :: r, h1 => simp [chkNm] at h1
      · rename_i x px y py z pz a b c
        simp only [Bool.and_eq_true, beq_iff_eq, Bool.not_eq_true', decide_eq_true_eq] at h3
        obtain ⟨⟨⟨⟨⟨⟨⟨⟨⟨⟨g1, g2⟩, g2'⟩, g3⟩, g3'⟩, g4⟩, g5⟩, g5'⟩, g6⟩, g7⟩, g8⟩ := h3
        match is, h1 with
        | [i, j, l], h1 =>
          simp only [chkNm, Bool.and_eq_true, decide_eq_true_eq] at h1
          obtain ⟨⟨i1, i2⟩, ⟨j1, j2⟩, ⟨l1, l2⟩, _⟩ := h1
          have hij : i ≠ j := fun z => g8.1 (by rw [z, j1] at i1; exact (Option.some.inj i1).symm)
          have hil : i ≠ l := fun z => g8.2.1 (by rw [z, l1] at i1; exact (Option.some.inj i1).symm)
          have hjl : j ≠ l := fun z => g8.2.2 (by rw [z, l1] at j1; exact (Option.some.inj j1).symm)
          rw [← C.hsc] at g1 g2 g2'
          refine ps_imp (ps_par3 C.calm C.nd' (C.ix i1) (C.ix j1) (C.ix l1) hij hil hjl g1 g2 g2' (sndEs es C.toCok _ h2) (swap3 C.kind g1 g2 g2' (by rw [g3]; exact beq_self_eq_true _) (by rw [g3']; exact beq_self_eq_true _) g4 g5 g5' g6 g7 g8)) fun Z σ H q => ?_
          have q' := par_rd q
          obtain ⟨F, env, s, q'⟩ := q'
          refine ⟨F, env, s, q'.imp ?_⟩
          rintro vs H1 ⟨v, r, rfl, w, r2, rfl, u, r3, rfl, rfl, z⟩
          exact ⟨v, w, u, rfl, z⟩
        | [], h1 => cases h1
        | [i], h1 => simp [chkNm] at h1
        | [i, j], h1 => simp [chkNm] at h1
        | i :: j :: l :: l2 :: r, h1 => simp [chkNm] at h1
      · cases h3
    · cases hc
  | .aug i op e, W, X, C, n, st, hc => by
    unfold chkS at hc
    split at hc
    · simp only [Bool.and_eq_true, decide_eq_true_eq, Bool.or_eq_true] at hc
      obtain ⟨⟨⟨⟨h1, h2⟩, rfl⟩, h3⟩, h4⟩ := hc
      obtain ⟨l1, l2⟩ := C.loc h2
      rcases h3 with rfl | rfl
      · exact ps_imp (ps_aug C.nd' (C.ix h1) l1 (sndE e C.toCok _ h4).1 ip_add l2) fun Z σ H q => aug_rd (fun _ _ => rfl) q
      · exact ps_imp (ps_aug C.nd' (C.ix h1) l1 (sndE e C.toCok _ h4).1 ip_sub l2) fun Z σ H q => aug_rd (fun _ _ => rfl) q
    · cases hc
  | .app i e, W, X, C, n, st, hc => by
    unfold chkS at hc
    split at hc
    · rename_i y py mm ap x cp pos
      simp only [Bool.and_eq_true, decide_eq_true_eq, beq_iff_eq] at hc
      obtain ⟨⟨⟨⟨⟨⟨h1, h2⟩, h3⟩, rfl⟩, h5⟩, h6⟩, h7⟩ := hc
      obtain ⟨o1, o2, o3⟩ := okName_of h3
      refine ps_imp (ps_expr (pe_bm PySem.F.plainAttrs_list PySem.F.slot_list_append PySem.F.type_list_append mt_append (pe_var (C.ix h1) (C.vis h2) o1 o2) (pa_cons (sndE e C.toCok _ h7).1 pa_nil (star_of h6)) rfl (by rw [star_of h6]; rfl) (by rw [h5]; exact beq_self_eq_true _) (star_of h6) rfl) rfl) fun Z σ H q => app_rd q
    · cases hc
  | .set i a e, W, X, C, n, st, hc => by
    unfold chkS at hc
    split at hc
    · rename_i y py z tp x pos
      simp only [Bool.and_eq_true, decide_eq_true_eq, Bool.not_eq_true'] at hc
      obtain ⟨⟨⟨⟨⟨⟨⟨h1, h2⟩, h3⟩, h4⟩, h5⟩, h6⟩, h7⟩, h8⟩ := hc
      obtain ⟨o1, o2, o3⟩ := okName_of h3
      have ha : ∀ v, assign (.Subscript (.Name y py) z tp) X.env v = (do
          let ov ← holding [v] (eval (.Name y py) X.env)
          let iv ← holding [v, ov] (eval z X.env)
          standAt tp
          holding [v, ov, iv] (setItem ov iv v)
          release [v, ov, iv] []) := fun v => by
        cases z <;> first | rfl | (exact absurd h4 (by simp [notSlice]))
      refine ps_imp (ps_asg (sndE e C.toCok _ h8).1 (pg_sub (pe_var (C.ix h1) (C.vis h2) o1 o2) (sndE a C.toCok _ h7).1 set_list ha) (sw0 h5) (ss_one (fun _ _ _ q => by cases q) fun _ _ q => by cases q)) fun Z σ H q => set_rd q
    · cases hc
  | .ex e, W, X, C, n, st, hc => by
    unfold chkS at hc
    split at hc
    · simp only [Bool.and_eq_true] at hc
      exact ps_imp (ps_expr (sndE e C.toCok _ hc.2).1 (swaps_of hc.1)) fun Z σ H q => ex_rd q
    · cases hc
  | .ret e, W, X, C, n, st, hc => by
    unfold chkS at hc
    split at hc
    · exact ps_imp (ps_ret (sndE e C.toCok _ hc).1) fun Z σ H q => ret_rd q
    · cases hc
  | .retN, W, X, C, n, st, hc => by
    unfold chkS at hc
    split at hc
    · exact ps_imp ps_retN fun Z σ H q => retN_rd q
    · cases hc
  | .ite t a b, W, X, C, n, st, hc => by
    unfold chkS at hc
    split at hc
    · simp only [Bool.and_eq_true] at hc
      exact ps_imp (ps_if (sndE t C.toCok _ hc.1.1).2.1 (sndSs a C n _ hc.1.2) (sndSs b C n _ hc.2)) fun Z σ H q => ite_rd q
    · cases hc
  | .for_ tg it b, W, X, C, n, st, hc => by
    unfold chkS at hc
    split at hc
    · simp only [Bool.and_eq_true] at hc
      obtain ⟨⟨⟨h1, h2⟩, h3⟩, h4⟩ := hc
      exact ps_imp (ps_for C.po C.calm (sndI it C.toCok _ _ h2) (pg_T C.toCok h3) (sndSs b C n _ h4) (folded_of h1)) fun Z σ H q => for_rd q
    · cases hc
  | .whl t b, W, X, C, n, st, hc => by
    unfold chkS at hc
    split at hc
    · simp only [Bool.and_eq_true] at hc
      exact ps_imp (ps_while C.po (sndE t C.toCok _ hc.1).2.1 (sndSs b C n _ hc.2)) fun Z σ H q => whl_rd q
    · cases hc
  | .brk, W, X, C, n, st, hc => by
    unfold chkS at hc
    split at hc
    · exact ps_imp ps_break fun Z σ H q => brk_rd q
    · cases hc
  | .cnt, W, X, C, n, st, hc => by
    unfold chkS at hc
    split at hc
    · exact ps_imp ps_continue fun Z σ H q => cnt_rd q
    · cases hc
  | .pass, W, X, C, n, st, hc => by
    unfold chkS at hc
    split at hc
    · exact ps_imp ps_pass fun Z σ H q => nx_rd q
    · cases hc
  | .raise c e, W, X, C, n, st, hc => by
    unfold chkS at hc
    split at hc
    · rename_i g p x p2 p3
      simp only [Bool.and_eq_true, beq_iff_eq] at hc
      obtain ⟨⟨⟨⟨rfl, rfl⟩, h1⟩, h2⟩, h3⟩ := hc
      obtain ⟨Cl, fI, T⟩ := C.bad
      exact ps_imp (ps_raiseBad C.calm T C.room C.tk (pa_cons (sndE e C.toCok _ h3).1 pa_nil (star_of h2)) (C.gl h1) (star_of h2) rfl) fun Z σ H q => raise_rd T q
    · cases hc
  | .tryAt b c i e, W, X, C, n, st, hc => by
    unfold chkS at hc
    split at hc
    · rename_i y g p1 nn n' p2 f p3 x p4 p5 p6 pos
      simp only [Bool.and_eq_true, beq_iff_eq, decide_eq_true_eq] at hc
      obtain ⟨⟨⟨⟨⟨⟨⟨⟨⟨⟨rfl, rfl⟩, h1⟩, h2⟩, h3⟩, rfl⟩, h4⟩, rfl⟩, h5⟩, h6⟩, h7⟩ := hc
      exact s_try C h1 h2 h3 h4 h5 h6 fun W' pn xe C' => sndSs b C' n _ h7
    · cases hc
theorem sndSs : ∀ (b : ISs) {W : WX} {X : Cx} (C : Sok Φ Γ S m W X) (n : Nat) (sts : List Stmt), chkSs Γ S b sts = true → PSs X sts (TS' X W (evSs Φ n b))
  | .nil, W, X, C, n, sts, hc => by
    unfold chkSs at hc
    split at hc
    · exact pss_imp pss_nil fun Z σ H q => nx_rd q
    · cases hc
  | .cons s r, W, X, C, n, sts, hc => by
    unfold chkSs at hc
    split at hc
    · simp only [Bool.and_eq_true] at hc
      exact pss_imp (pss_cons (sndS s C n _ hc.1) (sndSs r C n _ hc.2)) fun Z σ H q => seq_rd q
    · cases hc
end
end
end PyE

set_option Elab.async false
set_option linter.all false
set_option autoImplicit false
set_option maxRecDepth 100000
set_option maxHeartbeats 4000000
/-! # Defs: a table of them, what they promise -/
namespace PyE
open PySem PySem.Spec PyProof.Rows L2
structure Df where
  name : Str
  N : List Str
  ar : Nat
  fuel : Nat
  body : ISs
def env0 (N : List Str) (ds : List D) : SEnv := ds.map Sl.sh ++ List.replicate (N.length - ds.length) .no
def frR : FR → FRes
  | .ret x _ => .ret x []
  | .nxt _ => .ret .none []
  | .exc c x _ => .exc c x []
  | _ => .stuck
def runDf (Φ : Fns) (d : Df) : FnSem := { arity := d.ar, bor := false, run := fun ds => frR (evSs Φ d.fuel d.body (env0 d.N ds)) }
def Phi (T : List Df) : Nat → Fns
  | 0 => fun _ => none
  | n + 1 => fun f => (T.find? fun d => d.name == f).map (runDf (Phi T n))
/-- what the top says of a def -/
structure DfOk (K : Frag) (mg : Str → Option Value) (con : List (Str × D)) (d : Df) : Prop where
  ex : ∃ fa fd st, L2.Fun K d.name d.name st fa fd ∧ mg d.name = some (.ref fa) ∧ PySem.W.keepIn K (.ref fa) = true ∧ (∀ us : List Value, us.length = (d.N.take d.ar).length → bindArgs fd ⟨us, []⟩ = pure ((d.N.take d.ar).zip us)) ∧ FnScope d.N (d.N.take d.ar) (defScope st) ∧
    chkSs ⟨d.N, con⟩ ⟨defScope st, fun _ => true⟩ d.body (defBody st) = true ∧ d.ar ≤ d.N.length
structure TopOk (K : Frag) (mg : Str → Option Value) (con : List (Str × D)) (T : List Df) : Prop where
  df : ∀ d ∈ T, DfOk K mg con d
  con : ∀ x d, con.lookup x = some d → ∃ u v, mg x = some u ∧ RelV v u ∧ Dp K (fun _ => none) v d
  blt : ∀ x ∈ blts, mg x = none
  bad : ∃ C fI, PySem.BadX.BadTxt K mg C fI
theorem sim0 {K : Frag} {F H : Hp} {N : List Str} {vs : List V} {ds : List D} (ex : Ex F H) (dp : DpAll K F vs ds) : Sim K F H (L2.start N vs) (env0 N ds) := by
  have hl := dpa_len dp
  have noM : ∀ {i : Nat} {es : List D}, ¬ Mine (env0 N ds) i es := by
    intro i es m
    have key : ∀ {sl : Sl}, (env0 N ds)[i]? = some sl → (∃ d, sl = .sh d) ∨ sl = .no := by
      intro sl e
      unfold env0 at e
      by_cases hi : i < (ds.map Sl.sh).length
      · rw [List.getElem?_append_left hi, List.getElem?_map] at e
        cases q : ds[i]? with
        | none => rw [q] at e; cases e
        | some d => rw [q] at e; exact .inl ⟨d, (Option.some.inj e).symm⟩
      · rw [List.getElem?_append_right (by omega)] at e
        exact .inr (List.eq_of_mem_replicate (List.mem_of_getElem? e))
    rcases m with m | m
    · rcases key m with ⟨_, z⟩ | z <;> cases z
    · rcases key m with ⟨_, z⟩ | z <;> cases z
  refine ⟨ex, ?_, fun i d e => ?_, fun i es m => absurd m noM, fun i j a es fs m => absurd m noM⟩
  · unfold env0 L2.start
    rw [List.length_append, List.length_append, List.length_map, List.length_map, List.length_replicate, List.length_replicate, hl]
  · unfold env0 at e
    unfold L2.start
    by_cases hi : i < (ds.map Sl.sh).length
    · rw [List.getElem?_append_left hi, List.getElem?_map] at e
      cases q : ds[i]? with
      | none => rw [q] at e; cases e
      | some d' =>
        rw [q] at e
        cases e
        obtain ⟨v, h1, h2⟩ := dpa_get dp q
        refine ⟨v, ?_, h2⟩
        rw [List.getElem?_append_left (by rw [List.length_map]; rw [List.length_map] at hi; omega), List.getElem?_map, h1]
        rfl
    · rw [List.getElem?_append_right (by omega)] at e
      have := List.eq_of_mem_replicate (List.mem_of_getElem? e)
      cases this
theorem noO {N : List Str} {ds : List D} {σ : L2.St} {a : Addr} : ¬ O σ (env0 N ds) a := by
  rintro ⟨i, es, m, _⟩
  have key : ∀ {sl : Sl}, (env0 N ds)[i]? = some sl → (∃ d, sl = .sh d) ∨ sl = .no := by
    intro sl e
    unfold env0 at e
    by_cases hi : i < (ds.map Sl.sh).length
    · rw [List.getElem?_append_left hi, List.getElem?_map] at e
      cases q : ds[i]? with
      | none => rw [q] at e; cases e
      | some d => rw [q] at e; exact .inl ⟨d, (Option.some.inj e).symm⟩
    · rw [List.getElem?_append_right (by omega)] at e
      exact .inr (List.eq_of_mem_replicate (List.mem_of_getElem? e))
  rcases m with m | m
  · rcases key m with ⟨_, z⟩ | z <;> cases z
  · rcases key m with ⟨_, z⟩ | z <;> cases z
section
variable {P : Program} {w : World} {K : Frag} {mg : Str → Option Value} {con : List (Str × D)} {T : List Df}
theorem fn_step (t : TopOk K mg con T) {n : Nat} (ih : ∀ (f : Str) (fs : FnSem), Phi T n f = some fs → ∃ fa fd ps, mg f = some (.ref fa) ∧ PySem.W.keepIn K (.ref fa) = true ∧ Binds K fd ps [] ∧ ∀ base : Heap, FnOk P w K mg base (L2.CX P w) (n + 1) fa fd ps (spF K mg fs)) {d : Df} (hd : d ∈ T) :
    ∃ fa fd, mg d.name = some (.ref fa) ∧ PySem.W.keepIn K (.ref fa) = true ∧ (∀ us : List Value, us.length = (d.N.take d.ar).length → bindArgs fd ⟨us, []⟩ = pure ((d.N.take d.ar).zip us)) ∧ ∀ base : Heap, FnOk P w K mg base (L2.CX P w) (n + 2) fa fd (d.N.take d.ar) (spF K mg (runDf (Phi T n) d)) := by
  obtain ⟨fa, fd, st, F, g, k, b, S, c, hl⟩ := (t.df d hd).ex
  have hps : (d.N.take d.ar).length = d.ar := by rw [List.length_take]; omega
  refine ⟨fa, fd, g, k, b, fun base => ?_⟩
  refine F.okX S (fun vs H Q E h => h.1.trans hps.symm) fun cdv A outer s H vs Q E hr h => ?_
  let X := cxOf (L2.CX P w) P w K mg base d.N d.name (defScope st) fa cdv A outer s H E
  have ck : Sok (Phi T n) ⟨d.N, con⟩ ⟨defScope st, fun _ => true⟩ (n + 1) (fun cls d _ H => E cls d H) X :=
    ⟨⟨rfl, S.nd, rfl, rfl, rfl, hr, takes_of rfl rfl rfl rfl, t.con, fun f fs e => by
      obtain ⟨fa', fd', ps', q1, q2, q3, q4⟩ := ih f fs e
      exact ⟨fa', fd', ps', q1, q2, q3, q4 base⟩, t.blt⟩, passes_of rfl, S.kind, rfl, rfl, Nat.le_add_left _ _, t.bad⟩
  refine ⟨_, sndSs d.body ck d.fuel _ c, ?_⟩
  obtain ⟨_, ⟨_, F0, ds, ex, dp, hrun⟩ | ⟨z, _⟩⟩ := h
  · refine ⟨F0, env0 d.N ds, fun _ => False, sim0 ex dp, fun a z => noO z, ?_⟩
    have hrun : match frR (evSs (Phi T n) d.fuel d.body (env0 d.N ds)) with
      | .ret d _ => ∀ v F' H', Go (fun _ => False) F0 H F' H' → Ex F' H' → Dp K F' v d → Q v H'
      | .exc c x _ => ∀ dd F' H', Go (fun _ => False) F0 H F' H' → Ex F' H' → XAt K F' H' dd x → ∀ C, mg c = some (.ref C) → E (.ref C) (some dd) H'
      | .stuck => False := hrun
    cases e1 : evSs (Phi T n) d.fuel d.body (env0 d.N ds) with
    | ret x e => rw [e1] at hrun; exact fun v σ' F' H' g o s dp => hrun v F' H' g s.sub dp
    | nxt e => rw [e1] at hrun; exact fun σ' F' H' g o s => hrun .non F' H' g s.sub .non
    | exc c x e => rw [e1] at hrun; exact fun dd σ' F' H' g o s xa => hrun dd F' H' g s.sub xa
    | brk e => rw [e1] at hrun; exact hrun.elim
    | cnt e => rw [e1] at hrun; exact hrun.elim
    | stuck => rw [e1] at hrun; exact hrun.elim
  · cases z
theorem phi_ok (t : TopOk K mg con T) : ∀ (n : Nat) (f : Str) (fs : FnSem), Phi T n f = some fs → ∃ fa fd ps, mg f = some (.ref fa) ∧ PySem.W.keepIn K (.ref fa) = true ∧ Binds K fd ps [] ∧ ∀ base : Heap, FnOk P w K mg base (L2.CX P w) (n + 1) fa fd ps (spF K mg fs)
  | 0, _, _, h => by cases h
  | n + 1, f, fs, h => by
    unfold Phi at h
    cases e : T.find? (fun d => d.name == f) with
    | none => rw [e] at h; cases h
    | some d =>
      rw [e] at h
      have h : some (runDf (Phi T n) d) = some fs := h
      have h := Option.some.inj h
      subst h
      have hf : d.name = f := by simpa using List.find?_some e
      subst hf
      obtain ⟨fa, fd, g, k, b, F⟩ := fn_step (P := P) (w := w) t (phi_ok t n) (List.mem_of_find?_eq_some e)
      exact ⟨fa, fd, _, g, k, .all b, F⟩
end
end PyE

set_option Elab.async false
set_option linter.all false
set_option autoImplicit false
set_option maxRecDepth 100000
set_option maxHeartbeats 4000000
/-! # What the top has written; the law's end -/
namespace PyE
open PySem PySem.Spec PyProof.Rows L2
section
variable {P : Program} {w : World} {K : Frag} {mg : Str → Option Value} {h : Heap} {con : List (Str × D)}
theorem df_ok {d : Df} {st : Stmt} {x : Str} {fa : Addr} {oc kV dc pm cd ct : Value} {od an : Option Addr} {sl : Array (Option Value)} (X : K.In h) (G : h.Ns mainGlobals mg) (hx : d.name = x)
    (a : PySem.W.nsIn K mainGlobals x = some (some (.ref fa)))
    (l : K.lookup fa = some ⟨oc, od, .func (PySem.W.fnOf x x (defArgs st) (defBody st) (defScope st) .none kV dc pm an cd ct), sl⟩)
    (c : PySem.W.codeIn K cd x = true) (k : PySem.W.keepIn K (.ref fa) = true)
    (hb : ∀ (kV doc pm : Value) (an : Option Addr) (cdv ct : Value) (us : List Value), us.length = (d.N.take d.ar).length → bindArgs (PySem.W.fnOf x x (defArgs st) (defBody st) (defScope st) .none kV doc pm an cdv ct) ⟨us, []⟩ = pure ((d.N.take d.ar).zip us))
    (S : FnScope d.N (d.N.take d.ar) (defScope st)) (ch : chkSs ⟨d.N, con⟩ ⟨defScope st, fun _ => true⟩ d.body (defBody st) = true) (hl : d.ar ≤ d.N.length) : DfOk K mg con d := by
  subst hx
  exact ⟨fa, _, st, fun_mk (st := st) l c k, PySem.W.mg_of X G a, k, hb _ _ _ _ _ _, S, ch, hl⟩
/-- a constant of the module: a tuple that the top has laid -/
theorem con_tup {F : Hp} {a : Addr} {od : Option Addr} {its : Array Value} {n : Nat} {sl : Array (Option Value)} {vs : List V} {ds : List D} (l : K.lookup a = some ⟨.type "tuple", od, .seq its n, sl⟩) (hz : its.size ≤ 1000) (r : Vals vs its.toList) (dp : DpAll K F vs ds) : Dp K F (.ref a) (.tuple ds) :=
  .tup (.inr ⟨_, its, n, l, rfl, rfl, Nat.le_trans hz (by decide), r⟩) dp
/-- the same of a list that nobody writes -/
theorem con_lst {F : Hp} {a : Addr} {its : Array Value} {n : Nat} {sl : Array (Option Value)} {vs : List V} {ds : List D} (l : K.lookup a = some ⟨.type "list", none, .seq its n, sl⟩) (hz : its.size ≤ 1000) (r : Vals vs its.toList) (dp : DpAll K F vs ds) : Dp K F (.ref a) (.list ds) :=
  .lst (.inr ⟨_, its, n, l, rfl, rfl, rfl, Nat.le_trans hz (by decide), r⟩) dp
theorem con1 {x : Str} {u : Value} {v : V} {d : D} (X : K.In h) (G : h.Ns mainGlobals mg) (a : PySem.W.nsIn K mainGlobals x = some (some u)) (r : RelV v u) (p : Dp K (fun _ => none) v d) : ∃ u v, mg x = some u ∧ RelV v u ∧ Dp K (fun _ => none) v d := ⟨u, v, PySem.W.mg_of X G a, r, p⟩
/-- law's promise -/
def spLaw (K : Frag) (n : Nat) : Sp := fun vs H Q _ => ∃ (a : Addr) (ns : List Int), vs = [.ref a] ∧ SqL K H a (ns.map V.int) ∧ ns.length ≤ n ∧ ∀ H', Q (.bl true) H'
/-- with the size of the numbers told -/
def spLawB (K : Frag) (n : Nat) : Sp := fun vs H Q _ => ∃ (a : Addr) (ns : List Int), vs = [.ref a] ∧ SqL K H a (ns.map V.int) ∧ ns.length ≤ n ∧ (∀ z ∈ ns, Builtin.Int.intBits z ≤ 1048576) ∧ ∀ H', Q (.bl true) H'
theorem law_sp {n m : Nat} {base : Heap} {fa : Addr} {fd : FuncData} {ps : List Str} {CX : CXT} {fs : FnSem} (har : fs.arity = 1) (hb : fs.bor = false) (pl : ∀ ns : List Int, ns.length ≤ n → ∃ b, fs.run [.list (ns.map .int)] = .ret (.bool true) b)
    (F : FnOk P w K mg base CX m fa fd ps (spF K mg fs)) : FnOk P w K mg base CX m fa fd ps (spLaw K n) := by
  refine F.imp fun vs H Q E ⟨a, ns, e, s, hl, q⟩ => ?_
  subst e
  refine ⟨har.symm, .inl ⟨hb, H, [.list (ns.map .int)], Ex.refl _, .cons (.lst s (dpa_ofInts ns)) .nil, ?_⟩⟩
  obtain ⟨b, e⟩ := pl ns hl
  rw [e]
  intro v F' H' g x dp
  cases dp
  exact q H'
theorem law_spB {n m : Nat} {base : Heap} {fa : Addr} {fd : FuncData} {ps : List Str} {CX : CXT} {fs : FnSem} (har : fs.arity = 1) (hb : fs.bor = false) (pl : ∀ ns : List Int, ns.length ≤ n → (∀ z ∈ ns, Builtin.Int.intBits z ≤ 1048576) → ∃ b, fs.run [.list (ns.map .int)] = .ret (.bool true) b)
    (F : FnOk P w K mg base CX m fa fd ps (spF K mg fs)) : FnOk P w K mg base CX m fa fd ps (spLawB K n) := by
  refine F.imp fun vs H Q E ⟨a, ns, e, s, hl, hbt, q⟩ => ?_
  subst e
  refine ⟨har.symm, .inl ⟨hb, H, [.list (ns.map .int)], Ex.refl _, .cons (.lst s (dpa_ofInts ns)) .nil, ?_⟩⟩
  obtain ⟨b, e⟩ := pl ns hl hbt
  rw [e]
  intro v F' H' g x dp
  cases dp
  exact q H'
/-- the facts of the top, the plain law, together -/
theorem law_fn {T : List Df} {m n : Nat} {d : Df} {fa : Addr} {x : Str} (t : TopOk K mg con T) (hd : d ∈ T) (har : d.ar = 1) (hfa : mg d.name = some (.ref fa)) (hx : d.N.take d.ar = [x])
    (pl : ∀ ns : List Int, ns.length ≤ n → ∃ b, (runDf (Phi T m) d).run [.list (ns.map .int)] = .ret (.bool true) b) :
    ∃ fd : FuncData, (∀ (s : Shared) (u : Value), BindsTo s fd ⟨[u], []⟩ [(x, u)]) ∧ ∀ base : Heap, FnOk P w K mg base (L2.CX P w) (m + 2) fa fd [x] (spLaw K n) := by
  obtain ⟨fa', fd, g, k, b, F⟩ := fn_step (P := P) (w := w) t (phi_ok t m) hd
  rw [hfa] at g
  cases g
  rw [hx] at b F
  exact ⟨fd, fun s u => .of_eq (b [u] rfl), fun base => law_sp har rfl pl (F base)⟩
theorem law_fnB {T : List Df} {m n : Nat} {d : Df} {fa : Addr} {x : Str} (t : TopOk K mg con T) (hd : d ∈ T) (har : d.ar = 1) (hfa : mg d.name = some (.ref fa)) (hx : d.N.take d.ar = [x])
    (pl : ∀ ns : List Int, ns.length ≤ n → (∀ z ∈ ns, Builtin.Int.intBits z ≤ 1048576) → ∃ b, (runDf (Phi T m) d).run [.list (ns.map .int)] = .ret (.bool true) b) :
    ∃ fd : FuncData, (∀ (s : Shared) (u : Value), BindsTo s fd ⟨[u], []⟩ [(x, u)]) ∧ ∀ base : Heap, FnOk P w K mg base (L2.CX P w) (m + 2) fa fd [x] (spLawB K n) := by
  obtain ⟨fa', fd, g, k, b, F⟩ := fn_step (P := P) (w := w) t (phi_ok t m) hd
  rw [hfa] at g
  cases g
  rw [hx] at b F
  exact ⟨fd, fun s u => .of_eq (b [u] rfl), fun base => law_spB har rfl pl (F base)⟩
theorem no_out {P : Program} {w : World} (H : Hp) (s : Shared) (e : Value) (s' : Shared) (h : L2.CX P w [] H s (fun _ _ _ => False) e s') : False := by
  obtain ⟨_, _, _, _, _, _, _, _, _, _, _, _, z⟩ := h
  exact z
end
end PyE
namespace PyE
open PySem PySem.Spec PyProof.Rows L2
section
variable {K : Frag} {mg : Str → Option Value} {h : Heap}
theorem bad_mk {C f1 S N : Addr} {nm q : Str} {bs : List Value} {sn : List Str} {sub : List Value} {ab : Bool} {col : Option Bool} {dd : Option Addr} {m0 m1 m2 m3 m5 : Option Value} {od1 an1 : Option Addr} {sl1 : Array (Option Value)} {oc1 dc1 pm1 cd1 ct1 : Value} {p1 p2 q1 q2 q3 q4 : Pos}
    (X : K.In h) (G : h.Ns mainGlobals mg)
    (aC : PySem.W.nsIn K mainGlobals "BadValue" = some (some (.ref C)))
    (xL : K.lookup C = some (excClassObj nm q C N bs [.ref S, .type "Exception", .type "BaseException", .type "object"] true sn sub ab col dd m0 m1 m2 m3 m5 "Exception.__new__"))
    (sa : PySem.W.findIn K (.ref C) "__setattr__" = some (some (.builtin "object.__setattr__"))) (ga : PySem.W.findIn K (.ref C) "__getattribute__" = some (some (.builtin "BaseException.__getattribute__")))
    (gg : PySem.W.findIn K (.ref C) "__getattr__" = some none) (nb : PySem.W.findIn K (.ref C) "at" = some none)
    (a1 : PySem.W.findIn K (.ref C) "__init__" = some (some (.ref f1))) (t1 : PySem.W.typeIn K (.ref f1) = some (.type "function"))
    (l1 : K.lookup f1 = some ⟨oc1, od1, .func (PySem.W.fnOf "__init__" "BadValue.__init__" (PySem.BadX.iA p1 p2) (PySem.BadX.iB q1 q2 q3 q4) PySem.BadX.iS .none .none dc1 pm1 an1 cd1 ct1), sl1⟩) (c1 : PySem.W.codeIn K cd1 "BadValue.__init__" = true)
    (kC : PySem.W.keepIn K (.ref C) = true) (eC : PySem.W.subIn K (.ref C) (.type "BaseException") = some true) (tC : PySem.W.typeIn K (.ref C) = some (.type "type")) (hC : PySem.W.hasDictIn K C = true) (iC : PySem.W.isClsIn K C = true) (sC : PySem.W.subIn K (.ref C) (.ref C) = some true) :
    ∃ C fI, PySem.BadX.BadTxt K mg C fI := by
  have te : PySem.W.exmOne K (.ref C) (.ref C) = some true := by
    have e1 : (PySem.W.subIn K (.ref C) (.type "BaseException") == some true) = true := by rw [eC]; rfl
    have e2 : ((PySem.W.clsIn K C).isSome && PySem.W.typeIn K (.ref C) == some (.type "type")) = true := by
      have h2 : (PySem.W.clsIn K C).isSome = true := iC
      rw [h2, tC]
      rfl
    show (if (PySem.W.subIn K (.ref C) (.type "BaseException") == some true) = true then (if ((PySem.W.clsIn K C).isSome && PySem.W.typeIn K (.ref C) == some (.type "type")) = true then PySem.W.subIn K (.ref C) (.ref C) else none) else none) = some true
    rw [if_pos e1, if_pos e2]
    exact sC
  have bm : PySem.HandSPX.refsEX [.ref S, .type "Exception", .type "BaseException", .type "object"] = true := by
    show PySem.HandSPX.refsEX PySem.HandSPX.exTl = true
    decide +kernel
  exact ⟨C, f1, { gC := PySem.W.mg_of X G aC, cls := ⟨nm, q, N, bs, _, sn, sub, ab, col, dd, m0, m1, m2, m3, m5, xL, bm⟩, sa := sa, ga := ga, gg := gg, noN := nb, iC := a1, tC := t1, kC := kC, exC := eC, tyC := tC, hdC := hC, te := te, fn := ⟨_, _, _, _, _, _, _, _, _, _, _, _, _, _, l1, c1⟩ }⟩
theorem all_nil {α : Type} {p : α → Prop} : ∀ x ∈ ([] : List α), p x := fun _ h => by cases h
theorem all_cons {α : Type} {p : α → Prop} {a : α} {l : List α} (h1 : p a) (h2 : ∀ x ∈ l, p x) : ∀ x ∈ a :: l, p x := fun x hx => by
  rcases List.mem_cons.mp hx with e | e
  · exact e ▸ h1
  · exact h2 x e
theorem con_nil {p : Str → D → Prop} : ∀ x d, ([] : List (Str × D)).lookup x = some d → p x d := fun _ _ h => by cases h
theorem con_cons {p : Str → D → Prop} {n : Str} {d0 : D} {l : List (Str × D)} (h1 : p n d0) (h2 : ∀ x d, l.lookup x = some d → p x d) : ∀ x d, ((n, d0) :: l).lookup x = some d → p x d := fun x d e => by
  rw [List.lookup_cons] at e
  cases q : (x == n) with
  | true =>
    rw [q] at e
    cases e
    exact (eq_of_beq q) ▸ h1
  | false => rw [q] at e; exact h2 x d e
theorem walk {l : PySem.W.OpenLaw} {m : Nat} {q : Program} {loose : List Str} {XP : (Str → Option Value) → Heap → Prop} {YP : World → Heap → Prop} {d : DefRec} {K : Params → PySem.W.Frag} (hn : l.most = some 63) (hdf : d.params.defaults = []) (hr : Room (m + 2) callerA)
    (hY : ∀ (w : World) (h : Heap), YP w h → (K w.params).In h)
    (F : ∀ (w : World) (mg : Str → Option Value) (fa : Addr) (h : Heap), (K w.params).In h → h.Ns mainGlobals mg → mg d.name = some (.ref fa) →
      ∃ fd : FuncData, (∀ (s : Shared) (u : Value), BindsTo s fd ⟨[u], []⟩ [("script", u)]) ∧ ∀ base : Heap, FnOk l.prog w (K w.params) mg base (L2.CX l.prog w) (m + 2) fa fd ["script"] (spLaw (K w.params) 63)) :
    PySem.W.WalkO q loose XP YP l.row.toRowW d [] (fun f vs => PySem.call f vs) :=
  L2.walk_of (n := 63) (k := m + 2) (x := "script") (CX := fun w => L2.CX l.prog w) (sp := fun w => spLaw (K w.params) 63) hn (by decide) hdf hr hY
    (fun w mg fa h X G e => let ⟨fd, b, f⟩ := F w mg fa h X G e; ⟨fd, b, fun base _ _ => f base⟩) (fun _ _ a ns hl _ hS => ⟨a, ns, rfl, hS, hl, fun _ => rfl⟩) fun w H s e s' h => no_out H s e s' h
theorem walkB {l : PySem.W.OpenLaw} {m : Nat} {q : Program} {loose : List Str} {XP : (Str → Option Value) → Heap → Prop} {YP : World → Heap → Prop} {d : DefRec} {K : Params → PySem.W.Frag} (hn : l.most = some 63) (hdf : d.params.defaults = []) (hr : Room (m + 2) callerA)
    (hY : ∀ (w : World) (h : Heap), YP w h → (K w.params).In h)
    (F : ∀ (w : World) (mg : Str → Option Value) (fa : Addr) (h : Heap), (K w.params).In h → h.Ns mainGlobals mg → mg d.name = some (.ref fa) →
      ∃ fd : FuncData, (∀ (s : Shared) (u : Value), BindsTo s fd ⟨[u], []⟩ [("script", u)]) ∧ ∀ base : Heap, FnOk l.prog w (K w.params) mg base (L2.CX l.prog w) (m + 2) fa fd ["script"] (spLawB (K w.params) 63)) :
    PySem.W.WalkO q loose XP YP l.row.toRowW d [] (fun f vs => PySem.call f vs) :=
  L2.walk_ofB (n := 63) (k := m + 2) (x := "script") (CX := fun w => L2.CX l.prog w) (sp := fun w => spLawB (K w.params) 63) hn (by decide) hdf hr hY
    (fun w mg fa h X G e => let ⟨fd, b, f⟩ := F w mg fa h X G e; ⟨fd, b, fun base _ _ => f base⟩) (fun _ _ a ns hl hb _ hS => ⟨a, ns, rfl, hS, hl, hb, fun _ => rfl⟩) fun w H s e s' h => no_out H s e s' h
end
end PyE

set_option Elab.async false
set_option linter.all false
set_option autoImplicit false
set_option maxRecDepth 100000
set_option maxHeartbeats 4000000
/-! # Facts for the evaluator's laws -/
namespace PyE
open PySem L2
theorem divOk9 : divOk 1000000000 = true := by decide +kernel
theorem log9 : Nat.log2 1000000000 = 29 := by decide +kernel
theorem at_ints {ns : List Int} {i : Nat} (h : i < ns.length) : L2.atI (ns.map PyData.int) (i : Int) = some (.int ns[i]) := by
  unfold L2.atI L2.ixN
  rw [List.length_map, if_pos (by omega), if_pos (by omega)]
  simp [h]
theorem at_nat {α : Type} {xs : List α} {i : Nat} (h : i < xs.length) : L2.atI xs (i : Int) = some xs[i] := by
  unfold L2.atI L2.ixN
  rw [if_pos (by omega), if_pos (by omega)]
  simp [h]
end PyE
namespace PyE
open PySem L2
/-- not a lent list's slot -/
def nb : Sl → Bool
  | .bor _ => false
  | _ => true
theorem putS_nb {env : SEnv} {i : Nat} {x s : Sl} (h : env[i]? = some x) (hb : nb x = true) : putS env i s = some (env.set i s) := by
  unfold putS
  rw [h]
  cases x <;> first | rfl | cases hb
theorem lcL_map {f : D → SEnv → Rs (List D)} {env : SEnv} {g : D → List D} : ∀ {xs : List D}, (∀ x ∈ xs, f x env = .ok (g x) env) → lcL f xs env = .ok (xs.flatMap g) env
  | [], _ => rfl
  | x :: xs, h => by
    unfold lcL
    rw [h x List.mem_cons_self]
    show (lcL f xs env).bind _ = _
    rw [lcL_map fun y hy => h y (List.mem_cons_of_mem _ hy)]
    rfl
/-- a loop that ends at the first find -/
theorem forL_find {f : D → SEnv → FR} {P : SEnv → Prop} {g : D → Option D} : ∀ {xs : List D} {env : SEnv}, P env → (∀ x ∈ xs, ∀ env, P env → (∃ d, g x = some d ∧ ∃ e, f x env = .ret d e) ∨ (g x = none ∧ ∃ e, f x env = .nxt e ∧ P e)) →
    (∃ d, xs.findSome? g = some d ∧ ∃ e, forL f xs env = .ret d e) ∨ (xs.findSome? g = none ∧ ∃ e, forL f xs env = .nxt e ∧ P e)
  | [], env, p, _ => .inr ⟨rfl, env, rfl, p⟩
  | x :: xs, env, p, h => by
    rcases h x List.mem_cons_self env p with ⟨d, h1, e, h2⟩ | ⟨h1, e, h2, p2⟩
    · refine .inl ⟨d, by rw [List.findSome?_cons, h1], e, ?_⟩
      unfold forL
      rw [h2]
    · have ih := forL_find (xs := xs) p2 fun y hy => h y (List.mem_cons_of_mem _ hy)
      rw [List.findSome?_cons, h1]
      unfold forL
      rw [h2]
      exact ih
theorem bools_map {α : Type} (p : α → Bool) : ∀ xs : List α, boolsD (xs.map fun x => .bool (p x)) = some (xs.map p)
  | [] => rfl
  | x :: xs => by
    show (boolsD (xs.map fun x => .bool (p x))).map _ = _
    rw [bools_map p xs]
    rfl
end PyE
namespace PyE
open PySem L2
theorem lc_eq {Φ : Fns} {e : IE} {tg : Tg} {it : II} {c : IO} {own : List Nat} {env : SEnv} {ds : List D} {g : D → List D} (h1 : evI Φ it env = .ok ds env) (hw : wipeE env own = env) (hb : backE env env own = env)
    (h2 : ∀ x ∈ ds, lcStep (evC Φ c) (evE Φ e) tg own x env = .ok (g x) env) (hz : szOk (ds.flatMap g).length = true) : evE Φ (.lc e tg it c own) env = .ok (.tmp (ds.flatMap g)) env := by
  show (evI Φ it env).bind _ = _
  rw [h1]
  show lcEnd env own (lcL _ ds (wipeE env own)) = _
  rw [hw, lcL_map h2]
  show (if szOk _ then _ else _) = _
  rw [hz, if_pos rfl, hb]
theorem asg_tmp {Φ : Fns} {n i : Nat} {e : IE} {env : SEnv} {ds : List D} {x : Sl} (h : evE Φ e env = .ok (.tmp ds) env) (hx : env[i]? = some x) (hb : nb x = true) : evS Φ n (.asg i e) env = .nxt (env.set i (.own ds)) := by
  unfold evS
  rw [h]
  show (match putS env i (.own ds) with
    | some e2 => FR.nxt e2
    | none => .stuck) = _
  rw [putS_nb hx hb]
theorem seq_nxt {Φ : Fns} {n : Nat} {s : IS} {r : ISs} {env e1 : SEnv} (h : evS Φ n s env = .nxt e1) : evSs Φ n (.cons s r) env = evSs Φ n r e1 := by
  show (evS Φ n s env).bind _ = _
  rw [h]
theorem seq_ret {Φ : Fns} {n : Nat} {s : IS} {r : ISs} {env e1 : SEnv} {d : D} (h : evS Φ n s env = .ret d e1) : evSs Φ n (.cons s r) env = .ret d e1 := by
  show (evS Φ n s env).bind _ = _
  rw [h]
theorem for_eq {Φ : Fns} {n : Nat} {tg : Tg} {it : II} {b : ISs} {env : SEnv} {ds : List D} (h : evI Φ it env = .ok ds env) : evS Φ n (.for_ tg it b) env = forL (fun x e => match putT e tg x with
      | some e2 => evSs Φ n b e2
      | none => .stuck) ds env := by
  show (evI Φ it env).toF _ = _
  rw [h] <;> rfl
theorem rgD_mem {n : Nat} {x : D} (h : x ∈ rgD 0 n) : ∃ i, i < n ∧ x = .int (i : Nat) := by
  unfold rgD at h
  obtain ⟨i, h1, h2⟩ := List.mem_map.mp h
  exact ⟨i, List.mem_range.mp h1, by rw [← h2, Int.zero_add]⟩
theorem at_map {α : Type} {n : Nat} (f : Nat → α) {i : Nat} (h : i < n) : L2.atI ((List.range n).map f) (i : Int) = some (f i) := by
  rw [at_nat (by simpa using h)]
  simp
theorem flat_if {α β : Type} (p : α → Bool) (g : α → β) : ∀ xs : List α, xs.flatMap (fun x => if p x = true then [g x] else []) = (xs.filter p).map g
  | [] => rfl
  | x :: xs => by
    rw [List.flatMap_cons, flat_if p g xs, List.filter_cons]
    cases p x <;> rfl
theorem flat_one {α β : Type} (g : α → β) : ∀ xs : List α, xs.flatMap (fun x => [g x]) = xs.map g
  | [] => rfl
  | x :: xs => by
    rw [List.flatMap_cons, flat_one g xs]
    rfl
end PyE
namespace PyE
open PySem L2
theorem rOk_nat {n : Nat} (h : n ≤ 1000000) : rOk (n : Int) = true := by
  exact Nat.ble_eq_true_of_le (Nat.le_trans h (by decide))
theorem rOk3 : rOk 3 = true := by decide +kernel
theorem range3 : List.range 3 = [0, 1, 2] := rfl
theorem szOk_k {n : Nat} (h : n ≤ 1000) : szOk n = true := decide_eq_true (Nat.le_trans h (by decide))
end PyE
namespace PyE
open PySem L2
/-- a comprehension; what is walked may be frozen on the way -/
theorem lc_eqF {Φ : Fns} {e : IE} {tg : Tg} {it : II} {c : IO} {own : List Nat} {env e1 : SEnv} {ds : List D} {g : D → List D} (h1 : evI Φ it env = .ok ds e1) (hw : wipeE e1 own = e1) (hb : backE e1 e1 own = e1)
    (h2 : ∀ x ∈ ds, lcStep (evC Φ c) (evE Φ e) tg own x e1 = .ok (g x) e1) (hz : szOk (ds.flatMap g).length = true) : evE Φ (.lc e tg it c own) env = .ok (.tmp (ds.flatMap g)) e1 := by
  show (evI Φ it env).bind _ = _
  rw [h1]
  show lcEnd e1 own (lcL _ ds (wipeE e1 own)) = _
  rw [hw, lcL_map h2]
  show (if szOk _ then _ else _) = _
  rw [hz, if_pos rfl, hb]
theorem any_bools {α : Type} (f : α → Bool) (xs : List α) : bfD .any [.list (xs.map fun x => .bool (f x))] = some (.now (.bool (xs.any f))) := by
  show (boolsD _).map _ = _
  rw [bools_map]
  show some (Vw.now (.bool ((xs.map f).any id))) = _
  rw [List.any_map]
  rfl
theorem all_bools {α : Type} (f : α → Bool) (xs : List α) : bfD .all [.list (xs.map fun x => .bool (f x))] = some (.now (.bool (xs.all f))) := by
  show (boolsD _).map _ = _
  rw [bools_map]
  show some (Vw.now (.bool ((xs.map f).all id))) = _
  rw [List.all_map]
  rfl
theorem bfT {Φ : Fns} {f : Bf} {e : IE} {env e1 : SEnv} {ds : List D} {b : Bool} (h : evE Φ e env = .ok (.tmp ds) e1) (hb : bfD f [.list ds] = some (.now (.bool b))) : evT Φ (.bf f (.cons e .nil)) env = .ok b e1 := by
  unfold evT evE
  show Rs.bind (Rs.bind ((evE Φ e env).bind _) _) _ = _
  rw [h]
  show Rs.bind (match looks e1 [.tmp ds] with
    | some ds => Rs.opt (bfD f ds) e1
    | none => .stuck) _ = _
  show Rs.bind (Rs.opt (bfD f [.list ds]) e1) _ = _
  rw [hb]
  rfl
theorem ite_nxt {Φ : Fns} {n : Nat} {t : IE} {a b : ISs} {env e1 : SEnv} {c : Bool} (h : evT Φ t env = .ok c e1) : evS Φ n (.ite t a b) env = if c then evSs Φ n a e1 else evSs Φ n b e1 := by
  show (evT Φ t env).toF _ = _
  rw [h]
end PyE
namespace PyE
open PySem L2
theorem call2 {Φ : Fns} {f : Str} {fs : FnSem} {e1 e2 : IE} {env : SEnv} {d1 d2 d : D} (hf : Φ f = some fs) (ha : fs.arity = 2) (hb : fs.bor = false) (h1 : evE Φ e1 env = .ok (.now d1) env) (h2 : evE Φ e2 env = .ok (.now d2) env) (hr : fs.run [d1, d2] = .ret d []) :
    evE Φ (.call f (.cons e1 (.cons e2 .nil))) env = .ok (.now d) env := by
  unfold evE
  rw [hf]
  show Rs.bind (evEs Φ _ env) _ = _
  have : evEs Φ (.cons e1 (.cons e2 .nil)) env = .ok [.now d1, .now d2] env := by
    unfold evEs
    rw [h1]
    show Rs.bind (evEs Φ (.cons e2 .nil) env) _ = _
    unfold evEs
    rw [h2]
    rfl
  rw [this]
  show callK fs [d1, d2] env = _
  unfold callK
  rw [ha, hb, hr]
  rfl
theorem find_if {α β : Type} (p : α → Bool) (b : β) : ∀ xs : List α, xs.findSome? (fun x => if p x = true then some b else none) = if xs.any p = true then some b else none
  | [] => rfl
  | x :: xs => by
    rw [List.findSome?_cons, List.any_cons]
    cases p x with
    | true => rfl
    | false =>
      show xs.findSome? _ = _
      rw [find_if p b xs, Bool.false_or]
end PyE
namespace PyE
open PySem L2
theorem asg_tmpF {Φ : Fns} {n i : Nat} {e : IE} {env e1 : SEnv} {ds : List D} {x : Sl} (h : evE Φ e env = .ok (.tmp ds) e1) (hx : e1[i]? = some x) (hb : nb x = true) : evS Φ n (.asg i e) env = .nxt (e1.set i (.own ds)) := by
  unfold evS
  rw [h]
  show (match putS e1 i (.own ds) with
    | some e2 => FR.nxt e2
    | none => .stuck) = _
  rw [putS_nb hx hb]
theorem asg_now {Φ : Fns} {n i : Nat} {e : IE} {env e1 : SEnv} {d : D} {x : Sl} (h : evE Φ e env = .ok (.now d) e1) (hx : e1[i]? = some x) (hb : nb x = true) : evS Φ n (.asg i e) env = .nxt (e1.set i (.sh d)) := by
  unfold evS
  rw [h]
  show (match putS e1 i (.sh d) with
    | some e2 => FR.nxt e2
    | none => .stuck) = _
  rw [putS_nb hx hb]
end PyE
namespace PyE
open PySem L2
theorem callN {Φ : Fns} {f : Str} {fs : FnSem} {es : IEs} {env e1 e2 : SEnv} {ws : List Vw} {ds : List D} {d : D} {b : List D} (hf : Φ f = some fs) (hes : evEs Φ es env = .ok ws e1) (hk : keepN e1 ws = some (ds, e2)) (ha : ds.length = fs.arity) (hb : fs.bor = false) (hr : fs.run ds = .ret d b) :
    evE Φ (.call f es) env = .ok (.now d) e2 := by
  unfold evE
  rw [hf]
  show Rs.bind (evEs Φ es env) _ = _
  rw [hes]
  show (match keepN e1 ws with
    | some (ds, e2) => callK fs ds e2
    | none => .stuck) = _
  rw [hk]
  show callK fs ds e2 = _
  unfold callK
  rw [ha, hb, hr]
  simp
theorem ret_now {Φ : Fns} {n : Nat} {e : IE} {env e1 : SEnv} {d : D} (h : evE Φ e env = .ok (.now d) e1) : evS Φ n (.ret e) env = .ret d e1 := by
  unfold evS
  rw [h]
  rfl
theorem app_own {Φ : Fns} {n i : Nat} {e : IE} {env e1 : SEnv} {d : D} {ds : List D} (hm : isMine env i = true) (h : evE Φ e env = .ok (.now d) e1) (hx : e1[i]? = some (.own ds)) (hl : ds.length < 1000) : evS Φ n (.app i e) env = .nxt (e1.set i (.own (ds ++ [d]))) := by
  unfold evS
  rw [hm, if_pos rfl, h]
  show appK e1 i d = _
  unfold appK
  rw [hx]
  show (if szOk (ds.length + 1) = true then _ else _) = _
  rw [if_pos (szOk_k (by omega))]
end PyE
namespace PyE
open PySem L2
theorem rg_find {β : Type} (g : D → Option β) (n : Nat) : (rgD 0 n).findSome? g = (List.range n).findSome? fun k => g (.int (k : Nat)) := by
  unfold rgD
  rw [List.findSome?_map]
  have : (g ∘ fun i : Nat => PyData.int (0 + (i : Int))) = fun k : Nat => g (.int (k : Int)) := by
    funext i
    simp [Function.comp]
  rw [this]
end PyE

set_option Elab.async false
set_option linter.all false
set_option autoImplicit false
set_option maxRecDepth 100000
set_option maxHeartbeats 4000000
/-! # Facts for the evaluator's laws, continued: tests -/
namespace PyE
open PySem L2
section
variable {Φ : Fns} {n : Nat} {a b e : IE} {env e1 e2 : SEnv} {x y : Bool} {d : D}
theorem nt_now (h : evE Φ e env = .ok (.now (.bool x)) e1) : evE Φ (.nt e) env = .ok (.now (.bool (!x))) e1 := by
  unfold evE
  rw [h]
  rfl
theorem or_f (h : evE Φ a env = .ok (.now (.bool false)) e1) : evE Φ (.or a b) env = evE Φ b e1 := by
  show (evE Φ a env).bind _ = _
  rw [h]
  rfl
theorem and_t (h : evE Φ a env = .ok (.now (.bool true)) e1) : evE Φ (.and a b) env = evE Φ b e1 := by
  show (evE Φ a env).bind _ = _
  rw [h]
  rfl
theorem tst (h : evE Φ e env = .ok (.now (.bool x)) e1) : evT Φ e env = .ok x e1 := by
  unfold evT
  rw [h]
  rfl
theorem isN_true (h : evE Φ e env = .ok (.now (.bool true)) e1) : evE Φ (.cmp .IsNot e (.k (.bool true))) env = .ok (.now (.bool false)) e1 := by
  show (evE Φ e env).bind _ = _
  rw [h]
  rfl
theorem is_true (h : evE Φ e env = .ok (.now (.bool true)) e1) : evE Φ (.cmp .Is e (.k (.bool true))) env = .ok (.now (.bool true)) e1 := by
  show (evE Φ e env).bind _ = _
  rw [h]
  rfl
def isNone : D → Bool
  | .none => true
  | _ => false
theorem is_none (h : evE Φ e env = .ok (.now d) e1) : evE Φ (.cmp .Is e (.k .none)) env = .ok (.now (.bool (isNone d))) e1 := by
  show (evE Φ e env).bind _ = _
  rw [h]
  cases d <;> rfl
theorem es_cons {es : IEs} {w : Vw} {ws : List Vw} (h1 : evE Φ e env = .ok w e1) (h2 : evEs Φ es e1 = .ok ws e2) : evEs Φ (.cons e es) env = .ok (w :: ws) e2 := by
  unfold evEs
  rw [h1]
  show Rs.bind (evEs Φ es e1) _ = _
  rw [h2]
theorem ite_f {p q : ISs} (h : evT Φ e env = .ok false e1) : evS Φ n (.ite e p q) env = evSs Φ n q e1 := by
  rw [ite_nxt h]
  rfl
theorem ex_nxt {w : Vw} (h : evE Φ e env = .ok w e1) : evS Φ n (.ex e) env = .nxt e1 := by
  unfold evS
  rw [h]
end
end PyE
namespace PyE
open PySem L2
theorem mulOk_r {i j : Int} (h : smallI j = true) : mulOk i j = true := by
  unfold mulOk
  rw [h, Bool.or_true, Bool.true_or]
theorem mulOk_l {i j : Int} (h : smallI i = true) : mulOk i j = true := by
  unfold mulOk
  rw [h, Bool.true_or, Bool.true_or]
/-- the figures of the laws' draws -/
theorem mulDraw : (∀ i, mulOk i 69069 = true) ∧ (∀ i, mulOk i 39916801 = true) ∧ (∀ i, mulOk i 7919 = true) ∧ (∀ i, mulOk i 48271 = true) ∧ (∀ i, mulOk i 16807 = true) ∧ (∀ i, mulOk 7 i = true) :=
  ⟨fun _ => mulOk_r (by decide +kernel), fun _ => mulOk_r (by decide +kernel), fun _ => mulOk_r (by decide +kernel), fun _ => mulOk_r (by decide +kernel), fun _ => mulOk_r (by decide +kernel), fun _ => mulOk_l (by decide +kernel)⟩
end PyE

set_option Elab.async false
set_option maxRecDepth 100000
set_option maxHeartbeats 0
namespace K14
open PySem PyE
set_option linter.all false
def c_FLAGS : D := (.tuple [(.bool false), (.bool true)])
def c_WAYS : D := (.tuple [(.str "open"), (.str "rounds"), (.str "chain"), (.str "sealed"), (.str "turns")])
def N_is_int : List Str := ["value"]
def b_is_int : ISs := (.cons (.ret (.and (.isi (.v 0) [.int] false) (.nt (.isi (.v 0) [.bool] false)))) .nil)
def d_is_int : Df := { name := "is_int", N := N_is_int, ar := 1, fuel := 100, body := b_is_int }

def N_in_range : List Str := ["value", "low", "high"]
def b_in_range : ISs := (.cons (.ret (.and (.call "is_int" (.cons (.v 0) .nil)) (.and (.cmp .LtE (.v 1) (.v 0)) (.or (.cmp .Is (.v 2) (.k .none)) (.cmp .LtE (.v 0) (.v 2)))))) .nil)
def d_in_range : Df := { name := "in_range", N := N_in_range, ar := 3, fuel := 100, body := b_in_range }

def N_need : List Str := ["good", "at"]
def b_need : ISs := (.cons (.ite (.nt (.v 0)) (.cons (.raise "BadValue" (.v 1)) .nil) .nil) .nil)
def d_need : Df := { name := "need", N := N_need, ar := 2, fuel := 100, body := b_need }

def N_all_rows : List Str := ["long", "marks", "rows", "_", "row", "mark"]
def b_all_rows : ISs := (.cons (.asg 2 (.lst (.cons (.tup .nil) .nil))) (.cons (.for_ (.one 3) (.r1 (.v 0)) (.cons (.asg 2 (.lc2 (.bin .Add (.v 4) (.tup (.cons (.v 5) .nil))) (.one 4) (.seq (.v 2)) .none (.one 5) (.seq (.v 1)) .none [4, 5] [5])) .nil)) (.cons (.ret (.v 2)) .nil)))
def d_all_rows : Df := { name := "all_rows", N := N_all_rows, ar := 2, fuel := 100, body := b_all_rows }

def N_cut_rows : List Str := ["marks", "wide", "at"]
def b_cut_rows : ISs := (.cons (.ret (.bf .tuple (.cons (.lc (.sl (.v 0) (.some (.v 2)) (.some (.bin .Add (.v 2) (.v 1)))) (.one 2) (.r3 (.k (.int 0)) (.bf .len (.cons (.v 0) .nil)) (.v 1)) .none [2]) .nil))) .nil)
def d_cut_rows : Df := { name := "cut_rows", N := N_cut_rows, ar := 2, fuel := 100, body := b_cut_rows }

def N_way_form : List Str := ["way"]
def b_way_form : ISs := (.cons (.ret (.and (.isi (.v 0) [.str] false) (.cmp .In (.v 0) (.g "WAYS" c_WAYS)))) .nil)
def d_way_form : Df := { name := "way_form", N := N_way_form, ar := 1, fuel := 100, body := b_way_form }

def N_said_in_turn : List Str := ["way", "answers", "persons", "told", "begin", "candidate", "refused", "step", "person"]
def b_said_in_turn : ISs := (.cons (.asg 2 (.bf .len (.cons (.v 1) .nil))) (.cons (.asg 3 (.lst .nil)) (.cons (.asg 4 (.k (.int 0))) (.cons (.for_ (.one 5) (.r1 (.bf .len (.cons (.ix (.v 1) (.k (.int 0))) .nil))) (.cons (.asg 6 (.k .none)) (.cons (.for_ (.one 7) (.r1 (.v 2)) (.cons (.asg 8 (.bin .Mod (.bin .Add (.v 4) (.v 7)) (.v 2))) (.cons (.app 3 (.tup (.cons (.v 8) (.cons (.v 5) (.cons (.ix (.ix (.v 1) (.v 8)) (.v 5)) .nil))))) (.cons (.ite (.nt (.ix (.ix (.v 1) (.v 8)) (.v 5))) (.cons (.asg 6 (.v 8)) (.cons (.ite (.cmp .NotEq (.v 0) (.k (.str "rounds"))) (.cons (.brk) .nil) .nil) .nil)) .nil) .nil)))) (.cons (.ite (.cmp .Is (.v 6) (.k .none)) (.cons (.brk) .nil) .nil) (.cons (.ite (.cmp .Eq (.v 0) (.k (.str "turns"))) (.cons (.asg 4 (.bin .Mod (.bin .Add (.v 6) (.k (.int 1))) (.v 2))) .nil) .nil) .nil))))) (.cons (.ret (.bf .tuple (.cons (.v 3) .nil))) .nil)))))
def d_said_in_turn : Df := { name := "said_in_turn", N := N_said_in_turn, ar := 2, fuel := 100, body := b_said_in_turn }

def N_said_by : List Str := ["way", "answers", "person", "row", "candidate", "so"]
def b_said_by : ISs := (.cons (.ite (.cmp .Eq (.v 0) (.k (.str "sealed"))) (.cons (.ret (.tup .nil)) .nil) .nil) (.cons (.ite (.cmp .Eq (.v 0) (.k (.str "open"))) (.cons (.ret (.bf .tuple (.cons (.lc2 (.tup (.cons (.v 2) (.cons (.v 4) (.cons (.v 5) .nil)))) (.many [2, 3]) (.enum (.v 1)) .none (.many [4, 5]) (.enum (.v 3)) .none [2, 3, 4, 5] [4, 5]) .nil))) .nil) .nil) (.cons (.ret (.call "said_in_turn" (.cons (.v 0) (.cons (.v 1) .nil)))) .nil)))
def d_said_by : Df := { name := "said_by", N := N_said_by, ar := 2, fuel := 100, body := b_said_by }

def N_taken_by : List Str := ["answers", "candidate", "row"]
def b_taken_by : ISs := (.cons (.for_ (.one 1) (.r1 (.bf .len (.cons (.ix (.v 0) (.k (.int 0))) .nil))) (.cons (.ite (.bf .all (.cons (.lc (.ix (.v 2) (.v 1)) (.one 2) (.seq (.v 0)) .none [2]) .nil)) (.cons (.ret (.v 1)) .nil) .nil) .nil)) (.cons (.ret (.k .none)) .nil))
def d_taken_by : Df := { name := "taken_by", N := N_taken_by, ar := 1, fuel := 100, body := b_taken_by }

def N_heard : List Str := ["way", "answers"]
def b_heard : ISs := (.cons (.ret (.tup (.cons (.call "said_by" (.cons (.v 0) (.cons (.v 1) .nil))) (.cons (.call "taken_by" (.cons (.v 1) .nil)) .nil)))) .nil)
def d_heard : Df := { name := "heard", N := N_heard, ar := 2, fuel := 100, body := b_heard }

def N_more_by : List Str := ["one", "other", "persons", "candidates", "tables", "flags", "by_one", "table", "by_other", "at", "more", "to", "person"]
def b_more_by : ISs := (.cons (.asg 4 (.lc (.call "cut_rows" (.cons (.v 5) (.cons (.v 3) .nil))) (.one 5) (.seq (.call "all_rows" (.cons (.bin .Mult (.v 2) (.v 3)) (.cons (.g "FLAGS" c_FLAGS) .nil)))) .none [5])) (.cons (.asg 6 (.lc (.call "heard" (.cons (.v 0) (.cons (.v 7) .nil))) (.one 7) (.seq (.v 4)) .none [7])) (.cons (.asg 8 (.lc (.call "heard" (.cons (.v 1) (.cons (.v 7) .nil))) (.one 7) (.seq (.v 4)) .none [7])) (.cons (.for_ (.many [9, 7]) (.enum (.v 4)) (.cons (.asg 10 (.lc (.v 11) (.one 11) (.r1 (.bf .len (.cons (.v 4) .nil))) (.some (.and (.cmp .Eq (.ix (.v 8) (.v 11)) (.ix (.v 8) (.v 9))) (.cmp .NotEq (.ix (.v 6) (.v 11)) (.ix (.v 6) (.v 9))))) [11])) (.cons (.for_ (.one 12) (.r1 (.v 2)) (.cons (.ite (.bf .any (.cons (.lc (.cmp .Eq (.ix (.ix (.v 4) (.v 11)) (.v 12)) (.ix (.v 7) (.v 12))) (.one 11) (.seq (.v 10)) .none [11]) .nil)) (.cons (.ret (.tup (.cons (.v 7) (.cons (.v 12) .nil)))) .nil) .nil) .nil)) .nil))) (.cons (.ret (.k .none)) .nil)))))
def d_more_by : Df := { name := "more_by", N := N_more_by, ar := 4, fuel := 100, body := b_more_by }

def N_less : List Str := ["one", "other", "persons", "candidates"]
def b_less : ISs := (.cons (.ret (.cmp .Is (.call "more_shown" (.cons (.v 0) (.cons (.v 1) (.cons (.v 2) (.cons (.v 3) .nil))))) (.k .none))) .nil)
def d_less : Df := { name := "less", N := N_less, ar := 4, fuel := 100, body := b_less }

def N_more_shown : List Str := ["one", "other", "persons", "candidates"]
def b_more_shown : ISs := (.cons (.ex (.call "need" (.cons (.call "way_form" (.cons (.v 0) .nil)) (.cons (.k (.int 1)) .nil)))) (.cons (.ex (.call "need" (.cons (.call "way_form" (.cons (.v 1) .nil)) (.cons (.k (.int 2)) .nil)))) (.cons (.ex (.call "need" (.cons (.call "in_range" (.cons (.v 2) (.cons (.k (.int 2)) (.cons (.k (.int 3)) .nil)))) (.cons (.k (.int 3)) .nil)))) (.cons (.ex (.call "need" (.cons (.call "in_range" (.cons (.v 3) (.cons (.k (.int 1)) (.cons (.k (.int 3)) .nil)))) (.cons (.k (.int 4)) .nil)))) (.cons (.ret (.call "more_by" (.cons (.v 0) (.cons (.v 1) (.cons (.v 2) (.cons (.v 3) .nil)))))) .nil)))))
def d_more_shown : Df := { name := "more_shown", N := N_more_shown, ar := 4, fuel := 100, body := b_more_shown }

def N__law_draws : List Str := ["script", "place", "many", "cell", "numbers", "rest_o", "k", "first_o"]
def b__law_draws : ISs := (.cons (.asg 3 (.ife (.cmp .Lt (.v 1) (.bf .len (.cons (.v 0) .nil))) (.ix (.v 0) (.v 1)) (.bin .Add (.bin .Mult (.k (.int 7)) (.v 1)) (.k (.int 3))))) (.cons (.asg 4 (.lst .nil)) (.cons (.asg 5 (.v 3)) (.cons (.for_ (.one 6) (.r1 (.v 2)) (.cons (.ite (.cmp .GtE (.v 3) (.bin .Pow (.k (.int 10)) (.k (.int 18)))) (.cons (.app 4 (.bin .Mod (.bf .int (.cons (.v 5) .nil)) (.bin .Pow (.k (.int 10)) (.k (.int 9))))) (.cons (.asg 5 (.bin .FloorDiv (.v 5) (.bin .Pow (.k (.int 10)) (.k (.int 9))))) .nil)) (.cons (.asg 7 (.bin .Mod (.bf .int (.cons (.bin .Add (.bin .Add (.bin .Mult (.bf .abs (.cons (.v 3) .nil)) (.k (.int 69069))) (.bin .Mult (.bin .Add (.v 6) (.k (.int 1))) (.k (.int 39916801)))) (.bin .Mult (.v 1) (.k (.int 7919)))) .nil)) (.k (.int 2147483647)))) (.cons (.app 4 (.bin .Mod (.bin .Mod (.bf .int (.cons (.bin .Add (.bin .Mult (.v 7) (.k (.int 48271))) (.bin .Mult (.bin .Add (.v 6) (.k (.int 5))) (.k (.int 16807)))) .nil)) (.k (.int 2147483629))) (.bin .Pow (.k (.int 10)) (.k (.int 9))))) .nil))) .nil)) (.cons (.ret (.v 4)) .nil)))))
def d__law_draws : Df := { name := "_law_draws", N := N__law_draws, ar := 3, fuel := 100, body := b__law_draws }

def N__law_same : List Str := ["actual", "due", "k"]
def b__law_same : ISs := (.cons (.ite (.and (.isi (.v 1) [.tuple] false) (.and (.isi (.v 0) [.tuple] false) (.cmp .Eq (.bf .len (.cons (.v 0) .nil)) (.bf .len (.cons (.v 1) .nil))))) (.cons (.ret (.bf .all (.cons (.lc (.call "_law_same" (.cons (.ix (.v 0) (.v 2)) (.cons (.ix (.v 1) (.v 2)) .nil))) (.one 2) (.r1 (.bf .len (.cons (.v 1) .nil))) .none [2]) .nil))) .nil) .nil) (.cons (.ite (.cmp .Is (.v 1) (.k .none)) (.cons (.ret (.cmp .Is (.v 0) (.k .none))) .nil) .nil) (.cons (.ite (.or (.cmp .NotEq (.isi (.v 0) [.bool] false) (.isi (.v 1) [.bool] false)) (.cmp .NotEq (.isi (.v 0) [.str] false) (.isi (.v 1) [.str] false))) (.cons (.ret (.k (.bool false))) .nil) .nil) (.cons (.ret (.and (.isi (.v 0) [.int, .str] true) (.cmp .Eq (.v 0) (.v 1)))) .nil))))
def d__law_same : Df := { name := "_law_same", N := N__law_same, ar := 2, fuel := 100, body := b__law_same }

def N__law_first : List Str := ["answers", "k", "row"]
def b__law_first : ISs := (.cons (.for_ (.one 1) (.r1 (.bf .len (.cons (.ix (.v 0) (.k (.int 0))) .nil))) (.cons (.ite (.nt (.lc (.v 2) (.one 2) (.seq (.v 0)) (.some (.nt (.ix (.v 2) (.v 1)))) [2])) (.cons (.ret (.v 1)) .nil) .nil) .nil)) (.cons (.ret (.k .none)) .nil))
def d__law_first : Df := { name := "_law_first", N := N__law_first, ar := 1, fuel := 100, body := b__law_first }

def N__law_said : List Str := ["way_o", "answers", "persons_o", "many", "found", "i", "k", "begin", "row", "j", "one"]
def b__law_said : ISs := (.cons (.asg 2 (.bf .len (.cons (.v 1) .nil))) (.cons (.asg 3 (.bf .len (.cons (.ix (.v 1) (.k (.int 0))) .nil))) (.cons (.ite (.cmp .Eq (.v 0) (.k (.str "sealed"))) (.cons (.ret (.tup .nil)) .nil) .nil) (.cons (.ite (.cmp .Eq (.v 0) (.k (.str "open"))) (.cons (.asg 4 (.lst .nil)) (.cons (.for_ (.one 5) (.r1 (.v 2)) (.cons (.asg 4 (.bin .Add (.v 4) (.lc (.tup (.cons (.v 5) (.cons (.v 6) (.cons (.ix (.ix (.v 1) (.v 5)) (.v 6)) .nil)))) (.one 6) (.r1 (.v 3)) .none [6]))) .nil)) (.cons (.ret (.bf .tuple (.cons (.v 4) .nil))) .nil))) .nil) (.cons (.asg 4 (.lst .nil)) (.cons (.asg 7 (.k (.int 0))) (.cons (.for_ (.one 6) (.r1 (.v 3)) (.cons (.asg 8 (.lst .nil)) (.cons (.for_ (.one 9) (.r1 (.v 2)) (.cons (.asg 5 (.ife (.cmp .Eq (.v 0) (.k (.str "turns"))) (.bin .Mod (.bf .int (.cons (.bin .Add (.v 7) (.v 9)) .nil)) (.v 2)) (.v 9))) (.cons (.app 8 (.tup (.cons (.v 5) (.cons (.v 6) (.cons (.ix (.ix (.v 1) (.v 5)) (.v 6)) .nil))))) (.cons (.ite (.and (.cmp .NotEq (.v 0) (.k (.str "rounds"))) (.nt (.ix (.ix (.v 1) (.v 5)) (.v 6)))) (.cons (.asg 7 (.bin .Mod (.bf .int (.cons (.bin .Add (.v 5) (.k (.int 1))) .nil)) (.v 2))) (.cons (.brk) .nil)) .nil) .nil)))) (.cons (.asg 4 (.bin .Add (.v 4) (.v 8))) (.cons (.ite (.and (.cmp .Eq (.bf .len (.cons (.v 8) .nil)) (.v 2)) (.nt (.lc (.v 10) (.one 10) (.seq (.v 8)) (.some (.nt (.ix (.v 10) (.k (.int 2))))) [10]))) (.cons (.brk) .nil) .nil) .nil))))) (.cons (.ret (.bf .tuple (.cons (.v 4) .nil))) .nil))))))))
def d__law_said : Df := { name := "_law_said", N := N__law_said, ar := 2, fuel := 100, body := b__law_said }

def N__law_tables : List Str := ["persons_o", "many", "found", "rows", "i", "longer", "table", "row"]
def b__law_tables : ISs := (.cons (.asg 2 (.lst (.cons (.tup .nil) .nil))) (.cons (.asg 3 (.call "_law_every" (.cons (.v 1) (.cons (.tup (.cons (.k (.bool false)) (.cons (.k (.bool true)) .nil))) .nil)))) (.cons (.for_ (.one 4) (.r1 (.v 0)) (.cons (.asg 5 (.lst .nil)) (.cons (.for_ (.one 6) (.seq (.v 2)) (.cons (.asg 5 (.bin .Add (.v 5) (.lc (.bin .Add (.v 6) (.tup (.cons (.v 7) .nil))) (.one 7) (.seq (.v 3)) .none [7]))) .nil)) (.cons (.asg 2 (.v 5)) .nil)))) (.cons (.ret (.v 2)) .nil))))
def d__law_tables : Df := { name := "_law_tables", N := N__law_tables, ar := 2, fuel := 100, body := b__law_tables }

def N__law_every : List Str := ["many", "numbers", "found", "k", "longer", "row", "number"]
def b__law_every : ISs := (.cons (.asg 2 (.lst (.cons (.tup .nil) .nil))) (.cons (.for_ (.one 3) (.r1 (.v 0)) (.cons (.asg 4 (.lst .nil)) (.cons (.for_ (.one 5) (.seq (.v 2)) (.cons (.asg 4 (.bin .Add (.v 4) (.lc (.bin .Add (.v 5) (.tup (.cons (.v 6) .nil))) (.one 6) (.seq (.v 1)) .none [6]))) .nil)) (.cons (.asg 2 (.v 4)) .nil)))) (.cons (.ret (.v 2)) .nil)))
def d__law_every : Df := { name := "_law_every", N := N__law_every, ar := 2, fuel := 100, body := b__law_every }

def N__law_hearings : List Str := []
def b__law_hearings : ISs := (.cons (.ret (.tup (.cons (.k (.str "open")) (.cons (.k (.str "rounds")) (.cons (.k (.str "chain")) (.cons (.k (.str "turns")) (.cons (.k (.str "sealed")) .nil))))))) .nil)
def d__law_hearings : Df := { name := "_law_hearings", N := N__law_hearings, ar := 0, fuel := 100, body := b__law_hearings }

def N__law_parts : List Str := ["way_o", "persons_o", "many", "found", "table"]
def b__law_parts : ISs := (.cons (.asg 3 (.lst .nil)) (.cons (.for_ (.one 4) (.seq (.call "_law_tables" (.cons (.v 1) (.cons (.v 2) .nil)))) (.cons (.app 3 (.tup (.cons (.v 4) (.cons (.tup (.cons (.call "_law_said" (.cons (.v 0) (.cons (.v 4) .nil))) (.cons (.call "_law_first" (.cons (.v 4) .nil)) .nil))) .nil)))) .nil)) (.cons (.ret (.v 3)) .nil)))
def d__law_parts : Df := { name := "_law_parts", N := N__law_parts, ar := 3, fuel := 100, body := b__law_parts }

def N__law_more : List Str := ["one", "other", "persons_o", "many", "here", "there", "k", "person", "j", "same_o"]
def b__law_more : ISs := (.cons (.asg 4 (.call "_law_parts" (.cons (.v 0) (.cons (.v 2) (.cons (.v 3) .nil))))) (.cons (.asg 5 (.call "_law_parts" (.cons (.v 1) (.cons (.v 2) (.cons (.v 3) .nil))))) (.cons (.for_ (.one 6) (.r1 (.bf .len (.cons (.v 4) .nil))) (.cons (.for_ (.one 7) (.r1 (.v 2)) (.cons (.for_ (.one 8) (.r1 (.bf .len (.cons (.v 4) .nil))) (.cons (.asg 9 (.cmp .Eq (.ix (.ix (.ix (.v 4) (.v 8)) (.k (.int 0))) (.v 7)) (.ix (.ix (.ix (.v 4) (.v 6)) (.k (.int 0))) (.v 7)))) (.cons (.ite (.and (.v 9) (.and (.cmp .Eq (.ix (.ix (.v 5) (.v 8)) (.k (.int 1))) (.ix (.ix (.v 5) (.v 6)) (.k (.int 1)))) (.cmp .NotEq (.ix (.ix (.v 4) (.v 8)) (.k (.int 1))) (.ix (.ix (.v 4) (.v 6)) (.k (.int 1)))))) (.cons (.ret (.tup (.cons (.ix (.ix (.v 4) (.v 6)) (.k (.int 0))) (.cons (.v 7) .nil)))) .nil) .nil) .nil))) .nil)) .nil)) (.cons (.ret (.k .none)) .nil))))
def d__law_more : Df := { name := "_law_more", N := N__law_more, ar := 4, fuel := 100, body := b__law_more }

def N__law_run : List Str := ["numbers", "ways", "one", "other", "persons_o", "many", "due"]
def b__law_run : ISs := (.cons (.asg 1 (.call "_law_hearings" .nil)) (.cons (.asg 2 (.ix (.v 1) (.bin .Mod (.bf .int (.cons (.ix (.v 0) (.k (.int 0))) .nil)) (.k (.int 5))))) (.cons (.asg 3 (.ix (.v 1) (.bin .Mod (.bf .int (.cons (.ix (.v 0) (.k (.int 1))) .nil)) (.k (.int 5))))) (.cons (.asgT [4, 5] (.ix (.lst (.cons (.tup (.cons (.k (.int 2)) (.cons (.k (.int 1)) .nil))) (.cons (.tup (.cons (.k (.int 2)) (.cons (.k (.int 2)) .nil))) (.cons (.tup (.cons (.k (.int 2)) (.cons (.k (.int 3)) .nil))) (.cons (.tup (.cons (.k (.int 3)) (.cons (.k (.int 1)) .nil))) (.cons (.tup (.cons (.k (.int 3)) (.cons (.k (.int 2)) .nil))) .nil)))))) (.bin .Mod (.bf .int (.cons (.ix (.v 0) (.k (.int 2))) .nil)) (.k (.int 5))))) (.cons (.asg 6 (.call "_law_more" (.cons (.v 2) (.cons (.v 3) (.cons (.v 4) (.cons (.v 5) .nil)))))) (.cons (.ite (.or (.nt (.call "_law_same" (.cons (.call "more_shown" (.cons (.v 2) (.cons (.v 3) (.cons (.v 4) (.cons (.v 5) .nil))))) (.cons (.v 6) .nil)))) (.nt (.call "_law_same" (.cons (.call "less" (.cons (.v 2) (.cons (.v 3) (.cons (.v 4) (.cons (.v 5) .nil))))) (.cons (.cmp .Is (.v 6) (.k .none)) .nil))))) (.cons (.ret (.k (.bool false))) .nil) .nil) (.cons (.ite (.or (.cmp .IsNot (.call "less" (.cons (.k (.str "sealed")) (.cons (.v 3) (.cons (.v 4) (.cons (.v 5) .nil))))) (.k (.bool true))) (.cmp .IsNot (.call "less" (.cons (.v 2) (.cons (.k (.str "open")) (.cons (.v 4) (.cons (.v 5) .nil))))) (.k (.bool true)))) (.cons (.ret (.k (.bool false))) .nil) .nil) (.cons (.ret (.and (.cmp .Is (.call "less" (.cons (.v 2) (.cons (.v 2) (.cons (.v 4) (.cons (.v 5) .nil))))) (.k (.bool true))) (.cmp .Is (.call "less" (.cons (.k (.str "chain")) (.cons (.k (.str "rounds")) (.cons (.v 4) (.cons (.v 5) .nil))))) (.k (.bool true))))) .nil))))))))
def d__law_run : Df := { name := "_law_run", N := N__law_run, ar := 1, fuel := 100, body := b__law_run }

def N__law_refused : List Str := ["told_o", "at", "error"]
def b__law_refused : ISs := (.cons (.tryAt (.cons (.ex (.call "less" (.cons (.ix (.v 0) (.k (.int 0))) (.cons (.ix (.v 0) (.k (.int 1))) (.cons (.ix (.v 0) (.k (.int 2))) (.cons (.ix (.v 0) (.k (.int 3))) .nil)))))) .nil) "BadValue" 2 (.v 1)) (.cons (.ret (.k (.bool false))) .nil))
def d__law_refused : Df := { name := "_law_refused", N := N__law_refused, ar := 2, fuel := 100, body := b__law_refused }

def N_law : List Str := ["script", "run", "one"]
def b_law : ISs := (.cons (.for_ (.one 1) (.r1 (.k (.int 3))) (.cons (.ite (.nt (.call "_law_run" (.cons (.call "_law_draws" (.cons (.v 0) (.cons (.v 1) (.cons (.k (.int 3)) .nil)))) .nil))) (.cons (.ret (.k (.bool false))) .nil) .nil) .nil)) (.cons (.for_ (.one 2) (.seq (.lst (.cons (.tup (.cons (.tup (.cons (.k (.str "x")) (.cons (.k (.str "open")) (.cons (.k (.int 2)) (.cons (.k (.int 1)) .nil))))) (.cons (.k (.int 1)) .nil))) (.cons (.tup (.cons (.tup (.cons (.k (.str "open")) (.cons (.k (.int 4)) (.cons (.k (.int 2)) (.cons (.k (.int 1)) .nil))))) (.cons (.k (.int 2)) .nil))) (.cons (.tup (.cons (.tup (.cons (.k (.str "open")) (.cons (.k (.str "open")) (.cons (.k (.int 1)) (.cons (.k (.int 1)) .nil))))) (.cons (.k (.int 3)) .nil))) (.cons (.tup (.cons (.tup (.cons (.k (.str "open")) (.cons (.k (.str "open")) (.cons (.k (.int 4)) (.cons (.k (.int 1)) .nil))))) (.cons (.k (.int 3)) .nil))) (.cons (.tup (.cons (.tup (.cons (.k (.str "open")) (.cons (.k (.str "open")) (.cons (.k (.int 2)) (.cons (.k (.int 0)) .nil))))) (.cons (.k (.int 4)) .nil))) (.cons (.tup (.cons (.tup (.cons (.k (.str "open")) (.cons (.k (.str "open")) (.cons (.k (.int 2)) (.cons (.k (.int 4)) .nil))))) (.cons (.k (.int 4)) .nil))) .nil)))))))) (.cons (.ite (.nt (.call "_law_refused" (.cons (.ix (.v 2) (.k (.int 0))) (.cons (.ix (.v 2) (.k (.int 1))) .nil)))) (.cons (.ret (.k (.bool false))) .nil) .nil) .nil)) (.cons (.ret (.call "_law_same" (.cons (.call "more_shown" (.cons (.k (.str "open")) (.cons (.k (.str "sealed")) (.cons (.k (.int 2)) (.cons (.k (.int 1)) .nil))))) (.cons (.tup (.cons (.tup (.cons (.tup (.cons (.k (.bool false)) .nil)) (.cons (.tup (.cons (.k (.bool false)) .nil)) .nil))) (.cons (.k (.int 0)) .nil))) .nil)))) .nil)))
def d_law : Df := { name := "law", N := N_law, ar := 1, fuel := 100, body := b_law }

def T : List Df := [d_is_int, d_in_range, d_need, d_all_rows, d_cut_rows, d_way_form, d_said_in_turn, d_said_by, d_taken_by, d_heard, d_more_by, d_less, d_more_shown, d__law_draws, d__law_same, d__law_first, d__law_said, d__law_tables, d__law_every, d__law_hearings, d__law_parts, d__law_more, d__law_run, d__law_refused, d_law]
def con : List (Str × D) := [("FLAGS", c_FLAGS), ("WAYS", c_WAYS)]
end K14
namespace K14
open PySem PySem.Spec PyProof.Rows L2 PyE
def top (i : Nat) : Stmt := PySem.Challenge.pw_suitday_k14_ways_that_tell_less.main.body.getD i (.Pass ⟨0, 0, 0, 0⟩)
theorem chk_is_int : chkSs ⟨N_is_int, con⟩ ⟨defScope (top 4), fun _ => true⟩ b_is_int (defBody (top 4)) = true := by decide +kernel
theorem scp_is_int : FnScope N_is_int (N_is_int.take 1) (defScope (top 4)) := ⟨rfl, rfl, rfl, by decide +kernel, rfl, by decide +kernel, by decide +kernel⟩
theorem bnd_is_int : ∀ (kV doc pm : Value) (an : Option Addr) (cdv ct : Value) (us : List Value), us.length = (N_is_int.take 1).length → bindArgs (PySem.W.fnOf "is_int" "is_int" (defArgs (top 4)) (defBody (top 4)) (defScope (top 4)) .none kV doc pm an cdv ct) ⟨us, []⟩ = pure ((N_is_int.take 1).zip us) := fun _ _ _ _ _ _ us hl => match us, hl with | [_], _ => rfl
theorem chk_in_range : chkSs ⟨N_in_range, con⟩ ⟨defScope (top 5), fun _ => true⟩ b_in_range (defBody (top 5)) = true := by decide +kernel
theorem scp_in_range : FnScope N_in_range (N_in_range.take 3) (defScope (top 5)) := ⟨rfl, rfl, rfl, by decide +kernel, rfl, by decide +kernel, by decide +kernel⟩
theorem bnd_in_range : ∀ (kV doc pm : Value) (an : Option Addr) (cdv ct : Value) (us : List Value), us.length = (N_in_range.take 3).length → bindArgs (PySem.W.fnOf "in_range" "in_range" (defArgs (top 5)) (defBody (top 5)) (defScope (top 5)) .none kV doc pm an cdv ct) ⟨us, []⟩ = pure ((N_in_range.take 3).zip us) := fun _ _ _ _ _ _ us hl => match us, hl with | [_, _, _], _ => rfl
theorem chk_need : chkSs ⟨N_need, con⟩ ⟨defScope (top 6), fun _ => true⟩ b_need (defBody (top 6)) = true := by decide +kernel
theorem scp_need : FnScope N_need (N_need.take 2) (defScope (top 6)) := ⟨rfl, rfl, rfl, by decide +kernel, rfl, by decide +kernel, by decide +kernel⟩
theorem bnd_need : ∀ (kV doc pm : Value) (an : Option Addr) (cdv ct : Value) (us : List Value), us.length = (N_need.take 2).length → bindArgs (PySem.W.fnOf "need" "need" (defArgs (top 6)) (defBody (top 6)) (defScope (top 6)) .none kV doc pm an cdv ct) ⟨us, []⟩ = pure ((N_need.take 2).zip us) := fun _ _ _ _ _ _ us hl => match us, hl with | [_, _], _ => rfl
theorem chk_all_rows : chkSs ⟨N_all_rows, con⟩ ⟨defScope (top 8), fun _ => true⟩ b_all_rows (defBody (top 8)) = true := by decide +kernel
theorem scp_all_rows : FnScope N_all_rows (N_all_rows.take 2) (defScope (top 8)) := ⟨rfl, rfl, rfl, by decide +kernel, rfl, by decide +kernel, by decide +kernel⟩
theorem bnd_all_rows : ∀ (kV doc pm : Value) (an : Option Addr) (cdv ct : Value) (us : List Value), us.length = (N_all_rows.take 2).length → bindArgs (PySem.W.fnOf "all_rows" "all_rows" (defArgs (top 8)) (defBody (top 8)) (defScope (top 8)) .none kV doc pm an cdv ct) ⟨us, []⟩ = pure ((N_all_rows.take 2).zip us) := fun _ _ _ _ _ _ us hl => match us, hl with | [_, _], _ => rfl
theorem chk_cut_rows : chkSs ⟨N_cut_rows, con⟩ ⟨defScope (top 9), fun _ => true⟩ b_cut_rows (defBody (top 9)) = true := by decide +kernel
theorem scp_cut_rows : FnScope N_cut_rows (N_cut_rows.take 2) (defScope (top 9)) := ⟨rfl, rfl, rfl, by decide +kernel, rfl, by decide +kernel, by decide +kernel⟩
theorem bnd_cut_rows : ∀ (kV doc pm : Value) (an : Option Addr) (cdv ct : Value) (us : List Value), us.length = (N_cut_rows.take 2).length → bindArgs (PySem.W.fnOf "cut_rows" "cut_rows" (defArgs (top 9)) (defBody (top 9)) (defScope (top 9)) .none kV doc pm an cdv ct) ⟨us, []⟩ = pure ((N_cut_rows.take 2).zip us) := fun _ _ _ _ _ _ us hl => match us, hl with | [_, _], _ => rfl
theorem chk_way_form : chkSs ⟨N_way_form, con⟩ ⟨defScope (top 13), fun _ => true⟩ b_way_form (defBody (top 13)) = true := by decide +kernel
theorem scp_way_form : FnScope N_way_form (N_way_form.take 1) (defScope (top 13)) := ⟨rfl, rfl, rfl, by decide +kernel, rfl, by decide +kernel, by decide +kernel⟩
theorem bnd_way_form : ∀ (kV doc pm : Value) (an : Option Addr) (cdv ct : Value) (us : List Value), us.length = (N_way_form.take 1).length → bindArgs (PySem.W.fnOf "way_form" "way_form" (defArgs (top 13)) (defBody (top 13)) (defScope (top 13)) .none kV doc pm an cdv ct) ⟨us, []⟩ = pure ((N_way_form.take 1).zip us) := fun _ _ _ _ _ _ us hl => match us, hl with | [_], _ => rfl
theorem chk_said_in_turn : chkSs ⟨N_said_in_turn, con⟩ ⟨defScope (top 14), fun _ => true⟩ b_said_in_turn (defBody (top 14)) = true := by decide +kernel
theorem scp_said_in_turn : FnScope N_said_in_turn (N_said_in_turn.take 2) (defScope (top 14)) := ⟨rfl, rfl, rfl, by decide +kernel, rfl, by decide +kernel, by decide +kernel⟩
theorem bnd_said_in_turn : ∀ (kV doc pm : Value) (an : Option Addr) (cdv ct : Value) (us : List Value), us.length = (N_said_in_turn.take 2).length → bindArgs (PySem.W.fnOf "said_in_turn" "said_in_turn" (defArgs (top 14)) (defBody (top 14)) (defScope (top 14)) .none kV doc pm an cdv ct) ⟨us, []⟩ = pure ((N_said_in_turn.take 2).zip us) := fun _ _ _ _ _ _ us hl => match us, hl with | [_, _], _ => rfl
theorem chk_said_by : chkSs ⟨N_said_by, con⟩ ⟨defScope (top 15), fun _ => true⟩ b_said_by (defBody (top 15)) = true := by decide +kernel
theorem scp_said_by : FnScope N_said_by (N_said_by.take 2) (defScope (top 15)) := ⟨rfl, rfl, rfl, by decide +kernel, rfl, by decide +kernel, by decide +kernel⟩
theorem bnd_said_by : ∀ (kV doc pm : Value) (an : Option Addr) (cdv ct : Value) (us : List Value), us.length = (N_said_by.take 2).length → bindArgs (PySem.W.fnOf "said_by" "said_by" (defArgs (top 15)) (defBody (top 15)) (defScope (top 15)) .none kV doc pm an cdv ct) ⟨us, []⟩ = pure ((N_said_by.take 2).zip us) := fun _ _ _ _ _ _ us hl => match us, hl with | [_, _], _ => rfl
theorem chk_taken_by : chkSs ⟨N_taken_by, con⟩ ⟨defScope (top 16), fun _ => true⟩ b_taken_by (defBody (top 16)) = true := by decide +kernel
theorem scp_taken_by : FnScope N_taken_by (N_taken_by.take 1) (defScope (top 16)) := ⟨rfl, rfl, rfl, by decide +kernel, rfl, by decide +kernel, by decide +kernel⟩
theorem bnd_taken_by : ∀ (kV doc pm : Value) (an : Option Addr) (cdv ct : Value) (us : List Value), us.length = (N_taken_by.take 1).length → bindArgs (PySem.W.fnOf "taken_by" "taken_by" (defArgs (top 16)) (defBody (top 16)) (defScope (top 16)) .none kV doc pm an cdv ct) ⟨us, []⟩ = pure ((N_taken_by.take 1).zip us) := fun _ _ _ _ _ _ us hl => match us, hl with | [_], _ => rfl
theorem chk_heard : chkSs ⟨N_heard, con⟩ ⟨defScope (top 17), fun _ => true⟩ b_heard (defBody (top 17)) = true := by decide +kernel
theorem scp_heard : FnScope N_heard (N_heard.take 2) (defScope (top 17)) := ⟨rfl, rfl, rfl, by decide +kernel, rfl, by decide +kernel, by decide +kernel⟩
theorem bnd_heard : ∀ (kV doc pm : Value) (an : Option Addr) (cdv ct : Value) (us : List Value), us.length = (N_heard.take 2).length → bindArgs (PySem.W.fnOf "heard" "heard" (defArgs (top 17)) (defBody (top 17)) (defScope (top 17)) .none kV doc pm an cdv ct) ⟨us, []⟩ = pure ((N_heard.take 2).zip us) := fun _ _ _ _ _ _ us hl => match us, hl with | [_, _], _ => rfl
theorem chk_more_by : chkSs ⟨N_more_by, con⟩ ⟨defScope (top 18), fun _ => true⟩ b_more_by (defBody (top 18)) = true := by decide +kernel
theorem scp_more_by : FnScope N_more_by (N_more_by.take 4) (defScope (top 18)) := ⟨rfl, rfl, rfl, by decide +kernel, rfl, by decide +kernel, by decide +kernel⟩
theorem bnd_more_by : ∀ (kV doc pm : Value) (an : Option Addr) (cdv ct : Value) (us : List Value), us.length = (N_more_by.take 4).length → bindArgs (PySem.W.fnOf "more_by" "more_by" (defArgs (top 18)) (defBody (top 18)) (defScope (top 18)) .none kV doc pm an cdv ct) ⟨us, []⟩ = pure ((N_more_by.take 4).zip us) := fun _ _ _ _ _ _ us hl => match us, hl with | [_, _, _, _], _ => rfl
theorem chk_less : chkSs ⟨N_less, con⟩ ⟨defScope (top 19), fun _ => true⟩ b_less (defBody (top 19)) = true := by decide +kernel
theorem scp_less : FnScope N_less (N_less.take 4) (defScope (top 19)) := ⟨rfl, rfl, rfl, by decide +kernel, rfl, by decide +kernel, by decide +kernel⟩
theorem bnd_less : ∀ (kV doc pm : Value) (an : Option Addr) (cdv ct : Value) (us : List Value), us.length = (N_less.take 4).length → bindArgs (PySem.W.fnOf "less" "less" (defArgs (top 19)) (defBody (top 19)) (defScope (top 19)) .none kV doc pm an cdv ct) ⟨us, []⟩ = pure ((N_less.take 4).zip us) := fun _ _ _ _ _ _ us hl => match us, hl with | [_, _, _, _], _ => rfl
theorem chk_more_shown : chkSs ⟨N_more_shown, con⟩ ⟨defScope (top 20), fun _ => true⟩ b_more_shown (defBody (top 20)) = true := by decide +kernel
theorem scp_more_shown : FnScope N_more_shown (N_more_shown.take 4) (defScope (top 20)) := ⟨rfl, rfl, rfl, by decide +kernel, rfl, by decide +kernel, by decide +kernel⟩
theorem bnd_more_shown : ∀ (kV doc pm : Value) (an : Option Addr) (cdv ct : Value) (us : List Value), us.length = (N_more_shown.take 4).length → bindArgs (PySem.W.fnOf "more_shown" "more_shown" (defArgs (top 20)) (defBody (top 20)) (defScope (top 20)) .none kV doc pm an cdv ct) ⟨us, []⟩ = pure ((N_more_shown.take 4).zip us) := fun _ _ _ _ _ _ us hl => match us, hl with | [_, _, _, _], _ => rfl
theorem chk__law_draws : chkSs ⟨N__law_draws, con⟩ ⟨defScope (top 22), fun _ => true⟩ b__law_draws (defBody (top 22)) = true := by decide +kernel
theorem scp__law_draws : FnScope N__law_draws (N__law_draws.take 3) (defScope (top 22)) := ⟨rfl, rfl, rfl, by decide +kernel, rfl, by decide +kernel, by decide +kernel⟩
theorem bnd__law_draws : ∀ (kV doc pm : Value) (an : Option Addr) (cdv ct : Value) (us : List Value), us.length = (N__law_draws.take 3).length → bindArgs (PySem.W.fnOf "_law_draws" "_law_draws" (defArgs (top 22)) (defBody (top 22)) (defScope (top 22)) .none kV doc pm an cdv ct) ⟨us, []⟩ = pure ((N__law_draws.take 3).zip us) := fun _ _ _ _ _ _ us hl => match us, hl with | [_, _, _], _ => rfl
theorem chk__law_same : chkSs ⟨N__law_same, con⟩ ⟨defScope (top 23), fun _ => true⟩ b__law_same (defBody (top 23)) = true := by decide +kernel
theorem scp__law_same : FnScope N__law_same (N__law_same.take 2) (defScope (top 23)) := ⟨rfl, rfl, rfl, by decide +kernel, rfl, by decide +kernel, by decide +kernel⟩
theorem bnd__law_same : ∀ (kV doc pm : Value) (an : Option Addr) (cdv ct : Value) (us : List Value), us.length = (N__law_same.take 2).length → bindArgs (PySem.W.fnOf "_law_same" "_law_same" (defArgs (top 23)) (defBody (top 23)) (defScope (top 23)) .none kV doc pm an cdv ct) ⟨us, []⟩ = pure ((N__law_same.take 2).zip us) := fun _ _ _ _ _ _ us hl => match us, hl with | [_, _], _ => rfl
theorem chk__law_first : chkSs ⟨N__law_first, con⟩ ⟨defScope (top 24), fun _ => true⟩ b__law_first (defBody (top 24)) = true := by decide +kernel
theorem scp__law_first : FnScope N__law_first (N__law_first.take 1) (defScope (top 24)) := ⟨rfl, rfl, rfl, by decide +kernel, rfl, by decide +kernel, by decide +kernel⟩
theorem bnd__law_first : ∀ (kV doc pm : Value) (an : Option Addr) (cdv ct : Value) (us : List Value), us.length = (N__law_first.take 1).length → bindArgs (PySem.W.fnOf "_law_first" "_law_first" (defArgs (top 24)) (defBody (top 24)) (defScope (top 24)) .none kV doc pm an cdv ct) ⟨us, []⟩ = pure ((N__law_first.take 1).zip us) := fun _ _ _ _ _ _ us hl => match us, hl with | [_], _ => rfl
theorem chk__law_said : chkSs ⟨N__law_said, con⟩ ⟨defScope (top 25), fun _ => true⟩ b__law_said (defBody (top 25)) = true := by decide +kernel
theorem scp__law_said : FnScope N__law_said (N__law_said.take 2) (defScope (top 25)) := ⟨rfl, rfl, rfl, by decide +kernel, rfl, by decide +kernel, by decide +kernel⟩
theorem bnd__law_said : ∀ (kV doc pm : Value) (an : Option Addr) (cdv ct : Value) (us : List Value), us.length = (N__law_said.take 2).length → bindArgs (PySem.W.fnOf "_law_said" "_law_said" (defArgs (top 25)) (defBody (top 25)) (defScope (top 25)) .none kV doc pm an cdv ct) ⟨us, []⟩ = pure ((N__law_said.take 2).zip us) := fun _ _ _ _ _ _ us hl => match us, hl with | [_, _], _ => rfl
theorem chk__law_tables : chkSs ⟨N__law_tables, con⟩ ⟨defScope (top 26), fun _ => true⟩ b__law_tables (defBody (top 26)) = true := by decide +kernel
theorem scp__law_tables : FnScope N__law_tables (N__law_tables.take 2) (defScope (top 26)) := ⟨rfl, rfl, rfl, by decide +kernel, rfl, by decide +kernel, by decide +kernel⟩
theorem bnd__law_tables : ∀ (kV doc pm : Value) (an : Option Addr) (cdv ct : Value) (us : List Value), us.length = (N__law_tables.take 2).length → bindArgs (PySem.W.fnOf "_law_tables" "_law_tables" (defArgs (top 26)) (defBody (top 26)) (defScope (top 26)) .none kV doc pm an cdv ct) ⟨us, []⟩ = pure ((N__law_tables.take 2).zip us) := fun _ _ _ _ _ _ us hl => match us, hl with | [_, _], _ => rfl
theorem chk__law_every : chkSs ⟨N__law_every, con⟩ ⟨defScope (top 27), fun _ => true⟩ b__law_every (defBody (top 27)) = true := by decide +kernel
theorem scp__law_every : FnScope N__law_every (N__law_every.take 2) (defScope (top 27)) := ⟨rfl, rfl, rfl, by decide +kernel, rfl, by decide +kernel, by decide +kernel⟩
theorem bnd__law_every : ∀ (kV doc pm : Value) (an : Option Addr) (cdv ct : Value) (us : List Value), us.length = (N__law_every.take 2).length → bindArgs (PySem.W.fnOf "_law_every" "_law_every" (defArgs (top 27)) (defBody (top 27)) (defScope (top 27)) .none kV doc pm an cdv ct) ⟨us, []⟩ = pure ((N__law_every.take 2).zip us) := fun _ _ _ _ _ _ us hl => match us, hl with | [_, _], _ => rfl
theorem chk__law_hearings : chkSs ⟨N__law_hearings, con⟩ ⟨defScope (top 28), fun _ => true⟩ b__law_hearings (defBody (top 28)) = true := by decide +kernel
theorem scp__law_hearings : FnScope N__law_hearings (N__law_hearings.take 0) (defScope (top 28)) := ⟨rfl, rfl, rfl, by decide +kernel, rfl, by decide +kernel, by decide +kernel⟩
theorem bnd__law_hearings : ∀ (kV doc pm : Value) (an : Option Addr) (cdv ct : Value) (us : List Value), us.length = (N__law_hearings.take 0).length → bindArgs (PySem.W.fnOf "_law_hearings" "_law_hearings" (defArgs (top 28)) (defBody (top 28)) (defScope (top 28)) .none kV doc pm an cdv ct) ⟨us, []⟩ = pure ((N__law_hearings.take 0).zip us) := fun _ _ _ _ _ _ us hl => match us, hl with | [], _ => rfl
theorem chk__law_parts : chkSs ⟨N__law_parts, con⟩ ⟨defScope (top 29), fun _ => true⟩ b__law_parts (defBody (top 29)) = true := by decide +kernel
theorem scp__law_parts : FnScope N__law_parts (N__law_parts.take 3) (defScope (top 29)) := ⟨rfl, rfl, rfl, by decide +kernel, rfl, by decide +kernel, by decide +kernel⟩
theorem bnd__law_parts : ∀ (kV doc pm : Value) (an : Option Addr) (cdv ct : Value) (us : List Value), us.length = (N__law_parts.take 3).length → bindArgs (PySem.W.fnOf "_law_parts" "_law_parts" (defArgs (top 29)) (defBody (top 29)) (defScope (top 29)) .none kV doc pm an cdv ct) ⟨us, []⟩ = pure ((N__law_parts.take 3).zip us) := fun _ _ _ _ _ _ us hl => match us, hl with | [_, _, _], _ => rfl
theorem chk__law_more : chkSs ⟨N__law_more, con⟩ ⟨defScope (top 30), fun _ => true⟩ b__law_more (defBody (top 30)) = true := by decide +kernel
theorem scp__law_more : FnScope N__law_more (N__law_more.take 4) (defScope (top 30)) := ⟨rfl, rfl, rfl, by decide +kernel, rfl, by decide +kernel, by decide +kernel⟩
theorem bnd__law_more : ∀ (kV doc pm : Value) (an : Option Addr) (cdv ct : Value) (us : List Value), us.length = (N__law_more.take 4).length → bindArgs (PySem.W.fnOf "_law_more" "_law_more" (defArgs (top 30)) (defBody (top 30)) (defScope (top 30)) .none kV doc pm an cdv ct) ⟨us, []⟩ = pure ((N__law_more.take 4).zip us) := fun _ _ _ _ _ _ us hl => match us, hl with | [_, _, _, _], _ => rfl
theorem chk__law_run : chkSs ⟨N__law_run, con⟩ ⟨defScope (top 31), fun _ => true⟩ b__law_run (defBody (top 31)) = true := by decide +kernel
theorem scp__law_run : FnScope N__law_run (N__law_run.take 1) (defScope (top 31)) := ⟨rfl, rfl, rfl, by decide +kernel, rfl, by decide +kernel, by decide +kernel⟩
theorem bnd__law_run : ∀ (kV doc pm : Value) (an : Option Addr) (cdv ct : Value) (us : List Value), us.length = (N__law_run.take 1).length → bindArgs (PySem.W.fnOf "_law_run" "_law_run" (defArgs (top 31)) (defBody (top 31)) (defScope (top 31)) .none kV doc pm an cdv ct) ⟨us, []⟩ = pure ((N__law_run.take 1).zip us) := fun _ _ _ _ _ _ us hl => match us, hl with | [_], _ => rfl
theorem chk__law_refused : chkSs ⟨N__law_refused, con⟩ ⟨defScope (top 32), fun _ => true⟩ b__law_refused (defBody (top 32)) = true := by decide +kernel
theorem scp__law_refused : FnScope N__law_refused (N__law_refused.take 2) (defScope (top 32)) := ⟨rfl, rfl, rfl, by decide +kernel, rfl, by decide +kernel, by decide +kernel⟩
theorem bnd__law_refused : ∀ (kV doc pm : Value) (an : Option Addr) (cdv ct : Value) (us : List Value), us.length = (N__law_refused.take 2).length → bindArgs (PySem.W.fnOf "_law_refused" "_law_refused" (defArgs (top 32)) (defBody (top 32)) (defScope (top 32)) .none kV doc pm an cdv ct) ⟨us, []⟩ = pure ((N__law_refused.take 2).zip us) := fun _ _ _ _ _ _ us hl => match us, hl with | [_, _], _ => rfl
theorem chk_law : chkSs ⟨N_law, con⟩ ⟨defScope (top 33), fun _ => true⟩ b_law (defBody (top 33)) = true := by decide +kernel
theorem scp_law : FnScope N_law (N_law.take 1) (defScope (top 33)) := ⟨rfl, rfl, rfl, by decide +kernel, rfl, by decide +kernel, by decide +kernel⟩
theorem bnd_law : ∀ (kV doc pm : Value) (an : Option Addr) (cdv ct : Value) (us : List Value), us.length = (N_law.take 1).length → bindArgs (PySem.W.fnOf "law" "law" (defArgs (top 33)) (defBody (top 33)) (defScope (top 33)) .none kV doc pm an cdv ct) ⟨us, []⟩ = pure ((N_law.take 1).zip us) := fun _ _ _ _ _ _ us hl => match us, hl with | [_], _ => rfl
end K14

set_option Elab.async false
set_option maxRecDepth 100000
set_option maxHeartbeats 0
namespace K14
open PySem PyE L2
local macro_rules | `(tactic| walk_at "ev") => `(tactic| simp [evSs, evS, evE, evEs, evO, evC, evI, evT, putW, putS, putT, putN, keepF, keepN, binD, cmpD, truD, truR, look, looks, bfD, ixD, slD, Rs.toF, Rs.bind, FR.bind, Rs.opt, szOk, isMine, appK, setK, rOk, rgD, forL, powOk, divOk, log9, mulOk, smallI, List.range, List.range.loop, frR, isTy, callK, *])
/-! ### the mirror -/
def ents (rounds : Bool) (ans : Nat → Bool) : List Nat → List (Nat × Bool) × Option Nat
  | [] => ([], none)
  | i :: r => if ans i then ((i, true) :: (ents rounds ans r).1, (ents rounds ans r).2)
    else if rounds then ((i, false) :: (ents rounds ans r).1, some (((ents rounds ans r).2).getD i)) else ([(i, false)], some i)
def goM (rounds turns : Bool) (p : Nat) (ans : Nat → Nat → Bool) : List Nat → Nat → List (Nat × Nat × Bool)
  | [], _ => []
  | k :: ks, b =>
    let e := ents rounds (fun i => ans i k) ((List.range p).map fun j => (b + j) % p)
    e.1.map (fun x => (x.1, k, x.2)) ++ (match e.2 with
      | none => []
      | some r => goM rounds turns p ans ks (if turns then (r + 1) % p else b))
/-- 0 open 1 rounds 2 chain 3 turns 4 sealed -/
def saidM (w p c : Nat) (ans : Nat → Nat → Bool) : List (Nat × Nat × Bool) :=
  if w = 4 then [] else if w = 0 then (List.range p).flatMap fun i => (List.range c).map fun k => (i, k, ans i k)
  else goM (w == 1) (w == 3) p ans (List.range c) 0
def takenM (p c : Nat) (ans : Nat → Nat → Bool) : D := match (List.range c).find? fun k => (List.range p).all fun i => ans i k with
  | some k => .int k
  | none => .none
def heardM (w p c : Nat) (ans : Nat → Nat → Bool) : D := .tuple [.tuple ((saidM w p c ans).map fun x => .tuple [.int x.1, .int x.2.1, .bool x.2.2]), takenM p c ans]
/-- the table whose cells are the figures of n -/
def ansN (p c n : Nat) (i k : Nat) : Bool := Nat.testBit n (p * c - 1 - (i * c + k))
def tabD (p c n : Nat) : D := .tuple ((List.range p).map fun i => .tuple ((List.range c).map fun k => .bool (ansN p c n i k)))
def tabs (p c : Nat) : List D := (List.range (2 ^ (p * c))).map (tabD p c)
def wy : Nat → D
  | 0 => .str "open" | 1 => .str "rounds" | 2 => .str "chain" | 3 => .str "turns" | _ => .str "sealed"
def sameR : FRes → D → Bool
  | .ret d [], e => sameD d e
  | _, _ => false
end K14

set_option Elab.async false
set_option maxRecDepth 100000
set_option maxHeartbeats 0
namespace K14
open PySem PyE L2
local macro_rules | `(tactic| walk_at "ev") => `(tactic| simp [evSs, evS, evE, evEs, evO, evC, evI, evT, putW, putS, putT, putN, keepF, keepN, binD, cmpD, truD, truR, look, looks, bfD, ixD, slD, Rs.toF, Rs.bind, FR.bind, Rs.opt, szOk, isMine, appK, setK, rgD, forL, powOk, divOk, log9, mulOk, smallI, frR, isTy, callK, lcStep, wipeE, *])
section
variable {Φ : Fns} {n p : Nat} {h1 h2 td : Nat → D} {rw : Nat → Nat → D}
def hit2 (h1 h2 : Nat → D) (k j : Nat) : Bool := PyData.eqv (h2 j) (h2 k) && !PyData.eqv (h1 j) (h1 k)
def hit (h1 h2 : Nat → D) (rw : Nat → Nat → D) (k i j : Nat) : Bool := hit2 h1 h2 k j && PyData.eqv (rw j i) (rw k i)
/-- what both find: the first table, the first person -/
def resM (n p : Nat) (h1 h2 : Nat → D) (rw : Nat → Nat → D) : Option (Nat × Nat) := (List.range n).findSome? fun k => (List.range p).findSome? fun i => if (List.range n).any (hit h1 h2 rw k i) then some (k, i) else none
def lcMore : IE := (.lc (.v 11) (.one 11) (.r1 (.bf .len (.cons (.v 4) .nil))) (.some (.and (.cmp .Eq (.ix (.v 8) (.v 11)) (.ix (.v 8) (.v 9))) (.cmp .NotEq (.ix (.v 6) (.v 11)) (.ix (.v 6) (.v 9))))) [11])
def gM (h1 h2 : Nat → D) (k : Nat) : D → List D
  | .int j => if hit2 h1 h2 k j.toNat = true then [.int j] else []
  | _ => []
theorem gM_len (h1 h2 : Nat → D) (k : Nat) : ∀ xs : List D, (xs.flatMap (gM h1 h2 k)).length ≤ xs.length
  | [] => Nat.le_refl _
  | x :: xs => by
    rw [List.flatMap_cons, List.length_append, List.length_cons]
    have ih := gM_len h1 h2 k xs
    have : (gM h1 h2 k x).length ≤ 1 := by
      cases x <;> first | exact Nat.zero_le _ | skip
      rename_i i
      show (if hit2 h1 h2 k i.toNat = true then [PyData.int i] else []).length ≤ 1
      cases hit2 h1 h2 k i.toNat
      · exact Nat.zero_le _
      · exact Nat.le_refl _
    omega
theorem gM_rg (h1 h2 : Nat → D) (k n : Nat) : (rgD 0 n).flatMap (gM h1 h2 k) = ((List.range n).filter (hit2 h1 h2 k)).map fun j => .int (j : Nat) := by
  unfold rgD
  rw [List.flatMap_map]
  have : (fun a : Nat => gM h1 h2 k (PyData.int (0 + (a : Int)))) = fun a : Nat => if hit2 h1 h2 k a = true then [PyData.int (a : Int)] else [] := by
    funext a
    simp [gM]
  exact (congrArg (fun f => List.flatMap f (List.range n)) this).trans (flat_if _ _ _)
theorem me1 {a0 a1 a3 x7 x9 x10 x12 : Sl} {o1 o2 tb : List D} (hl : tb.length = n) (hn : n ≤ 1000) : 
    evI Φ (.r1 (.bf .len (.cons (.v 4) .nil))) [a0, a1, .sh (.int p), a3, .sh (.list tb), .no, .own o1, x7, .own o2, x9, x10, .no, x12] = .ok (rgD 0 n) [a0, a1, .sh (.int p), a3, .sh (.list tb), .no, .own o1, x7, .own o2, x9, x10, .no, x12] := by
  have r := rOk_nat (n := n) (by omega)
  walk_at "ev"
theorem me2 {a0 a1 a3 x7 x10 x12 : Sl} {j k : Nat} {o1 o2 tb : List D} (q1 : atI o1 (j : Int) = some (h1 j)) (q2 : atI o2 (j : Int) = some (h2 j)) (q3 : atI o1 (k : Int) = some (h1 k)) (q4 : atI o2 (k : Int) = some (h2 k))
  (w1 : SeqAt.shaped (h1 j) = true) (w2 : SeqAt.shaped (h2 j) = true) (w3 : SeqAt.shaped (h1 k) = true) (w4 : SeqAt.shaped (h2 k) = true) :
  lcStep (evC Φ (.some (.and (.cmp .Eq (.ix (.v 8) (.v 11)) (.ix (.v 8) (.v 9))) (.cmp .NotEq (.ix (.v 6) (.v 11)) (.ix (.v 6) (.v 9)))))) (evE Φ (.v 11)) (.one 11) [11] (.int (j : Nat)) [a0, a1, .sh (.int p), a3, .sh (.list tb), .no, .own o1, x7, .own o2, .sh (.int k), x10, .no, x12] =
    .ok (gM h1 h2 k (.int (j : Nat))) [a0, a1, .sh (.int p), a3, .sh (.list tb), .no, .own o1, x7, .own o2, .sh (.int k), x10, .no, x12] := by
  have c3 : gM h1 h2 k (.int (j : Nat)) = if (PyData.eqv (h2 j) (h2 k) && !PyData.eqv (h1 j) (h1 k)) = true then [.int (j : Nat)] else [] := rfl
  cases c1 : PyData.eqv (h2 j) (h2 k)
  · walk_at "ev"
  · cases c2 : PyData.eqv (h1 j) (h1 k)
    · walk_at "ev"
    · walk_at "ev"
theorem more_eq {a0 a1 a3 x7 x10 x12 : Sl} {k : Nat} (hk : k < n) (hn : n ≤ 1000) (s1 : ∀ t < n, SeqAt.shaped (h1 t) = true) (s2 : ∀ t < n, SeqAt.shaped (h2 t) = true) :
    evE Φ lcMore [a0, a1, .sh (.int p), a3, .sh (.list ((List.range n).map td)), .no, .own ((List.range n).map h1), x7, .own ((List.range n).map h2), .sh (.int k), x10, .no, x12] =
      .ok (.tmp (((List.range n).filter (hit2 h1 h2 k)).map fun j => .int (j : Nat))) [a0, a1, .sh (.int p), a3, .sh (.list ((List.range n).map td)), .no, .own ((List.range n).map h1), x7, .own ((List.range n).map h2), .sh (.int k), x10, .no, x12] := by
  rw [← gM_rg]
  refine lc_eq (me1 (by simp) hn) rfl rfl ?_ (szOk_k (Nat.le_trans (gM_len _ _ _ _) (by simpa [rgD] using hn)))
  intro x hx
  obtain ⟨j, hj, rfl⟩ := rgD_mem hx
  exact me2 (at_map h1 hj) (at_map h2 hj) (at_map h1 hk) (at_map h2 hk) (s1 j hj) (s2 j hj) (s1 k hk) (s2 k hk)
/-! ### the persons' turns -/
variable {a0 a1 a3 : Sl} {tb o1 o2 : List D}
def gA (rw : Nat → Nat → D) (k i : Nat) : D → List D
  | .int j => [.bool (PyData.eqv (rw j.toNat i) (rw k i))]
  | _ => []
theorem gA_js (rw : Nat → Nat → D) (k i : Nat) : ∀ ks : List Nat, (ks.map fun j => PyData.int (j : Nat)).flatMap (gA rw k i) = ks.map fun j => .bool (PyData.eqv (rw j i) (rw k i))
  | [] => rfl
  | j :: ks => by
    rw [List.map_cons, List.flatMap_cons, gA_js rw k i ks]
    rfl
def tAny : IE := (.bf .any (.cons (.lc (.cmp .Eq (.ix (.ix (.v 4) (.v 11)) (.v 12)) (.ix (.v 7) (.v 12))) (.one 11) (.seq (.v 10)) .none [11]) .nil))
theorem any_step {k i j : Nat} (q1 : atI tb (j : Int) = some (td j)) (q2 : ixD (td j) (.int (i : Nat)) = some (rw j i)) (q3 : ixD (td k) (.int (i : Nat)) = some (rw k i)) (w1 : SeqAt.shaped (rw j i) = true) (w2 : SeqAt.shaped (rw k i) = true) {x10 : Sl} :
    lcStep (evC Φ .none) (evE Φ (.cmp .Eq (.ix (.ix (.v 4) (.v 11)) (.v 12)) (.ix (.v 7) (.v 12)))) (.one 11) [11] (.int (j : Nat)) [a0, a1, .sh (.int p), a3, .sh (.list tb), .no, .own o1, .sh (td k), .own o2, .sh (.int k), x10, .no, .sh (.int (i : Nat))] =
      .ok (gA rw k i (.int (j : Nat))) [a0, a1, .sh (.int p), a3, .sh (.list tb), .no, .own o1, .sh (td k), .own o2, .sh (.int k), x10, .no, .sh (.int (i : Nat))] := by
  have c3 : gA rw k i (.int (j : Nat)) = [.bool (PyData.eqv (rw j i) (rw k i))] := rfl
  rw [c3]
  show (evE Φ (.cmp .Eq (.ix (.ix (.v 4) (.v 11)) (.v 12)) (.ix (.v 7) (.v 12))) [a0, a1, .sh (.int p), a3, .sh (.list tb), .no, .own o1, .sh (td k), .own o2, .sh (.int k), x10, .sh (.int (j : Nat)), .sh (.int (i : Nat))]).bind _ = _
  have e : evE Φ (.cmp .Eq (.ix (.ix (.v 4) (.v 11)) (.v 12)) (.ix (.v 7) (.v 12))) [a0, a1, .sh (.int p), a3, .sh (.list tb), .no, .own o1, .sh (td k), .own o2, .sh (.int k), x10, .sh (.int (j : Nat)), .sh (.int (i : Nat))] =
      .ok (.now (.bool (PyData.eqv (rw j i) (rw k i)))) [a0, a1, .sh (.int p), a3, .sh (.list tb), .no, .own o1, .sh (td k), .own o2, .sh (.int k), x10, .sh (.int (j : Nat)), .sh (.int (i : Nat))] := by
    have d1 : ixD (.list tb) (.int (j : Nat)) = some (td j) := q1
    simp [evE, Rs.bind, look, Rs.opt, d1, q2, q3, cmpD, w1, w2]
  rw [e]
  rfl
theorem any_eq {ks : List Nat} {k i : Nat} {x10 : Sl} (hx : x10 = .own (ks.map fun j => .int (j : Nat)) ∨ x10 = .sh (.list (ks.map fun j => .int (j : Nat)))) (hl : ks.length ≤ 1000)
    (h : ∀ j ∈ ks, atI tb (j : Int) = some (td j) ∧ ixD (td j) (.int (i : Nat)) = some (rw j i) ∧ SeqAt.shaped (rw j i) = true) (q3 : ixD (td k) (.int (i : Nat)) = some (rw k i)) (w2 : SeqAt.shaped (rw k i) = true) :
    evT Φ tAny [a0, a1, .sh (.int p), a3, .sh (.list tb), .no, .own o1, .sh (td k), .own o2, .sh (.int k), x10, .no, .sh (.int (i : Nat))] =
      .ok (ks.any fun j => PyData.eqv (rw j i) (rw k i)) [a0, a1, .sh (.int p), a3, .sh (.list tb), .no, .own o1, .sh (td k), .own o2, .sh (.int k), .sh (.list (ks.map fun j => .int (j : Nat))), .no, .sh (.int (i : Nat))] := by
  refine bfT (ds := (ks.map fun j => PyData.int (j : Nat)).flatMap (gA rw k i)) (lc_eqF (ds := ks.map fun j => .int (j : Nat)) ?_ rfl rfl ?_ ?_) ?_
  · rcases hx with rfl | rfl <;> rfl
  · intro x hx
    obtain ⟨j, hj, rfl⟩ := List.mem_map.mp hx
    obtain ⟨q1, q2, w1⟩ := h j hj
    exact any_step q1 q2 q3 w1 w2
  · rw [gA_js, List.length_map]
    exact szOk_k hl
  · rw [gA_js]
    exact any_bools _ _
def bPer : ISs := (.cons (.ite tAny (.cons (.ret (.tup (.cons (.v 7) (.cons (.v 12) .nil)))) .nil) .nil) .nil)
/-- what one table's turn finds -/
def gP (n : Nat) (h1 h2 : Nat → D) (rw : Nat → Nat → D) (td : Nat → D) (k : Nat) : D → Option D
  | .int i => if (List.range n).any (hit h1 h2 rw k i.toNat) then some (.tuple [td k, .int i]) else none
  | _ => none
def PP (a0 a1 a3 : Sl) (p k : Nat) (tb o1 o2 : List D) (td : Nat → D) (ks : List Nat) (env : SEnv) : Prop := ∃ x10 x12, (x10 = .own (ks.map fun j => .int (j : Nat)) ∨ x10 = .sh (.list (ks.map fun j => .int (j : Nat)))) ∧ nb x12 = true ∧
  env = [a0, a1, .sh (.int p), a3, .sh (.list tb), .no, .own o1, .sh (td k), .own o2, .sh (.int k), x10, .no, x12]
theorem per_loop {k : Nat} (hk : k < n) (hn : n ≤ 1000) (hp : p ≤ 1000) (htb : tb = (List.range n).map td) (hr : ∀ j < n, ∀ i < p, ixD (td j) (.int (i : Nat)) = some (rw j i) ∧ SeqAt.shaped (rw j i) = true) {env : SEnv} (he : PP a0 a1 a3 p k tb o1 o2 td ((List.range n).filter (hit2 h1 h2 k)) env) :
    (∃ d, (rgD 0 p).findSome? (gP n h1 h2 rw td k) = some d ∧ ∃ e, evS Φ 100 (.for_ (.one 12) (.r1 (.v 2)) bPer) env = .ret d e) ∨
    ((rgD 0 p).findSome? (gP n h1 h2 rw td k) = none ∧ ∃ e, evS Φ 100 (.for_ (.one 12) (.r1 (.v 2)) bPer) env = .nxt e ∧ PP a0 a1 a3 p k tb o1 o2 td ((List.range n).filter (hit2 h1 h2 k)) e) := by
  have hI : evI Φ (.r1 (.v 2)) env = .ok (rgD 0 p) env := by
    obtain ⟨x10, x12, _, _, rfl⟩ := he
    show (if rOk (p : Int) = true then _ else _) = _
    rw [if_pos (rOk_nat (by omega))]
    rfl
  rw [for_eq hI]
  refine forL_find he fun x hx env he => ?_
  obtain ⟨i, hi, rfl⟩ := rgD_mem hx
  obtain ⟨x10, x12, hx10, hx12, rfl⟩ := he
  have ep : putT [a0, a1, .sh (.int p), a3, .sh (.list tb), .no, .own o1, .sh (td k), .own o2, .sh (.int k), x10, .no, x12] (.one 12) (.int (i : Nat)) = some [a0, a1, .sh (.int p), a3, .sh (.list tb), .no, .own o1, .sh (td k), .own o2, .sh (.int k), x10, .no, .sh (.int (i : Nat))] :=
    putS_nb (x := x12) rfl hx12
  have ha := any_eq (Φ := Φ) (a0 := a0) (a1 := a1) (a3 := a3) (p := p) (tb := tb) (o1 := o1) (o2 := o2) (td := td) (rw := rw) (ks := (List.range n).filter (hit2 h1 h2 k)) (k := k) (i := i) hx10
    (Nat.le_trans (List.length_filter_le _ _) (by simpa using hn)) (fun j hj => ?_) (hr k hk i hi).1 (hr k hk i hi).2
  · have hany : ((List.range n).filter (hit2 h1 h2 k)).any (fun j => PyData.eqv (rw j i) (rw k i)) = (List.range n).any (hit h1 h2 rw k i) := by
      rw [List.any_filter]
      rfl
    rw [hany] at ha
    have hg : gP n h1 h2 rw td k (.int (i : Nat)) = if (List.range n).any (hit h1 h2 rw k i) then some (.tuple [td k, .int (i : Nat)]) else none := rfl
    rw [hg]
    simp only [ep]
    cases hc : (List.range n).any (hit h1 h2 rw k i) with
    | true =>
      rw [hc] at ha
      have hret : evS Φ 100 (.ite tAny (.cons (.ret (.tup (.cons (.v 7) (.cons (.v 12) .nil)))) .nil) .nil) [a0, a1, .sh (.int p), a3, .sh (.list tb), .no, .own o1, .sh (td k), .own o2, .sh (.int k), x10, .no, .sh (.int (i : Nat))] =
          .ret (.tuple [td k, .int (i : Nat)]) [a0, a1, .sh (.int p), a3, .sh (.list tb), .no, .own o1, .sh (td k), .own o2, .sh (.int k), .sh (.list (((List.range n).filter (hit2 h1 h2 k)).map fun j => .int (j : Nat))), .no, .sh (.int (i : Nat))] := by
        rw [ite_nxt ha, if_pos rfl]
        rfl
      exact .inl ⟨_, rfl, _, seq_ret hret⟩
    | false =>
      rw [hc] at ha
      have hnx : evS Φ 100 (.ite tAny (.cons (.ret (.tup (.cons (.v 7) (.cons (.v 12) .nil)))) .nil) .nil) [a0, a1, .sh (.int p), a3, .sh (.list tb), .no, .own o1, .sh (td k), .own o2, .sh (.int k), x10, .no, .sh (.int (i : Nat))] =
          .nxt [a0, a1, .sh (.int p), a3, .sh (.list tb), .no, .own o1, .sh (td k), .own o2, .sh (.int k), .sh (.list (((List.range n).filter (hit2 h1 h2 k)).map fun j => .int (j : Nat))), .no, .sh (.int (i : Nat))] := by
        rw [ite_nxt ha, if_neg Bool.false_ne_true]
        rfl
      exact .inr ⟨rfl, _, seq_nxt hnx, _, _, .inr rfl, rfl, rfl⟩
  · have hj' : j < n := List.mem_range.mp (List.mem_filter.mp hj).1
    exact ⟨by rw [htb]; exact at_map td hj', (hr j hj' i hi).1, (hr j hj' i hi).2⟩
/-! ### the tables' turns -/
def bOut : ISs := (.cons (.asg 10 lcMore) (.cons (.for_ (.one 12) (.r1 (.v 2)) bPer) .nil))
def QQ (a0 a1 a3 : Sl) (p : Nat) (tb o1 o2 : List D) (env : SEnv) : Prop := ∃ x7 x9 x10 x12, nb x7 = true ∧ nb x9 = true ∧ nb x10 = true ∧ nb x12 = true ∧
  env = [a0, a1, .sh (.int p), a3, .sh (.list tb), .no, .own o1, x7, .own o2, x9, x10, .no, x12]
theorem enum_map (td : Nat → D) : ∀ (xs : List Nat) (m : Nat), (∀ i (h : i < xs.length), xs[i] = m + i) → enumD m (xs.map td) = xs.map fun k => .tuple [.int (k : Nat), td k]
  | [], _, _ => rfl
  | x :: xs, m, h => by
    have h0 : x = m := h 0 (Nat.zero_lt_succ _)
    subst h0
    rw [List.map_cons, List.map_cons, enumD, enum_map td xs (x + 1) fun i hi => by
      have := h (i + 1) (Nat.succ_lt_succ hi)
      rw [List.getElem_cons_succ] at this
      omega]
def gO (n p : Nat) (h1 h2 : Nat → D) (rw : Nat → Nat → D) (td : Nat → D) : D → Option D
  | .tuple [.int k, _] => (rgD 0 p).findSome? (gP n h1 h2 rw td k.toNat)
  | _ => none
theorem out_loop (hn : n ≤ 1000) (hp : p ≤ 1000) (htb : tb = (List.range n).map td) (ho1 : o1 = (List.range n).map h1) (ho2 : o2 = (List.range n).map h2) (s1 : ∀ t < n, SeqAt.shaped (h1 t) = true) (s2 : ∀ t < n, SeqAt.shaped (h2 t) = true)
    (hr : ∀ j < n, ∀ i < p, ixD (td j) (.int (i : Nat)) = some (rw j i) ∧ SeqAt.shaped (rw j i) = true) {env : SEnv} (he : QQ a0 a1 a3 p tb o1 o2 env) :
    (∃ d, ((List.range n).map fun k => PyData.tuple [.int (k : Nat), td k]).findSome? (gO n p h1 h2 rw td) = some d ∧ ∃ e, evS Φ 100 (.for_ (.many [9, 7]) (.enum (.v 4)) bOut) env = .ret d e) ∨
    (((List.range n).map fun k => PyData.tuple [.int (k : Nat), td k]).findSome? (gO n p h1 h2 rw td) = none ∧ ∃ e, evS Φ 100 (.for_ (.many [9, 7]) (.enum (.v 4)) bOut) env = .nxt e ∧ QQ a0 a1 a3 p tb o1 o2 e) := by
  have hE : enumD 0 tb = (List.range n).map fun k => PyData.tuple [.int (k : Nat), td k] := by
    rw [htb]
    exact enum_map td _ 0 fun i hi => by simp
  have hI : evI Φ (.enum (.v 4)) env = .ok ((List.range n).map fun k => PyData.tuple [.int (k : Nat), td k]) env := by
    obtain ⟨x7, x9, x10, x12, _, _, _, _, rfl⟩ := he
    rw [← hE]
    rfl
  rw [for_eq hI]
  refine forL_find he fun x hx env he => ?_
  obtain ⟨k, hk, rfl⟩ := List.mem_map.mp hx
  have hk : k < n := List.mem_range.mp hk
  obtain ⟨x7, x9, x10, x12, b7, b9, b10, b12, rfl⟩ := he
  have ep : putT [a0, a1, .sh (.int p), a3, .sh (.list tb), .no, .own o1, x7, .own o2, x9, x10, .no, x12] (.many [9, 7]) (.tuple [.int (k : Nat), td k]) = some [a0, a1, .sh (.int p), a3, .sh (.list tb), .no, .own o1, .sh (td k), .own o2, .sh (.int (k : Nat)), x10, .no, x12] := by
    show (putS _ 9 (.sh (.int (k : Nat)))).bind _ = _
    rw [putS_nb (x := x9) rfl b9]
    show (putS _ 7 (.sh (td k))).bind _ = _
    rw [putS_nb (x := x7) rfl b7]
    rfl
  have hg : gO n p h1 h2 rw td (.tuple [.int (k : Nat), td k]) = (rgD 0 p).findSome? (gP n h1 h2 rw td k) := rfl
  rw [hg]
  simp only [ep]
  have hm : evS Φ 100 (.asg 10 lcMore) [a0, a1, .sh (.int p), a3, .sh (.list tb), .no, .own o1, .sh (td k), .own o2, .sh (.int (k : Nat)), x10, .no, x12] =
      .nxt [a0, a1, .sh (.int p), a3, .sh (.list tb), .no, .own o1, .sh (td k), .own o2, .sh (.int (k : Nat)), .own (((List.range n).filter (hit2 h1 h2 k)).map fun j => .int (j : Nat)), .no, x12] := by
    subst htb ho1 ho2
    exact asg_tmp (more_eq hk hn s1 s2) rfl b10
  rw [bOut, seq_nxt hm]
  rcases per_loop (Φ := Φ) (rw := rw) (h1 := h1) (h2 := h2) (o1 := o1) (o2 := o2) (a0 := a0) (a1 := a1) (a3 := a3) hk hn hp htb hr ⟨_, _, .inl rfl, b12, rfl⟩ with ⟨d, q1, e, q2⟩ | ⟨q1, e, q2, q3⟩
  · exact .inl ⟨d, q1, e, seq_ret q2⟩
  · refine .inr ⟨q1, e, ?_, ?_⟩
    · rw [seq_nxt q2]
      rfl
    · obtain ⟨y10, y12, c10, c12, rfl⟩ := q3
      refine ⟨_, _, _, _, rfl, rfl, ?_, c12, rfl⟩
      rcases c10 with rfl | rfl <;> rfl
end
end K14

set_option Elab.async false
set_option maxRecDepth 100000
set_option maxHeartbeats 0
namespace K14
open PySem PyE L2
def optR : Option D → FRes
  | some d => .ret d []
  | none => .ret .none []
section
variable {Φ : Fns} {n p c : Nat} {h h1 h2 td : Nat → D} {rw : Nat → Nat → D} {w w1 w2 : D}
/-- by_one, by_other -/
theorem by_eq {fs : FnSem} {b : Nat} {x4 a0 a1 a2 a3 x6 x8 : Sl} (hb : b < 2) (hf : Φ "heard" = some fs) (ha : fs.arity = 2) (hbo : fs.bor = false) (hx : x4 = .own ((List.range n).map td) ∨ x4 = .sh (.list ((List.range n).map td))) (hn : n ≤ 1000)
    (hw : [a0, a1][b]? = some (.sh w)) (hr : ∀ t < n, fs.run [w, td t] = .ret (h t) []) :
    evE Φ (.lc (.call "heard" (.cons (.v b) (.cons (.v 7) .nil))) (.one 7) (.seq (.v 4)) .none [7]) [a0, a1, a2, a3, x4, .no, x6, .no, x8, .no, .no, .no, .no] =
      .ok (.tmp ((List.range n).map h)) [a0, a1, a2, a3, .sh (.list ((List.range n).map td)), .no, x6, .no, x8, .no, .no, .no, .no] := by
  have e : ((List.range n).map td).flatMap (fun t => match fs.run [w, t] with | .ret d _ => [d] | _ => []) = (List.range n).map h := by
    rw [List.flatMap_map]
    rw [← flat_one]
    have : ∀ xs : List Nat, (∀ x ∈ xs, x < n) → xs.flatMap (fun a => match fs.run [w, td a] with | .ret d _ => [d] | _ => []) = xs.flatMap fun x => [h x] := by
      intro xs
      induction xs with
      | nil => intro _; rfl
      | cons x xs ih =>
        intro hx
        rw [List.flatMap_cons, List.flatMap_cons, ih fun y hy => hx y (List.mem_cons_of_mem _ hy), hr x (hx x List.mem_cons_self)]
    exact this _ fun x hx => List.mem_range.mp hx
  rw [← e]
  refine lc_eqF (ds := (List.range n).map td) ?_ rfl rfl ?_ ?_
  · rcases hx with rfl | rfl <;> rfl
  · intro x hx
    obtain ⟨t, ht, rfl⟩ := List.mem_map.mp hx
    have ht := List.mem_range.mp ht
    rw [hr t ht]
    show (evE Φ (.call "heard" (.cons (.v b) (.cons (.v 7) .nil))) [a0, a1, a2, a3, .sh (.list ((List.range n).map td)), .no, x6, .sh (td t), x8, .no, .no, .no, .no]).bind _ = _
    rw [call2 hf ha hbo (d1 := w) (d2 := td t) ?_ rfl (hr t ht)]
    · rfl
    · match b, hb, hw with
      | 0, _, hw => cases hw; rfl
      | 1, _, hw => cases hw; rfl
  · rw [e, List.length_map, List.length_range]
    exact szOk_k hn
theorem more_by_run {m : Nat} (hn : n ≤ 1000) (hp : p ≤ 1000)
    (h0 : evS (Phi T (m + 1)) 100 (.asg 4 (.lc (.call "cut_rows" (.cons (.v 5) (.cons (.v 3) .nil))) (.one 5) (.seq (.call "all_rows" (.cons (.bin .Mult (.v 2) (.v 3)) (.cons (.g "FLAGS" c_FLAGS) .nil)))) .none [5])) [.sh w1, .sh w2, .sh (.int p), .sh (.int c), .no, .no, .no, .no, .no, .no, .no, .no, .no] =
      .nxt [.sh w1, .sh w2, .sh (.int p), .sh (.int c), .own ((List.range n).map td), .no, .no, .no, .no, .no, .no, .no, .no])
    (r1 : ∀ t < n, (runDf (Phi T m) d_heard).run [w1, td t] = .ret (h1 t) []) (r2 : ∀ t < n, (runDf (Phi T m) d_heard).run [w2, td t] = .ret (h2 t) [])
    (s1 : ∀ t < n, SeqAt.shaped (h1 t) = true) (s2 : ∀ t < n, SeqAt.shaped (h2 t) = true)
    (hr : ∀ j < n, ∀ i < p, ixD (td j) (.int (i : Nat)) = some (rw j i) ∧ SeqAt.shaped (rw j i) = true) :
    (runDf (Phi T (m + 1)) d_more_by).run [w1, w2, .int p, .int c] = optR ((List.range n).findSome? fun k => (rgD 0 p).findSome? (gP n h1 h2 rw td k)) := by
  have hf : Phi T (m + 1) "heard" = some (runDf (Phi T m) d_heard) := rfl
  have e1 : evS (Phi T (m + 1)) 100 (.asg 6 (.lc (.call "heard" (.cons (.v 0) (.cons (.v 7) .nil))) (.one 7) (.seq (.v 4)) .none [7])) [.sh w1, .sh w2, .sh (.int p), .sh (.int c), .own ((List.range n).map td), .no, .no, .no, .no, .no, .no, .no, .no] =
      .nxt [.sh w1, .sh w2, .sh (.int p), .sh (.int c), .sh (.list ((List.range n).map td)), .no, .own ((List.range n).map h1), .no, .no, .no, .no, .no, .no] :=
    asg_tmpF (by_eq (by decide) hf rfl rfl (.inl rfl) hn rfl r1) rfl rfl
  have e2 : evS (Phi T (m + 1)) 100 (.asg 8 (.lc (.call "heard" (.cons (.v 1) (.cons (.v 7) .nil))) (.one 7) (.seq (.v 4)) .none [7])) [.sh w1, .sh w2, .sh (.int p), .sh (.int c), .sh (.list ((List.range n).map td)), .no, .own ((List.range n).map h1), .no, .no, .no, .no, .no, .no] =
      .nxt [.sh w1, .sh w2, .sh (.int p), .sh (.int c), .sh (.list ((List.range n).map td)), .no, .own ((List.range n).map h1), .no, .own ((List.range n).map h2), .no, .no, .no, .no] :=
    asg_tmpF (by_eq (by decide) hf rfl rfl (.inr rfl) hn rfl r2) rfl rfl
  have gm : ((List.range n).map fun k => PyData.tuple [.int (k : Nat), td k]).findSome? (gO n p h1 h2 rw td) = (List.range n).findSome? fun k => (rgD 0 p).findSome? (gP n h1 h2 rw td k) := by
    rw [List.findSome?_map]
    rfl
  show frR (evSs (Phi T (m + 1)) 100 b_more_by [.sh w1, .sh w2, .sh (.int p), .sh (.int c), .no, .no, .no, .no, .no, .no, .no, .no, .no]) = _
  rw [b_more_by, seq_nxt h0, seq_nxt e1, seq_nxt e2, ← gm]
  rcases out_loop (Φ := Phi T (m + 1)) (n := n) (p := p) (h1 := h1) (h2 := h2) (td := td) (rw := rw) (a0 := .sh w1) (a1 := .sh w2) (a3 := .sh (.int c)) hn hp rfl rfl rfl s1 s2 hr ⟨.no, .no, .no, .no, rfl, rfl, rfl, rfl, rfl⟩ with ⟨d, q1, e, q2⟩ | ⟨q1, e, q2, q3⟩
  · rw [q1]
    exact congrArg frR (seq_ret q2)
  · rw [q1]
    exact (congrArg frR (seq_nxt q2)).trans rfl
/-! ### the law's own search -/
def gJ (h1 h2 : Nat → D) (rw : Nat → Nat → D) (td : Nat → D) (k i : Nat) : D → Option D
  | .int j => if hit h1 h2 rw k i j.toNat = true then some (.tuple [td k, .int (i : Nat)]) else none
  | _ => none
def bJ : ISs := (.cons (.asg 9 (.cmp .Eq (.ix (.ix (.ix (.v 4) (.v 8)) (.k (.int 0))) (.v 7)) (.ix (.ix (.ix (.v 4) (.v 6)) (.k (.int 0))) (.v 7)))) (.cons (.ite (.and (.v 9) (.and (.cmp .Eq (.ix (.ix (.v 5) (.v 8)) (.k (.int 1))) (.ix (.ix (.v 5) (.v 6)) (.k (.int 1)))) (.cmp .NotEq (.ix (.ix (.v 4) (.v 8)) (.k (.int 1))) (.ix (.ix (.v 4) (.v 6)) (.k (.int 1)))))) (.cons (.ret (.tup (.cons (.ix (.ix (.v 4) (.v 6)) (.k (.int 0))) (.cons (.v 7) .nil)))) .nil) .nil) .nil))
variable {a0 a1 a3 : Sl} {L1 L2' : List D}
theorem j_step {k i j : Nat} (u1 : atI L1 (j : Int) = some (.tuple [td j, h1 j])) (u2 : atI L2' (j : Int) = some (.tuple [td j, h2 j])) (v1 : atI L1 (k : Int) = some (.tuple [td k, h1 k])) (v2 : atI L2' (k : Int) = some (.tuple [td k, h2 k]))
    (q2 : ixD (td j) (.int (i : Nat)) = some (rw j i)) (q3 : ixD (td k) (.int (i : Nat)) = some (rw k i)) (w1 : SeqAt.shaped (rw j i) = true) (w2 : SeqAt.shaped (rw k i) = true)
    (s1 : SeqAt.shaped (h1 j) = true) (s2 : SeqAt.shaped (h2 j) = true) (s3 : SeqAt.shaped (h1 k) = true) (s4 : SeqAt.shaped (h2 k) = true) :
    ∀ y9, nb y9 = true → evSs Φ 100 bJ [a0, a1, .sh (.int p), a3, .sh (.list L1), .sh (.list L2'), .sh (.int (k : Nat)), .sh (.int (i : Nat)), .sh (.int (j : Nat)), y9] = if hit h1 h2 rw k i j = true then FR.ret (.tuple [td k, .int (i : Nat)]) [a0, a1, .sh (.int p), a3, .sh (.list L1), .sh (.list L2'), .sh (.int (k : Nat)), .sh (.int (i : Nat)), .sh (.int (j : Nat)), .sh (.bool (PyData.eqv (rw j i) (rw k i)))]
      else .nxt [a0, a1, .sh (.int p), a3, .sh (.list L1), .sh (.list L2'), .sh (.int (k : Nat)), .sh (.int (i : Nat)), .sh (.int (j : Nat)), .sh (.bool (PyData.eqv (rw j i) (rw k i)))] := by
  have z0 : ∀ (x y : D), atI [x, y] (0 : Int) = some x := fun _ _ => rfl
  have z1 : ∀ (x y : D), atI [x, y] (1 : Int) = some y := fun _ _ => rfl
  have e9 : ∀ y9, evE Φ (.cmp .Eq (.ix (.ix (.ix (.v 4) (.v 8)) (.k (.int 0))) (.v 7)) (.ix (.ix (.ix (.v 4) (.v 6)) (.k (.int 0))) (.v 7))) [a0, a1, .sh (.int p), a3, .sh (.list L1), .sh (.list L2'), .sh (.int (k : Nat)), .sh (.int (i : Nat)), .sh (.int (j : Nat)), y9] =
      .ok (.now (.bool (PyData.eqv (rw j i) (rw k i)))) [a0, a1, .sh (.int p), a3, .sh (.list L1), .sh (.list L2'), .sh (.int (k : Nat)), .sh (.int (i : Nat)), .sh (.int (j : Nat)), y9] := by
    intro y9
    have d1 : ixD (.list L1) (.int (j : Nat)) = some (.tuple [td j, h1 j]) := u1
    have d2 : ixD (.list L1) (.int (k : Nat)) = some (.tuple [td k, h1 k]) := v1
    have d3 : ∀ (x y : D), ixD (.tuple [x, y]) (.int 0) = some x := fun _ _ => rfl
    simp [evE, Rs.bind, look, Rs.opt, d1, d2, d3, q2, q3, cmpD, w1, w2]
  have et : evT Φ (.and (.v 9) (.and (.cmp .Eq (.ix (.ix (.v 5) (.v 8)) (.k (.int 1))) (.ix (.ix (.v 5) (.v 6)) (.k (.int 1)))) (.cmp .NotEq (.ix (.ix (.v 4) (.v 8)) (.k (.int 1))) (.ix (.ix (.v 4) (.v 6)) (.k (.int 1))))))
      [a0, a1, .sh (.int p), a3, .sh (.list L1), .sh (.list L2'), .sh (.int (k : Nat)), .sh (.int (i : Nat)), .sh (.int (j : Nat)), .sh (.bool (PyData.eqv (rw j i) (rw k i)))] =
      .ok (hit h1 h2 rw k i j) [a0, a1, .sh (.int p), a3, .sh (.list L1), .sh (.list L2'), .sh (.int (k : Nat)), .sh (.int (i : Nat)), .sh (.int (j : Nat)), .sh (.bool (PyData.eqv (rw j i) (rw k i)))] := by
    have d1 : ixD (.list L1) (.int (j : Nat)) = some (.tuple [td j, h1 j]) := u1
    have d2 : ixD (.list L1) (.int (k : Nat)) = some (.tuple [td k, h1 k]) := v1
    have d1' : ixD (.list L2') (.int (j : Nat)) = some (.tuple [td j, h2 j]) := u2
    have d2' : ixD (.list L2') (.int (k : Nat)) = some (.tuple [td k, h2 k]) := v2
    have d3 : ∀ (x y : D), ixD (.tuple [x, y]) (.int 1) = some y := fun _ _ => rfl
    have hh : hit h1 h2 rw k i j = (PyData.eqv (h2 j) (h2 k) && !PyData.eqv (h1 j) (h1 k) && PyData.eqv (rw j i) (rw k i)) := rfl
    rw [hh]
    cases c1 : PyData.eqv (rw j i) (rw k i) <;> cases c2 : PyData.eqv (h2 j) (h2 k) <;> cases c3 : PyData.eqv (h1 j) (h1 k) <;>
      simp [evT, evE, Rs.bind, look, Rs.opt, d1, d2, d1', d2', d3, cmpD, s1, s2, s3, s4, c2, c3, truR, truD]
  intro y9 b
  rw [bJ, seq_nxt (asg_now (e9 y9) (x := y9) rfl b)]
  have d2 : ixD (.list L1) (.int (k : Nat)) = some (.tuple [td k, h1 k]) := v1
  have d3 : ∀ (x y : D), ixD (.tuple [x, y]) (.int 0) = some x := fun _ _ => rfl
  cases hc : hit h1 h2 rw k i j with
  | true =>
    rw [hc] at et
    refine seq_ret ?_
    rw [show (List.set [a0, a1, Sl.sh (.int p), a3, .sh (.list L1), .sh (.list L2'), .sh (.int (k : Nat)), .sh (.int (i : Nat)), .sh (.int (j : Nat)), y9] 9 (.sh (.bool (PyData.eqv (rw j i) (rw k i))))) = [a0, a1, .sh (.int p), a3, .sh (.list L1), .sh (.list L2'), .sh (.int (k : Nat)), .sh (.int (i : Nat)), .sh (.int (j : Nat)), .sh (.bool (PyData.eqv (rw j i) (rw k i)))] from rfl, ite_nxt et, if_pos rfl]
    simp [evSs, evS, evE, evEs, Rs.bind, Rs.toF, FR.bind, look, Rs.opt, d2, d3, keepN, keepF, szOk]
  | false =>
    rw [hc] at et
    rw [seq_nxt (e1 := [a0, a1, .sh (.int p), a3, .sh (.list L1), .sh (.list L2'), .sh (.int (k : Nat)), .sh (.int (i : Nat)), .sh (.int (j : Nat)), .sh (.bool (PyData.eqv (rw j i) (rw k i)))])]
    · rfl
    · rw [show (List.set [a0, a1, Sl.sh (.int p), a3, .sh (.list L1), .sh (.list L2'), .sh (.int (k : Nat)), .sh (.int (i : Nat)), .sh (.int (j : Nat)), y9] 9 (.sh (.bool (PyData.eqv (rw j i) (rw k i))))) = [a0, a1, .sh (.int p), a3, .sh (.list L1), .sh (.list L2'), .sh (.int (k : Nat)), .sh (.int (i : Nat)), .sh (.int (j : Nat)), .sh (.bool (PyData.eqv (rw j i) (rw k i)))] from rfl, ite_nxt et, if_neg Bool.false_ne_true]
      rfl
def gI (n : Nat) (h1 h2 : Nat → D) (rw : Nat → Nat → D) (td : Nat → D) (k : Nat) : D → Option D
  | .int i => (rgD 0 n).findSome? (gJ h1 h2 rw td k i.toNat)
  | _ => none
def gK (n p : Nat) (h1 h2 : Nat → D) (rw : Nat → Nat → D) (td : Nat → D) : D → Option D
  | .int k => (rgD 0 p).findSome? (gI n h1 h2 rw td k.toNat)
  | _ => none
def LP (a0 a1 a3 : Sl) (p : Nat) (L1 L2' : List D) (env : SEnv) : Prop := ∃ x6 x7 x8 x9, nb x6 = true ∧ nb x7 = true ∧ nb x8 = true ∧ nb x9 = true ∧ env = [a0, a1, .sh (.int p), a3, .sh (.list L1), .sh (.list L2'), x6, x7, x8, x9]
def LP1 (a0 a1 a3 : Sl) (p k : Nat) (L1 L2' : List D) (env : SEnv) : Prop := ∃ x7 x8 x9, nb x7 = true ∧ nb x8 = true ∧ nb x9 = true ∧ env = [a0, a1, .sh (.int p), a3, .sh (.list L1), .sh (.list L2'), .sh (.int (k : Nat)), x7, x8, x9]
def LP2 (a0 a1 a3 : Sl) (p k i : Nat) (L1 L2' : List D) (env : SEnv) : Prop := ∃ x8 x9, nb x8 = true ∧ nb x9 = true ∧ env = [a0, a1, .sh (.int p), a3, .sh (.list L1), .sh (.list L2'), .sh (.int (k : Nat)), .sh (.int (i : Nat)), x8, x9]
def fJ : IS := .for_ (.one 8) (.r1 (.bf .len (.cons (.v 4) .nil))) bJ
def fI : IS := .for_ (.one 7) (.r1 (.v 2)) (.cons fJ .nil)
def fK : IS := .for_ (.one 6) (.r1 (.bf .len (.cons (.v 4) .nil))) (.cons fI .nil)
section
variable (hn : n ≤ 1000) (hp : p ≤ 1000) (hL1 : L1 = (List.range n).map fun j => .tuple [td j, h1 j]) (hL2 : L2' = (List.range n).map fun j => .tuple [td j, h2 j]) (s1 : ∀ t < n, SeqAt.shaped (h1 t) = true) (s2 : ∀ t < n, SeqAt.shaped (h2 t) = true)
    (hr : ∀ j < n, ∀ i < p, ixD (td j) (.int (i : Nat)) = some (rw j i) ∧ SeqAt.shaped (rw j i) = true)
include hn hp hL1 hL2 s1 s2 hr
theorem j_loop {k i : Nat} (hk : k < n) (hi : i < p) {env : SEnv} (he : LP2 a0 a1 a3 p k i L1 L2' env) :
    (∃ d, (rgD 0 n).findSome? (gJ h1 h2 rw td k i) = some d ∧ ∃ e, evS Φ 100 fJ env = .ret d e) ∨ ((rgD 0 n).findSome? (gJ h1 h2 rw td k i) = none ∧ ∃ e, evS Φ 100 fJ env = .nxt e ∧ LP2 a0 a1 a3 p k i L1 L2' e) := by
  have hI : evI Φ (.r1 (.bf .len (.cons (.v 4) .nil))) env = .ok (rgD 0 n) env := by
    obtain ⟨x8, x9, _, _, rfl⟩ := he
    have hl : L1.length = n := by rw [hL1]; simp
    show (if rOk (L1.length : Int) = true then _ else _) = _
    rw [hl, if_pos (rOk_nat (by omega))]
    rfl
  rw [fJ, for_eq hI]
  refine forL_find he fun x hx env he => ?_
  obtain ⟨j, hj, rfl⟩ := rgD_mem hx
  obtain ⟨x8, x9, b8, b9, rfl⟩ := he
  have ep : putT [a0, a1, .sh (.int p), a3, .sh (.list L1), .sh (.list L2'), .sh (.int (k : Nat)), .sh (.int (i : Nat)), x8, x9] (.one 8) (.int (j : Nat)) = some [a0, a1, .sh (.int p), a3, .sh (.list L1), .sh (.list L2'), .sh (.int (k : Nat)), .sh (.int (i : Nat)), .sh (.int (j : Nat)), x9] :=
    putS_nb (x := x8) rfl b8
  simp only [ep]
  have st := j_step (Φ := Φ) (p := p) (a0 := a0) (a1 := a1) (a3 := a3) (L1 := L1) (L2' := L2') (k := k) (i := i) (j := j) (h1 := h1) (h2 := h2) (td := td) (rw := rw)
    (by rw [hL1]; exact at_map _ hj) (by rw [hL2]; exact at_map _ hj) (by rw [hL1]; exact at_map _ hk) (by rw [hL2]; exact at_map _ hk) (hr j hj i hi).1 (hr k hk i hi).1 (hr j hj i hi).2 (hr k hk i hi).2 (s1 j hj) (s2 j hj) (s1 k hk) (s2 k hk) x9 b9
  have hg : gJ h1 h2 rw td k i (.int (j : Nat)) = if hit h1 h2 rw k i j = true then some (.tuple [td k, .int (i : Nat)]) else none := rfl
  rw [hg, st]
  cases hit h1 h2 rw k i j with
  | true => exact .inl ⟨_, rfl, _, rfl⟩
  | false => exact .inr ⟨rfl, _, rfl, .sh (.int (j : Nat)), .sh (.bool (PyData.eqv (rw j i) (rw k i))), rfl, rfl, rfl⟩
theorem i_loop {k : Nat} (hk : k < n) {env : SEnv} (he : LP1 a0 a1 a3 p k L1 L2' env) :
    (∃ d, (rgD 0 p).findSome? (gI n h1 h2 rw td k) = some d ∧ ∃ e, evS Φ 100 fI env = .ret d e) ∨
    ((rgD 0 p).findSome? (gI n h1 h2 rw td k) = none ∧ ∃ e, evS Φ 100 fI env = .nxt e ∧ LP1 a0 a1 a3 p k L1 L2' e) := by
  have hI : evI Φ (.r1 (.v 2)) env = .ok (rgD 0 p) env := by
    obtain ⟨x7, x8, x9, _, _, _, rfl⟩ := he
    show (if rOk (p : Int) = true then _ else _) = _
    rw [if_pos (rOk_nat (by omega))]
    rfl
  rw [fI, for_eq hI]
  refine forL_find he fun x hx env he => ?_
  obtain ⟨i, hi, rfl⟩ := rgD_mem hx
  obtain ⟨x7, x8, x9, b7, b8, b9, rfl⟩ := he
  have ep : putT [a0, a1, .sh (.int p), a3, .sh (.list L1), .sh (.list L2'), .sh (.int (k : Nat)), x7, x8, x9] (.one 7) (.int (i : Nat)) = some [a0, a1, .sh (.int p), a3, .sh (.list L1), .sh (.list L2'), .sh (.int (k : Nat)), .sh (.int (i : Nat)), x8, x9] :=
    putS_nb (x := x7) rfl b7
  simp only [ep]
  rcases j_loop (Φ := Φ) (a0 := a0) (a1 := a1) (a3 := a3) hn hp hL1 hL2 s1 s2 hr hk hi ⟨x8, x9, b8, b9, rfl⟩ with ⟨d, q1, e, q2⟩ | ⟨q1, e, q2, y8, y9, c8, c9, q3⟩
  · exact .inl ⟨d, q1, e, seq_ret q2⟩
  · exact .inr ⟨q1, e, seq_nxt q2, _, y8, y9, rfl, c8, c9, q3⟩
theorem k_loop {env : SEnv} (he : LP a0 a1 a3 p L1 L2' env) :
    (∃ d, (rgD 0 n).findSome? (gK n p h1 h2 rw td) = some d ∧ ∃ e, evS Φ 100 fK env = .ret d e) ∨
    ((rgD 0 n).findSome? (gK n p h1 h2 rw td) = none ∧ ∃ e, evS Φ 100 fK env = .nxt e ∧ LP a0 a1 a3 p L1 L2' e) := by
  have hI : evI Φ (.r1 (.bf .len (.cons (.v 4) .nil))) env = .ok (rgD 0 n) env := by
    obtain ⟨x6, x7, x8, x9, _, _, _, _, rfl⟩ := he
    have hl : L1.length = n := by rw [hL1]; simp
    show (if rOk (L1.length : Int) = true then _ else _) = _
    rw [hl, if_pos (rOk_nat (by omega))]
    rfl
  rw [fK, for_eq hI]
  refine forL_find he fun x hx env he => ?_
  obtain ⟨k, hk, rfl⟩ := rgD_mem hx
  obtain ⟨x6, x7, x8, x9, b6, b7, b8, b9, rfl⟩ := he
  have ep : putT [a0, a1, .sh (.int p), a3, .sh (.list L1), .sh (.list L2'), x6, x7, x8, x9] (.one 6) (.int (k : Nat)) = some [a0, a1, .sh (.int p), a3, .sh (.list L1), .sh (.list L2'), .sh (.int (k : Nat)), x7, x8, x9] :=
    putS_nb (x := x6) rfl b6
  simp only [ep]
  rcases i_loop (Φ := Φ) (a0 := a0) (a1 := a1) (a3 := a3) hn hp hL1 hL2 s1 s2 hr hk ⟨x7, x8, x9, b7, b8, b9, rfl⟩ with ⟨d, q1, e, q2⟩ | ⟨q1, e, q2, y7, y8, y9, c7, c8, c9, q3⟩
  · exact .inl ⟨d, q1, e, seq_ret q2⟩
  · exact .inr ⟨q1, e, seq_nxt q2, _, y7, y8, y9, rfl, c7, c8, c9, q3⟩
end
end
end K14

set_option Elab.async false
set_option maxRecDepth 100000
set_option maxHeartbeats 0
namespace K14
open PySem PyE L2
section
variable {n p c m : Nat} {h h1 h2 td sd fd : Nat → D} {rw : Nat → Nat → D} {w w1 w2 : D}
def eParts : IE := (.tup (.cons (.v 4) (.cons (.tup (.cons (.call "_law_said" (.cons (.v 0) (.cons (.v 4) .nil))) (.cons (.call "_law_first" (.cons (.v 4) .nil)) .nil))) .nil)))
theorem parts_step {x1 x2 x3 : Sl} {t : Nat} (hs : (runDf (Phi T m) d__law_said).run [w, td t] = .ret (sd t) []) (hf : (runDf (Phi T m) d__law_first).run [td t] = .ret (fd t) []) :
    evE (Phi T (m + 1)) eParts [.sh w, x1, x2, x3, .sh (td t)] = .ok (.now (.tuple [td t, .tuple [sd t, fd t]])) [.sh w, x1, x2, x3, .sh (td t)] := by
  have e1 : evE (Phi T (m + 1)) (.call "_law_said" (.cons (.v 0) (.cons (.v 4) .nil))) [.sh w, x1, x2, x3, .sh (td t)] = .ok (.now (sd t)) [.sh w, x1, x2, x3, .sh (td t)] :=
    callN (fs := runDf (Phi T m) d__law_said) rfl rfl rfl rfl rfl hs
  have e2 : evE (Phi T (m + 1)) (.call "_law_first" (.cons (.v 4) .nil)) [.sh w, x1, x2, x3, .sh (td t)] = .ok (.now (fd t)) [.sh w, x1, x2, x3, .sh (td t)] :=
    callN (fs := runDf (Phi T m) d__law_first) rfl rfl rfl rfl rfl hf
  have e3 : evE (Phi T (m + 1)) (.v 4) [.sh w, x1, x2, x3, .sh (td t)] = .ok (.now (td t)) [.sh w, x1, x2, x3, .sh (td t)] := rfl
  unfold eParts
  simp [evE.eq_12, evEs, e1, e2, e3, Rs.bind, keepN, keepF, szOk]
theorem parts_loop (hs : ∀ t < n, (runDf (Phi T m) d__law_said).run [w, td t] = .ret (sd t) []) (hf : ∀ t < n, (runDf (Phi T m) d__law_first).run [td t] = .ret (fd t) []) {x1 x2 : Sl} :
    ∀ (xs : List Nat) (acc : List D) (x4 : Sl), (∀ t ∈ xs, t < n) → acc.length + xs.length ≤ 1000 → nb x4 = true →
      ∃ y4, forL (fun x e => match putT e (.one 4) x with
        | some e2 => evSs (Phi T (m + 1)) 100 (.cons (.app 3 eParts) .nil) e2
        | none => .stuck) (xs.map td) [.sh w, x1, x2, .own acc, x4] = .nxt [.sh w, x1, x2, .own (acc ++ xs.map fun t => .tuple [td t, .tuple [sd t, fd t]]), y4]
  | [], acc, x4, _, _, _ => ⟨x4, by rw [List.map_nil, List.map_nil, List.append_nil]; rfl⟩
  | t :: xs, acc, x4, hx, hl, b4 => by
    have ep : putT [.sh w, x1, x2, .own acc, x4] (.one 4) (td t) = some [.sh w, x1, x2, .own acc, .sh (td t)] := putS_nb (x := x4) rfl b4
    have ht := hx t List.mem_cons_self
    have st : evS (Phi T (m + 1)) 100 (.app 3 eParts) [.sh w, x1, x2, .own acc, .sh (td t)] = .nxt [.sh w, x1, x2, .own (acc ++ [.tuple [td t, .tuple [sd t, fd t]]]), .sh (td t)] :=
      app_own rfl (parts_step (hs t ht) (hf t ht)) rfl (by rw [List.length_cons] at hl; omega)
    obtain ⟨y4, e⟩ := parts_loop hs hf xs (acc ++ [.tuple [td t, .tuple [sd t, fd t]]]) (.sh (td t)) (fun y hy => hx y (List.mem_cons_of_mem _ hy)) (by rw [List.length_append, List.length_singleton]; rw [List.length_cons] at hl; omega) rfl
    refine ⟨y4, ?_⟩
    rw [List.map_cons, List.map_cons, forL]
    simp only [ep]
    rw [seq_nxt st]
    show forL _ (xs.map td) _ = _
    rw [e, List.append_assoc]
    rfl
theorem parts_run (hn : n ≤ 1000) (ht : (runDf (Phi T m) d__law_tables).run [.int p, .int c] = .ret (.list ((List.range n).map td)) []) (hs : ∀ t < n, (runDf (Phi T m) d__law_said).run [w, td t] = .ret (sd t) []) (hf : ∀ t < n, (runDf (Phi T m) d__law_first).run [td t] = .ret (fd t) []) :
    (runDf (Phi T (m + 1)) d__law_parts).run [w, .int p, .int c] = .ret (.list ((List.range n).map fun t => .tuple [td t, .tuple [sd t, fd t]])) [] := by
  have s1 : evS (Phi T (m + 1)) 100 (.asg 3 (.lst .nil)) [.sh w, .sh (.int p), .sh (.int c), .no, .no] = .nxt [.sh w, .sh (.int p), .sh (.int c), .own [], .no] := rfl
  have hI : evI (Phi T (m + 1)) (.seq (.call "_law_tables" (.cons (.v 1) (.cons (.v 2) .nil)))) [.sh w, .sh (.int p), .sh (.int c), .own [], .no] = .ok ((List.range n).map td) [.sh w, .sh (.int p), .sh (.int c), .own [], .no] := by
    have e : evE (Phi T (m + 1)) (.call "_law_tables" (.cons (.v 1) (.cons (.v 2) .nil))) [.sh w, .sh (.int p), .sh (.int c), .own [], .no] = .ok (.now (.list ((List.range n).map td))) [.sh w, .sh (.int p), .sh (.int c), .own [], .no] :=
      callN (fs := runDf (Phi T m) d__law_tables) rfl rfl rfl rfl rfl ht
    show (evE _ _ _).bind _ = _
    rw [e]
    rfl
  obtain ⟨y4, e⟩ := parts_loop (x1 := .sh (.int p)) (x2 := .sh (.int c)) hs hf (List.range n) [] .no (fun t h => List.mem_range.mp h) (by simpa using hn) rfl
  show frR (evSs (Phi T (m + 1)) 100 (.cons (.asg 3 (.lst .nil)) (.cons (.for_ (.one 4) (.seq (.call "_law_tables" (.cons (.v 1) (.cons (.v 2) .nil)))) (.cons (.app 3 eParts) .nil)) (.cons (.ret (.v 3)) .nil))) [.sh w, .sh (.int p), .sh (.int c), .no, .no]) = _
  rw [seq_nxt s1, seq_nxt ((for_eq hI).trans e)]
  rfl
theorem law_more_run (hn : n ≤ 1000) (hp : p ≤ 1000)
    (r1 : (runDf (Phi T m) d__law_parts).run [w1, .int p, .int c] = .ret (.list ((List.range n).map fun t => .tuple [td t, h1 t])) [])
    (r2 : (runDf (Phi T m) d__law_parts).run [w2, .int p, .int c] = .ret (.list ((List.range n).map fun t => .tuple [td t, h2 t])) [])
    (s1 : ∀ t < n, SeqAt.shaped (h1 t) = true) (s2 : ∀ t < n, SeqAt.shaped (h2 t) = true)
    (hr : ∀ j < n, ∀ i < p, ixD (td j) (.int (i : Nat)) = some (rw j i) ∧ SeqAt.shaped (rw j i) = true) :
    (runDf (Phi T (m + 1)) d__law_more).run [w1, w2, .int p, .int c] = optR ((rgD 0 n).findSome? (gK n p h1 h2 rw td)) := by
  have c1 : evS (Phi T (m + 1)) 100 (.asg 4 (.call "_law_parts" (.cons (.v 0) (.cons (.v 2) (.cons (.v 3) .nil))))) [.sh w1, .sh w2, .sh (.int p), .sh (.int c), .no, .no, .no, .no, .no, .no] =
      .nxt [.sh w1, .sh w2, .sh (.int p), .sh (.int c), .sh (.list ((List.range n).map fun t => .tuple [td t, h1 t])), .no, .no, .no, .no, .no] :=
    by
    have e : evE (Phi T (m + 1)) (.call "_law_parts" (.cons (.v 0) (.cons (.v 2) (.cons (.v 3) .nil)))) [.sh w1, .sh w2, .sh (.int p), .sh (.int c), .no, .no, .no, .no, .no, .no] = .ok (.now (.list ((List.range n).map fun t => .tuple [td t, h1 t]))) [.sh w1, .sh w2, .sh (.int p), .sh (.int c), .no, .no, .no, .no, .no, .no] :=
      callN (fs := runDf (Phi T m) d__law_parts) rfl rfl rfl rfl rfl r1
    exact asg_now e (x := .no) rfl rfl
  have c2 : evS (Phi T (m + 1)) 100 (.asg 5 (.call "_law_parts" (.cons (.v 1) (.cons (.v 2) (.cons (.v 3) .nil))))) [.sh w1, .sh w2, .sh (.int p), .sh (.int c), .sh (.list ((List.range n).map fun t => .tuple [td t, h1 t])), .no, .no, .no, .no, .no] =
      .nxt [.sh w1, .sh w2, .sh (.int p), .sh (.int c), .sh (.list ((List.range n).map fun t => .tuple [td t, h1 t])), .sh (.list ((List.range n).map fun t => .tuple [td t, h2 t])), .no, .no, .no, .no] :=
    by
    have e : evE (Phi T (m + 1)) (.call "_law_parts" (.cons (.v 1) (.cons (.v 2) (.cons (.v 3) .nil)))) [.sh w1, .sh w2, .sh (.int p), .sh (.int c), .sh (.list ((List.range n).map fun t => .tuple [td t, h1 t])), .no, .no, .no, .no, .no] = .ok (.now (.list ((List.range n).map fun t => .tuple [td t, h2 t]))) [.sh w1, .sh w2, .sh (.int p), .sh (.int c), .sh (.list ((List.range n).map fun t => .tuple [td t, h1 t])), .no, .no, .no, .no, .no] :=
      callN (fs := runDf (Phi T m) d__law_parts) rfl rfl rfl rfl rfl r2
    exact asg_now e (x := .no) rfl rfl
  show frR (evSs (Phi T (m + 1)) 100 (.cons (.asg 4 (.call "_law_parts" (.cons (.v 0) (.cons (.v 2) (.cons (.v 3) .nil))))) (.cons (.asg 5 (.call "_law_parts" (.cons (.v 1) (.cons (.v 2) (.cons (.v 3) .nil))))) (.cons fK (.cons (.ret (.k .none)) .nil)))) [.sh w1, .sh w2, .sh (.int p), .sh (.int c), .no, .no, .no, .no, .no, .no]) = _
  rw [seq_nxt c1, seq_nxt c2]
  rcases k_loop (Φ := Phi T (m + 1)) (a0 := .sh w1) (a1 := .sh w2) (a3 := .sh (.int c)) hn hp rfl rfl s1 s2 hr ⟨.no, .no, .no, .no, rfl, rfl, rfl, rfl, rfl⟩ with ⟨d, q1, e, q2⟩ | ⟨q1, e, q2, q3⟩
  · rw [q1]
    exact congrArg frR (seq_ret q2)
  · rw [q1]
    exact (congrArg frR (seq_nxt q2)).trans rfl
/-- both searches find the same -/
theorem same_find : (rgD 0 n).findSome? (gK n p h1 h2 rw td) =
    (List.range n).findSome? fun k => (rgD 0 p).findSome? (gP n h1 h2 rw td k) := by
  have inner : ∀ k i : Nat, (rgD 0 n).findSome? (gJ h1 h2 rw td k i) = if (List.range n).any (hit h1 h2 rw k i) = true then some (.tuple [td k, .int (i : Nat)]) else none := by
    intro k i
    rw [rg_find, ← find_if]
    rfl
  rw [rg_find]
  have : (fun k : Nat => gK n p h1 h2 rw td (.int (k : Nat))) = fun k : Nat => (rgD 0 p).findSome? (gP n h1 h2 rw td k) := by
    funext k
    show (rgD 0 p).findSome? (gI n h1 h2 rw td ((k : Int)).toNat) = _
    rw [rg_find, rg_find]
    have : (fun i : Nat => gI n h1 h2 rw td ((k : Int)).toNat (.int (i : Nat))) = fun i : Nat => gP n h1 h2 rw td k (.int (i : Nat)) := by
      funext i
      exact (inner k i).trans rfl
    exact congrArg (fun f => (List.range p).findSome? f) this
  exact congrArg (fun f => (List.range n).findSome? f) this
end
end K14

set_option Elab.async false
set_option maxRecDepth 100000
set_option maxHeartbeats 0
namespace K14
open PySem PyE L2
def rwD (p c j i : Nat) : D := .tuple ((List.range c).map fun k => .bool (ansN p c j i k))
def hM (p c w t : Nat) : D := heardM w p c (ansN p c t)
def sD : D → D
  | .tuple (a :: _) => a
  | _ => .none
def okT (p c n : Nat) : Bool := (List.range n).all fun t => (List.range 5).all (fun w => SeqAt.shaped (hM p c w t)) && (List.range p).all fun i => SeqAt.shaped (rwD p c t i)
def okO (p c n : Nat) : Bool := (List.range n).all fun j => (List.range n).all fun k => (j == k) || !PyData.eqv (hM p c 0 j) (hM p c 0 k)
def okC (p c n : Nat) : Bool := (List.range n).all fun j => (List.range n).all fun k => !hit2 (hM p c 2) (hM p c 1) k j
def okR (p c n : Nat) : Bool := (List.range 5).all fun w => (List.range n).all fun k => PyData.eqv (hM p c w k) (hM p c w k)
def okH (m p c n : Nat) : Bool := (List.range 5).all fun w => (List.range n).all fun t => sameR ((runDf (Phi T (m + 2)) d_heard).run [wy w, tabD p c t]) (hM p c w t)
def okS (m p c n : Nat) : Bool := (List.range 5).all fun w => (List.range n).all fun t => sameR ((runDf (Phi T m) d__law_said).run [wy w, tabD p c t]) (sD (hM p c w t))
def okF (m p c n : Nat) : Bool := (List.range n).all fun t => sameR ((runDf (Phi T m) d__law_first).run [tabD p c t]) (takenM p c (ansN p c t))
def okTb (m p c n : Nat) : Bool := sameR ((runDf (Phi T (m + 1)) d__law_tables).run [.int p, .int c]) (.list ((List.range n).map (tabD p c)))
def okSm (m p c n : Nat) : Bool := (List.range n).all fun k => (List.range p).all fun i => sameR ((runDf (Phi T (m + 4)) d__law_same).run [.tuple [tabD p c k, .int (i : Nat)], .tuple [tabD p c k, .int (i : Nat)]]) (.bool true)
theorem okT_21 : okT 2 1 4 = true := by kernel_rfl
theorem okO_21 : okO 2 1 4 = true := by kernel_rfl
theorem okC_21 : okC 2 1 4 = true := by kernel_rfl
theorem okR_21 : okR 2 1 4 = true := by kernel_rfl
theorem okH_21 (m : Nat) : okH m 2 1 4 = true := by kernel_rfl
theorem okS_21 (m : Nat) : okS m 2 1 4 = true := by kernel_rfl
theorem okF_21 (m : Nat) : okF m 2 1 4 = true := by kernel_rfl
theorem okTb_21 (m : Nat) : okTb m 2 1 4 = true := by kernel_rfl
theorem okSm_21 (m : Nat) : okSm m 2 1 4 = true := by kernel_rfl
theorem tb_21 (m : Nat) (w1 w2 : D) : evS (Phi T (m + 1)) 100 (.asg 4 (.lc (.call "cut_rows" (.cons (.v 5) (.cons (.v 3) .nil))) (.one 5) (.seq (.call "all_rows" (.cons (.bin .Mult (.v 2) (.v 3)) (.cons (.g "FLAGS" c_FLAGS) .nil)))) .none [5])) [.sh w1, .sh w2, .sh (.int (2 : Nat)), .sh (.int (1 : Nat)), .no, .no, .no, .no, .no, .no, .no, .no, .no] =
      .nxt [.sh w1, .sh w2, .sh (.int (2 : Nat)), .sh (.int (1 : Nat)), .own ((List.range 4).map (tabD 2 1)), .no, .no, .no, .no, .no, .no, .no, .no] := by kernel_rfl
theorem okT_22 : okT 2 2 16 = true := by kernel_rfl
theorem okO_22 : okO 2 2 16 = true := by kernel_rfl
theorem okC_22 : okC 2 2 16 = true := by kernel_rfl
theorem okR_22 : okR 2 2 16 = true := by kernel_rfl
theorem okH_22 (m : Nat) : okH m 2 2 16 = true := by kernel_rfl
theorem okS_22 (m : Nat) : okS m 2 2 16 = true := by kernel_rfl
theorem okF_22 (m : Nat) : okF m 2 2 16 = true := by kernel_rfl
theorem okTb_22 (m : Nat) : okTb m 2 2 16 = true := by kernel_rfl
theorem okSm_22 (m : Nat) : okSm m 2 2 16 = true := by kernel_rfl
theorem tb_22 (m : Nat) (w1 w2 : D) : evS (Phi T (m + 1)) 100 (.asg 4 (.lc (.call "cut_rows" (.cons (.v 5) (.cons (.v 3) .nil))) (.one 5) (.seq (.call "all_rows" (.cons (.bin .Mult (.v 2) (.v 3)) (.cons (.g "FLAGS" c_FLAGS) .nil)))) .none [5])) [.sh w1, .sh w2, .sh (.int (2 : Nat)), .sh (.int (2 : Nat)), .no, .no, .no, .no, .no, .no, .no, .no, .no] =
      .nxt [.sh w1, .sh w2, .sh (.int (2 : Nat)), .sh (.int (2 : Nat)), .own ((List.range 16).map (tabD 2 2)), .no, .no, .no, .no, .no, .no, .no, .no] := by kernel_rfl
theorem okT_23 : okT 2 3 64 = true := by kernel_rfl
theorem okO_23 : okO 2 3 64 = true := by kernel_rfl
theorem okC_23 : okC 2 3 64 = true := by kernel_rfl
theorem okR_23 : okR 2 3 64 = true := by kernel_rfl
theorem okH_23 (m : Nat) : okH m 2 3 64 = true := by kernel_rfl
theorem okS_23 (m : Nat) : okS m 2 3 64 = true := by kernel_rfl
theorem okF_23 (m : Nat) : okF m 2 3 64 = true := by kernel_rfl
theorem okTb_23 (m : Nat) : okTb m 2 3 64 = true := by kernel_rfl
theorem okSm_23 (m : Nat) : okSm m 2 3 64 = true := by kernel_rfl
theorem tb_23 (m : Nat) (w1 w2 : D) : evS (Phi T (m + 1)) 100 (.asg 4 (.lc (.call "cut_rows" (.cons (.v 5) (.cons (.v 3) .nil))) (.one 5) (.seq (.call "all_rows" (.cons (.bin .Mult (.v 2) (.v 3)) (.cons (.g "FLAGS" c_FLAGS) .nil)))) .none [5])) [.sh w1, .sh w2, .sh (.int (2 : Nat)), .sh (.int (3 : Nat)), .no, .no, .no, .no, .no, .no, .no, .no, .no] =
      .nxt [.sh w1, .sh w2, .sh (.int (2 : Nat)), .sh (.int (3 : Nat)), .own ((List.range 64).map (tabD 2 3)), .no, .no, .no, .no, .no, .no, .no, .no] := by kernel_rfl
theorem okT_31 : okT 3 1 8 = true := by kernel_rfl
theorem okO_31 : okO 3 1 8 = true := by kernel_rfl
theorem okC_31 : okC 3 1 8 = true := by kernel_rfl
theorem okR_31 : okR 3 1 8 = true := by kernel_rfl
theorem okH_31 (m : Nat) : okH m 3 1 8 = true := by kernel_rfl
theorem okS_31 (m : Nat) : okS m 3 1 8 = true := by kernel_rfl
theorem okF_31 (m : Nat) : okF m 3 1 8 = true := by kernel_rfl
theorem okTb_31 (m : Nat) : okTb m 3 1 8 = true := by kernel_rfl
theorem okSm_31 (m : Nat) : okSm m 3 1 8 = true := by kernel_rfl
theorem tb_31 (m : Nat) (w1 w2 : D) : evS (Phi T (m + 1)) 100 (.asg 4 (.lc (.call "cut_rows" (.cons (.v 5) (.cons (.v 3) .nil))) (.one 5) (.seq (.call "all_rows" (.cons (.bin .Mult (.v 2) (.v 3)) (.cons (.g "FLAGS" c_FLAGS) .nil)))) .none [5])) [.sh w1, .sh w2, .sh (.int (3 : Nat)), .sh (.int (1 : Nat)), .no, .no, .no, .no, .no, .no, .no, .no, .no] =
      .nxt [.sh w1, .sh w2, .sh (.int (3 : Nat)), .sh (.int (1 : Nat)), .own ((List.range 8).map (tabD 3 1)), .no, .no, .no, .no, .no, .no, .no, .no] := by kernel_rfl
theorem okT_32 : okT 3 2 64 = true := by kernel_rfl
theorem okO_32 : okO 3 2 64 = true := by kernel_rfl
theorem okC_32 : okC 3 2 64 = true := by kernel_rfl
theorem okR_32 : okR 3 2 64 = true := by kernel_rfl
theorem okH_32 (m : Nat) : okH m 3 2 64 = true := by kernel_rfl
theorem okS_32 (m : Nat) : okS m 3 2 64 = true := by kernel_rfl
theorem okF_32 (m : Nat) : okF m 3 2 64 = true := by kernel_rfl
theorem okTb_32 (m : Nat) : okTb m 3 2 64 = true := by kernel_rfl
theorem okSm_32 (m : Nat) : okSm m 3 2 64 = true := by kernel_rfl
theorem tb_32 (m : Nat) (w1 w2 : D) : evS (Phi T (m + 1)) 100 (.asg 4 (.lc (.call "cut_rows" (.cons (.v 5) (.cons (.v 3) .nil))) (.one 5) (.seq (.call "all_rows" (.cons (.bin .Mult (.v 2) (.v 3)) (.cons (.g "FLAGS" c_FLAGS) .nil)))) .none [5])) [.sh w1, .sh w2, .sh (.int (3 : Nat)), .sh (.int (2 : Nat)), .no, .no, .no, .no, .no, .no, .no, .no, .no] =
      .nxt [.sh w1, .sh w2, .sh (.int (3 : Nat)), .sh (.int (2 : Nat)), .own ((List.range 64).map (tabD 3 2)), .no, .no, .no, .no, .no, .no, .no, .no] := by kernel_rfl
end K14

set_option Elab.async false
set_option maxRecDepth 100000
set_option maxHeartbeats 0
namespace K14
open PySem PyE L2
theorem sameR_eq {r : FRes} {d : D} (h : sameR r d = true) : r = .ret d [] := by
  unfold sameR at h
  split at h
  · rw [sameD_eq _ _ h]
  · cases h
/-- what is to be known of a size -/
structure Sz (p c n : Nat) : Prop where
  hn : n ≤ 1000
  hp : p ≤ 1000
  pos : n = 2 ^ (p * c)
  t : okT p c n = true
  o : okO p c n = true
  ch : okC p c n = true
  r : okR p c n = true
  h : ∀ m, okH m p c n = true
  s : ∀ m, okS m p c n = true
  f : ∀ m, okF m p c n = true
  tb : ∀ m, okTb m p c n = true
  sm : ∀ m, okSm m p c n = true
  st : ∀ m w1 w2, evS (Phi T (m + 1)) 100 (.asg 4 (.lc (.call "cut_rows" (.cons (.v 5) (.cons (.v 3) .nil))) (.one 5) (.seq (.call "all_rows" (.cons (.bin .Mult (.v 2) (.v 3)) (.cons (.g "FLAGS" c_FLAGS) .nil)))) .none [5])) [.sh w1, .sh w2, .sh (.int p), .sh (.int c), .no, .no, .no, .no, .no, .no, .no, .no, .no] =
      .nxt [.sh w1, .sh w2, .sh (.int p), .sh (.int c), .own ((List.range n).map (tabD p c)), .no, .no, .no, .no, .no, .no, .no, .no]
  n3 : ∀ m w1 w2, evS (Phi T (m + 3)) 100 (.ex (.call "need" (.cons (.call "in_range" (.cons (.v 2) (.cons (.k (.int 2)) (.cons (.k (.int 3)) .nil)))) (.cons (.k (.int 3)) .nil)))) [.sh w1, .sh w2, .sh (.int p), .sh (.int c)] = .nxt [.sh w1, .sh w2, .sh (.int p), .sh (.int c)]
  n4 : ∀ m w1 w2, evS (Phi T (m + 3)) 100 (.ex (.call "need" (.cons (.call "in_range" (.cons (.v 3) (.cons (.k (.int 1)) (.cons (.k (.int 3)) .nil)))) (.cons (.k (.int 4)) .nil)))) [.sh w1, .sh w2, .sh (.int p), .sh (.int c)] = .nxt [.sh w1, .sh w2, .sh (.int p), .sh (.int c)]
section
variable {p c n : Nat} (S : Sz p c n)
include S
theorem Sz.shH {w t : Nat} (hw : w < 5) (ht : t < n) : SeqAt.shaped (hM p c w t) = true := by
  have := List.all_eq_true.mp S.t t (List.mem_range.mpr ht)
  rw [Bool.and_eq_true] at this
  exact List.all_eq_true.mp this.1 w (List.mem_range.mpr hw)
theorem Sz.shR {j i : Nat} (hj : j < n) (hi : i < p) : ixD (tabD p c j) (.int (i : Nat)) = some (rwD p c j i) ∧ SeqAt.shaped (rwD p c j i) = true := by
  have := List.all_eq_true.mp S.t j (List.mem_range.mpr hj)
  rw [Bool.and_eq_true] at this
  exact ⟨at_map (fun i => rwD p c j i) hi, List.all_eq_true.mp this.2 i (List.mem_range.mpr hi)⟩
theorem Sz.rH (m : Nat) {w t : Nat} (hw : w < 5) (ht : t < n) : (runDf (Phi T (m + 2)) d_heard).run [wy w, tabD p c t] = .ret (hM p c w t) [] :=
  sameR_eq (List.all_eq_true.mp (List.all_eq_true.mp (S.h m) w (List.mem_range.mpr hw)) t (List.mem_range.mpr ht))
theorem Sz.rS (m : Nat) {w t : Nat} (hw : w < 5) (ht : t < n) : (runDf (Phi T m) d__law_said).run [wy w, tabD p c t] = .ret (sD (hM p c w t)) [] :=
  sameR_eq (List.all_eq_true.mp (List.all_eq_true.mp (S.s m) w (List.mem_range.mpr hw)) t (List.mem_range.mpr ht))
theorem Sz.rF (m : Nat) {t : Nat} (ht : t < n) : (runDf (Phi T m) d__law_first).run [tabD p c t] = .ret (takenM p c (ansN p c t)) [] :=
  sameR_eq (List.all_eq_true.mp (S.f m) t (List.mem_range.mpr ht))
theorem Sz.rT (m : Nat) : (runDf (Phi T (m + 1)) d__law_tables).run [.int p, .int c] = .ret (.list ((List.range n).map (tabD p c))) [] := sameR_eq (S.tb m)
def R (p c n w1 w2 : Nat) : Option D := (List.range n).findSome? fun k => (rgD 0 p).findSome? (gP n (hM p c w1) (hM p c w2) (rwD p c) (tabD p c) k)
theorem Sz.by (m : Nat) {w1 w2 : Nat} (h1 : w1 < 5) (h2 : w2 < 5) : (runDf (Phi T (m + 3)) d_more_by).run [wy w1, wy w2, .int p, .int c] = optR (R p c n w1 w2) :=
  more_by_run S.hn S.hp (S.st _ _ _) (fun t ht => S.rH m h1 ht) (fun t ht => S.rH m h2 ht) (fun t ht => S.shH h1 ht) (fun t ht => S.shH h2 ht) fun j hj i hi => S.shR hj hi
theorem Sz.lparts (m : Nat) {w : Nat} (hw : w < 5) : (runDf (Phi T (m + 2)) d__law_parts).run [wy w, .int p, .int c] = .ret (.list ((List.range n).map fun t => .tuple [tabD p c t, hM p c w t])) [] :=
  parts_run (td := tabD p c) (sd := fun t => sD (hM p c w t)) (fd := fun t => takenM p c (ansN p c t)) S.hn (S.rT m) (fun t ht => S.rS (m + 1) hw ht) fun t ht => S.rF (m + 1) ht
theorem Sz.lmore (m : Nat) {w1 w2 : Nat} (h1 : w1 < 5) (h2 : w2 < 5) : (runDf (Phi T (m + 3)) d__law_more).run [wy w1, wy w2, .int p, .int c] = optR (R p c n w1 w2) := by
  rw [law_more_run (td := tabD p c) (rw := rwD p c) S.hn S.hp (S.lparts m h1) (S.lparts m h2) (fun t ht => S.shH h1 ht) (fun t ht => S.shH h2 ht) fun j hj i hi => S.shR hj hi, same_find]
  rfl
end
theorem need1 (m : Nat) {w : Nat} (hw : w < 5) (x1 x2 x3 : Sl) : evS (Phi T (m + 2)) 100 (.ex (.call "need" (.cons (.call "way_form" (.cons (.v 0) .nil)) (.cons (.k (.int 1)) .nil)))) [.sh (wy w), x1, x2, x3] = .nxt [.sh (wy w), x1, x2, x3] := by
  match w, hw with
  | 0, _ => rfl
  | 1, _ => rfl
  | 2, _ => rfl
  | 3, _ => rfl
  | 4, _ => rfl
theorem need2 (m : Nat) {w : Nat} (hw : w < 5) (x1 x2 x3 : Sl) : evS (Phi T (m + 2)) 100 (.ex (.call "need" (.cons (.call "way_form" (.cons (.v 1) .nil)) (.cons (.k (.int 2)) .nil)))) [x1, .sh (wy w), x2, x3] = .nxt [x1, .sh (wy w), x2, x3] := by
  match w, hw with
  | 0, _ => rfl
  | 1, _ => rfl
  | 2, _ => rfl
  | 3, _ => rfl
  | 4, _ => rfl
def optD : Option D → D
  | some d => d
  | none => .none
theorem optR_eq (o : Option D) : optR o = .ret (optD o) [] := by cases o <;> rfl
section
variable {p c n : Nat} (S : Sz p c n)
include S
theorem Sz.shown (m : Nat) {w1 w2 : Nat} (h1 : w1 < 5) (h2 : w2 < 5) : (runDf (Phi T (m + 4)) d_more_shown).run [wy w1, wy w2, .int p, .int c] = .ret (optD (R p c n w1 w2)) [] := by
  have e : evE (Phi T (m + 4)) (.call "more_by" (.cons (.v 0) (.cons (.v 1) (.cons (.v 2) (.cons (.v 3) .nil))))) [.sh (wy w1), .sh (wy w2), .sh (.int p), .sh (.int c)] = .ok (.now (optD (R p c n w1 w2))) [.sh (wy w1), .sh (wy w2), .sh (.int p), .sh (.int c)] :=
    callN (fs := runDf (Phi T (m + 3)) d_more_by) rfl rfl rfl rfl rfl ((S.by m h1 h2).trans (optR_eq _))
  show frR (evSs (Phi T (m + 4)) 100 b_more_shown [.sh (wy w1), .sh (wy w2), .sh (.int p), .sh (.int c)]) = _
  rw [b_more_shown, seq_nxt (need1 (m + 2) h1 _ _ _), seq_nxt (need2 (m + 2) h2 _ _ _), seq_nxt (S.n3 (m + 1) _ _), seq_nxt (S.n4 (m + 1) _ _), seq_ret (ret_now e)]
  rfl
theorem Sz.less (m : Nat) {w1 w2 : Nat} (h1 : w1 < 5) (h2 : w2 < 5) : (runDf (Phi T (m + 5)) d_less).run [wy w1, wy w2, .int p, .int c] = .ret (.bool (isNone (optD (R p c n w1 w2)))) [] := by
  have e : evE (Phi T (m + 5)) (.call "more_shown" (.cons (.v 0) (.cons (.v 1) (.cons (.v 2) (.cons (.v 3) .nil))))) [.sh (wy w1), .sh (wy w2), .sh (.int p), .sh (.int c)] = .ok (.now (optD (R p c n w1 w2))) [.sh (wy w1), .sh (wy w2), .sh (.int p), .sh (.int c)] :=
    callN (fs := runDf (Phi T (m + 4)) d_more_shown) rfl rfl rfl rfl rfl (S.shown m h1 h2)
  show frR (evSs (Phi T (m + 5)) 100 b_less [.sh (wy w1), .sh (wy w2), .sh (.int p), .sh (.int c)]) = _
  rw [b_less, seq_ret (ret_now (is_none e))]
  rfl
/-- what is found is one of the tables and a person -/
theorem Sz.found {w1 w2 : Nat} : R p c n w1 w2 = none ∨ ∃ k i, k < n ∧ i < p ∧ R p c n w1 w2 = some (.tuple [tabD p c k, .int (i : Nat)]) := by
  cases e : R p c n w1 w2 with
  | none => exact .inl rfl
  | some d =>
    right
    obtain ⟨k, hk, e2⟩ := List.exists_of_findSome?_eq_some e
    obtain ⟨x, hx, e3⟩ := List.exists_of_findSome?_eq_some e2
    obtain ⟨i, hi, rfl⟩ := rgD_mem hx
    have e3 : (if (List.range n).any (hit (hM p c w1) (hM p c w2) (rwD p c) k i) then some (PyData.tuple [tabD p c k, .int (i : Nat)]) else none) = some d := e3
    split at e3
    · cases e3
      exact ⟨k, i, List.mem_range.mp hk, hi, rfl⟩
    · cases e3
theorem Sz.none_of {w1 w2 : Nat} (h : ∀ k < n, ∀ j < n, hit2 (hM p c w1) (hM p c w2) k j = false) : R p c n w1 w2 = none := by
  refine List.findSome?_eq_none_iff.mpr fun k hk => ?_
  have hk := List.mem_range.mp hk
  refine List.findSome?_eq_none_iff.mpr fun x hx => ?_
  obtain ⟨i, hi, rfl⟩ := rgD_mem hx
  show (if (List.range n).any (hit (hM p c w1) (hM p c w2) (rwD p c) k i) then some (PyData.tuple [tabD p c k, .int (i : Nat)]) else none) = none
  rw [if_neg]
  intro z
  obtain ⟨j, hj, q⟩ := List.any_eq_true.mp z
  have : hit (hM p c w1) (hM p c w2) (rwD p c) k i j = false := by
    unfold hit
    rw [h k hk j (List.mem_range.mp hj)]
    rfl
  rw [this] at q
  cases q
theorem Sz.self {w : Nat} : R p c n w w = none := S.none_of fun k _ j _ => by
  unfold hit2
  cases PyData.eqv (hM p c w j) (hM p c w k) <;> rfl
theorem Sz.chain : R p c n 2 1 = none := S.none_of fun k hk j hj => by
  have := List.all_eq_true.mp (List.all_eq_true.mp S.ch j (List.mem_range.mpr hj)) k (List.mem_range.mpr hk)
  simpa using this
theorem Sz.opened {w : Nat} (hw : w < 5) : R p c n w 0 = none := S.none_of fun k hk j hj => by
  have := List.all_eq_true.mp (List.all_eq_true.mp S.o j (List.mem_range.mpr hj)) k (List.mem_range.mpr hk)
  unfold hit2
  by_cases e : j = k
  · subst e
    have r := List.all_eq_true.mp (List.all_eq_true.mp S.r w (List.mem_range.mpr hw)) j (List.mem_range.mpr hj)
    rw [r]
    simp
  · have : PyData.eqv (hM p c 0 j) (hM p c 0 k) = false := by
      have e' : (j == k) = false := by simpa using e
      rw [e', Bool.false_or] at this
      simpa using this
    rw [this]
    rfl
theorem Sz.sealed {w : Nat} : R p c n 4 w = none := S.none_of fun k hk j hj => by
  unfold hit2
  have e1 : PyData.eqv (hM p c 4 j) (hM p c 4 k) = PyData.eqv (takenM p c (ansN p c j)) (takenM p c (ansN p c k)) := by
    show PyData.eqv (.tuple [.tuple [], takenM p c (ansN p c j)]) (.tuple [.tuple [], takenM p c (ansN p c k)]) = _
    simp [PyData.eqv, PyData.eqvAll]
  have e2 : PyData.eqv (hM p c w j) (hM p c w k) = true → PyData.eqv (takenM p c (ansN p c j)) (takenM p c (ansN p c k)) = true := by
    intro z
    unfold hM heardM at z
    simp [PyData.eqv, PyData.eqvAll] at z
    exact z.2
  rw [e1]
  cases q : PyData.eqv (hM p c w j) (hM p c w k) with
  | false => rfl
  | true => rw [e2 q]; rfl
end
end K14

set_option Elab.async false
set_option linter.all false
set_option maxRecDepth 100000
set_option maxHeartbeats 0
namespace K14
open PySem PyE L2
section
variable {p c n : Nat} (S : Sz p c n)
include S
theorem Sz.same (m : Nat) {w1 w2 : Nat} : (runDf (Phi T (m + 4)) d__law_same).run [optD (R p c n w1 w2), optD (R p c n w1 w2)] = .ret (.bool true) [] := by
  rcases S.found (w1 := w1) (w2 := w2) with e | ⟨k, i, hk, hi, e⟩
  · rw [e]
    rfl
  · rw [e]
    exact sameR_eq (List.all_eq_true.mp (List.all_eq_true.mp (S.sm m) k (List.mem_range.mpr hk)) i (List.mem_range.mpr hi))
end
theorem same_b (m : Nat) (b : Bool) : (runDf (Phi T (m + 4)) d__law_same).run [.bool b, .bool b] = .ret (.bool true) [] := by
  cases b <;> rfl
def ways : D := .tuple [wy 0, wy 1, wy 2, wy 3, wy 4]
def tailR : ISs := (.cons (.asg 6 (.call "_law_more" (.cons (.v 2) (.cons (.v 3) (.cons (.v 4) (.cons (.v 5) .nil)))))) (.cons (.ite (.or (.nt (.call "_law_same" (.cons (.call "more_shown" (.cons (.v 2) (.cons (.v 3) (.cons (.v 4) (.cons (.v 5) .nil))))) (.cons (.v 6) .nil)))) (.nt (.call "_law_same" (.cons (.call "less" (.cons (.v 2) (.cons (.v 3) (.cons (.v 4) (.cons (.v 5) .nil))))) (.cons (.cmp .Is (.v 6) (.k .none)) .nil))))) (.cons (.ret (.k (.bool false))) .nil) .nil) (.cons (.ite (.or (.cmp .IsNot (.call "less" (.cons (.k (.str "sealed")) (.cons (.v 3) (.cons (.v 4) (.cons (.v 5) .nil))))) (.k (.bool true))) (.cmp .IsNot (.call "less" (.cons (.v 2) (.cons (.k (.str "open")) (.cons (.v 4) (.cons (.v 5) .nil))))) (.k (.bool true)))) (.cons (.ret (.k (.bool false))) .nil) .nil) (.cons (.ret (.and (.cmp .Is (.call "less" (.cons (.v 2) (.cons (.v 2) (.cons (.v 4) (.cons (.v 5) .nil))))) (.k (.bool true))) (.cmp .Is (.call "less" (.cons (.k (.str "chain")) (.cons (.k (.str "rounds")) (.cons (.v 4) (.cons (.v 5) .nil))))) (.k (.bool true))))) .nil))))
theorem tail_run {p c n : Nat} (S : Sz p c n) {x y : Nat} (hx : x < 5) (hy : y < 5) (a0 a1 : Sl) :
    ∃ e, evSs (Phi T 10) 100 tailR [a0, a1, .sh (wy x), .sh (wy y), .sh (.int p), .sh (.int c), .no] = .ret (.bool true) e := by
  have m1 : evE (Phi T 10) (.call "_law_more" (.cons (.v 2) (.cons (.v 3) (.cons (.v 4) (.cons (.v 5) .nil))))) [a0, a1, .sh (wy x), .sh (wy y), .sh (.int p), .sh (.int c), .no] = .ok (.now (optD (R p c n x y))) [a0, a1, .sh (wy x), .sh (wy y), .sh (.int p), .sh (.int c), .no] :=
    callN (fs := runDf (Phi T 9) d__law_more) rfl rfl rfl rfl rfl ((S.lmore 6 hx hy).trans (optR_eq _))
  have s1 : evS (Phi T 10) 100 (.asg 6 (.call "_law_more" (.cons (.v 2) (.cons (.v 3) (.cons (.v 4) (.cons (.v 5) .nil)))))) [a0, a1, .sh (wy x), .sh (wy y), .sh (.int p), .sh (.int c), .no] = .nxt [a0, a1, .sh (wy x), .sh (wy y), .sh (.int p), .sh (.int c), .sh (optD (R p c n x y))] :=
    asg_now m1 (x := .no) rfl rfl
  have m2 : evE (Phi T 10) (.call "more_shown" (.cons (.v 2) (.cons (.v 3) (.cons (.v 4) (.cons (.v 5) .nil))))) [a0, a1, .sh (wy x), .sh (wy y), .sh (.int p), .sh (.int c), .sh (optD (R p c n x y))] = .ok (.now (optD (R p c n x y))) [a0, a1, .sh (wy x), .sh (wy y), .sh (.int p), .sh (.int c), .sh (optD (R p c n x y))] :=
    callN (fs := runDf (Phi T 9) d_more_shown) rfl rfl rfl rfl rfl (S.shown 5 hx hy)
  have m3 : evE (Phi T 10) (.call "_law_same" (.cons (.call "more_shown" (.cons (.v 2) (.cons (.v 3) (.cons (.v 4) (.cons (.v 5) .nil))))) (.cons (.v 6) .nil))) [a0, a1, .sh (wy x), .sh (wy y), .sh (.int p), .sh (.int c), .sh (optD (R p c n x y))] = .ok (.now (.bool true)) [a0, a1, .sh (wy x), .sh (wy y), .sh (.int p), .sh (.int c), .sh (optD (R p c n x y))] :=
    callN (fs := runDf (Phi T 9) d__law_same) rfl (es_cons m2 rfl) rfl rfl rfl (S.same 5)
  have m4 : ∀ {e : IE} {w1 w2 : Nat}, evEs (Phi T 10) (.cons e (.cons (.v 3) (.cons (.v 4) (.cons (.v 5) .nil)))) [a0, a1, .sh (wy x), .sh (wy y), .sh (.int p), .sh (.int c), .sh (optD (R p c n x y))] = .ok [.now (wy w1), .now (wy w2), .now (.int p), .now (.int c)] [a0, a1, .sh (wy x), .sh (wy y), .sh (.int p), .sh (.int c), .sh (optD (R p c n x y))] → w1 < 5 → w2 < 5 →
      evE (Phi T 10) (.call "less" (.cons e (.cons (.v 3) (.cons (.v 4) (.cons (.v 5) .nil))))) [a0, a1, .sh (wy x), .sh (wy y), .sh (.int p), .sh (.int c), .sh (optD (R p c n x y))] = .ok (.now (.bool (isNone (optD (R p c n w1 w2))))) [a0, a1, .sh (wy x), .sh (wy y), .sh (.int p), .sh (.int c), .sh (optD (R p c n x y))] :=
    fun h h1 h2 => callN (fs := runDf (Phi T 9) d_less) rfl h rfl rfl rfl (S.less 4 h1 h2)
  have l1 := m4 (e := .v 2) (w1 := x) (w2 := y) rfl hx hy
  have m5 : evE (Phi T 10) (.call "_law_same" (.cons (.call "less" (.cons (.v 2) (.cons (.v 3) (.cons (.v 4) (.cons (.v 5) .nil))))) (.cons (.cmp .Is (.v 6) (.k .none)) .nil))) [a0, a1, .sh (wy x), .sh (wy y), .sh (.int p), .sh (.int c), .sh (optD (R p c n x y))] = .ok (.now (.bool true)) [a0, a1, .sh (wy x), .sh (wy y), .sh (.int p), .sh (.int c), .sh (optD (R p c n x y))] :=
    callN (fs := runDf (Phi T 9) d__law_same) rfl (es_cons l1 (es_cons (is_none (d := optD (R p c n x y)) rfl) rfl)) rfl rfl rfl (same_b 5 _)
  have i1 := tst ((or_f (nt_now m3)).trans (nt_now m5))
  have l2 := m4 (e := .k (.str "sealed")) (w1 := 4) (w2 := y) rfl (by decide) hy
  rw [S.sealed (w := y)] at l2
  have l3 : evE (Phi T 10) (.call "less" (.cons (.v 2) (.cons (.k (.str "open")) (.cons (.v 4) (.cons (.v 5) .nil))))) [a0, a1, .sh (wy x), .sh (wy y), .sh (.int p), .sh (.int c), .sh (optD (R p c n x y))] = .ok (.now (.bool true)) [a0, a1, .sh (wy x), .sh (wy y), .sh (.int p), .sh (.int c), .sh (optD (R p c n x y))] := by
    have q := S.less 4 hx (show 0 < 5 by decide)
    rw [S.opened (w := x) hx] at q
    exact callN (fs := runDf (Phi T 9) d_less) rfl rfl rfl rfl rfl q
  have i2 := tst ((or_f (isN_true l2)).trans (isN_true l3))
  have l4 : evE (Phi T 10) (.call "less" (.cons (.v 2) (.cons (.v 2) (.cons (.v 4) (.cons (.v 5) .nil))))) [a0, a1, .sh (wy x), .sh (wy y), .sh (.int p), .sh (.int c), .sh (optD (R p c n x y))] = .ok (.now (.bool true)) [a0, a1, .sh (wy x), .sh (wy y), .sh (.int p), .sh (.int c), .sh (optD (R p c n x y))] := by
    have q := S.less 4 hx hx
    rw [S.self (w := x)] at q
    exact callN (fs := runDf (Phi T 9) d_less) rfl rfl rfl rfl rfl q
  have l5 : evE (Phi T 10) (.call "less" (.cons (.k (.str "chain")) (.cons (.k (.str "rounds")) (.cons (.v 4) (.cons (.v 5) .nil))))) [a0, a1, .sh (wy x), .sh (wy y), .sh (.int p), .sh (.int c), .sh (optD (R p c n x y))] = .ok (.now (.bool true)) [a0, a1, .sh (wy x), .sh (wy y), .sh (.int p), .sh (.int c), .sh (optD (R p c n x y))] := by
    have q := S.less 4 (show 2 < 5 by decide) (show 1 < 5 by decide)
    rw [S.chain] at q
    exact callN (fs := runDf (Phi T 9) d_less) rfl rfl rfl rfl rfl q
  refine ⟨[a0, a1, .sh (wy x), .sh (wy y), .sh (.int p), .sh (.int c), .sh (optD (R p c n x y))], ?_⟩
  rw [tailR, seq_nxt s1, seq_nxt ((ite_f i1).trans rfl), seq_nxt ((ite_f i2).trans rfl)]
  exact seq_ret (ret_now ((and_t (is_true l4)).trans (is_true l5)))
/-! ### the sizes -/
theorem sz21 : Sz 2 1 4 := ⟨by decide, by decide, rfl, okT_21, okO_21, okC_21, okR_21, fun m => okH_21 m, fun m => okS_21 m, fun m => okF_21 m, fun m => okTb_21 m, fun m => okSm_21 m, fun m w1 w2 => tb_21 m w1 w2, fun _ _ _ => rfl, fun _ _ _ => rfl⟩
theorem sz22 : Sz 2 2 16 := ⟨by decide, by decide, rfl, okT_22, okO_22, okC_22, okR_22, fun m => okH_22 m, fun m => okS_22 m, fun m => okF_22 m, fun m => okTb_22 m, fun m => okSm_22 m, fun m w1 w2 => tb_22 m w1 w2, fun _ _ _ => rfl, fun _ _ _ => rfl⟩
theorem sz23 : Sz 2 3 64 := ⟨by decide, by decide, rfl, okT_23, okO_23, okC_23, okR_23, fun m => okH_23 m, fun m => okS_23 m, fun m => okF_23 m, fun m => okTb_23 m, fun m => okSm_23 m, fun m w1 w2 => tb_23 m w1 w2, fun _ _ _ => rfl, fun _ _ _ => rfl⟩
theorem sz31 : Sz 3 1 8 := ⟨by decide, by decide, rfl, okT_31, okO_31, okC_31, okR_31, fun m => okH_31 m, fun m => okS_31 m, fun m => okF_31 m, fun m => okTb_31 m, fun m => okSm_31 m, fun m w1 w2 => tb_31 m w1 w2, fun _ _ _ => rfl, fun _ _ _ => rfl⟩
theorem sz32 : Sz 3 2 64 := ⟨by decide, by decide, rfl, okT_32, okO_32, okC_32, okR_32, fun m => okH_32 m, fun m => okS_32 m, fun m => okF_32 m, fun m => okTb_32 m, fun m => okSm_32 m, fun m w1 w2 => tb_32 m w1 w2, fun _ _ _ => rfl, fun _ _ _ => rfl⟩
theorem mod5 (a : Int) : ∃ x : Nat, x < 5 ∧ a % 5 = (x : Int) := ⟨(a % 5).toNat, by omega, by omega⟩
theorem way_at {x : Nat} (h : x < 5) : ixD ways (.int (x : Nat)) = some (wy x) := by
  match x, h with
  | 0, _ => rfl
  | 1, _ => rfl
  | 2, _ => rfl
  | 3, _ => rfl
  | 4, _ => rfl
def szs : D := .list [.tuple [.int 2, .int 1], .tuple [.int 2, .int 2], .tuple [.int 2, .int 3], .tuple [.int 3, .int 1], .tuple [.int 3, .int 2]]
theorem size_at {z : Nat} (h : z < 5) : ∃ p c n : Nat, Sz p c n ∧ ixD szs (.int (z : Nat)) = some (.tuple [.int p, .int c]) := by
  match z, h with
  | 0, _ => exact ⟨2, 1, 4, sz21, rfl⟩
  | 1, _ => exact ⟨2, 2, 16, sz22, rfl⟩
  | 2, _ => exact ⟨2, 3, 64, sz23, rfl⟩
  | 3, _ => exact ⟨3, 1, 8, sz31, rfl⟩
  | 4, _ => exact ⟨3, 2, 64, sz32, rfl⟩
theorem run_ok (a b c : Int) : (runDf (Phi T 10) d__law_run).run [.list [.int a, .int b, .int c]] = .ret (.bool true) [] := by
  obtain ⟨x, hx, ex⟩ := mod5 a
  obtain ⟨y, hy, ey⟩ := mod5 b
  obtain ⟨z, hz, ez⟩ := mod5 c
  obtain ⟨pp, cc, n, S, e4⟩ := size_at hz
  have hw1 := way_at hx
  have hw2 := way_at hy
  have g0 : ixD (.list [.int a, .int b, .int c]) (.int 0) = some (.int a) := rfl
  have g1 : ixD (.list [.int a, .int b, .int c]) (.int 1) = some (.int b) := rfl
  have g2 : ixD (.list [.int a, .int b, .int c]) (.int 2) = some (.int c) := rfl
  have s1 : evS (Phi T 10) 100 (.asg 1 (.call "_law_hearings" .nil)) [.sh (.list [.int a, .int b, .int c]), .no, .no, .no, .no, .no, .no] = .nxt [.sh (.list [.int a, .int b, .int c]), .sh ways, .no, .no, .no, .no, .no] := rfl
  have s2 : evS (Phi T 10) 100 (.asg 2 (.ix (.v 1) (.bin .Mod (.bf .int (.cons (.ix (.v 0) (.k (.int 0))) .nil)) (.k (.int 5))))) [.sh (.list [.int a, .int b, .int c]), .sh ways, .no, .no, .no, .no, .no] = .nxt [.sh (.list [.int a, .int b, .int c]), .sh ways, .sh (wy x), .no, .no, .no, .no] := by
    simp [evS, evE, evEs, Rs.toF, Rs.bind, Rs.opt, look, looks, bfD, binD, putW, putS, keepF, g0, ex, hw1]
  have s3 : evS (Phi T 10) 100 (.asg 3 (.ix (.v 1) (.bin .Mod (.bf .int (.cons (.ix (.v 0) (.k (.int 1))) .nil)) (.k (.int 5))))) [.sh (.list [.int a, .int b, .int c]), .sh ways, .sh (wy x), .no, .no, .no, .no] = .nxt [.sh (.list [.int a, .int b, .int c]), .sh ways, .sh (wy x), .sh (wy y), .no, .no, .no] := by
    simp [evS, evE, evEs, Rs.toF, Rs.bind, Rs.opt, look, looks, bfD, binD, putW, putS, keepF, g1, ey, hw2]
  have s4 : evS (Phi T 10) 100 (.asgT [4, 5] (.ix (.lst (.cons (.tup (.cons (.k (.int 2)) (.cons (.k (.int 1)) .nil))) (.cons (.tup (.cons (.k (.int 2)) (.cons (.k (.int 2)) .nil))) (.cons (.tup (.cons (.k (.int 2)) (.cons (.k (.int 3)) .nil))) (.cons (.tup (.cons (.k (.int 3)) (.cons (.k (.int 1)) .nil))) (.cons (.tup (.cons (.k (.int 3)) (.cons (.k (.int 2)) .nil))) .nil)))))) (.bin .Mod (.bf .int (.cons (.ix (.v 0) (.k (.int 2))) .nil)) (.k (.int 5))))) [.sh (.list [.int a, .int b, .int c]), .sh ways, .sh (wy x), .sh (wy y), .no, .no, .no] =
      .nxt [.sh (.list [.int a, .int b, .int c]), .sh ways, .sh (wy x), .sh (wy y), .sh (.int pp), .sh (.int cc), .no] := by
    unfold szs at e4
    simp [evS, evE, evEs, Rs.toF, Rs.bind, Rs.opt, look, looks, bfD, binD, putT, putN, putS, keepF, keepN, szOk, g2, ez, e4]
  obtain ⟨e, t⟩ := tail_run S hx hy (.sh (.list [.int a, .int b, .int c])) (.sh ways)
  show frR (evSs (Phi T 10) 100 b__law_run [.sh (.list [.int a, .int b, .int c]), .no, .no, .no, .no, .no, .no]) = _
  rw [b__law_run, seq_nxt s1, seq_nxt s2, seq_nxt s3, seq_nxt s4]
  exact congrArg frR t
end K14

set_option Elab.async false
set_option maxRecDepth 100000
set_option maxHeartbeats 0
namespace K14
open PySem PyE L2
local macro_rules | `(tactic| walk_at "ev") => `(tactic| simp [evSs, evS, evE, evEs, evO, evC, evI, evT, putW, putS, putT, putN, keepF, keepN, binD, cmpD, truD, truR, look, looks, bfD, ixD, slD, Rs.toF, Rs.bind, FR.bind, Rs.opt, szOk, isMine, appK, setK, rgD, forL, powOk, divOk, log9, frR, isTy, callK, lcStep, wipeE, *])
theorem draws_tail (Φ : Fns) (s : D) (p cell : Int) : ∃ a b c, (match b__law_draws with
  | .cons _ r => frR (evSs Φ 100 r [.sh s, .sh (.int p), .sh (.int 3), .sh (.int cell), .no, .no, .no, .no])
  | _ => .stuck) = .ret (.list [.int a, .int b, .int c]) [] := by
  unfold b__law_draws
  have r3 := rOk3
  obtain ⟨m1, m2, m3, m4, m5, m6⟩ := mulDraw
  have g3 := range3
  by_cases h : (1000000000000000000 : Int) ≤ cell
  · walk_at "ev"
  · walk_at "ev"
theorem draws_head (Φ : Fns) (ns : List Int) (k : Nat) : ∃ cell : Int, (match b__law_draws with
  | .cons a _ => (evS Φ 100 a (env0 N__law_draws [.list (ns.map .int), .int k, .int 3]))
  | _ => .stuck) = .nxt [.sh (.list (ns.map .int)), .sh (.int k), .sh (.int 3), .sh (.int cell), .no, .no, .no, .no] := by
  unfold b__law_draws env0 N__law_draws
  obtain ⟨m1, m2, m3, m4, m5, m6⟩ := mulDraw
  by_cases h : k < ns.length
  · have q := at_ints h
    refine ⟨ns[k], ?_⟩
    walk_at "ev"
  · walk_at "ev"
theorem draws (Φ : Fns) (ns : List Int) (k : Nat) : ∃ a b c, (runDf Φ d__law_draws).run [.list (ns.map .int), .int k, .int 3] = .ret (.list [.int a, .int b, .int c]) [] := by
  obtain ⟨cell, h⟩ := draws_head Φ ns k
  obtain ⟨a, b, c, h2⟩ := draws_tail Φ (.list (ns.map .int)) k cell
  refine ⟨a, b, c, ?_⟩
  rw [← h2]
  show frR ((evS Φ 100 _ _).bind _) = _
  exact congrArg (fun r : FR => frR (r.bind _)) h
end K14

set_option Elab.async false
set_option linter.all false
set_option maxRecDepth 100000
set_option maxHeartbeats 0
namespace K14
open PySem PyE L2
def bRun : ISs := (.cons (.ite (.nt (.call "_law_run" (.cons (.call "_law_draws" (.cons (.v 0) (.cons (.v 1) (.cons (.k (.int 3)) .nil)))) .nil))) (.cons (.ret (.k (.bool false))) .nil) .nil) .nil)
theorem first_loop (ns : List Int) : ∃ e, evS (Phi T 11) 100 (.for_ (.one 1) (.r1 (.k (.int 3))) bRun) [.sh (.list (ns.map .int)), .no, .no] = .nxt e ∧ ∃ x1, e = [.sh (.list (ns.map .int)), x1, .no] := by
  have hI : evI (Phi T 11) (.r1 (.k (.int 3))) [.sh (.list (ns.map .int)), .no, .no] = .ok (rgD 0 3) [.sh (.list (ns.map .int)), .no, .no] := rfl
  rw [for_eq hI]
  have key := forL_find (g := fun _ => (none : Option D)) (P := fun env => ∃ x1, nb x1 = true ∧ env = [.sh (.list (ns.map .int)), x1, .no]) (xs := rgD 0 3) (env := [.sh (.list (ns.map .int)), .no, .no]) ⟨.no, rfl, rfl⟩
    (f := fun x e => match putT e (.one 1) x with
      | some e2 => evSs (Phi T 11) 100 bRun e2
      | none => .stuck) (fun x hx env he => by
      obtain ⟨k, hk, rfl⟩ := rgD_mem hx
      obtain ⟨x1, b1, rfl⟩ := he
      refine .inr ⟨rfl, [.sh (.list (ns.map .int)), .sh (.int (k : Nat)), .no], ?_, .sh (.int (k : Nat)), rfl, rfl⟩
      have ep : putT [.sh (.list (ns.map .int)), x1, .no] (.one 1) (.int (k : Nat)) = some [.sh (.list (ns.map .int)), .sh (.int (k : Nat)), .no] := putS_nb (x := x1) rfl b1
      simp only [ep]
      obtain ⟨a, b, c, hd⟩ := draws (Phi T 10) ns k
      have e1 : evE (Phi T 11) (.call "_law_draws" (.cons (.v 0) (.cons (.v 1) (.cons (.k (.int 3)) .nil)))) [.sh (.list (ns.map .int)), .sh (.int (k : Nat)), .no] = .ok (.now (.list [.int a, .int b, .int c])) [.sh (.list (ns.map .int)), .sh (.int (k : Nat)), .no] :=
        callN (fs := runDf (Phi T 10) d__law_draws) rfl rfl rfl rfl rfl hd
      have e2 : evE (Phi T 11) (.call "_law_run" (.cons (.call "_law_draws" (.cons (.v 0) (.cons (.v 1) (.cons (.k (.int 3)) .nil)))) .nil)) [.sh (.list (ns.map .int)), .sh (.int (k : Nat)), .no] = .ok (.now (.bool true)) [.sh (.list (ns.map .int)), .sh (.int (k : Nat)), .no] :=
        callN (fs := runDf (Phi T 10) d__law_run) rfl (es_cons e1 rfl) rfl rfl rfl (run_ok a b c)
      rw [bRun, seq_nxt ((ite_f (tst (nt_now e2))).trans rfl)]
      rfl)
  rcases key with ⟨d, q, _⟩ | ⟨_, e, q, x1, _, rfl⟩
  · have : (rgD 0 3).findSome? (fun _ => (none : Option D)) = none := rfl
    rw [this] at q
    cases q
  · exact ⟨_, q, x1, rfl⟩
def sRef : IS := .for_ (.one 2) (.seq (.lst (.cons (.tup (.cons (.tup (.cons (.k (.str "x")) (.cons (.k (.str "open")) (.cons (.k (.int 2)) (.cons (.k (.int 1)) .nil))))) (.cons (.k (.int 1)) .nil))) (.cons (.tup (.cons (.tup (.cons (.k (.str "open")) (.cons (.k (.int 4)) (.cons (.k (.int 2)) (.cons (.k (.int 1)) .nil))))) (.cons (.k (.int 2)) .nil))) (.cons (.tup (.cons (.tup (.cons (.k (.str "open")) (.cons (.k (.str "open")) (.cons (.k (.int 1)) (.cons (.k (.int 1)) .nil))))) (.cons (.k (.int 3)) .nil))) (.cons (.tup (.cons (.tup (.cons (.k (.str "open")) (.cons (.k (.str "open")) (.cons (.k (.int 4)) (.cons (.k (.int 1)) .nil))))) (.cons (.k (.int 3)) .nil))) (.cons (.tup (.cons (.tup (.cons (.k (.str "open")) (.cons (.k (.str "open")) (.cons (.k (.int 2)) (.cons (.k (.int 0)) .nil))))) (.cons (.k (.int 4)) .nil))) (.cons (.tup (.cons (.tup (.cons (.k (.str "open")) (.cons (.k (.str "open")) (.cons (.k (.int 2)) (.cons (.k (.int 4)) .nil))))) (.cons (.k (.int 4)) .nil))) .nil)))))))) (.cons (.ite (.nt (.call "_law_refused" (.cons (.ix (.v 2) (.k (.int 0))) (.cons (.ix (.v 2) (.k (.int 1))) .nil)))) (.cons (.ret (.k (.bool false))) .nil) .nil) .nil)
theorem second_loop (s x1 : Sl) : evS (Phi T 11) 100 sRef [s, x1, .no] = .nxt [s, x1, .sh (.tuple [.tuple [.str "open", .str "open", .int 2, .int 4], .int 4])] := by kernel_rfl
def sEnd : IS := .ret (.call "_law_same" (.cons (.call "more_shown" (.cons (.k (.str "open")) (.cons (.k (.str "sealed")) (.cons (.k (.int 2)) (.cons (.k (.int 1)) .nil))))) (.cons (.tup (.cons (.tup (.cons (.tup (.cons (.k (.bool false)) .nil)) (.cons (.tup (.cons (.k (.bool false)) .nil)) .nil))) (.cons (.k (.int 0)) .nil))) .nil)))
theorem end_ret (s x1 x2 : Sl) : evS (Phi T 11) 100 sEnd [s, x1, x2] = .ret (.bool true) [s, x1, x2] := by kernel_rfl
theorem plain : ∀ ns : List Int, ns.length ≤ 63 → ∃ b, (runDf (Phi T 11) d_law).run [.list (ns.map .int)] = .ret (.bool true) b := by
  intro ns _
  obtain ⟨e, h1, x1, rfl⟩ := first_loop ns
  refine ⟨[], ?_⟩
  show frR (evSs (Phi T 11) 100 (.cons (.for_ (.one 1) (.r1 (.k (.int 3))) bRun) (.cons sRef (.cons sEnd .nil))) [.sh (.list (ns.map .int)), .no, .no]) = _
  rw [seq_nxt h1, seq_nxt (second_loop _ _), seq_ret (end_ret _ _ _)]
  rfl
end K14

set_option Elab.async false
set_option maxRecDepth 100000
set_option maxHeartbeats 0
open PySem PySem.W PyProof.Rows
set_option maxRecDepth 100000 in
set_option maxHeartbeats 0 in
theorem PySem.Challenge.cw_suitday_k14_ways_that_tell_less_holds : PySem.Challenge.rw_suitday_k14_ways_that_tell_less.Holds := by
  w_on; o_law; k_head; (case hw => w_witness2)
  k_fill
  refine PyE.walk (l := PySem.Challenge.rw_suitday_k14_ways_that_tell_less) (m := 11) rfl rfl ⟨rfl, by decide, by decide⟩ (fun w h Y => PySem.W.kIn_of Y) ?F
  case F =>
    intro w mg fa h KX G hmg0
    have hmg : mg ("law" : PySem.Str) = some (.ref fa) := hmg0
    clear hmg0
    refine' PyE.law_fn (P := PySem.Challenge.rw_suitday_k14_ways_that_tell_less.prog) (w := w) (T := K14.T) (con := K14.con) (m := 11) (d := K14.d_law) (PyE.TopOk.mk ?t1 ?t4 ?t2 ?t3) (by simp [K14.T]) rfl hmg rfl K14.plain
    case t1 =>
      refine' (PyE.all_cons ?e0 (PyE.all_cons ?e1 (PyE.all_cons ?e2 (PyE.all_cons ?e3 (PyE.all_cons ?e4 (PyE.all_cons ?e5 (PyE.all_cons ?e6 (PyE.all_cons ?e7 (PyE.all_cons ?e8 (PyE.all_cons ?e9 (PyE.all_cons ?e10 (PyE.all_cons ?e11 (PyE.all_cons ?e12 (PyE.all_cons ?e13 (PyE.all_cons ?e14 (PyE.all_cons ?e15 (PyE.all_cons ?e16 (PyE.all_cons ?e17 (PyE.all_cons ?e18 (PyE.all_cons ?e19 (PyE.all_cons ?e20 (PyE.all_cons ?e21 (PyE.all_cons ?e22 (PyE.all_cons ?e23 (PyE.all_cons ?e24 PyE.all_nil)))))))))))))))))))))))))
      (case e0 => (refine' PyE.df_ok (x := "is_int") (st := K14.top 4) KX G rfl ?a ?l ?c ?k K14.bnd_is_int K14.scp_is_int K14.chk_is_int (by decide)); (case a => k_is); (case l => k_is); (case c => k_is); (case k => k_is))
      (case e1 => (refine' PyE.df_ok (x := "in_range") (st := K14.top 5) KX G rfl ?a ?l ?c ?k K14.bnd_in_range K14.scp_in_range K14.chk_in_range (by decide)); (case a => k_is); (case l => k_is); (case c => k_is); (case k => k_is))
      (case e2 => (refine' PyE.df_ok (x := "need") (st := K14.top 6) KX G rfl ?a ?l ?c ?k K14.bnd_need K14.scp_need K14.chk_need (by decide)); (case a => k_is); (case l => k_is); (case c => k_is); (case k => k_is))
      (case e3 => (refine' PyE.df_ok (x := "all_rows") (st := K14.top 8) KX G rfl ?a ?l ?c ?k K14.bnd_all_rows K14.scp_all_rows K14.chk_all_rows (by decide)); (case a => k_is); (case l => k_is); (case c => k_is); (case k => k_is))
      (case e4 => (refine' PyE.df_ok (x := "cut_rows") (st := K14.top 9) KX G rfl ?a ?l ?c ?k K14.bnd_cut_rows K14.scp_cut_rows K14.chk_cut_rows (by decide)); (case a => k_is); (case l => k_is); (case c => k_is); (case k => k_is))
      (case e5 => (refine' PyE.df_ok (x := "way_form") (st := K14.top 13) KX G rfl ?a ?l ?c ?k K14.bnd_way_form K14.scp_way_form K14.chk_way_form (by decide)); (case a => k_is); (case l => k_is); (case c => k_is); (case k => k_is))
      (case e6 => (refine' PyE.df_ok (x := "said_in_turn") (st := K14.top 14) KX G rfl ?a ?l ?c ?k K14.bnd_said_in_turn K14.scp_said_in_turn K14.chk_said_in_turn (by decide)); (case a => k_is); (case l => k_is); (case c => k_is); (case k => k_is))
      (case e7 => (refine' PyE.df_ok (x := "said_by") (st := K14.top 15) KX G rfl ?a ?l ?c ?k K14.bnd_said_by K14.scp_said_by K14.chk_said_by (by decide)); (case a => k_is); (case l => k_is); (case c => k_is); (case k => k_is))
      (case e8 => (refine' PyE.df_ok (x := "taken_by") (st := K14.top 16) KX G rfl ?a ?l ?c ?k K14.bnd_taken_by K14.scp_taken_by K14.chk_taken_by (by decide)); (case a => k_is); (case l => k_is); (case c => k_is); (case k => k_is))
      (case e9 => (refine' PyE.df_ok (x := "heard") (st := K14.top 17) KX G rfl ?a ?l ?c ?k K14.bnd_heard K14.scp_heard K14.chk_heard (by decide)); (case a => k_is); (case l => k_is); (case c => k_is); (case k => k_is))
      (case e10 => (refine' PyE.df_ok (x := "more_by") (st := K14.top 18) KX G rfl ?a ?l ?c ?k K14.bnd_more_by K14.scp_more_by K14.chk_more_by (by decide)); (case a => k_is); (case l => k_is); (case c => k_is); (case k => k_is))
      (case e11 => (refine' PyE.df_ok (x := "less") (st := K14.top 19) KX G rfl ?a ?l ?c ?k K14.bnd_less K14.scp_less K14.chk_less (by decide)); (case a => k_is); (case l => k_is); (case c => k_is); (case k => k_is))
      (case e12 => (refine' PyE.df_ok (x := "more_shown") (st := K14.top 20) KX G rfl ?a ?l ?c ?k K14.bnd_more_shown K14.scp_more_shown K14.chk_more_shown (by decide)); (case a => k_is); (case l => k_is); (case c => k_is); (case k => k_is))
      (case e13 => (refine' PyE.df_ok (x := "_law_draws") (st := K14.top 22) KX G rfl ?a ?l ?c ?k K14.bnd__law_draws K14.scp__law_draws K14.chk__law_draws (by decide)); (case a => k_is); (case l => k_is); (case c => k_is); (case k => k_is))
      (case e14 => (refine' PyE.df_ok (x := "_law_same") (st := K14.top 23) KX G rfl ?a ?l ?c ?k K14.bnd__law_same K14.scp__law_same K14.chk__law_same (by decide)); (case a => k_is); (case l => k_is); (case c => k_is); (case k => k_is))
      (case e15 => (refine' PyE.df_ok (x := "_law_first") (st := K14.top 24) KX G rfl ?a ?l ?c ?k K14.bnd__law_first K14.scp__law_first K14.chk__law_first (by decide)); (case a => k_is); (case l => k_is); (case c => k_is); (case k => k_is))
      (case e16 => (refine' PyE.df_ok (x := "_law_said") (st := K14.top 25) KX G rfl ?a ?l ?c ?k K14.bnd__law_said K14.scp__law_said K14.chk__law_said (by decide)); (case a => k_is); (case l => k_is); (case c => k_is); (case k => k_is))
      (case e17 => (refine' PyE.df_ok (x := "_law_tables") (st := K14.top 26) KX G rfl ?a ?l ?c ?k K14.bnd__law_tables K14.scp__law_tables K14.chk__law_tables (by decide)); (case a => k_is); (case l => k_is); (case c => k_is); (case k => k_is))
      (case e18 => (refine' PyE.df_ok (x := "_law_every") (st := K14.top 27) KX G rfl ?a ?l ?c ?k K14.bnd__law_every K14.scp__law_every K14.chk__law_every (by decide)); (case a => k_is); (case l => k_is); (case c => k_is); (case k => k_is))
      (case e19 => (refine' PyE.df_ok (x := "_law_hearings") (st := K14.top 28) KX G rfl ?a ?l ?c ?k K14.bnd__law_hearings K14.scp__law_hearings K14.chk__law_hearings (by decide)); (case a => k_is); (case l => k_is); (case c => k_is); (case k => k_is))
      (case e20 => (refine' PyE.df_ok (x := "_law_parts") (st := K14.top 29) KX G rfl ?a ?l ?c ?k K14.bnd__law_parts K14.scp__law_parts K14.chk__law_parts (by decide)); (case a => k_is); (case l => k_is); (case c => k_is); (case k => k_is))
      (case e21 => (refine' PyE.df_ok (x := "_law_more") (st := K14.top 30) KX G rfl ?a ?l ?c ?k K14.bnd__law_more K14.scp__law_more K14.chk__law_more (by decide)); (case a => k_is); (case l => k_is); (case c => k_is); (case k => k_is))
      (case e22 => (refine' PyE.df_ok (x := "_law_run") (st := K14.top 31) KX G rfl ?a ?l ?c ?k K14.bnd__law_run K14.scp__law_run K14.chk__law_run (by decide)); (case a => k_is); (case l => k_is); (case c => k_is); (case k => k_is))
      (case e23 => (refine' PyE.df_ok (x := "_law_refused") (st := K14.top 32) KX G rfl ?a ?l ?c ?k K14.bnd__law_refused K14.scp__law_refused K14.chk__law_refused (by decide)); (case a => k_is); (case l => k_is); (case c => k_is); (case k => k_is))
      (case e24 => (refine' PyE.df_ok (x := "law") (st := K14.top 33) KX G rfl ?a ?l ?c ?k K14.bnd_law K14.scp_law K14.chk_law (by decide)); (case a => k_is); (case l => k_is); (case c => k_is); (case k => k_is))
    case t2 =>
      refine' (PyE.all_cons (PySem.W.mg_none_of KX G ?e0) (PyE.all_cons (PySem.W.mg_none_of KX G ?e1) (PyE.all_cons (PySem.W.mg_none_of KX G ?e2) (PyE.all_cons (PySem.W.mg_none_of KX G ?e3) (PyE.all_cons (PySem.W.mg_none_of KX G ?e4) (PyE.all_cons (PySem.W.mg_none_of KX G ?e5) (PyE.all_cons (PySem.W.mg_none_of KX G ?e6) (PyE.all_cons (PySem.W.mg_none_of KX G ?e7) (PyE.all_cons (PySem.W.mg_none_of KX G ?e8) (PyE.all_cons (PySem.W.mg_none_of KX G ?e9) (PyE.all_cons (PySem.W.mg_none_of KX G ?e10) (PyE.all_cons (PySem.W.mg_none_of KX G ?e11) (PyE.all_cons (PySem.W.mg_none_of KX G ?e12) (PyE.all_cons (PySem.W.mg_none_of KX G ?e13) (PyE.all_cons (PySem.W.mg_none_of KX G ?e14) (PyE.all_cons (PySem.W.mg_none_of KX G ?e15) (PyE.all_cons (PySem.W.mg_none_of KX G ?e16) (PyE.all_cons (PySem.W.mg_none_of KX G ?e17) (PyE.all_cons (PySem.W.mg_none_of KX G ?e18) (PyE.all_cons (PySem.W.mg_none_of KX G ?e19) PyE.all_nil))))))))))))))))))))
      (case e0 => k_is); (case e1 => k_is); (case e2 => k_is); (case e3 => k_is); (case e4 => k_is); (case e5 => k_is); (case e6 => k_is); (case e7 => k_is); (case e8 => k_is); (case e9 => k_is); (case e10 => k_is); (case e11 => k_is); (case e12 => k_is); (case e13 => k_is); (case e14 => k_is); (case e15 => k_is); (case e16 => k_is); (case e17 => k_is); (case e18 => k_is); (case e19 => k_is)
    case t3 =>
      refine' PyE.bad_mk KX G ?aC ?xL ?sa ?ga ?gg ?nb ?a1 ?t1 ?l1 ?c1 ?kC ?eC ?tC ?hC ?iC ?sC
      (case aC => k_is); (case xL => k_is); (case sa => k_is); (case ga => k_is); (case gg => k_is); (case nb => k_is); (case a1 => k_is); (case t1 => k_is); (case l1 => k_is); (case c1 => k_is); (case kC => k_is); (case eC => k_is); (case tC => k_is); (case hC => k_is); (case iC => k_is); (case sC => first | rfl | k_is)
    case t4 =>
      refine' (PyE.con_cons (PyE.con1 (v := (.ref _)) KX G ?c0 ?r0 ?p0) (PyE.con_cons (PyE.con1 (v := (.ref _)) KX G ?c1 ?r1 ?p1) PyE.con_nil))
      (case c0 => k_is); (case r0 => exact rfl); (case p0 => (refine' (PyE.con_tup (vs := [(.bl false), (.bl true)]) ?l1 ?z1 ?v1 (.cons (.bl _) (.cons (.bl _) .nil))); (case l1 => k_is); (case z1 => decide); (case v1 => exact (.cons rfl (.cons rfl .nil)))))
      (case c1 => k_is); (case r1 => exact rfl); (case p1 => (refine' (PyE.con_tup (vs := [(.str "open"), (.str "rounds"), (.str "chain"), (.str "sealed"), (.str "turns")]) ?l2 ?z2 ?v2 (.cons (.str _) (.cons (.str _) (.cons (.str _) (.cons (.str _) (.cons (.str _) .nil)))))); (case l2 => k_is); (case z2 => decide); (case v2 => exact (.cons ⟨_, rfl⟩ (.cons ⟨_, rfl⟩ (.cons ⟨_, rfl⟩ (.cons ⟨_, rfl⟩ (.cons ⟨_, rfl⟩ .nil))))))))
#print axioms PySem.Challenge.cw_suitday_k14_ways_that_tell_less_holds
