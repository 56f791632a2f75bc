import PyProof.Rows.All
import Wide.All
import OpenK.AllK
import Wide.FinOn
import HandS.ForMost
import HandS.ForExc
import HandS.Flow
import HandS.Style
import HandS.IsInst
import HandS.Wide
import HandS.TupAny
import HandS.TupLe
import HandS.Conv
import HandS.RaiseMore
import HandS.Zip
import KE.DataMinMax
import KE.DataCmp
import HandS.TupMul
import KE.SortData
import HandS.TupSets
import HandS.SetFor
import HandS.Strs
import HandS.Gcd
import KE.KMathGC
import KE.GoesMore
import Open.SpecLaws
import KE.OsGo
import HandS.ForSpec
import HandS.WordsExc
import HandS.Ends
import HandS.EndBits
import PySem.Challenge.RW_suitday_k03_clocks_that_turn

set_option Elab.async false
set_option linter.all false
set_option autoImplicit false
set_option maxRecDepth 100000
set_option maxHeartbeats 4000000
/-! # An evaluator for a part of Python, over data (PyData): states and what they stand for -/
namespace PyE
open PySem PySem.Spec PyProof.Rows L2

abbrev D := PyData
abbrev Frag := PySem.W.Frag

/-- everything tracked stays -/
def Ex (H H' : Hp) : Prop := ∀ a o, H a = some o → H' a = some o
theorem Ex.refl (H : Hp) : Ex H H := fun _ _ h => h
theorem Ex.trans {H H1 H2 : Hp} (a : Ex H H1) (b : Ex H1 H2) : Ex H H2 := fun x o h => b x o (a x o h)
theorem Ex.put {H : Hp} {p : Addr} {o : HO} (h : H p = none) : Ex H (upd H p o) := fun a u e => by
  rw [upd_ne (ne_of_none e h)]; exact e
theorem Ex.rd {H H' : Hp} {a : Addr} {u : HO} (e : Ex H H') (h : Rd H a u) : Rd H' a u := by
  rcases h with h | ⟨o, h⟩
  · exact .inl (e a _ h)
  · exact .inr ⟨o, e a _ h⟩
theorem Ex.sql {K : Frag} {H H' : Hp} {a : Addr} {xs : List V} (e : Ex H H') (h : SqL K H a xs) : SqL K H' a xs := by
  rcases h with h | h
  · exact .inl (e.rd h)
  · exact .inr h
theorem Ex.sqt {K : Frag} {H H' : Hp} {a : Addr} {xs : List V} (e : Ex H H') (h : SqT K H a xs) : SqT K H' a xs := by
  rcases h with h | h
  · exact .inl (e.rd h)
  · exact .inr h
section
variable {ba : Addr} {K : Frag} {F F' H H' : Hp}
mutual
theorem dp_ex (e : Ex F F') : ∀ (d : D) (v : V), Dp K F v d → Dp K F' v d
  | .none, _, h => by cases h; exact .non
  | .bool b, _, h => by cases h; exact .bl b
  | .int i, _, h => by cases h; exact .int i
  | .str x, _, h => by cases h; exact .str x
  | .list ds, _, h => by cases h with | lst s a => exact .lst (e.sql s) (dpa_ex e ds _ a)
  | .tuple ds, _, h => by cases h with | tup s a => exact .tup (e.sqt s) (dpa_ex e ds _ a)
  | .dict _, _, h => by cases h
theorem dpa_ex (e : Ex F F') : ∀ (ds : List D) (vs : List V), DpAll K F vs ds → DpAll K F' vs ds
  | [], _, h => by cases h; exact .nil
  | d :: ds, _, h => by cases h with | cons a b => exact .cons (dp_ex e d _ a) (dpa_ex e ds _ b)
end
theorem dpa_len : ∀ {vs : List V} {ds : List D}, DpAll K F vs ds → vs.length = ds.length
  | _, _, .nil => rfl
  | _, _, .cons _ t => by simp [dpa_len t]
theorem dpa_get : ∀ {vs : List V} {ds : List D} {i : Nat} {d : D}, DpAll K F vs ds → ds[i]? = some d → ∃ v, vs[i]? = some v ∧ Dp K F v d
  | _, _, _, _, .nil, e => by simp at e
  | _, _, 0, d, .cons r _, e => by simp at e; subst e; exact ⟨_, rfl, r⟩
  | _, _, i + 1, d, .cons _ t, e => by
    obtain ⟨v, h1, h2⟩ := dpa_get (i := i) t (by simpa using e)
    exact ⟨v, by simpa using h1, h2⟩
theorem dpa_getV : ∀ {vs : List V} {ds : List D} {i : Nat} {v : V}, DpAll K F vs ds → vs[i]? = some v → ∃ d, ds[i]? = some d ∧ Dp K F v d
  | _, _, _, _, .nil, e => by simp at e
  | _, _, 0, d, .cons r _, e => by simp at e; subst e; exact ⟨_, rfl, r⟩
  | _, _, i + 1, d, .cons _ t, e => by
    obtain ⟨v, h1, h2⟩ := dpa_getV (i := i) t (by simpa using e)
    exact ⟨v, by simpa using h1, h2⟩
theorem dpa_app : ∀ {vs ws : List V} {ds es : List D}, DpAll K F vs ds → DpAll K F ws es → DpAll K F (vs ++ ws) (ds ++ es)
  | _, _, _, _, .nil, s => s
  | _, _, _, _, .cons r t, s => .cons r (dpa_app t s)
theorem dpa_take : ∀ {vs : List V} {ds : List D} (n : Nat), DpAll K F vs ds → DpAll K F (vs.take n) (ds.take n)
  | _, _, 0, _ => .nil
  | _, _, _ + 1, .nil => .nil
  | _, _, n + 1, .cons r t => .cons r (dpa_take n t)
theorem dpa_drop : ∀ {vs : List V} {ds : List D} (n : Nat), DpAll K F vs ds → DpAll K F (vs.drop n) (ds.drop n)
  | _, _, 0, s => s
  | _, _, _ + 1, .nil => .nil
  | _, _, n + 1, .cons _ t => dpa_drop n t
theorem dpa_set {v : V} {d : D} (r : Dp K F v d) : ∀ {vs : List V} {ds : List D} (i : Nat), DpAll K F vs ds → DpAll K F (vs.set i v) (ds.set i d)
  | _, _, _, .nil => .nil
  | _, _, 0, .cons _ t => .cons r t
  | _, _, i + 1, .cons q t => .cons q (dpa_set r i t)
theorem dpa_ints : ∀ {vs : List V} {ns : List Int}, DpAll K F vs (ns.map PyData.int) → vs = ns.map V.int
  | _, [], h => by cases h; rfl
  | _, n :: ns, h => by
    cases h with
    | cons a b => cases a; rw [dpa_ints b]; rfl
theorem dpa_ofInts : ∀ (ns : List Int), DpAll K F (ns.map V.int) (ns.map PyData.int)
  | [] => .nil
  | n :: ns => .cons (.int n) (dpa_ofInts ns)
end

/-! ### slots -/
inductive Sl where
  | no | sh (d : D) | own (ds : List D) | bor (ds : List D)
abbrev SEnv := List Sl
/-- slot i holds a list of this frame's alone (or one lent to it) -/
def Mine (env : SEnv) (i : Nat) (ds : List D) : Prop := env[i]? = some (Sl.own ds) ∨ env[i]? = some (Sl.bor ds)
/-- an address of such a list -/
def O (σ : L2.St) (env : SEnv) (a : Addr) : Prop := ∃ i ds, Mine env i ds ∧ σ[i]? = some (some (.ref a))
/-- F, the part of the heap H that never changes; σ the slots; env what they are -/
structure Sim (ba : Addr) (K : Frag) (F H : Hp) (σ : L2.St) (env : SEnv) : Prop where
  sub : Ex F H
  len : env.length = σ.length
  sh : ∀ (i : Nat) (d : D), env[i]? = some (Sl.sh d) → ∃ v, σ[i]? = some (some v) ∧ Dp K F v d
  own : ∀ (i : Nat) (ds : List D), Mine env i ds → ∃ a vs, σ[i]? = some (some (.ref a)) ∧ H a = some (.lst vs) ∧ F a = none ∧ DpAll K F vs ds
  lent : ∀ (i : Nat) (ds : List D), env[i]? = some (Sl.bor ds) → σ[i]? = some (some (.ref ba))
  dis : ∀ (i j : Nat) (a : Addr) (ds es : List D), Mine env i ds → Mine env j es → σ[i]? = some (some (.ref a)) → σ[j]? = some (some (.ref a)) → i = j
/-- from (F, H) to (F', H'), where only M's addresses (and new ones) may change or be frozen -/
structure Go (M : Addr → Prop) (F H F' H' : Hp) : Prop where
  ex : Ex F F'
  keep : ∀ b o, ¬ M b → H b = some o → H' b = some o
  fz : ∀ b, ¬ M b → H b ≠ none → F b = none → F' b = none
  liv : ∀ b, H b ≠ none → H' b ≠ none
theorem Go.refl (M : Addr → Prop) (F H : Hp) : Go M F H F H := ⟨Ex.refl _, fun _ _ _ h => h, fun _ _ _ h => h, fun _ h => h⟩
theorem Go.trans {M M' : Addr → Prop} {F H F1 H1 F2 H2 : Hp} (a : Go M F H F1 H1) (b : Go M' F1 H1 F2 H2) (h : ∀ x, M' x → M x ∨ H x = none) : Go M F H F2 H2 := by
  have nm : ∀ x, ¬ M x → H x ≠ none → ¬ M' x := fun x n q z => (h x z).elim n q
  refine ⟨a.ex.trans b.ex, fun x o n e => ?_, fun x n e f => ?_, fun x e => b.liv x (a.liv x e)⟩
  · exact b.keep x o (nm x n (by rw [e]; simp)) (a.keep x o n e)
  · exact b.fz x (nm x n e) (a.liv x e) (a.fz x n e f)
theorem Go.mono {M M' : Addr → Prop} {F H F1 H1 : Hp} (a : Go M F H F1 H1) (h : ∀ x, M x → M' x ∨ H x = none) : Go M' F H F1 H1 :=
  Go.trans (Go.refl M' F H) a h
theorem Go.fresh {M : Addr → Prop} {F H F1 H1 : Hp} (a : Go M F H F1 H1) {x : Addr} (e : H1 x = none) : H x = none := by
  cases q : H x with
  | none => rfl
  | some o => exact absurd e (a.liv x (by rw [q]; simp))
/-- a new object that never changes -/
theorem Go.new {M : Addr → Prop} {F H : Hp} {p : Addr} {o : HO} (s : Ex F H) (h : H p = none) : Go M F H (upd F p o) (upd H p o) := by
  have hf : F p = none := by
    cases q : F p with
    | none => rfl
    | some u => rw [s p u q] at h; cases h
  refine ⟨Ex.put hf, fun b u _ e => by rw [upd_ne (ne_of_none e h)]; exact e, fun b _ e f => ?_, fun b e => ?_⟩
  · rw [upd_ne (fun (z : b = p) => e (z ▸ h))]; exact f
  · rw [upd_ne (fun (z : b = p) => e (z ▸ h))]; exact e
/-- a new object that may change -/
theorem Go.newM {M : Addr → Prop} {F H : Hp} {p : Addr} {o : HO} (h : H p = none) : Go M F H F (upd H p o) :=
  ⟨Ex.refl _, fun b u _ e => by rw [upd_ne (ne_of_none e h)]; exact e, fun b _ _ f => f, fun b e => by rw [upd_ne (fun (z : b = p) => e (z ▸ h))]; exact e⟩
/-- one of M's is frozen -/
theorem Go.freeze {M : Addr → Prop} {F H : Hp} {p : Addr} {o : HO} (m : M p) (hf : F p = none) : Go M F H (upd F p o) H :=
  ⟨Ex.put hf, fun b u _ e => e, fun b n _ f => by rw [upd_ne (fun (z : b = p) => n (z ▸ m))]; exact f, fun b e => e⟩
/-- one of M's is written -/
theorem Go.write {M : Addr → Prop} {F H : Hp} {p : Addr} {o : HO} (m : M p) : Go M F H F (upd H p o) :=
  ⟨Ex.refl _, fun b u n e => by rw [upd_ne (fun (z : b = p) => n (z ▸ m))]; exact e, fun b _ _ f => f, fun b e => by
    by_cases z : b = p
    · rw [z, upd_same]; simp
    · rw [upd_ne z]; exact e⟩
section
variable {ba : Addr} {K : Frag} {F F' H H' : Hp} {σ : L2.St} {env env' : SEnv}
theorem Sim.ofree (s : Sim ba K F H σ env) {a : Addr} (h : O σ env a) : F a = none ∧ ∃ vs, H a = some (.lst vs) := by
  obtain ⟨i, ds, m, e⟩ := h
  obtain ⟨b, vs, e2, h1, h2, _⟩ := s.own i ds m
  rw [e] at e2
  cases e2
  exact ⟨h2, vs, h1⟩
/-- the same slots behind a step that leaves this frame's lists as they are -/
theorem Sim.go {M : Addr → Prop} (s : Sim ba K F H σ env) (g : Go M F H F' H') (sub : Ex F' H') (hm : ∀ a, O σ env a → ¬ M a) : Sim ba K F' H' σ env := by
  refine ⟨sub, s.len, fun i d e => ?_, fun i ds m => ?_, s.lent, s.dis⟩
  · obtain ⟨v, h1, h2⟩ := s.sh i d e
    exact ⟨v, h1, dp_ex g.ex _ _ h2⟩
  · obtain ⟨a, vs, h1, h2, h3, h4⟩ := s.own i ds m
    have n := hm a ⟨i, ds, m, h1⟩
    exact ⟨a, vs, h1, g.keep a _ n h2, g.fz a n (by rw [h2]; simp) h3, dpa_ex g.ex _ _ h4⟩
end

/-! ### values on the way: a datum, a slot that is looked at later, a list just made -/
inductive Vw where
  | now (d : D) | late (i : Nat) | tmp (ds : List D)
def VwR (K : Frag) (F H H0 : Hp) (σ : L2.St) (env : SEnv) : Vw → V → Prop
  | .now d, v => Dp K F v d
  | .late i, v => σ[i]? = some (some v) ∧ i < env.length
  | .tmp ds, v => ∃ a vs, v = .ref a ∧ H a = some (.lst vs) ∧ F a = none ∧ ¬ O σ env a ∧ H0 a = none ∧ DpAll K F vs ds
def look (env : SEnv) : Vw → Option D
  | .now d => some d
  | .tmp ds => some (.list ds)
  | .late i => match env[i]? with
    | some (.sh d) => some d
    | some (.own ds) => some (.list ds)
    | some (.bor ds) => some (.list ds)
    | _ => none
/-- v is to be read as d: a list's items never change -/
def VR (K : Frag) (F H : Hp) (v : V) : D → Prop
  | .list ds => ∃ a vs, v = .ref a ∧ SqL K H a vs ∧ DpAll K F vs ds
  | d => Dp K F v d
section
variable {ba : Addr} {K : Frag} {F F' H H' H0 : Hp} {σ : L2.St} {env env' : SEnv} {v : V}
theorem VR.of {d : D} (s : Ex F H) (h : Dp K F v d) : VR K F H v d := by
  cases d with
  | list ds => cases h with | lst q a => exact ⟨_, _, rfl, s.sql q, a⟩
  | _ => exact h
theorem VR.dp {d : D} (s : Ex F H) (h : VR K F H v d) : Dp K H v d := by
  cases d with
  | list ds =>
    obtain ⟨a, vs, rfl, q, al⟩ := h
    exact .lst q (dpa_ex s _ _ al)
  | _ => exact dp_ex s _ _ h
theorem look_vr (s : Sim ba K F H σ env) {w : Vw} {d : D} (r : VwR K F H H0 σ env w v) (e : look env w = some d) : VR K F H v d := by
  cases w with
  | now d' => cases e; exact VR.of s.sub r
  | tmp ds =>
    cases e
    obtain ⟨a, vs, rfl, h1, _, _, _, h2⟩ := r
    exact ⟨a, vs, rfl, .inl (.inl h1), h2⟩
  | late i =>
    obtain ⟨r, _⟩ := r
    cases q : env[i]? with
    | none => simp [look, q] at e
    | some sl =>
      cases sl with
      | no => simp [look, q] at e
      | sh d' =>
        simp only [look, q, Option.some.injEq] at e
        subst e
        obtain ⟨v', h1, h2⟩ := s.sh i _ q
        rw [r] at h1
        cases h1
        exact VR.of s.sub h2
      | own ds =>
        simp only [look, q, Option.some.injEq] at e
        subst e
        obtain ⟨a, vs, h1, h2, _, h3⟩ := s.own i ds (.inl q)
        rw [r] at h1
        cases h1
        exact ⟨a, vs, rfl, .inl (.inl h2), h3⟩
      | bor ds =>
        simp only [look, q, Option.some.injEq] at e
        subst e
        obtain ⟨a, vs, h1, h2, _, h3⟩ := s.own i ds (.inr q)
        rw [r] at h1
        cases h1
        exact ⟨a, vs, rfl, .inl (.inl h2), h3⟩
/-- a value on the way behind a further step -/
theorem VwR.go {w : Vw} (g : Go (O σ env) F H F' H') (ho : ∀ a, O σ env' a → O σ env a) (hl : env'.length = env.length) (r : VwR K F H H0 σ env w v) : VwR K F' H' H0 σ env' w v := by
  cases w with
  | now d => exact dp_ex g.ex _ _ r
  | late i => exact ⟨r.1, hl ▸ r.2⟩
  | tmp ds =>
    obtain ⟨a, vs, e, h1, h2, h3, h4, h5⟩ := r
    exact ⟨a, vs, e, g.keep a _ h3 h1, g.fz a h3 (by rw [h1]; simp) h2, fun z => h3 (ho a z), h4, dpa_ex g.ex _ _ h5⟩
/-- .. from an earlier start -/
theorem VwR.early {M : Addr → Prop} {w : Vw} {H1 F1 : Hp} (g : Go M F1 H1 F' H') (r : VwR K F H H' σ env w v) : VwR K F H H1 σ env w v := by
  cases w with
  | now d => exact r
  | late i => exact r
  | tmp ds =>
    obtain ⟨a, vs, e, h1, h2, h3, h4, h5⟩ := r
    exact ⟨a, vs, e, h1, h2, h3, g.fresh h4, h5⟩
/-- a value on the way is kept as a datum: a list just made is frozen -/
def keepD : Vw → Option D
  | .now d => some d
  | .tmp ds => some (.list ds)
  | .late _ => none
theorem VwR.keep {M : Addr → Prop} (s : Sim ba K F H σ env) {w : Vw} {d : D} (r : VwR K F H H0 σ env w v) (e : keepD w = some d) (hm : ∀ a, H0 a = none → M a) :
    ∃ F', Go M F H F' H ∧ Sim ba K F' H σ env ∧ Dp K F' v d := by
  cases w with
  | now d' => cases e; exact ⟨F, Go.refl _ _ _, s, r⟩
  | late i => cases e
  | tmp ds =>
    cases e
    obtain ⟨a, vs, rfl, h1, h2, h3, h4, h5⟩ := r
    have g : Go M F H (upd F a (.lst vs)) H := Go.freeze (hm a h4) h2
    have g' : Go (fun b => b = a) F H (upd F a (.lst vs)) H := Go.freeze rfl h2
    have sub : Ex (upd F a (.lst vs)) H := fun b o z => by
      by_cases hb : b = a
      · subst hb; rw [upd_same] at z; cases z; exact h1
      · rw [upd_ne hb] at z; exact s.sub b o z
    exact ⟨_, g, s.go g' sub (fun b ob (z : b = a) => h3 (z ▸ ob)), .lst (.inl (.inl upd_same)) (dpa_ex g.ex _ _ h5)⟩
end
end PyE

set_option Elab.async false
set_option linter.all false
set_option autoImplicit false
set_option maxRecDepth 100000
set_option maxHeartbeats 4000000
/-! # The evaluator: a small language (IE, IS ..), what it comes to -/
namespace PyE
open PySem PySem.Spec L2

inductive Rs (α : Type) where
  | ok (a : α) (env : SEnv) | exc (c : Str) (x : D) (env : SEnv) | stuck
@[reducible] def Rs.bind {α β : Type} (r : Rs α) (f : α → SEnv → Rs β) : Rs β := match r with
  | .ok a e => f a e
  | .exc c x e => .exc c x e
  | .stuck => .stuck
@[reducible] def Rs.opt {α : Type} (o : Option α) (env : SEnv) : Rs α := match o with
  | some a => .ok a env
  | none => .stuck
/-- within a comprehension nothing may be raised -/
@[reducible] def Rs.calm {α : Type} (r : Rs α) : Rs α := match r with
  | .ok a e => .ok a e
  | _ => .stuck

inductive FR where
  | nxt (env : SEnv) | brk (env : SEnv) | cnt (env : SEnv) | ret (d : D) (env : SEnv) | exc (c : Str) (x : D) (env : SEnv) | stuck
@[reducible] def FR.bind (r : FR) (f : SEnv → FR) : FR := match r with
  | .nxt e => f e
  | r => r
@[reducible] def Rs.toF {α : Type} (r : Rs α) (f : α → SEnv → FR) : FR := match r with
  | .ok a e => f a e
  | .exc c x e => .exc c x e
  | .stuck => .stuck

/-- a def as the others see it: how many arguments, whether the first one is a list that is lent and may be changed, what it comes to (bs: the lent list's items behind it) -/
inductive FRes where
  | ret (d : D) (bs : List D) | exc (c : Str) (x : D) (bs : List D) | stuck
structure FnSem where
  arity : Nat
  bor : Bool
  run : List D → FRes
abbrev Fns := Str → Option FnSem

inductive Bf where
  | len | sum | all | any | tuple | list | int | abs | min | max | bool | sorted | dvm
  deriving DecidableEq
/-- functions of math, taken at the top -/
inductive Mf where
  | gcd | lcm
  deriving DecidableEq
inductive Ty where
  | int | bool | str | tuple | list
  deriving DecidableEq
inductive Tg where
  | one (i : Nat) | many (is : List Nat)

mutual
inductive IE where
  | k (d : D) | v (i : Nat) | g (x : Str) (d : D)
  | bin (op : Operator) (a b : IE) | neg (a : IE)
  | cmp (op : CmpOp) (a b : IE) | cmp2 (o o' : CmpOp) (a b c : IE)
  | and (a b : IE) | or (a b : IE) | nt (a : IE) | ife (t a b : IE)
  | tup (es : IEs) | lst (es : IEs)
  | ix (a b : IE) | sl (a : IE) (lo hi : IO)
  | call (f : Str) (es : IEs) | callb (f : Str) (i : Nat) (es : IEs)
  | bf (f : Bf) (es : IEs)
  | isi (a : IE) (ts : List Ty) (tupled : Bool)
  | cnt (a e : IE)
  | lnset (a : IE) | sset (a : IE) | mth (f : Mf) (a b : IE)
  | lc (e : IE) (tg : Tg) (it : II) (c : IO) (own : List Nat)
  | lc2 (e : IE) (tg : Tg) (it : II) (c : IO) (tg2 : Tg) (it2 : II) (c2 : IO) (own own2 : List Nat)
inductive IEs where
  | nil | cons (e : IE) (es : IEs)
inductive IO where
  | none | some (e : IE)
inductive II where
  | seq (e : IE) | r1 (a : IE) | r2 (a b : IE) | r3 (a b c : IE) | enum (e : IE)
end

mutual
inductive IS where
  | asg (i : Nat) (e : IE) | asgT (is : List Nat) (e : IE) | par (is : List Nat) (es : IEs) | asg2 (i j : Nat) (e : IE) | aug (i : Nat) (op : Operator) (e : IE)
  | app (i : Nat) (e : IE) | set (i : Nat) (a e : IE) | ex (e : IE)
  | ret (e : IE) | retN | ite (t : IE) (a b : ISs) | for_ (tg : Tg) (it : II) (b : ISs) | whl (t : IE) (b : ISs)
  | pop (i : Nat) | raise0
  | brk | cnt | pass | raise (c : Str) (e : IE) | tryAt (b : ISs) (c : Str) (i : Nat) (e : IE)
inductive ISs where
  | nil | cons (s : IS) (r : ISs)
end

/-! ### operations on data -/
/-- between -k - 1 and k (the kernel must not count down from such a number) -/
def inB (k : Nat) : Int → Bool
  | .ofNat n => Nat.ble n k
  | .negSucc n => Nat.ble n k
theorem inB_of {k : Nat} {i : Int} (h : inB k i = true) : -((k : Int) + 1) ≤ i ∧ i ≤ k := by
  cases i with
  | ofNat n =>
    have h : n ≤ k := Nat.le_of_ble_eq_true h
    constructor <;> simp only [Int.ofNat_eq_natCast] <;> omega
  | negSucc n =>
    have h : n ≤ k := Nat.le_of_ble_eq_true h
    constructor <;> omega
def smallI (i : Int) : Bool := inB 18446744073709551614 i
theorem smallI_of {i : Int} (h : smallI i = true) : -(2 ^ 64) < i ∧ i < 2 ^ 64 := by
  have := inB_of h
  omega
def mulOk (i j : Int) : Bool := smallI i || smallI j || decide (i.natAbs.log2 + j.natAbs.log2 < 1000000)
def divOk (j : Int) : Bool := decide (0 < j) && decide (j.natAbs.log2 < 9000)
def powOk (i : Int) : Int → Bool
  | .ofNat n => Nat.ble n 1000000 && decide (i.natAbs < 2 ^ 64)
  | .negSucc _ => false
theorem powOk_of {i j : Int} (h : powOk i j = true) : 0 ≤ j ∧ j ≤ 1000000 ∧ i.natAbs < 2 ^ 64 := by
  cases j with
  | ofNat n =>
    unfold powOk at h
    rw [Bool.and_eq_true, decide_eq_true_eq] at h
    have h1 : n ≤ 1000000 := Nat.le_of_ble_eq_true h.1
    exact ⟨Int.natCast_nonneg n, by simp only [Int.ofNat_eq_natCast]; omega, h.2⟩
  | negSucc n => cases h
def szOk (n : Nat) : Bool := decide (n ≤ 16777216)
def binD : Operator → D → D → Option Vw
  | .Add, .int i, .int j => some (.now (.int (i + j)))
  | .Add, .str a, .str b => if szOk (a.length + b.length) then some (.now (.str (a ++ b))) else none
  | .Add, .tuple a, .tuple b => if szOk (a.length + b.length) then some (.now (.tuple (a ++ b))) else none
  | .Add, .list a, .list b => if szOk (a.length + b.length) then some (.tmp (a ++ b)) else none
  | .Sub, .int i, .int j => some (.now (.int (i - j)))
  | .Mult, .int i, .int j => if mulOk i j then some (.now (.int (i * j))) else none
  | .Mult, .tuple a, .int k => if !a.isEmpty && decide (a.length ≤ 1000) && decide (1 ≤ k) && inB 1000 k then some (.now (.tuple (List.replicate k.toNat a).flatten)) else none
  | .FloorDiv, .int i, .int j => if divOk j then some (.now (.int (i / j))) else none
  | .Mod, .int i, .int j => if decide (0 < j) then some (.now (.int (i % j))) else none
  | .Pow, .int i, .int j => if powOk i j then some (.now (.int (i ^ j.toNat))) else none
  | _, _, _ => none
def isAtom : D → Bool
  | .none | .bool _ | .int _ | .str _ => true
  | _ => false
def flatD : D → Bool
  | .none | .bool _ | .int _ | .str _ => true
  | _ => false
def eqA : D → D → Bool
  | .int i, .int j => i == j
  | .str a, .str b => a == b
  | x, y => PyData.eqv x y
def inD (x : D) (xs : List D) : Bool := xs.any fun y => PyData.eqv y x
def ordOk (x y : D) : Bool := PySem.W.alike x y && (match x with | .none => false | _ => true) && decide (x.depth ≤ 60)
def cmpD : CmpOp → D → D → Option Bool
  | .Eq, x, y => if SeqAt.shaped x && SeqAt.shaped y then some (PyData.eqv x y) else none
  | .NotEq, x, y => if SeqAt.shaped x && SeqAt.shaped y then some (!PyData.eqv x y) else none
  | .Lt, .int i, .int j => some (decide (i < j))
  | .LtE, .int i, .int j => some (decide (i ≤ j))
  | .Gt, .int i, .int j => some (decide (j < i))
  | .GtE, .int i, .int j => some (decide (j ≤ i))
  | .Lt, x, y => if ordOk x y then some (PySem.W.dataLt x y) else none
  | .LtE, x, y => if ordOk x y then some (!PySem.W.dataLt y x) else none
  | .Gt, x, y => if ordOk x y then some (PySem.W.dataLt y x) else none
  | .GtE, x, y => if ordOk x y then some (!PySem.W.dataLt x y) else none
  | .Is, .none, .none => some true
  | .Is, _, .none => some false
  | .Is, .bool a, .bool b => some (decide (a = b))
  | .IsNot, .none, .none => some false
  | .IsNot, _, .none => some true
  | .IsNot, .bool a, .bool b => some (!decide (a = b))
  | .In, x, .list ys => if flatD x && ys.all flatD then some (inD x ys) else none
  | .In, x, .tuple ys => if flatD x && ys.all flatD then some (inD x ys) else none
  | .NotIn, x, .list ys => if flatD x && ys.all flatD then some (!inD x ys) else none
  | .NotIn, x, .tuple ys => if flatD x && ys.all flatD then some (!inD x ys) else none
  | _, _, _ => none
def truD : D → Option Bool
  | .none => some false
  | .bool b => some b
  | .int i => some (i != 0)
  | .str x => if szOk x.length then some (x.length != 0) else none
  | .list xs => some (!xs.isEmpty)
  | .tuple xs => some (!xs.isEmpty)
  | .dict _ => none
def ixD : D → D → Option D
  | .list xs, .int i => atI xs i
  | .tuple xs, .int i => atI xs i
  | .str z, .int i => if szOk z.length then (atI z.cps.toList i).map fun c => .str ⟨#[c]⟩ else none
  | _, _ => none
def cutD (xs : List D) (lo hi : Option Int) : List D := (xs.drop (HT.sIx xs.length 0 lo)).take (HT.sIx xs.length xs.length hi - HT.sIx xs.length 0 lo)
def slD : D → Option Int → Option Int → Option Vw
  | .list xs, lo, hi => some (.tmp (cutD xs lo hi))
  | .tuple xs, lo, hi => some (.now (.tuple (cutD xs lo hi)))
  | _, _, _ => none
def boolsD : List D → Option (List Bool)
  | [] => some []
  | .bool b :: r => (boolsD r).map (b :: ·)
  | _ :: _ => none
def intsD : List D → Option (List Int)
  | [] => some []
  | .int i :: r => (intsD r).map (i :: ·)
  | _ :: _ => none
/-- all of them can be compared, and none is None -/
def alikeL (xs : List D) : Bool := (xs.all fun x => xs.all fun y => PySem.W.alike x y) && (xs.all fun x => match x with | .none => false | _ => true) && decide (PyData.depthAll xs ≤ 40) && (xs.all fun x => x.canLay0)
def isTup1 : D → Bool
  | .tuple (_ :: _) => true
  | _ => false
def isPl : D → Bool
  | .none => false
  | .tuple _ => false
  | _ => true
def sortB (xs : List D) : Bool := xs.all isTup1 || xs.all isPl
def sortD (xs : List D) : List D := xs.mergeSort fun a b => !PySem.W.dataLt b a
def bfD : Bf → List D → Option Vw
  | .len, [.list xs] => some (.now (.int xs.length))
  | .len, [.tuple xs] => some (.now (.int xs.length))
  | .len, [.str z] => if szOk z.length then some (.now (.int z.length)) else none
  | .sum, [.list xs] => (intsD xs).map fun ns => .now (.int ns.sum)
  | .all, [.list xs] => (boolsD xs).map fun bs => .now (.bool (bs.all id))
  | .any, [.list xs] => (boolsD xs).map fun bs => .now (.bool (bs.any id))
  | .tuple, [.list xs] => some (.now (.tuple xs))
  | .tuple, [.tuple xs] => some (.now (.tuple xs))
  | .list, [.list xs] => some (.tmp xs)
  | .list, [.tuple xs] => some (.tmp xs)
  | .int, [.int i] => some (.now (.int i))
  | .int, [.bool b] => some (.now (.int (if b then 1 else 0)))
  | .bool, [.int i] => some (.now (.bool (i != 0)))
  | .bool, [.bool b] => some (.now (.bool b))
  | .abs, [.int i] => some (.now (.int (if i < 0 then -i else i)))
  | .min, [.list (x :: xs)] => if alikeL (x :: xs) then some (.now (PySem.W.minD x xs)) else none
  | .min, [.tuple (x :: xs)] => if alikeL (x :: xs) then some (.now (PySem.W.minD x xs)) else none
  | .max, [.list (x :: xs)] => if alikeL (x :: xs) then some (.now (PySem.W.maxD x xs)) else none
  | .max, [.tuple (x :: xs)] => if alikeL (x :: xs) then some (.now (PySem.W.maxD x xs)) else none
  | .sorted, [.list xs] => if alikeL xs && sortB xs then some (.tmp (sortD xs)) else none
  | .min, [.int i, .int j] => some (.now (.int (if j < i then j else i)))
  | .max, [.int i, .int j] => some (.now (.int (if j > i then j else i)))
  | .dvm, [.int i, .int j] => if decide (0 < j) && inB 1073741822 j then some (.now (.tuple [.int (i / j), .int (i % j)])) else none
  | _, _ => none
def mthD : Mf → D → D → Option Vw
  | .gcd, .int i, .int j => some (.now (.int ((Nat.gcd i.natAbs j.natAbs : Nat) : Int)))
  | .lcm, .int i, .int j => if smallI i && smallI j then some (.now (.int ((i.natAbs.lcm j.natAbs : Nat) : Int))) else none
  | _, _, _ => none
/-- the different ones -/
def tupI : D → Option (List Int)
  | .tuple ds => intsD ds
  | _ => none
def tupsI : List D → Option (List (List Int))
  | [] => some []
  | d :: ds => (tupI d).bind fun k => (tupsI ds).bind fun ks => some (k :: ks)
def ndup : List (List Int) → List (List Int)
  | [] => []
  | x :: xs => if xs.contains x then ndup xs else x :: ndup xs
def lnsetD : D → Option Vw
  | .list xs => (tupsI xs).bind fun ks => if decide (ks.length < 64) then some (.now (.int (ndup ks).length)) else none
  | .tuple xs => (tupsI xs).bind fun ks => if decide (ks.length < 64) then some (.now (.int (ndup ks).length)) else none
  | _ => none
/-- the different ones, ascending -/
def insU (x : Int) : List Int → List Int
  | [] => [x]
  | y :: ys => if x < y then x :: y :: ys else if x = y then y :: ys else y :: insU x ys
def usort : List Int → List Int
  | [] => []
  | x :: xs => insU x (usort xs)
def ssetD : D → Option Vw
  | .list xs => (intsD xs).bind fun ns => if decide (ns.length < 64) then some (.tmp ((usort ns).map .int)) else none
  | .tuple xs => (intsD xs).bind fun ns => if decide (ns.length < 64) then some (.tmp ((usort ns).map .int)) else none
  | _ => none
def isTy : D → Ty → Bool
  | .int _, .int => true
  | .bool _, .int => true
  | .bool _, .bool => true
  | .str _, .str => true
  | .tuple _, .tuple => true
  | .list _, .list => true
  | _, _ => false

/-! ### slots -/
def wipeE (env : SEnv) : List Nat → SEnv
  | [] => env
  | v :: vs => (wipeE env vs).set v .no
/-- behind a block: its own names' slots as they were -/
def backE (old env : SEnv) : List Nat → SEnv
  | [] => env
  | v :: vs => (backE old env vs).set v (old.getD v .no)
/-- slot i gets s; a lent list's slot is never written -/
def putS (env : SEnv) (i : Nat) (s : Sl) : Option SEnv := match env[i]? with
  | some (.bor _) => none
  | some _ => some (env.set i s)
  | none => none
def putN : SEnv → List Nat → List D → Option SEnv
  | env, [], [] => some env
  | env, i :: is, d :: ds => (putS env i (.sh d)).bind fun e => putN e is ds
  | _, _, _ => none
def putT (env : SEnv) : Tg → D → Option SEnv
  | .one i, d => putS env i (.sh d)
  | .many is, .tuple ds => putN env is ds
  | .many _, _ => none
/-- a value on the way is kept: a list of this frame's is frozen -/
def keepF (env : SEnv) : Vw → Option (D × SEnv)
  | .now d => some (d, env)
  | .tmp ds => some (.list ds, env)
  | .late i => match env[i]? with
    | some (.sh d) => some (d, env)
    | some (.own ds) => some (.list ds, env.set i (.sh (.list ds)))
    | _ => none
def keepN (env : SEnv) : List Vw → Option (List D × SEnv)
  | [] => some ([], env)
  | w :: ws => (keepF env w).bind fun p => (keepN p.2 ws).bind fun q => some (p.1 :: q.1, q.2)
def rgD (lo : Int) (n : Nat) : List D := (List.range n).map fun i => .int (lo + (i : Nat))
def rgC (lo c : Int) (n : Nat) : List D := (List.range n).map fun i => .int (lo + (i : Nat) * c)
def rOk (i : Int) : Bool := inB 4611686018427387903 i
def enumD : Nat → List D → List D
  | _, [] => []
  | n, d :: ds => .tuple [.int n, d] :: enumD (n + 1) ds
def seqD : D → Option (List D)
  | .list xs => some xs
  | .tuple xs => some xs
  | _ => none
def looks (env : SEnv) : List Vw → Option (List D)
  | [] => some []
  | w :: ws => (look env w).bind fun d => (looks env ws).bind fun ds => some (d :: ds)

/-! ### expressions -/
/-- a comprehension's turns -/
def lcL (f : D → SEnv → Rs (List D)) : List D → SEnv → Rs (List D)
  | [], env => .ok [] env
  | x :: xs, env => (f x env).bind fun a e => (lcL f xs e).bind fun b e' => .ok (a ++ b) e'
def cntD (d : D) (xs : List D) : Nat := xs.countP fun z => PyData.eqv z d
def truR (env : SEnv) (w : Vw) : Option Bool := (look env w).bind truD

/-- one turn of a comprehension -/
def lcStep (evc : SEnv → Rs Bool) (eve : SEnv → Rs Vw) (tg : Tg) (own : List Nat) (x : D) (en : SEnv) : Rs (List D) := match putT en tg x with
  | none => .stuck
  | some en1 => (evc en1).bind fun ok en2 => if ok then (eve en2).bind fun w en3 => match keepF en3 w with
      | some (d, en4) => .ok [d] (wipeE en4 own)
      | none => .stuck
    else .ok [] (wipeE en2 own)
/-- .. with a second clause -/
def lc2Step (evc : SEnv → Rs Bool) (evi2 : SEnv → Rs (List D)) (evc2 : SEnv → Rs Bool) (eve : SEnv → Rs Vw) (tg tg2 : Tg) (own own2 : List Nat) (x : D) (en : SEnv) : Rs (List D) := match putT en tg x with
  | none => .stuck
  | some en1 => (evc en1).bind fun ok en2 => if ok then (evi2 en2).bind fun ds2 en3 =>
      match lcL (lcStep evc2 eve tg2 own2) ds2 (wipeE en3 own2) with
      | .ok out en4 => .ok out (wipeE en4 own)
      | _ => .stuck
    else .ok [] (wipeE en2 own)
def lcEnd (e1 : SEnv) (own : List Nat) (r : Rs (List D)) : Rs Vw := match r with
  | .ok out en => if szOk out.length then .ok (.tmp out) (backE e1 en own) else .stuck
  | _ => .stuck
def enumK (d : D) (env : SEnv) : Rs (List D) := match d with
  | .list xs => .ok (enumD 0 xs) env
  | .tuple xs => .ok (enumD 0 xs) env
  | _ => .stuck
/-- a call: the arguments are there -/
def callK (fs : FnSem) (ds : List D) (env : SEnv) : Rs Vw :=
  if !fs.bor && ds.length == fs.arity then match fs.run ds with
    | .ret d _ => .ok (.now d) env
    | .exc c x _ => .exc c x env
    | .stuck => .stuck
  else .stuck
def isMine (env : SEnv) (i : Nat) : Bool := match env[i]? with
  | some (.own _) => true
  | some (.bor _) => true
  | _ => false
/-- a call that is lent slot i's list -/
def callbK (fs : FnSem) (i : Nat) (ds : List D) (env : SEnv) : Rs Vw :=
  if fs.bor && ds.length + 1 == fs.arity then match env[i]? with
    | some (.own bs) => match fs.run (.list bs :: ds) with
      | .ret d b => .ok (.now d) (env.set i (.own b))
      | .exc c x b => .exc c x (env.set i (.own b))
      | .stuck => .stuck
    | some (.bor bs) => match fs.run (.list bs :: ds) with
      | .ret d b => .ok (.now d) (env.set i (.bor b))
      | .exc c x b => .exc c x (env.set i (.bor b))
      | .stuck => .stuck
    | _ => .stuck
  else .stuck
mutual
def evE (Φ : Fns) : IE → SEnv → Rs Vw
  | .k d, env => .ok (.now d) env
  | .v i, env => match env[i]? with
    | some (.sh d) => .ok (.now d) env
    | some .no => .stuck
    | some _ => .ok (.late i) env
    | none => .stuck
  | .g _ d, env => .ok (.now d) env
  | .bin op a b, env => (evE Φ a env).bind fun x e1 => (evE Φ b e1).bind fun y e2 => match look e2 x, look e2 y with
    | some d, some d' => .opt (binD op d d') e2
    | _, _ => .stuck
  | .neg a, env => (evE Φ a env).bind fun x e1 => match look e1 x with
    | some (.int i) => .ok (.now (.int (-i))) e1
    | _ => .stuck
  | .cmp op a b, env => (evE Φ a env).bind fun x e1 => (evE Φ b e1).bind fun y e2 => match look e2 x, look e2 y with
    | some d, some d' => .opt ((cmpD op d d').map fun b => .now (.bool b)) e2
    | _, _ => .stuck
  | .cmp2 o o' a b c, env => (evE Φ a env).bind fun x e1 => (evE Φ b e1).bind fun y e2 => match look e2 x, look e2 y with
    | some d, some d' => match cmpD o d d' with
      | some true => (evE Φ c e2).bind fun z e3 => match look e3 y, look e3 z with
        | some d2, some d3 => .opt ((cmpD o' d2 d3).map fun b => .now (.bool b)) e3
        | _, _ => .stuck
      | some false => .ok (.now (.bool false)) e2
      | none => .stuck
    | _, _ => .stuck
  | .and a b, env => (evE Φ a env).bind fun x e1 => match truR e1 x with
    | some true => evE Φ b e1
    | some false => .ok x e1
    | none => .stuck
  | .or a b, env => (evE Φ a env).bind fun x e1 => match truR e1 x with
    | some true => .ok x e1
    | some false => evE Φ b e1
    | none => .stuck
  | .nt a, env => (evE Φ a env).bind fun x e1 => match truR e1 x with
    | some b => .ok (.now (.bool (!b))) e1
    | none => .stuck
  | .ife t a b, env => (evE Φ t env).bind fun x e1 => match truR e1 x with
    | some true => evE Φ a e1
    | some false => evE Φ b e1
    | none => .stuck
  | .tup es, env => (evEs Φ es env).bind fun ws e1 => match keepN e1 ws with
    | some (ds, e2) => if szOk ds.length then .ok (.now (.tuple ds)) e2 else .stuck
    | none => .stuck
  | .lst es, env => (evEs Φ es env).bind fun ws e1 => match keepN e1 ws with
    | some (ds, e2) => if szOk ds.length then .ok (.tmp ds) e2 else .stuck
    | none => .stuck
  | .ix a b, env => (evE Φ a env).bind fun x e1 => (evE Φ b e1).bind fun y e2 => match look e2 x, look e2 y with
    | some d, some d' => .opt ((ixD d d').map .now) e2
    | _, _ => .stuck
  | .sl a lo hi, env => (evE Φ a env).bind fun x e1 => (evO Φ lo e1).bind fun l e2 => (evO Φ hi e2).bind fun h e3 => match look e3 x with
    | some d => .opt (slD d l h) e3
    | none => .stuck
  | .call f es, env => match Φ f with
    | none => .stuck
    | some fs => (evEs Φ es env).bind fun ws e1 => match keepN e1 ws with
      | some (ds, e2) => callK fs ds e2
      | none => .stuck
  | .callb f i es, env => match Φ f, isMine env i with
    | some fs, true => (evEs Φ es env).bind fun ws e1 => match keepN e1 ws with
      | some (ds, e2) => callbK fs i ds e2
      | none => .stuck
    | _, _ => .stuck
  | .bf f es, env => (evEs Φ es env).bind fun ws e1 => match looks e1 ws with
    | some ds => .opt (bfD f ds) e1
    | none => .stuck
  | .isi a ts _, env => (evE Φ a env).bind fun x e1 => match look e1 x with
    | some (.dict _) => .stuck
    | some d => .ok (.now (.bool (ts.any (isTy d)))) e1
    | none => .stuck
  | .cnt a e, env => (evE Φ a env).bind fun x e1 => match look e1 x with
    | some (.list _) => (evE Φ e e1).bind fun y e2 => match look e2 x, look e2 y with
      | some (.list xs), some d => if flatD d && xs.all flatD then .ok (.now (.int (cntD d xs))) e2 else .stuck
      | _, _ => .stuck
    | _ => .stuck
  | .sset a, env => (evE Φ a env).bind fun x e1 => match look e1 x with
    | some d => .opt (ssetD d) e1
    | none => .stuck
  | .lnset a, env => (evE Φ a env).bind fun x e1 => match look e1 x with
    | some d => .opt (lnsetD d) e1
    | none => .stuck
  | .mth f a b, env => (evE Φ a env).bind fun x e1 => (evE Φ b e1).bind fun y e2 => match look e2 x, look e2 y with
    | some d, some d' => .opt (mthD f d d') e2
    | _, _ => .stuck
  | .lc e tg it c own, env => (evI Φ it env).bind fun ds e1 => lcEnd e1 own (lcL (lcStep (evC Φ c) (evE Φ e) tg own) ds (wipeE e1 own))
  | .lc2 e tg it c tg2 it2 c2 own own2, env => (evI Φ it env).bind fun ds e1 => lcEnd e1 own (lcL (lc2Step (evC Φ c) (evI Φ it2) (evC Φ c2) (evE Φ e) tg tg2 own own2) ds (wipeE e1 own))
def evEs (Φ : Fns) : IEs → SEnv → Rs (List Vw)
  | .nil, env => .ok [] env
  | .cons e es, env => (evE Φ e env).bind fun w e1 => (evEs Φ es e1).bind fun ws e2 => .ok (w :: ws) e2
def evO (Φ : Fns) : IO → SEnv → Rs (Option Int)
  | .none, env => .ok none env
  | .some e, env => (evE Φ e env).bind fun w e1 => match look e1 w with
    | some (.int i) => .ok (some i) e1
    | _ => .stuck
/-- a comprehension's test -/
def evC (Φ : Fns) : IO → SEnv → Rs Bool
  | .none, env => .ok true env
  | .some e, env => (evE Φ e env).bind fun w e1 => .opt (truR e1 w) e1
def evI (Φ : Fns) : II → SEnv → Rs (List D)
  | .seq e, env => (evE Φ e env).bind fun w e1 => match keepF e1 w with
    | some (d, e2) => .opt (seqD d) e2
    | none => .stuck
  | .r1 a, env => (evE Φ a env).bind fun x e1 => match look e1 x with
    | some (.int j) => if rOk j then .ok (rgD 0 j.toNat) e1 else .stuck
    | _ => .stuck
  | .r2 a b, env => (evE Φ a env).bind fun x e1 => (evE Φ b e1).bind fun y e2 => match look e2 x, look e2 y with
    | some (.int i), some (.int j) => if rOk i && rOk j then .ok (rgD i (j - i).toNat) e2 else .stuck
    | _, _ => .stuck
  | .r3 a b c, env => (evE Φ a env).bind fun x e1 => (evE Φ b e1).bind fun y e2 => (evE Φ c e2).bind fun z e3 => match look e3 x, look e3 y, look e3 z with
    | some (.int i), some (.int j), some (.int s) => if s != 0 && decide (s.natAbs < 1073741824) && Builtin.Range.small i j s && decide (0 ≤ Builtin.Range.rangeSize i j s) then .ok (rgC i s (Builtin.Range.rangeSize i j s).toNat) e3 else .stuck
    | _, _, _ => .stuck
  | .enum e, env => (evE Φ e env).bind fun w e1 => match keepF e1 w with
    | some (d, e2) => enumK d e2
    | none => .stuck
end
def evT (Φ : Fns) (e : IE) (env : SEnv) : Rs Bool := (evE Φ e env).bind fun w e1 => .opt (truR e1 w) e1

/-! ### statements -/
def forL (f : D → SEnv → FR) : List D → SEnv → FR
  | [], env => .nxt env
  | x :: xs, env => match f x env with
    | .nxt e => forL f xs e
    | .cnt e => forL f xs e
    | .brk e => .nxt e
    | r => r
def whlL (t : SEnv → Rs Bool) (f : SEnv → FR) : Nat → SEnv → FR
  | 0, _ => .stuck
  | n + 1, env => (t env).toF fun b e => if b then match f e with
      | .nxt e' => whlL t f n e'
      | .cnt e' => whlL t f n e'
      | .brk e' => .nxt e'
      | r => r
    else .nxt e
/-- x = w -/
def putW (env : SEnv) (i : Nat) : Vw → Option SEnv
  | .tmp ds => putS env i (.own ds)
  | w => (keepF env w).bind fun p => putS p.2 i (.sh p.1)

def appK (e2 : SEnv) (i : Nat) (d : D) : FR := match e2[i]? with
  | some (.own ds) => if szOk (ds.length + 1) then .nxt (e2.set i (.own (ds ++ [d]))) else .stuck
  | some (.bor ds) => if szOk (ds.length + 1) then .nxt (e2.set i (.bor (ds ++ [d]))) else .stuck
  | _ => .stuck
def setK (e3 : SEnv) (i : Nat) (j : Int) (d : D) : FR := match e3[i]? with
  | some (.own ds) => match ixN ds.length j with
    | some m => .nxt (e3.set i (.own (ds.set m d)))
    | none => .stuck
  | some (.bor ds) => match ixN ds.length j with
    | some m => .nxt (e3.set i (.bor (ds.set m d)))
    | none => .stuck
  | _ => .stuck
def popK (e : SEnv) (i : Nat) : FR := match e[i]? with
  | some (.own ds) => if ds.isEmpty then .stuck else .nxt (e.set i (.own ds.dropLast))
  | some (.bor ds) => if ds.isEmpty then .stuck else .nxt (e.set i (.bor ds.dropLast))
  | _ => .stuck
mutual
def evS (Φ : Fns) (n : Nat) : IS → SEnv → FR
  | .asg i e, env => (evE Φ e env).toF fun w e1 => match putW e1 i w with
    | some e2 => .nxt e2
    | none => .stuck
  | .asgT is e, env => (evE Φ e env).toF fun w e1 => match keepF e1 w with
    | some (d, e2) => match putT e2 (.many is) d with
      | some e3 => .nxt e3
      | none => .stuck
    | none => .stuck
  | .par is es, env => (evEs Φ es env).toF fun ws e1 => match keepN e1 ws with
    | some (ds, e2) => match putN e2 is ds with
      | some e3 => .nxt e3
      | none => .stuck
    | none => .stuck
  | .asg2 i j e, env => (evE Φ e env).toF fun w e1 => match keepF e1 w with
    | some (d, e2) => match putN e2 [i, j] [d, d] with
      | some e3 => .nxt e3
      | none => .stuck
    | none => .stuck
  | .aug i op e, env => match env[i]? with
    | some (.sh d) => (evE Φ e env).toF fun w e1 => match d, look e1 w with
      | .int a, some (.int b) => match binD op (.int a) (.int b) with
        | some (.now d') => match putS e1 i (.sh d') with
          | some e2 => .nxt e2
          | none => .stuck
        | _ => .stuck
      | _, _ => .stuck
    | _ => .stuck
  | .app i e, env => if isMine env i then (evE Φ e env).toF fun w e1 => match keepF e1 w with
    | some (d, e2) => appK e2 i d
    | none => .stuck else .stuck
  | .set i a e, env => if isMine env i then (evE Φ e env).toF fun w e1 => match keepF e1 w with
    | some (d, e2) => (evE Φ a e2).toF fun x e3 => match look e3 x with
      | some (.int j) => setK e3 i j d
      | _ => .stuck
    | none => .stuck else .stuck
  | .ex e, env => (evE Φ e env).toF fun _ e1 => .nxt e1
  | .ret e, env => (evE Φ e env).toF fun w e1 => match keepF e1 w with
    | some (d, e2) => .ret d e2
    | none => .stuck
  | .retN, env => .ret .none env
  | .ite t a b, env => (evT Φ t env).toF fun c e1 => if c then evSs Φ n a e1 else evSs Φ n b e1
  | .for_ tg it b, env => (evI Φ it env).toF fun ds e1 => forL (fun x e => match putT e tg x with
      | some e2 => evSs Φ n b e2
      | none => .stuck) ds e1
  | .whl t b, env => whlL (evT Φ t) (evSs Φ n b) n env
  | .pop i, env => popK env i
  | .raise0, _ => .stuck
  | .brk, env => .brk env
  | .cnt, env => .cnt env
  | .pass, env => .nxt env
  | .raise c e, env => (evE Φ e env).toF fun w e1 => match keepF e1 w with
    | some (d, e2) => .exc c d e2
    | none => .stuck
  | .tryAt b c i e, env => match evSs Φ n b env with
    | .exc c' x e1 => if c == c' && decide (i < e1.length) then match e with
        | .k d => (match cmpD .Eq x d with | some b => FR.ret (.bool b) e1 | none => .stuck)
        | .v j => match e1[j]? with
          | some (.sh d) => if i == j then .stuck else (match cmpD .Eq x d with | some b => FR.ret (.bool b) e1 | none => .stuck)
          | _ => .stuck
        | _ => .stuck
      else .stuck
    | r => r
def evSs (Φ : Fns) (n : Nat) : ISs → SEnv → FR
  | .nil, env => .nxt env
  | .cons s r, env => (evS Φ n s env).bind fun e => evSs Φ n r e
end
end PyE
namespace PyE
open PySem
-- does it reduce?
example : evE (fun _ => none) (.lc (.bin .Add (.v 1) (.k (.int 1))) (.one 1) (.r1 (.v 0)) .none [1]) [.sh (.int 3), .no] = .ok (.tmp [.int 1, .int 2, .int 3]) [.sh (.int 3), .no] := by rfl
end PyE

set_option Elab.async false
set_option linter.all false
set_option autoImplicit false
set_option maxRecDepth 100000
set_option maxHeartbeats 4000000
/-! # tuple * 1 -/
namespace PyE
open PySem PySem.Spec PyProof.Rows L2
theorem tuple_mul1 (l : Addr) (items : Array Value) (n : Nat) (dd : Option Addr) (sl : Array (Option Value)) (u : Tok) :
    Meets (Builtin.«tuple.__mul__» ⟨[.ref l, .int 1 u], []⟩) (fun _ R s => s.heap.get? l = some { cls := .type "tuple", dict := dd, data := .seq items n, slots := sl } ∧ R (.ok (.ret (Value.ref l))) s) :=
  .of_wp fun prog w A R s h => by
    obtain ⟨hp, g, d, tk, os⟩ := s
    obtain ⟨hl, h⟩ := h
    have f1 := AutoSeq1.idx_int
    have c0 : (decide ((1 : Int) < -(2 ^ 63)) || decide ((1 : Int) ≥ 2 ^ 63)) = false := by decide
    have c1 : (items.isEmpty || (1 : Int) == 1) = true := by simp
    wp_walk using PySem.AutoSeq1.wpAny_loadPart' hl
    repeat (first
      | (refine wpAny_ite_false (decide_eq_false (by rw [c0]; exact Bool.false_ne_true)) ?_; wp_walk using PySem.AutoSeq1.wpAny_loadPart' hl)
      | (refine wpAny_ite_true (decide_eq_true (by rw [c1])) ?_; wp_walk using PySem.AutoSeq1.wpAny_loadPart' hl))
    exact ⟨_, rfl, h⟩
section
variable {X : Cx}
theorem op_rep1 : OpR X (binaryOp .Mult) (fun x y H Q => ∃ l xs, x = .ref l ∧ y = .int 1 ∧ SqT X.K H l xs ∧ Q (.ref l) H) := by
  intro pins s σ H x y v u Q I rx ry h
  obtain ⟨l, xs, rfl, rfl, hT, q⟩ := h
  cases rx
  obtain ⟨t, rfl⟩ := ry
  obtain ⟨its, r, ⟨⟨cls, dd, data, sl⟩, ho, hc, n, hd⟩, hs⟩ := I.tuple hT
  simp only at hc hd
  subst hc hd
  exact wpAny_binaryOp_repeat_ref (T := "tuple") (U := "int") (by decide) ⟨_, ho, rfl⟩ (fun s' => typeIs_int s' 1 t) noFill_tuple_mul PySem.F.fills_int_mul PySem.F.slot_int_rmul repeat_tuple PySem.F.slot_int_index.lookup
    (call_meets PySem.F.slot_int_rmul (typeIs_int s 1 t) PySem.F.entry_int_rmul (PySem.F.args_int_rmul_2 _ _) (int_rmul_tuple 1 t l its.toArray n dd sl)
      ⟨ho, rfl, ⟨_, ho, rfl⟩, call_meets PySem.F.slot_tuple_mul ⟨_, ho, rfl⟩ PySem.F.entry_tuple_mul (PySem.F.args_tuple_mul_2 _ _) (tuple_mul1 l its.toArray n dd sl t) ⟨ho, ⟨.ref l, H, I.tok _, rfl, q⟩⟩⟩)
end
end PyE

set_option Elab.async false
set_option linter.all false
set_option autoImplicit false
set_option maxRecDepth 100000
set_option maxHeartbeats 4000000
/-! # The operations on data are the model's -/
namespace PyE
open PySem PySem.Spec PyProof.Rows L2

def VwN (K : Frag) (F' H' H0 : Hp) : Vw → V → Prop
  | .now d, v => Dp K F' v d
  | .tmp ds, v => ∃ a vs, v = .ref a ∧ H' a = some (.lst vs) ∧ F' a = none ∧ H0 a = none ∧ DpAll K F' vs ds
  | .late _, _ => False
/-- whatever stands for w, with new objects alone, is what Q wants -/
def RN (K : Frag) (F H : Hp) (w : Vw) (Q : VK) : Prop := ∀ v F' H', Go (fun _ => False) F H F' H' → Ex F' H' → VwN K F' H' H w v → Q v H'
section
variable {K : Frag} {F H : Hp} {Q : VK}
theorem Ex.none {F H : Hp} (s : Ex F H) {p : Addr} (h : H p = Option.none) : F p = Option.none := by
  cases q : F p with
  | none => rfl
  | some u => rw [s p u q] at h; cases h
theorem Ex.both {F H : Hp} (s : Ex F H) (p : Addr) (o : HO) : Ex (upd F p o) (upd H p o) := fun b u z => by
  by_cases hb : b = p
  · subst hb; rw [upd_same] at z ⊢; exact z
  · rw [upd_ne hb] at z ⊢; exact s b u z
theorem Ex.right {F H : Hp} (s : Ex F H) {p : Addr} {o : HO} (h : F p = Option.none) : Ex F (upd H p o) := fun b u z => by
  rw [upd_ne (ne_of_none z h)]; exact s b u z
theorem RN.now {d : D} {v : V} (h : RN K F H (.now d) Q) (s : Ex F H) (r : Dp K F v d) : Q v H := h v F H (Go.refl _ _ _) s r
theorem RN.tup {ds : List D} {vs : List V} (h : RN K F H (.now (.tuple ds)) Q) (s : Ex F H) (r : DpAll K F vs ds) {p : Addr} (hp : H p = none) : Q (.ref p) (upd H p (.tup vs)) :=
  h _ (upd F p (.tup vs)) _ (Go.new s hp) (s.both p _) (.tup (.inl (.inl upd_same)) (dpa_ex (Ex.put (s.none hp)) _ _ r))
theorem RN.lst {ds : List D} {vs : List V} (h : RN K F H (.tmp ds) Q) (s : Ex F H) (r : DpAll K F vs ds) {p : Addr} (hp : H p = none) : Q (.ref p) (upd H p (.lst vs)) :=
  h _ F _ (Go.newM hp) (s.right (s.none hp)) ⟨p, vs, rfl, upd_same, s.none hp, hp, r⟩
theorem szOk_le {n : Nat} (h : szOk n = true) : n ≤ sizeLine := by
  rw [sizeLine_eq]; exact of_decide_eq_true h
theorem VR.lst {v : V} {ds : List D} (h : VR K F H v (.list ds)) : ∃ a vs, v = .ref a ∧ SqL K H a vs ∧ DpAll K F vs ds := h
theorem VR.tup {v : V} {ds : List D} (s : Ex F H) (h : VR K F H v (.tuple ds)) : ∃ a vs, v = .ref a ∧ SqT K H a vs ∧ DpAll K F vs ds := by
  have h : Dp K F v (.tuple ds) := h
  cases h with | tup q a => exact ⟨_, _, rfl, s.sqt q, a⟩
theorem VR.int {v : V} {i : Int} (h : VR K F H v (.int i)) : v = .int i := by
  have h : Dp K F v (.int i) := h
  cases h; rfl
theorem VR.bl {v : V} {i : Bool} (h : VR K F H v (.bool i)) : v = .bl i := by
  have h : Dp K F v (.bool i) := h
  cases h; rfl
theorem VR.str {v : V} {i : Str} (h : VR K F H v (.str i)) : v = .str i := by
  have h : Dp K F v (.str i) := h
  cases h; rfl
theorem VR.non {v : V} (h : VR K F H v .none) : v = .non := by
  have h : Dp K F v .none := h
  cases h; rfl
end

section
variable {X : Cx}
theorem op_catL : OpR X (binaryOp .Add) (fun x y H Q => ∃ l b xs zs, x = .ref l ∧ y = .ref b ∧ SqL X.K H l xs ∧ SqL X.K H b zs ∧ xs.length + zs.length ≤ sizeLine ∧ ∀ p, H p = none → Q (.ref p) (upd H p (.lst (xs ++ zs)))) := by
  intro pins s σ H x y v u Q I rx ry h
  obtain ⟨l, b, xs, zs, rfl, rfl, hl, hb, hz, q⟩ := h
  cases rx
  cases ry
  obtain ⟨vs, r1, ⟨⟨cls, dd, data, sl⟩, n, ho, hc, _, hd⟩, _⟩ := I.list hl
  obtain ⟨ws, r2, ⟨⟨cls2, dd2, data2, sl2⟩, n2, ho2, hc2, _, hd2⟩, _⟩ := I.list hb
  simp only at hc hd hc2 hd2
  subst hc hd hc2 hd2
  have e : vs.toArray ++ ws.toArray = (vs ++ ws).toArray := by simp
  have e1 := r1.length
  have e2 := r2.length
  refine concat_meets ⟨_, ho, rfl⟩ ⟨_, ho2, rfl⟩ noFill_list_add seq_list_add PySem.F.slot_list_add PySem.F.entry_list_add (PySem.F.args_list_add_2 _ _) (list_addW l b vs.toArray ws.toArray n n2 dd dd2 sl sl2 (by rw [List.size_toArray, List.size_toArray]; omega)) ⟨ho, ho2, ?_⟩
  rw [e]
  exact ⟨.ref _, _, I.lnew (t' := s.toks) (r1.append r2) (by rw [List.length_append]; omega), rfl, q _ I.fresh⟩

theorem dpa_rep {K : Frag} {F : Hp} {vs : List V} {ds : List D} (h : DpAll K F vs ds) : ∀ n : Nat, DpAll K F (List.replicate n vs).flatten (List.replicate n ds).flatten
  | 0 => .nil
  | n + 1 => by
    rw [List.replicate_succ, List.replicate_succ, List.flatten_cons, List.flatten_cons]
    exact dpa_app h (dpa_rep h n)
/-! ### two-place operators -/
def rBin (K : Frag) (op : Operator) : R2 := fun x y H Q => ∃ F d d' w, Ex F H ∧ VR K F H x d ∧ VR K F H y d' ∧ binD op d d' = some w ∧ RN K F H w Q
theorem opBin (op : Operator) : OpR X (binaryOp op) (rBin X.K op) := by
  intro pins s σ H x y v u Q I rx ry h
  obtain ⟨F, d, d', w, sub, r1, r2, e, q⟩ := h
  unfold binD at e
  split at e
  · have e1 := r1.int; have e2 := r2.int; subst e1 e2; cases e
    exact op_add pins s σ H _ _ v u Q I rx ry ⟨_, _, rfl, rfl, q.now sub (.int _)⟩
  · have e1 := r1.str; have e2 := r2.str; subst e1 e2
    split at e
    · rename_i hz
      cases e
      exact op_add_str pins s σ H _ _ v u Q I rx ry ⟨_, _, rfl, rfl, szOk_le hz, q.now sub (.str _)⟩
    · cases e
  · split at e
    · rename_i as bs hz
      cases e
      obtain ⟨a, xs, rfl, h1, a1⟩ := r1.tup sub
      obtain ⟨b, ys, rfl, h2, a2⟩ := r2.tup sub
      have l1 := dpa_len a1
      have l2 := dpa_len a2
      have z := szOk_le hz
      rename_i hz'
      refine op_catA pins s σ H _ _ v u Q I rx ry ⟨a, b, xs, ys, rfl, rfl, h1, h2, by omega, fun z => ?_, fun _ z => ?_, fun _ _ p hp => ?_⟩
      · subst z
        cases a1
        refine q.now sub ?_
        rw [List.nil_append]
        have := r2; exact this
      · subst z
        cases a2
        refine q.now sub ?_
        rw [List.append_nil]
        have := r1; exact this
      · exact q.tup sub (dpa_app a1 a2) hp
    · cases e
  · split at e
    · rename_i hz
      cases e
      obtain ⟨a, xs, rfl, h1, a1⟩ := r1.lst
      obtain ⟨b, ys, rfl, h2, a2⟩ := r2.lst
      have l1 := dpa_len a1
      have l2 := dpa_len a2
      have z := szOk_le hz
      exact op_catL pins s σ H _ _ v u Q I rx ry ⟨a, b, xs, ys, rfl, rfl, h1, h2, by omega, fun p hp => q.lst sub (dpa_app a1 a2) hp⟩
    · cases e
  · have e1 := r1.int; have e2 := r2.int; subst e1 e2; cases e
    exact op_sub pins s σ H _ _ v u Q I rx ry ⟨_, _, rfl, rfl, q.now sub (.int _)⟩
  · have e1 := r1.int; have e2 := r2.int; subst e1 e2
    split at e
    · rename_i hz
      cases e
      have qq := q.now sub (.int _)
      unfold mulOk at hz
      simp only [Bool.or_eq_true, decide_eq_true_eq] at hz
      rcases hz with (hz | hz) | hz
      · exact op_mul pins s σ H _ _ v u Q I rx ry ⟨_, _, rfl, rfl, .inl (smallI_of hz), qq⟩
      · exact op_mul pins s σ H _ _ v u Q I rx ry ⟨_, _, rfl, rfl, .inr (smallI_of hz), qq⟩
      · exact op_mulW pins s σ H _ _ v u Q I rx ry ⟨_, _, rfl, rfl, hz, qq⟩
    · cases e
  · split at e
    · rename_i as k hz
      cases e
      simp only [Bool.and_eq_true, decide_eq_true_eq, Bool.not_eq_true'] at hz
      obtain ⟨⟨⟨z1, z2⟩, z3⟩, z4⟩ := hz
      have z4 := inB_of z4
      have r1' : Dp X.K F x (.tuple as) := r1
      obtain ⟨a, xs, rfl, h1, a1⟩ := r1.tup sub
      have e2 := r2.int; subst e2
      have l1 := dpa_len a1
      rcases Classical.em (k = 1) with e1 | e1
      · subst e1
        have e3 : (List.replicate (1 : Int).toNat as).flatten = as := by simp
        rw [e3] at q
        exact op_rep1 pins s σ H _ _ v u Q I rx ry ⟨a, xs, rfl, rfl, h1, q.now sub r1'⟩
      · refine op_repT pins s σ H _ _ v u Q I rx ry ⟨a, k, xs, rfl, rfl, h1, fun z => ?_, by omega, by omega, by omega, fun p hp => q.tup sub (dpa_rep a1 _) hp⟩
        subst z
        cases a1
        cases z1
    · cases e
  · have e1 := r1.int; have e2 := r2.int; subst e1 e2
    split at e
    · rename_i hz
      cases e
      unfold divOk at hz
      simp only [Bool.and_eq_true, decide_eq_true_eq] at hz
      exact op_fdivW pins s σ H _ _ v u Q I rx ry ⟨_, _, rfl, rfl, hz, q.now sub (.int _)⟩
    · cases e
  · have e1 := r1.int; have e2 := r2.int; subst e1 e2
    split at e
    · rename_i hz
      cases e
      exact op_mod pins s σ H _ _ v u Q I rx ry ⟨_, _, rfl, rfl, of_decide_eq_true hz, q.now sub (.int _)⟩
    · cases e
  · have e1 := r1.int; have e2 := r2.int; subst e1 e2
    split at e
    · rename_i hz
      cases e
      exact op_pow pins s σ H _ _ v u Q I rx ry ⟨_, _, rfl, rfl, powOk_of hz, q.now sub (.int _)⟩
    · cases e
  · cases e
theorem unNeg : UnR X (unaryOp .USub) (fun x H Q => ∃ F i, VR X.K F H x (.int i) ∧ Q (.int (-i)) H) := by
  intro pins s σ H x v Q I rx h
  obtain ⟨F, i, r, q⟩ := h
  have e := r.int; subst e
  exact un_neg pins s σ H _ v Q I rx ⟨_, rfl, q⟩

/-! ### comparisons -/
theorem flatV_of {K : Frag} {F : Hp} {d : D} {v : V} (h : Dp K F v d) (f : flatD d = true) : flatV v = true := by
  cases h <;> first | rfl | cases f
theorem flatAll_of {K : Frag} {F : Hp} : ∀ {ds : List D} {vs : List V}, DpAll K F vs ds → ds.all flatD = true → vs.all flatV = true
  | _, _, .nil, _ => rfl
  | _, _, .cons a b, f => by
    rw [List.all_cons, Bool.and_eq_true] at f
    rw [List.all_cons, flatV_of a f.1, flatAll_of b f.2]; rfl
theorem eqV_of {K : Frag} {F F' : Hp} {d e : D} {v u : V} (h : Dp K F v d) (h' : Dp K F' u e) (f : flatD d = true) (f' : flatD e = true) : eqV v u = PyData.eqv d e := by
  cases h <;> first | cases f | skip
  all_goals (cases h' <;> first | cases f' | rfl | skip)
  all_goals simp [eqV, PyData.eqv]
theorem inV_of {K : Frag} {F F' : Hp} {d : D} {v : V} (h : Dp K F v d) (f : flatD d = true) : ∀ {ds : List D} {vs : List V}, DpAll K F' vs ds → ds.all flatD = true → inV v vs = inD d ds
  | _, _, .nil, _ => rfl
  | _, _, .cons a b, g => by
    rw [List.all_cons, Bool.and_eq_true] at g
    have ih := inV_of h f b g.2
    unfold inV inD at ih ⊢
    rw [List.any_cons, List.any_cons, ih, eqV_of a h g.1 f]
theorem ordOk_of {x y : D} (h : ordOk x y = true) : PySem.W.alike x y = true ∧ x ≠ .none ∧ x.depth ≤ 60 := by
  unfold ordOk at h
  simp only [Bool.and_eq_true, decide_eq_true_eq] at h
  refine ⟨h.1.1, ?_, h.2⟩
  rintro rfl
  exact absurd h.1.2 (by simp)
def rCmp (K : Frag) (op : CmpOp) : R2 := fun x y H Q => ∃ F d d' b, Ex F H ∧ VR K F H x d ∧ VR K F H y d' ∧ cmpD op d d' = some b ∧ Q (.bl b) H
theorem opCmp (hu : X.A.units + 64 < cLine) (op : CmpOp) : OpR X (compareOp op) (rCmp X.K op) := by
  intro pins s σ H x y v u Q I rx ry h
  obtain ⟨F, d, d', w, sub, r1, r2, e, q⟩ := h
  have ord : ∀ (hd : ordOk d d' = true), ∃ as bs, Reads s.heap v d as ∧ Reads s.heap u d' bs ∧ PySem.W.alike d d' = true ∧ d ≠ .none ∧ X.A.units + min d.depth d'.depth < cLine := fun hd => by
    obtain ⟨h1, h2, h3⟩ := ordOk_of hd
    obtain ⟨as, q1⟩ := Dp.reads I d x v (r1.dp sub) rx
    obtain ⟨bs, q2⟩ := Dp.reads I d' y u (r2.dp sub) ry
    have : min d.depth d'.depth ≤ d.depth := Nat.min_le_left _ _
    exact ⟨as, bs, q1, q2, h1, h2, by omega⟩
  have fin : ∀ {b : Bool}, Q (.bl b) H → EP X pins σ Q (.bool b) s := fun q => ⟨.bl _, H, I, rfl, q⟩
  unfold cmpD at e
  split at e
  · split at e
    · rename_i hz
      rw [Bool.and_eq_true] at hz
      cases e
      exact op_eqD hu pins s σ H _ _ v u Q I rx ry ⟨_, _, r1.dp sub, r2.dp sub, hz.1, hz.2, q⟩
    · cases e
  · split at e
    · rename_i hz
      rw [Bool.and_eq_true] at hz
      cases e
      exact op_neD hu pins s σ H _ _ v u Q I rx ry ⟨_, _, r1.dp sub, r2.dp sub, hz.1, hz.2, q⟩
    · cases e
  · have e1 := r1.int; have e2 := r2.int; subst e1 e2; cases e
    exact op_lt pins s σ H _ _ v u Q I rx ry ⟨_, _, rfl, rfl, q⟩
  · have e1 := r1.int; have e2 := r2.int; subst e1 e2; cases e
    exact op_le pins s σ H _ _ v u Q I rx ry ⟨_, _, rfl, rfl, q⟩
  · have e1 := r1.int; have e2 := r2.int; subst e1 e2; cases e
    exact op_gt pins s σ H _ _ v u Q I rx ry ⟨_, _, rfl, rfl, q⟩
  · have e1 := r1.int; have e2 := r2.int; subst e1 e2; cases e
    exact op_ge pins s σ H _ _ v u Q I rx ry ⟨_, _, rfl, rfl, q⟩
  · split at e
    · rename_i hz
      cases e
      obtain ⟨as, bs, q1, q2, h1, h2, h3⟩ := ord hz
      exact PySem.W.lt_data q1 q2 h1 h2 h3 (fin q)
    · cases e
  · split at e
    · rename_i hz
      cases e
      obtain ⟨as, bs, q1, q2, h1, h2, h3⟩ := ord hz
      exact PySem.W.le_data q1 q2 h1 h2 h3 (fin q)
    · cases e
  · split at e
    · rename_i hz
      cases e
      obtain ⟨as, bs, q1, q2, h1, h2, h3⟩ := ord hz
      exact PySem.W.gt_data q1 q2 h1 h2 h3 (fin q)
    · cases e
  · split at e
    · rename_i hz
      cases e
      obtain ⟨as, bs, q1, q2, h1, h2, h3⟩ := ord hz
      exact PySem.W.ge_data q1 q2 h1 h2 h3 (fin q)
    · cases e
  · have e1 := r1.non; have e2 := r2.non; subst e1 e2; cases e
    exact op_isN pins s σ H _ _ v u Q I rx ry ⟨rfl, q⟩
  · rename_i hn
    have e2 := r2.non; subst e2; cases e
    refine op_isN pins s σ H _ _ v u Q I rx ry ⟨rfl, ?_⟩
    have hx : ¬ x = .non := fun z => by
      subst z
      have h := r1.dp sub
      cases h
      exact hn rfl
    rw [decide_eq_false hx]
    exact q
  · have e1 := r1.bl; have e2 := r2.bl; subst e1 e2; cases e
    exact op_isBl pins s σ H _ _ v u Q I rx ry ⟨_, _, rfl, rfl, q⟩
  · have e1 := r1.non; have e2 := r2.non; subst e1 e2; cases e
    exact op_notN pins s σ H _ _ v u Q I rx ry ⟨rfl, q⟩
  · rename_i hn
    have e2 := r2.non; subst e2; cases e
    refine op_notN pins s σ H _ _ v u Q I rx ry ⟨rfl, ?_⟩
    have hx : ¬ x = .non := fun z => by
      subst z
      have h := r1.dp sub
      cases h
      exact hn rfl
    rw [decide_eq_false hx]
    exact q
  · have e1 := r1.bl; have e2 := r2.bl; subst e1 e2; cases e
    exact op_notBl pins s σ H _ _ v u Q I rx ry ⟨_, _, rfl, rfl, q⟩
  · split at e
    · rename_i hz
      rw [Bool.and_eq_true] at hz
      cases e
      obtain ⟨a, vs, rfl, h1, al⟩ := r2.lst
      have r1' := r1.dp sub
      exact op_in_seq pins s σ H _ _ v u Q I rx ry ⟨a, vs, rfl, .inl h1, flatV_of r1' hz.1, flatAll_of al hz.2, by rw [inV_of r1' hz.1 al hz.2]; exact q⟩
    · cases e
  · split at e
    · rename_i hz
      rw [Bool.and_eq_true] at hz
      cases e
      obtain ⟨a, vs, rfl, h1, al⟩ := r2.tup sub
      have r1' := r1.dp sub
      exact op_in_seq pins s σ H _ _ v u Q I rx ry ⟨a, vs, rfl, .inr h1, flatV_of r1' hz.1, flatAll_of al hz.2, by rw [inV_of r1' hz.1 al hz.2]; exact q⟩
    · cases e
  · split at e
    · rename_i hz
      rw [Bool.and_eq_true] at hz
      cases e
      obtain ⟨a, vs, rfl, h1, al⟩ := r2.lst
      have r1' := r1.dp sub
      exact op_notIn_seq pins s σ H _ _ v u Q I rx ry ⟨a, vs, rfl, .inl h1, flatV_of r1' hz.1, flatAll_of al hz.2, by rw [inV_of r1' hz.1 al hz.2]; exact q⟩
    · cases e
  · split at e
    · rename_i hz
      rw [Bool.and_eq_true] at hz
      cases e
      obtain ⟨a, vs, rfl, h1, al⟩ := r2.tup sub
      have r1' := r1.dp sub
      exact op_notIn_seq pins s σ H _ _ v u Q I rx ry ⟨a, vs, rfl, .inr h1, flatV_of r1' hz.1, flatAll_of al hz.2, by rw [inV_of r1' hz.1 al hz.2]; exact q⟩
    · cases e
  · cases e

/-! ### truth -/
theorem tru_of {K : Frag} {F H : Hp} {x : V} {d : D} {b : Bool} (sub : Ex F H) (r : VR K F H x d) (e : truD d = some b) : TruV K x H b := by
  cases d with
  | none => cases e; have := r.non; subst this; rfl
  | bool c => cases e; have := r.bl; subst this; rfl
  | int i => cases e; have := r.int; subst this; rfl
  | str z =>
    have := r.str; subst this
    change (if szOk z.length = true then some (z.length != 0) else Option.none) = some b at e
    split at e
    · rename_i hz
      cases e
      refine ⟨szOk_le hz, ?_⟩
      cases hl : z.length with
      | zero => rfl
      | succ n =>
        have : ((n + 1 : Nat) : Int) ≠ 0 := by omega
        rw [show ((n + 1 != 0) : Bool) = true from rfl]
        exact (bne_iff_ne.mpr this).symm
    · cases e
  | list ds =>
    cases e
    obtain ⟨a, vs, rfl, h1, al⟩ := r.lst
    refine .inl ⟨vs, h1, ?_⟩
    cases al <;> rfl
  | tuple ds =>
    cases e
    obtain ⟨a, vs, rfl, h1, al⟩ := r.tup sub
    refine .inr (.inl ⟨vs, h1, ?_⟩)
    cases al <;> rfl
  | dict _ => cases e

/-! ### subscripts, slices -/
theorem atI_dp {K : Frag} {F : Hp} {vs : List V} {ds : List D} {i : Int} {d : D} (al : DpAll K F vs ds) (h : atI ds i = some d) : ∃ v, atI vs i = some v ∧ Dp K F v d := by
  unfold atI at h ⊢
  rw [dpa_len al]
  cases e : ixN ds.length i with
  | none => rw [e] at h; cases h
  | some j =>
    rw [e] at h
    obtain ⟨v, h1, h2⟩ := dpa_get al h
    exact ⟨v, h1, h2⟩
def rIxD (K : Frag) : R2 := fun x y H Q => ∃ F d d' w, Ex F H ∧ VR K F H x d ∧ VR K F H y d' ∧ ixD d d' = some w ∧ ∀ v, Dp K F v w → Q v H
theorem ixAll : IxR X (rIxD X.K) := by
  intro value slice pins s σ H x y v u Q I rx ry h hs
  obtain ⟨F, d, d', w, sub, r1, r2, e, q⟩ := h
  unfold ixD at e
  split at e
  · obtain ⟨a, vs, rfl, h1, al⟩ := r1.lst
    have e2 := r2.int; subst e2
    obtain ⟨v', h2, h3⟩ := atI_dp al e
    exact ix_list value slice pins s σ H _ _ v u Q I rx ry ⟨a, vs, _, v', rfl, rfl, h1, h2, q _ h3⟩ hs
  · obtain ⟨a, vs, rfl, h1, al⟩ := r1.tup sub
    have e2 := r2.int; subst e2
    obtain ⟨v', h2, h3⟩ := atI_dp al e
    exact ix_tup value slice pins s σ H _ _ v u Q I rx ry ⟨a, vs, _, v', rfl, rfl, h1, h2, q _ h3⟩ hs
  · have e1 := r1.str; have e2 := r2.int; subst e1 e2
    split at e
    · rename_i z i hz
      cases hc : atI z.cps.toList i with
      | none => rw [hc] at e; cases e
      | some c =>
        rw [hc] at e
        cases e
        exact ix_str value slice pins s σ H _ _ v u Q I rx ry ⟨_, _, c, rfl, rfl, szOk_le hz, hc, q _ (.str _)⟩ hs
    · cases e
  · cases e
def rSlD (K : Frag) : V → Option Int → Option Int → Hp → VK → Prop := fun x lo hi H Q => ∃ F d w, Ex F H ∧ VR K F H x d ∧ slD d lo hi = some w ∧ RN K F H w Q
theorem cut_dp {K : Frag} {F : Hp} {vs : List V} {ds : List D} {lo hi : Option Int} (al : DpAll K F vs ds) : DpAll K F (cutV vs lo hi) (cutD ds lo hi) := by
  unfold cutV cutD
  rw [dpa_len al]
  exact dpa_take _ (dpa_drop _ al)
theorem slAll : SlR X (rSlD X.K) := by
  intro pins s σ H x v vl vu lo hi sl Q I rx hs pl pu h
  obtain ⟨F, d, w, sub, r1, e, q⟩ := h
  unfold slD at e
  split at e
  · cases e
    obtain ⟨a, vs, rfl, h1, al⟩ := r1.lst
    exact sl_list pins s σ H _ v vl vu lo hi sl Q I rx hs pl pu ⟨a, vs, rfl, h1, fun p hp => q.lst sub (cut_dp al) hp⟩
  · cases e
    rename_i ds
    have r1' : Dp X.K F x (.tuple ds) := r1
    obtain ⟨a, vs, rfl, h1, al⟩ := r1.tup sub
    refine sl_tupA pins s σ H _ v vl vu lo hi sl Q I rx hs pl pu ⟨a, vs, rfl, h1, fun hw => ?_, fun _ p hp => q.tup sub (cut_dp al) hp⟩
    have hl := dpa_len al
    refine q.now sub ?_
    have e2 : cutD ds lo hi = ds := by
      unfold cutD
      rw [← hl, hw.1, hw.2, Nat.sub_zero, List.drop_zero, hl, List.take_length]
    rw [e2]
    exact r1'
  · cases e
/-! ### built-in functions -/
theorem boolsD_of {K : Frag} {F : Hp} : ∀ {ds : List D} {vs : List V} {bs : List Bool}, DpAll K F vs ds → boolsD ds = some bs → vs = bs.map V.bl
  | _, _, _, .nil, e => by cases e; rfl
  | _, _, bs, .cons (d := d) (ds := ds) a b, e => by
    cases d with
    | bool c =>
      cases a
      cases h : boolsD ds with
      | none => rw [boolsD, h] at e; cases e
      | some r =>
        rw [boolsD, h] at e
        cases e
        rw [boolsD_of b h]; rfl
    | _ => cases e
theorem intsD_of {K : Frag} {F : Hp} : ∀ {ds : List D} {vs : List V} {bs : List Int}, DpAll K F vs ds → intsD ds = some bs → vs = bs.map V.int
  | _, _, _, .nil, e => by cases e; rfl
  | _, _, bs, .cons (d := d) (ds := ds) a b, e => by
    cases d with
    | int c =>
      cases a
      cases h : intsD ds with
      | none => rw [intsD, h] at e; cases e
      | some r =>
        rw [intsD, h] at e
        cases e
        rw [intsD_of b h]; rfl
    | _ => cases e
theorem alikeL_of {xs : List D} (h : alikeL xs = true) : PySem.W.AlikeAll xs ∧ PyData.depthAll xs ≤ 40 ∧ ∀ x ∈ xs, x.canLay0 = true := by
  unfold alikeL at h
  simp only [Bool.and_eq_true, decide_eq_true_eq, List.all_eq_true] at h
  refine ⟨⟨fun x hx y hy => h.1.1.1 x hx y hy, fun x hx z => ?_⟩, h.1.2, h.2⟩
  subst z
  exact absurd (h.1.1.2 _ hx) (by simp)
theorem foldl_mem (f : D → D → D) (hf : ∀ a b, f a b = a ∨ f a b = b) : ∀ (xs : List D) (x : D), xs.foldl f x ∈ x :: xs
  | [], x => by simp
  | y :: ys, x => by
    have ih := foldl_mem f hf ys (f x y)
    rw [List.foldl_cons]
    rcases List.mem_cons.mp ih with h | h
    · rw [h]
      rcases hf x y with e | e <;> rw [e] <;> simp
    · exact List.mem_cons_of_mem _ (List.mem_cons_of_mem _ h)
theorem minD_mem (x : D) (xs : List D) : PySem.W.minD x xs ∈ x :: xs := foldl_mem _ (fun a b => by
  show (if PySem.W.dataLt b a = true then b else a) = a ∨ (if PySem.W.dataLt b a = true then b else a) = b
  split <;> simp) _ _
theorem maxD_mem (x : D) (xs : List D) : PySem.W.maxD x xs ∈ x :: xs := foldl_mem _ (fun a b => by
  show (if PySem.W.dataLt a b = true then b else a) = a ∨ (if PySem.W.dataLt a b = true then b else a) = b
  split <;> simp) _ _
/-- the i-th item, read as m, is m -/
theorem pick {pins : List (Addr × Obj)} {s : Shared} {σ : L2.St} {F H : Hp} {vs : List V} {us : List Value} {ds : List D} {m : D} {h' : Heap} {i : Nat} {u : Value} {bs : List Addr} (I : Inv X pins σ H s) (sub : Ex F H) (al : DpAll X.K F vs ds) (rv : Vals vs us)
    (hi : us[i]? = some u) (hr : Reads h' u m bs) (k : ∀ b o, s.heap.get? b = some o → h'.get? b = some o) (hm : m.canLay0 = true) : ∃ v, RelV v u ∧ Dp X.K F v m := by
  have hl := rv.length
  have hlt : i < vs.length := by
    have := (List.getElem?_eq_some_iff.mp hi).1
    omega
  obtain ⟨d, e1, e2⟩ := dpa_getV al (List.getElem?_eq_getElem hlt)
  obtain ⟨u', e3, e4⟩ := rv.get (List.getElem?_eq_getElem hlt)
  rw [hi] at e3
  cases e3
  obtain ⟨as, q⟩ := Dp.reads I d _ u (dp_ex sub _ _ e2) e4
  have q' := Reads.keeps k q
  have := PySem.SeqAt.Reads.unique m d u bs as hm hr q'
  subst this
  exact ⟨_, e4, e2⟩
theorem sortB_of {xs : List D} (h : sortB xs = true) : PySem.W.Sortable xs := by
  unfold sortB at h
  rw [Bool.or_eq_true] at h
  rcases h with h | h
  · refine .inl fun d hd => ?_
    have := List.all_eq_true.mp h d hd
    unfold isTup1 at this
    split at this
    · exact ⟨_, _, rfl⟩
    · cases this
  · refine .inr fun d hd => ?_
    have := List.all_eq_true.mp h d hd
    refine ⟨fun z => ?_, fun xs z => ?_⟩ <;> (subst z; cases this)
theorem zip_dp {K : Frag} {F : Hp} : ∀ {vs : List V} {ds : List D}, DpAll K F vs ds → ∀ p ∈ vs.zip ds, Dp K F p.1 p.2
  | _, _, .nil => fun _ h => by cases h
  | _, _, .cons a b => fun p h => by
    rcases List.mem_cons.mp h with e | e
    · subst e; exact a
    · exact zip_dp b p e
theorem dp_zip {K : Frag} {F : Hp} : ∀ {l : List (V × D)}, (∀ p ∈ l, Dp K F p.1 p.2) → DpAll K F (l.map (·.1)) (l.map (·.2))
  | [], _ => .nil
  | p :: l, h => .cons (h p List.mem_cons_self) (dp_zip fun q hq => h q (List.mem_cons_of_mem _ hq))
theorem each_rel {K : Frag} {F : Hp} : ∀ {vs : List V} {us : List Value} {ds : List D}, Vals vs us → DpAll K F vs ds → PySem.W.EachIs (fun (u : Value) (b : V × D) => RelV b.1 u) us (vs.zip ds)
  | _, _, _, .nil, .nil => .nil
  | _, _, _, .cons r t, .cons _ b => .cons r (each_rel t b)
theorem each_reads {X : Cx} {pins : List (Addr × Obj)} {s : Shared} {σ : L2.St} {F H : Hp} (I : Inv X pins σ H s) (sub : Ex F H) : ∀ {vs : List V} {us : List Value} {ds : List D}, Vals vs us → DpAll X.K F vs ds → PySem.W.EachIs (fun (u : Value) (b : V × D) => ∃ as, Reads s.heap u b.2 as) us (vs.zip ds)
  | _, _, _, .nil, .nil => .nil
  | _, _, _, .cons r t, .cons a b => .cons (Dp.reads I _ _ _ (dp_ex sub _ _ a) r) (each_reads I sub t b)
theorem vals_each : ∀ {us : List Value} {l : List (V × D)}, PySem.W.EachIs (fun (u : Value) (b : V × D) => RelV b.1 u) us l → Vals (l.map (·.1)) us
  | _, _, .nil => .nil
  | _, _, .cons r t => .cons r (vals_each t)
theorem zip_snd {K : Frag} {F : Hp} : ∀ {vs : List V} {ds : List D}, DpAll K F vs ds → (vs.zip ds).map (·.2) = ds
  | _, _, .nil => rfl
  | _, _, .cons _ b => by
    rw [List.zip_cons_cons, List.map_cons, zip_snd b]
theorem depth_le : ∀ {ds : List D} {d : D}, d ∈ ds → d.depth ≤ PyData.depthAll ds
  | e :: ds, d, h => by
    rw [PyData.depthAll]
    rcases List.mem_cons.mp h with z | z
    · subst z; exact Nat.le_max_left _ _
    · exact Nat.le_trans (depth_le z) (Nat.le_max_right _ _)
theorem call_sortD {X : Cx} (hu : X.A.units + 64 < cLine) : CallR X (.builtin "sorted") (fun xs H Q => ∃ a vs F ds, xs = [V.ref a] ∧ Ex F H ∧ SqL X.K H a vs ∧ DpAll X.K F vs ds ∧ alikeL ds = true ∧ sortB ds = true ∧ RN X.K F H (.tmp (sortD ds)) Q) := by
  intro pins s σ H xs us Q I r h
  obtain ⟨a, vs, F, ds, rfl, sub, hs, al, hal, hsb, q⟩ := h
  rw [Vals.ref1 r]
  obtain ⟨its, rv, pl, hz⟩ := I.list hs
  obtain ⟨hA, hd, _⟩ := alikeL_of hal
  have hl := rv.length
  have hb : (vs.zip ds).length = its.length := by rw [List.length_zip, dpa_len al, Nat.min_self, ← dpa_len al, hl]
  have hsnd := zip_snd al
  have hfresh : H (s.heap.objs.size + 1) = none := I.hok.fresh (Nat.le_succ _)
  refine PySem.W.sorted_data (bs := vs.zip ds) (enc := fun p => p.2) (R := fun (u : Value) (b : V × D) => RelV b.1 u) pl.isList (each_rel rv al) (each_reads I sub rv al) (by rw [hsnd]; exact fun x hx y hy => hA.1 x hx y hy) (by rw [hsnd]; exact sortB_of hsb) (by rw [hb]; omega)
    (fun b hb => ?_) fun out ho he => ?_
  · have hm : b.2 ∈ ds := by rw [← hsnd]; exact List.mem_map.mpr ⟨b, hb, rfl⟩
    have : b.2.depth ≤ PyData.depthAll ds := depth_le hm
    omega
  · obtain ⟨c, hc⟩ := sortedAll_at s.heap its out.toArray
    have hv := vals_each he
    have hlen : ((vs.zip ds).mergeSort (PySem.W.dataLe false fun p => p.2)).length ≤ sizeLine := by rw [List.length_mergeSort, hb]; omega
    refine ⟨.ref (s.heap.objs.size + 1), upd H (s.heap.objs.size + 1) (.lst (((vs.zip ds).mergeSort (PySem.W.dataLe false fun p => p.2)).map (·.1))), I.laid (t' := s.toks) (fun _ _ => sortedAll_old) (Nat.le_succ _) ⟨by rw [List.length_map]; exact hlen, out, c, hv, hc⟩, rfl, ?_⟩
    refine q.lst sub ?_ hfresh
    have e : ((vs.zip ds).mergeSort (PySem.W.dataLe false fun p => p.2)).map (·.2) = sortD ds := by
      have z := List.map_mergeSort (l := vs.zip ds) (f := fun p : V × D => p.2) (r := PySem.W.dataLe false fun p => p.2) (s := fun a b => !PySem.W.dataLt b a) fun a _ b _ => rfl
      rw [z, hsnd]
      rfl
    rw [← e]
    exact dp_zip fun p hp => zip_dp al p (List.mem_mergeSort.mp hp)
/-- what each built-in function comes to -/
def rBf (K : Frag) (f : Bf) : List V → Hp → VK → Prop := fun xs H Q => ∃ F ds w, Ex F H ∧ (∃ n, n = ds.length ∧ xs.length = n ∧ ∀ (i : Nat) d v, ds[i]? = some d → xs[i]? = some v → VR K F H v d) ∧ bfD f ds = some w ∧ RN K F H w Q
def bfV : Bf → Value
  | .len => .builtin "len" | .sum => .builtin "sum" | .all => .builtin "all" | .any => .builtin "any" | .abs => .builtin "abs" | .min => .builtin "min" | .max => .builtin "max"
  | .tuple => .type "tuple" | .list => .type "list" | .int => .type "int" | .bool => .type "bool" | .sorted => .builtin "sorted" | .dvm => .builtin "divmod"
theorem one_vr {K : Frag} {F H : Hp} {xs : List V} {d : D} (h : ∃ n, n = [d].length ∧ xs.length = n ∧ ∀ (i : Nat) d' v, [d][i]? = some d' → xs[i]? = some v → VR K F H v d') : ∃ v, xs = [v] ∧ VR K F H v d := by
  obtain ⟨n, rfl, h2, h3⟩ := h
  match xs, h2 with
  | [v], _ => exact ⟨v, rfl, h3 0 d v rfl rfl⟩
theorem two_vr {K : Frag} {F H : Hp} {xs : List V} {d e : D} (h : ∃ n, n = [d, e].length ∧ xs.length = n ∧ ∀ (i : Nat) d' v, [d, e][i]? = some d' → xs[i]? = some v → VR K F H v d') : ∃ v u, xs = [v, u] ∧ VR K F H v d ∧ VR K F H u e := by
  obtain ⟨n, rfl, h2, h3⟩ := h
  match xs, h2 with
  | [v, u], _ => exact ⟨v, u, rfl, h3 0 d v rfl rfl, h3 1 e u rfl rfl⟩
theorem bfAll (hc : X.calm = true) (hu : X.A.units + 64 < cLine) (f : Bf) : CallR X (bfV f) (rBf X.K f) := by
  intro pins s σ H xs us Q I rx h
  obtain ⟨F, ds, w, sub, h1, e, q⟩ := h
  have hh := I.ok.hd hc
  unfold bfD at e
  split at e
  · cases e
    obtain ⟨v, rfl, r⟩ := one_vr h1
    obtain ⟨a, vs, rfl, h1, al⟩ := r.lst
    exact call_len_seq pins s σ H _ us Q I rx ⟨a, vs, rfl, .inl h1, by rw [dpa_len al]; exact q.now sub (.int _)⟩
  · cases e
    obtain ⟨v, rfl, r⟩ := one_vr h1
    obtain ⟨a, vs, rfl, h1, al⟩ := r.tup sub
    exact call_len_seq pins s σ H _ us Q I rx ⟨a, vs, rfl, .inr h1, by rw [dpa_len al]; exact q.now sub (.int _)⟩
  · split at e
    · rename_i hz
      cases e
      obtain ⟨v, rfl, r⟩ := one_vr h1
      have := r.str; subst this
      exact call_len_str pins s σ H _ us Q I rx ⟨_, rfl, szOk_le hz, q.now sub (.int _)⟩
    · cases e
  · rename_i ds
    obtain ⟨v, rfl, r⟩ := one_vr h1
    obtain ⟨a, vs, rfl, h1, al⟩ := r.lst
    cases hb : intsD ds with
    | none => rw [hb] at e; cases e
    | some bs =>
      rw [hb] at e
      cases e
      have := intsD_of al hb; subst this
      exact cr_sum hc pins s σ H _ us Q I rx ⟨a, bs, rfl, h1, q.now sub (.int _)⟩
  · rename_i ds
    obtain ⟨v, rfl, r⟩ := one_vr h1
    obtain ⟨a, vs, rfl, h1, al⟩ := r.lst
    cases hb : boolsD ds with
    | none => rw [hb] at e; cases e
    | some bs =>
      rw [hb] at e
      cases e
      have := boolsD_of al hb; subst this
      exact cr_all hc pins s σ H _ us Q I rx ⟨a, bs, rfl, h1, q.now sub (.bl _)⟩
  · rename_i ds
    obtain ⟨v, rfl, r⟩ := one_vr h1
    obtain ⟨a, vs, rfl, h1, al⟩ := r.lst
    cases hb : boolsD ds with
    | none => rw [hb] at e; cases e
    | some bs =>
      rw [hb] at e
      cases e
      have := boolsD_of al hb; subst this
      exact cr_any hc pins s σ H _ us Q I rx ⟨a, bs, rfl, h1, q.now sub (.bl _)⟩
  · cases e
    obtain ⟨v, rfl, r⟩ := one_vr h1
    obtain ⟨a, vs, rfl, h1, al⟩ := r.lst
    exact call_tuple_of pins s σ H _ us Q I rx ⟨a, vs, rfl, .inl ⟨h1, fun p hp => q.tup sub al hp⟩⟩
  · cases e
    obtain ⟨v, rfl, r⟩ := one_vr h1
    have r' := r
    obtain ⟨a, vs, rfl, h1, al⟩ := r.tup sub
    exact call_tuple_of pins s σ H _ us Q I rx ⟨a, vs, rfl, .inr ⟨h1, q.now sub r'⟩⟩
  · cases e
    obtain ⟨v, rfl, r⟩ := one_vr h1
    obtain ⟨a, vs, rfl, h1, al⟩ := r.lst
    exact call_list_of pins s σ H _ us Q I rx ⟨a, vs, rfl, .inl h1, fun p hp => q.lst sub al hp⟩
  · cases e
    obtain ⟨v, rfl, r⟩ := one_vr h1
    obtain ⟨a, vs, rfl, h1, al⟩ := r.tup sub
    exact call_list_of pins s σ H _ us Q I rx ⟨a, vs, rfl, .inr h1, fun p hp => q.lst sub al hp⟩
  · cases e
    obtain ⟨v, rfl, r⟩ := one_vr h1
    have := r.int; subst this
    exact call_int1 pins s σ H _ us Q I rx (.inl ⟨_, rfl, q.now sub (.int _)⟩)
  · cases e
    obtain ⟨v, rfl, r⟩ := one_vr h1
    have := r.bl; subst this
    exact call_int1 pins s σ H _ us Q I rx (.inr ⟨_, rfl, q.now sub (.int _)⟩)
  · cases e
    obtain ⟨v, rfl, r⟩ := one_vr h1
    have := r.int; subst this
    exact call_bool1 pins s σ H _ us Q I rx (.inl ⟨_, rfl, q.now sub (.bl _)⟩)
  · cases e
    obtain ⟨v, rfl, r⟩ := one_vr h1
    have := r.bl; subst this
    exact call_bool1 pins s σ H _ us Q I rx (.inr ⟨_, rfl, q.now sub (.bl _)⟩)
  · cases e
    obtain ⟨v, rfl, r⟩ := one_vr h1
    have := r.int; subst this
    exact call_abs pins s σ H _ us Q I rx ⟨_, rfl, q.now sub (.int _)⟩
  · split at e
    · rename_i x xs' hz
      cases e
      obtain ⟨hA, hd, hcl⟩ := alikeL_of hz
      obtain ⟨v, rfl, r⟩ := one_vr h1
      obtain ⟨a, vs, rfl, h1, al⟩ := r.lst
      obtain ⟨u, rfl, ru⟩ := vals1 rx
      cases ru
      obtain ⟨its, rv, pl, hz⟩ := I.list h1
      obtain ⟨as, hr⟩ := Dp.readsAll I _ _ its (dpa_ex sub _ _ al) rv
      exact PySem.W.min_list_data hh pl.isList (by simpa using hr) hA (by omega) fun i v' h' tk bs hi hrd k => by
        obtain ⟨y, r1, r2⟩ := pick I sub al rv (by simpa using hi) hrd k (hcl _ (minD_mem _ _))
        exact ⟨y, H, I.kept k, r1, q.now sub r2⟩
    · cases e
  · split at e
    · rename_i x xs' hz
      cases e
      obtain ⟨hA, hd, hcl⟩ := alikeL_of hz
      obtain ⟨v, rfl, r⟩ := one_vr h1
      obtain ⟨a, vs, rfl, h1, al⟩ := r.tup sub
      obtain ⟨u, rfl, ru⟩ := vals1 rx
      cases ru
      obtain ⟨its, rv, pl, hz⟩ := I.tuple h1
      obtain ⟨as, hr⟩ := Dp.readsAll I _ _ its (dpa_ex sub _ _ al) rv
      exact PySem.W.min_tuple_data hh pl (by simpa using hr) hA (by omega) fun i v' h' tk bs hi hrd k => by
        obtain ⟨y, r1, r2⟩ := pick I sub al rv (by simpa using hi) hrd k (hcl _ (minD_mem _ _))
        exact ⟨y, H, I.kept k, r1, q.now sub r2⟩
    · cases e
  · split at e
    · rename_i x xs' hz
      cases e
      obtain ⟨hA, hd, hcl⟩ := alikeL_of hz
      obtain ⟨v, rfl, r⟩ := one_vr h1
      obtain ⟨a, vs, rfl, h1, al⟩ := r.lst
      obtain ⟨u, rfl, ru⟩ := vals1 rx
      cases ru
      obtain ⟨its, rv, pl, hz⟩ := I.list h1
      obtain ⟨as, hr⟩ := Dp.readsAll I _ _ its (dpa_ex sub _ _ al) rv
      exact PySem.W.max_list_data hh pl.isList (by simpa using hr) hA (by omega) fun i v' h' tk bs hi hrd k => by
        obtain ⟨y, r1, r2⟩ := pick I sub al rv (by simpa using hi) hrd k (hcl _ (maxD_mem _ _))
        exact ⟨y, H, I.kept k, r1, q.now sub r2⟩
    · cases e
  · split at e
    · rename_i x xs' hz
      cases e
      obtain ⟨hA, hd, hcl⟩ := alikeL_of hz
      obtain ⟨v, rfl, r⟩ := one_vr h1
      obtain ⟨a, vs, rfl, h1, al⟩ := r.tup sub
      obtain ⟨u, rfl, ru⟩ := vals1 rx
      cases ru
      obtain ⟨its, rv, pl, hz⟩ := I.tuple h1
      obtain ⟨as, hr⟩ := Dp.readsAll I _ _ its (dpa_ex sub _ _ al) rv
      exact PySem.W.max_tuple_data hh pl (by simpa using hr) hA (by omega) fun i v' h' tk bs hi hrd k => by
        obtain ⟨y, r1, r2⟩ := pick I sub al rv (by simpa using hi) hrd k (hcl _ (maxD_mem _ _))
        exact ⟨y, H, I.kept k, r1, q.now sub r2⟩
    · cases e
  · split at e
    · rename_i xs' hz
      cases e
      rw [Bool.and_eq_true] at hz
      obtain ⟨v, rfl, r⟩ := one_vr h1
      obtain ⟨a, vs, rfl, h1, al⟩ := r.lst
      exact call_sortD hu pins s σ H _ us Q I rx ⟨a, vs, F, _, rfl, sub, h1, al, hz.1, hz.2, q⟩
    · cases e
  · cases e
    obtain ⟨v, u, rfl, r1, r2⟩ := two_vr h1
    have := r1.int; subst this
    have := r2.int; subst this
    exact call_min2 hc pins s σ H _ us Q I rx ⟨_, _, rfl, q.now sub (.int _)⟩
  · cases e
    obtain ⟨v, u, rfl, r1, r2⟩ := two_vr h1
    have := r1.int; subst this
    have := r2.int; subst this
    exact call_max2 hc pins s σ H _ us Q I rx ⟨_, _, rfl, q.now sub (.int _)⟩
  · split at e
    · rename_i i j hz
      cases e
      rw [Bool.and_eq_true] at hz
      obtain ⟨v, u, rfl, r1, r2⟩ := two_vr h1
      have := r1.int; subst this
      have := r2.int; subst this
      exact call_divmod pins s σ H _ us Q I rx ⟨_, _, rfl, ⟨of_decide_eq_true hz.1, by have := inB_of hz.2; omega⟩, fun p hp => q.tup sub (.cons (.int _) (.cons (.int _) .nil)) hp⟩
    · cases e
  · cases e
/-! ### isinstance -/
def tyN : Ty → String
  | .int => "int" | .bool => "bool" | .str => "str" | .tuple => "tuple" | .list => "list"
theorem ty_bl (b : Bool) (t : Ty) : kitB "bool" (tyN t) = some (isTy (.bool b) t) := by
  have h : ∀ t, kitB "bool" (tyN t) = some (isTy (.bool true) t) := by intro t; cases t <;> decide +kernel
  rw [h t]; cases t <;> rfl
theorem ty_int (b : Int) (t : Ty) : kitB "int" (tyN t) = some (isTy (.int b) t) := by
  have h : ∀ t, kitB "int" (tyN t) = some (isTy (.int 0) t) := by intro t; cases t <;> decide +kernel
  rw [h t]; cases t <;> rfl
theorem ty_str (b : Str) (t : Ty) : kitB "str" (tyN t) = some (isTy (.str b) t) := by
  have h : ∀ t, kitB "str" (tyN t) = some (isTy (.str ⟨#[]⟩) t) := by intro t; cases t <;> decide +kernel
  rw [h t]; cases t <;> rfl
theorem ty_list (b : List D) (t : Ty) : kitB "list" (tyN t) = some (isTy (.list b) t) := by
  have h : ∀ t, kitB "list" (tyN t) = some (isTy (.list []) t) := by intro t; cases t <;> decide +kernel
  rw [h t]; cases t <;> rfl
theorem ty_tuple (b : List D) (t : Ty) : kitB "tuple" (tyN t) = some (isTy (.tuple b) t) := by
  have h : ∀ t, kitB "tuple" (tyN t) = some (isTy (.tuple []) t) := by intro t; cases t <;> decide +kernel
  rw [h t]; cases t <;> rfl
theorem tyx_of {K : Frag} {F H : Hp} {v : V} {d : D} (sub : Ex F H) (r : VR K F H v d) (hd : ∀ kvs, d ≠ .dict kvs) : ∃ n, TyX K H v (.type n) ∧ ∀ t, kitB n (tyN t) = some (isTy d t) := by
  cases d with
  | none => have := r.non; subst this; exact ⟨_, .base .non, fun t => by cases t <;> decide +kernel⟩
  | bool b => have := r.bl; subst this; exact ⟨_, .base (.bl _), ty_bl b⟩
  | int b => have := r.int; subst this; exact ⟨_, .base (.int _), ty_int b⟩
  | str b => have := r.str; subst this; exact ⟨_, .base (.str _), ty_str b⟩
  | list ds =>
    obtain ⟨a, vs, rfl, h1, al⟩ := r.lst
    refine ⟨"list", ?_, ty_list ds⟩
    rcases h1 with (h1 | ⟨o, h1⟩) | ⟨o, its, n, h1, h2, _⟩
    · exact .base (.lst h1)
    · exact .base (.frz h1)
    · exact .kList h1 h2
  | tuple ds =>
    obtain ⟨a, vs, rfl, h1, al⟩ := r.tup sub
    refine ⟨"tuple", ?_, ty_tuple ds⟩
    rcases h1 with (h1 | ⟨o, h1⟩) | ⟨o, its, n, h1, h2, _⟩
    · exact .base (.tup h1)
    · exact .fTuple h1
    · exact .kTuple h1 h2
  | dict kvs => exact absurd rfl (hd kvs)
/-! ### xs.count(x) -/
def rCnt (K : Frag) : V → List V → Hp → VK → Prop := fun x xs H Q => ∃ (a : Addr) (ys : List V) (y : V), x = .ref a ∧ xs = [y] ∧ SqL K H a ys ∧ flatV y = true ∧ ys.all flatV = true ∧ Q (.int (ys.countP (fun z => eqV z y) : Nat)) H
theorem cnt_of {y : V} : ∀ {ys : List V} {us : List Value}, Vals ys us → ys.all flatV = true → us.countP (eqU y) = ys.countP (fun z => eqV z y)
  | _, _, .nil, _ => rfl
  | z :: ys, u :: us, .cons r t, f => by
    rw [List.all_cons, Bool.and_eq_true] at f
    rw [List.countP_cons, List.countP_cons, cnt_of t f.2, eqU_of r f.1]
theorem mt_cnt : MtR X "list.count" (rCnt X.K) := by
  intro pins s σ H x xs v us Q I rx rxs h
  obtain ⟨a, ys, y, rfl, rfl, hs, fy, fys, q⟩ := h
  cases rx
  obtain ⟨uy, rfl, ry⟩ := rxs.one
  obtain ⟨its, rv, ⟨⟨cls, dd, data, sl⟩, n, ho, hc, _, hd⟩, _⟩ := I.list hs
  simp only at hc hd
  subst hc hd
  refine call_meets PySem.F.slot_list_count ⟨_, ho, rfl⟩ PySem.F.entry_list_count (PySem.F.args_list_count_2 _ _) (SeqAt.list_countAt a its.toArray n dd sl uy (eqU y)) ⟨ho, fun u hu => mem_eqAt ry fy rv fys u (by simpa using hu), ?_⟩
  refine ⟨.int (ys.countP (fun z => eqV z y) : Nat), H, I.tok _, ⟨s.toks, ?_⟩, q⟩
  rw [← cnt_of rv fys]
theorem cntD_of {K : Frag} {F F' : Hp} {d : D} {v : V} (r : Dp K F v d) (f : flatD d = true) : ∀ {ds : List D} {vs : List V}, DpAll K F' vs ds → ds.all flatD = true → vs.countP (fun z => eqV z v) = cntD d ds
  | _, _, .nil, _ => rfl
  | _, _, .cons (v := z) a b, g => by
    rw [List.all_cons, Bool.and_eq_true] at g
    unfold cntD
    rw [List.countP_cons, List.countP_cons, cntD_of r f b g.2, eqV_of a r g.1 f]
    rfl
end
end PyE

set_option Elab.async false
set_option linter.all false
set_option autoImplicit false
set_option maxRecDepth 100000
set_option maxHeartbeats 4000000
/-! # len(set(x)), x a list or a tuple of tuples of ints -/
namespace L2
open PySem PySem.Spec PyProof.Rows
section
variable {P : Program} {w : World} {A : Around} {E : Value → Shared → Prop} {s : Shared}
set_option maxHeartbeats 3200000 in
/-- set(xs), xs a tuple -/
theorem call_set_tupsU {l : Addr} {items : Array Value} (ks : List (Addr × List Int)) {Q : Value → Shared → Prop} (hh : A.handled = none) (hl : s.heap.IsTuple l items) (hit : items.toList = ks.map fun p => Value.ref p.1)
    (hk : ∀ p ∈ ks, IsT P w s.heap p.2 p.1) (hfew : ks.length < 64) (hu : A.units + 3 < cLine)
    (h : ∀ (h' : Heap) (tk : Nat) L es ep t, SetTR P w h' s.heap.objs.size L es ep t → Got ks ks.length L → (∀ b o, s.heap.get? b = some o → h'.get? b = some o) → Q (.ref s.heap.objs.size) { s with heap := h', toks := tk }) :
    wpAny (model P w) A (call (.type "set") [.ref l]) Q E s := by
  have hisz : items.size = ks.length := by
    have q := congrArg List.length hit
    rw [Array.length_toList, List.length_map] at q
    exact q
  obtain ⟨c, tl, hmro⟩ := F.called_set.mro
  have hmade := F.called_set.made
  have hsub := F.called_set.sub
  refine wpAny_call (codeAny_of_tree ?_)
  show wpAny _ _ (callAny (.type "set") _) _ _ _
  refine wpAny_pure ⟨Code.quiet_builtin _ (by decide +kernel), codeAny_builtin F.entry_type_call ?_⟩
  rw [Around.under_plain (weight_type_call_type "set" [.ref l] []) rfl]
  have h1 := F.called_set.notType
  have h2 := F.called_set.canCreate
  have hct := F.typeCall_set_1 (.ref l)
  repeat (any_goals (first | assumption | wp_step))

  refine codeAny_mono (code_set_led1 (.ref l) (E := E) (Q₁ := fun obj s₁ => obj = .ref s.heap.objs.size ∧ s₁ = { s with heap := s.heap.push { cls := .type "set", dict := none, data := .set #[] 0 (.fresh 0 0 (!w.params.followText "set-order")) } }) ⟨rfl, rfl⟩) fun r s₁ hr => ?_
  cases r with
  | error e => exact hr
  | ok fl =>
    cases fl with
    | ret obj =>
      obtain ⟨rfl, rfl⟩ := hr
      have hS : (s.heap.push { cls := .type "set", dict := none, data := .set #[] 0 (.fresh 0 0 (!w.params.followText "set-order")) }).get? s.heap.objs.size = some { cls := .type "set", dict := none, data := .set #[] 0 (.fresh 0 0 (!w.params.followText "set-order")) } := Heap.get?_push_size _ rfl
      have hT : Shared.TypeIs { s with heap := s.heap.push { cls := .type "set", dict := none, data := .set #[] 0 (.fresh 0 0 (!w.params.followText "set-order")) } } (.ref s.heap.objs.size) "set" := ⟨_, hS, rfl⟩
      have hli := F.called_set.init.lookup
      have hbi := F.called_set.init.bind (.ref s.heap.objs.size)
      repeat (any_goals (first | assumption | wp_step))

      refine codeAny_mono (codeAny_call_builtin (R := wants (fun r s₂ => r = .none ∧ ∃ h' tk L es ep t, s₂ = { s with heap := h', toks := tk } ∧ SetTR P w h' s.heap.objs.size L es ep t ∧ Got ks ks.length L ∧
          (∀ b o, s.heap.get? b = some o → h'.get? b = some o)) E) F.called_set.init.plain F.entry_set_init (check_set_init_1 hT ?_)) fun r₂ s₂ hr₂ => ?_
      · obtain ⟨ol, hol, hcl, nl, hdl⟩ := hl
        obtain ⟨ocls, odict, odata, oslots⟩ := ol
        simp only at hcl hdl
        subst hcl; subst hdl
        have hol' : (s.heap.push { cls := .type "set", dict := none, data := .set #[] 0 (.fresh 0 0 (!w.params.followText "set-order")) }).get? l = some { cls := .type "tuple", dict := odict, data := .seq items nl, slots := oslots } := Heap.get?_push_of_some _ hol
        have hsls := F.sub_tuple_set
        have hslf := F.sub_tuple_frozenset
        have hne : (Value.type "tuple" == Value.type "dict") = false := by decide
        have hl1 : (s.heap.push { cls := .type "set", dict := none, data := .set #[] 0 (.fresh 0 0 (!w.params.followText "set-order")) }).IsTuple l items := ⟨_, hol', rfl, nl, rfl⟩
        unfold Builtin.«set.__init__» noKeywords Builtin.Frozenset.updateFrom
        generalize hPI : pyIter = PI
        wp_walk
        subst hPI

        refine wpAny_pyIter_tuple hl1 ?_
        refine wpAny_bind (wpAny_runValue ?_)
        have hlS : l < s.heap.objs.size := Heap.lt_size hol
        have hh3 : A.in1.in1.in1.handled = none := by simp [hh]
        have hz1 : (s.heap.push { cls := .type "set", dict := none, data := .set #[] 0 (.fresh 0 0 (!w.params.followText "set-order")) }).objs.size = s.heap.objs.size + 1 := Heap.size_push ..
        have hneI : l ≠ (s.heap.push { cls := .type "set", dict := none, data := .set #[] 0 (.fresh 0 0 (!w.params.followText "set-order")) }).objs.size := by
          rw [Heap.size_push]; exact Nat.ne_of_lt (Nat.lt_succ_of_lt hlS)
        have hSf : s.heap.objs.size ∉ [(s.heap.push { cls := .type "set", dict := none, data := .set #[] 0 (.fresh 0 0 (!w.params.followText "set-order")) }).objs.size, l] := by
          rw [Heap.size_push]; simp only [List.mem_cons, List.mem_singleton, List.not_mem_nil, or_false, not_or]
          exact ⟨Nat.ne_of_lt (Nat.lt_succ_self _), Nat.ne_of_gt hlS⟩
        have hval : ∀ (i : Nat) (v : Value), items[i]? = some v → ∃ p, ks[i]? = some p ∧ v = .ref p.1 := fun i v hv => by
          have q : items.toList[i]? = some v := by rw [Array.getElem?_toList]; exact hv
          rw [hit, List.getElem?_map] at q
          cases hq : ks[i]? with
          | none => rw [hq] at q; cases q
          | some p =>
            rw [hq] at q
            exact ⟨p, rfl, (Option.some.inj q).symm⟩
        have none_of : ∀ b, s.heap.objs.size ≤ b → s.heap.get? b = none := fun b hb => by
          cases q : s.heap.get? b with
          | none => rfl
          | some o => exact absurd (Nat.lt_of_lt_of_le (Heap.lt_size q) hb) (Nat.lt_irrefl _)
        refine set_update_tups ((Walks.tuple hh3 _ l hneI items).toS) s.heap.objs.size
          hSf ks hisz hfew hval s.heap hk (none_of _ (Nat.le_refl _)) (fun b hb => none_of b (by
            rw [List.mem_singleton.mp hb, Heap.size_push]
            exact Nat.le_succ _)) hu (items.size - 0) 0 _ (by omega) (Nat.zero_le _)
          ⟨⟨_, Heap.get?_push_size _ rfl, rfl, rfl⟩, (hl1.push _)⟩ (fun b o e => Heap.get?_push_of_some _ (Heap.get?_push_of_some _ e)) ?hS0 ?hR
        case hS0 =>
          have hget : ((s.heap.push { cls := .type "set", dict := none, data := .set #[] 0 (.fresh 0 0 (!w.params.followText "set-order")) }).push { cls := .type "tuple_iterator", data := .fields #[.ref l, .int 0 0] }).get? s.heap.objs.size
              = some { cls := .type "set", dict := none, data := .set #[] 0 (.fresh 0 0 (!w.params.followText "set-order")) } := Heap.get?_push_of_some _ hS
          exact ⟨[], #[], 0, _, setTR_fresh hget, Got.zero ks⟩
        case hR =>
          intro s' L es ep t hm hS' g' hkp
          obtain ⟨h', g2, d', tk', os'⟩ := s'
          have eg : g2 = s.gens := hm.gens
          have ed : d' = s.drawn := hm.drawn
          have eo : os' = s.os := hm.os
          subst eg; subst ed; subst eo
          show wpAny _ _ _ _ _ _
          refine wpAny_pure ?_
          show wpAny _ _ (ret Value.none) _ _ _
          rw [hisz] at g'
          exact wpAny_pure ⟨rfl, h', tk', L, es, ep, t, rfl, hS', g', hkp⟩

      · cases r₂ with
        | error e => exact hr₂
        | ok fl₂ =>
          cases fl₂ with
          | ret r =>
            obtain ⟨rfl, h', tk, L, es, ep, t, rfl, hS', g', hk'⟩ := hr₂
            repeat (any_goals (first | assumption | wp_step))
            exact h _ _ _ _ _ _ hS' g' hk'
          | _ => exact hr₂.elim
    | _ => exact hr.elim
end
end L2
namespace L2
open PySem PySem.Spec PyProof.Rows
section
variable {P : Program} {w : World} {A : Around} {E : Value → Shared → Prop} {s : Shared}
set_option maxHeartbeats 3200000 in
/-- set(xs), xs a list of ints -/
theorem call_set_listI {l : Addr} {items : Array Value} (ns : List Int) {Q : Value → Shared → Prop} (hh : A.handled = none) (hl : s.heap.IsList l items) (hit : IntsAre items.toList ns) (hb : ns.length + 1 < scanBound)
    (h : ∀ (h' : Heap) (tk c : Nat), SetR w h' s.heap.objs.size (fun j => decide (j ∈ ns)) c → c ≤ ns.length → (∀ b o, s.heap.get? b = some o → h'.get? b = some o) → Q (.ref s.heap.objs.size) { s with heap := h', toks := tk }) :
    wpAny (model P w) A (call (.type "set") [.ref l]) Q E s := by
  have hisz : items.size = ns.length := by
    have q := IntsAre.length hit
    rw [Array.length_toList] at q
    exact q
  obtain ⟨c, tl, hmro⟩ := F.called_set.mro
  have hmade := F.called_set.made
  have hsub := F.called_set.sub
  refine wpAny_call (codeAny_of_tree ?_)
  show wpAny _ _ (callAny (.type "set") _) _ _ _
  refine wpAny_pure ⟨Code.quiet_builtin _ (by decide +kernel), codeAny_builtin F.entry_type_call ?_⟩
  rw [Around.under_plain (weight_type_call_type "set" [.ref l] []) rfl]
  have h1 := F.called_set.notType
  have h2 := F.called_set.canCreate
  have hct := F.typeCall_set_1 (.ref l)
  repeat (any_goals (first | assumption | wp_step))

  refine codeAny_mono (code_set_led1 (.ref l) (E := E) (Q₁ := fun obj s₁ => obj = .ref s.heap.objs.size ∧ s₁ = { s with heap := s.heap.push { cls := .type "set", dict := none, data := .set #[] 0 (.fresh 0 0 (!w.params.followText "set-order")) } }) ⟨rfl, rfl⟩) fun r s₁ hr => ?_
  cases r with
  | error e => exact hr
  | ok fl =>
    cases fl with
    | ret obj =>
      obtain ⟨rfl, rfl⟩ := hr
      have hS : (s.heap.push { cls := .type "set", dict := none, data := .set #[] 0 (.fresh 0 0 (!w.params.followText "set-order")) }).get? s.heap.objs.size = some { cls := .type "set", dict := none, data := .set #[] 0 (.fresh 0 0 (!w.params.followText "set-order")) } := Heap.get?_push_size _ rfl
      have hT : Shared.TypeIs { s with heap := s.heap.push { cls := .type "set", dict := none, data := .set #[] 0 (.fresh 0 0 (!w.params.followText "set-order")) } } (.ref s.heap.objs.size) "set" := ⟨_, hS, rfl⟩
      have hli := F.called_set.init.lookup
      have hbi := F.called_set.init.bind (.ref s.heap.objs.size)
      repeat (any_goals (first | assumption | wp_step))

      refine codeAny_mono (codeAny_call_builtin (R := wants (fun r s₂ => r = .none ∧ ∃ h' tk c, s₂ = { s with heap := h', toks := tk } ∧ SetR w h' s.heap.objs.size (fun j => decide (j ∈ ns)) c ∧ c ≤ ns.length ∧
          (∀ b o, s.heap.get? b = some o → h'.get? b = some o)) E) F.called_set.init.plain F.entry_set_init (check_set_init_1 hT ?_)) fun r₂ s₂ hr₂ => ?_
      · obtain ⟨ol, hol, hcl, nl, hdl⟩ := hl
        obtain ⟨ocls, odict, odata, oslots⟩ := ol
        simp only at hcl hdl
        subst hcl; subst hdl
        have hol' : (s.heap.push { cls := .type "set", dict := none, data := .set #[] 0 (.fresh 0 0 (!w.params.followText "set-order")) }).get? l = some { cls := .type "list", dict := odict, data := .seq items nl, slots := oslots } := Heap.get?_push_of_some _ hol
        have hsls := F.sub_list_set
        have hslf := F.sub_list_frozenset
        have hne : (Value.type "list" == Value.type "dict") = false := by decide
        have hl1 : (s.heap.push { cls := .type "set", dict := none, data := .set #[] 0 (.fresh 0 0 (!w.params.followText "set-order")) }).IsList l items := ⟨_, hol', rfl, nl, rfl⟩
        unfold Builtin.«set.__init__» noKeywords Builtin.Frozenset.updateFrom
        generalize hPI : pyIter = PI
        wp_walk
        subst hPI

        refine wpAny_pyIter_list hl1 ?_
        refine wpAny_bind (wpAny_runValue ?_)
        have hlS : l < s.heap.objs.size := Heap.lt_size hol
        have hh3 : A.in1.in1.in1.handled = none := by simp [hh]
        have hz1 : (s.heap.push { cls := .type "set", dict := none, data := .set #[] 0 (.fresh 0 0 (!w.params.followText "set-order")) }).objs.size = s.heap.objs.size + 1 := Heap.size_push ..
        have hneI : l ≠ (s.heap.push { cls := .type "set", dict := none, data := .set #[] 0 (.fresh 0 0 (!w.params.followText "set-order")) }).objs.size := by
          rw [Heap.size_push]; exact Nat.ne_of_lt (Nat.lt_succ_of_lt hlS)
        have hSf : s.heap.objs.size ∉ [(s.heap.push { cls := .type "set", dict := none, data := .set #[] 0 (.fresh 0 0 (!w.params.followText "set-order")) }).objs.size, l] := by
          rw [Heap.size_push]; simp only [List.mem_cons, List.mem_singleton, List.not_mem_nil, or_false, not_or]
          exact ⟨Nat.ne_of_lt (Nat.lt_succ_self _), Nat.ne_of_gt hlS⟩
        have hval : ∀ (i : Nat) (v : Value), items[i]? = some v → ∃ k t, ns[i]? = some k ∧ v = .int k t := fun i v hv => by
          have hi : i < ns.length := by rw [← hisz]; exact (Array.getElem?_eq_some_iff.mp hv).1
          obtain ⟨t, e⟩ := PyProof.Rows.IntsAre.int_at hit i v (by rw [Array.getElem?_toList]; exact hv)
          refine ⟨ns[i], t, List.getElem?_eq_getElem hi, ?_⟩
          rw [e, List.getD_eq_getElem?_getD, List.getElem?_eq_getElem hi] <;> rfl
        refine set_update_ints ((Walks.list hh3 _ l hneI items).toS) s.heap.objs.size
          hSf ns hisz hb hval (items.size - 0) 0 _ (by omega) (Nat.zero_le _)
          ⟨⟨_, Heap.get?_push_size _ rfl, rfl, rfl⟩, (hl1.push _)⟩ ?hS0 ?hR
        case hS0 =>
          have hget : ((s.heap.push { cls := .type "set", dict := none, data := .set #[] 0 (.fresh 0 0 (!w.params.followText "set-order")) }).push { cls := .type "list_iterator", data := .fields #[.ref l, .int 0 0] }).get? s.heap.objs.size
              = some { cls := .type "set", dict := none, data := .set #[] 0 (.fresh 0 0 (!w.params.followText "set-order")) } := Heap.get?_push_of_some _ hS
          exact ⟨0, Nat.le_refl 0, setR_new_at hget⟩
        case hR =>
          intro s' c' hm hc' hS'
          obtain ⟨h', g2, d', tk', os'⟩ := s'
          have eg : g2 = s.gens := hm.gens
          have ed : d' = s.drawn := hm.drawn
          have eo : os' = s.os := hm.os
          subst eg; subst ed; subst eo
          show wpAny _ _ _ _ _ _
          refine wpAny_pure ?_
          show wpAny _ _ (ret Value.none) _ _ _
          rw [hisz] at hc'
          refine wpAny_pure ⟨rfl, h', tk', c', rfl, hS', hc', fun b o e => ?_⟩
          have hb0 : b < s.heap.objs.size := Heap.lt_size e
          have hb1 : b ≠ s.heap.objs.size := Nat.ne_of_lt hb0
          have hb2 : b ≠ (s.heap.push { cls := .type "set", dict := none, data := .set #[] 0 (.fresh 0 0 (!w.params.followText "set-order")) }).objs.size := by
            rw [Heap.size_push]; exact Nat.ne_of_lt (Nat.lt_succ_of_lt hb0)
          exact hm.heap b o (by simp only [List.mem_cons, List.mem_singleton, List.not_mem_nil, or_false, not_or]; exact ⟨hb1, hb2⟩) (Heap.get?_push_of_some _ (Heap.get?_push_of_some _ e))

      · cases r₂ with
        | error e => exact hr₂
        | ok fl₂ =>
          cases fl₂ with
          | ret r =>
            obtain ⟨rfl, h', tk, c', rfl, hS', hc', hk'⟩ := hr₂
            repeat (any_goals (first | assumption | wp_step))
            exact h _ _ _ hS' hc' hk'
          | _ => exact hr₂.elim
    | _ => exact hr.elim

end
end L2
namespace PyE
open PySem PySem.Spec PyProof.Rows L2
section
variable {X : Cx}
def rSetTT (K : Frag) (P : Program) (w : World) : List V → Hp → VK → Prop := fun xs H Q => ∃ (l : Addr) (ks : List (Addr × List Int)), xs = [V.ref l] ∧ (SqL K H l (ks.map fun p => V.ref p.1) ∨ SqT K H l (ks.map fun p => V.ref p.1)) ∧ (∀ p ∈ ks, SqT K H p.1 (p.2.map V.int)) ∧ ks.length < 64 ∧
  ∀ a L, H a = none → (∀ p ∈ L, p ∈ ks) → (∀ p ∈ ks, p.2 ∈ L.map (·.2)) → (L.map (·.2)).Nodup → Q (.ref a) (upd H a (SetTO P w a L))
theorem cr_setTT (hc : X.calm = true) (hu : X.A.units + 64 < cLine) : CallR X (.type "set") (rSetTT X.K X.prog X.w) := by
  intro pins s σ H xs us Q I r h
  obtain ⟨l, ks, rfl, hl, hk, hf, q⟩ := h
  rw [Vals.ref1 r]
  have hn : H s.heap.objs.size = none := I.hok.fresh (Nat.le_refl _)
  have fin : ∀ (h' : Heap) (tk : Nat) L es ep t, SetTR X.prog X.w h' s.heap.objs.size L es ep t → Got ks ks.length L → (∀ b o, s.heap.get? b = some o → h'.get? b = some o) → EP X pins σ Q (.ref s.heap.objs.size) { s with heap := h', toks := tk } :=
    fun h' tk L es ep t R g k => ⟨.ref s.heap.objs.size, upd H s.heap.objs.size (SetTO X.prog X.w s.heap.objs.size L), I.laid (t' := tk) k (Nat.le_refl _) (setTO_new R.t0), rfl, q _ L hn (fun p hp => List.mem_of_mem_take (g.sub p hp)) (fun p hp => g.all p (by rw [List.take_length]; exact hp)) R.nd⟩
  rcases hl with hl | hl
  · obtain ⟨its, rv, pl, hz⟩ := I.list hl
    exact call_set_tups (P := X.prog) (w := X.w) ks (I.ok.hd hc) pl.isList (by simpa using refs_of_vals rv) (fun p hp => I.isT (hk p hp)) hf (by omega) fin
  · obtain ⟨its, rv, pl, hz⟩ := I.tuple hl
    exact call_set_tupsU (P := X.prog) (w := X.w) ks (I.ok.hd hc) pl (by simpa using refs_of_vals rv) (fun p hp => I.isT (hk p hp)) hf (by omega) fin
theorem cr_lenSetT : CallR X (.builtin "len") (fun xs H Q => ∃ (a : Addr) (L : List (Addr × List Int)), xs = [V.ref a] ∧ H a = some (SetTO X.prog X.w a L) ∧ (∀ p ∈ L, SqT X.K H p.1 (p.2.map V.int)) ∧ Q (.int (L.length : Nat)) H) := by
  intro pins s σ H vs us Q I r h
  obtain ⟨a, L, rfl, ha, hk, q⟩ := h
  have R0 : SetT0 X.prog X.w s.heap a L := (I.hok a _ ha).1
  obtain ⟨es, ep, t, R⟩ := R0.full fun p hp => I.isT (hk p hp)
  rw [Vals.ref1 r]
  obtain ⟨o, ho, hex, hd⟩ := R.ob
  have hs := R.size
  have hf := R.few
  refine call_len_set ho hex hd R.fits (by omega) ?_
  rw [hs]
  exact ⟨.int (L.length : Nat), H, I.tok _, ⟨_, rfl⟩, q⟩
end
section
variable {X : Cx}
def rMth (K : Frag) (f : Mf) : List V → Hp → VK → Prop := fun vs H Q => ∃ F d d' w v1 v2, vs = [v1, v2] ∧ Ex F H ∧ VR K F H v1 d ∧ VR K F H v2 d' ∧ mthD f d d' = some w ∧ RN K F H w Q
theorem cr_mth (f : Mf) : CallR X (.builtin (match f with | .gcd => "math.gcd" | .lcm => "math.lcm")) (rMth X.K f) := by
  intro pins s σ H vs us Q I r h
  obtain ⟨F, d, d', w, v1, v2, rfl, sub, r1, r2, e, q⟩ := h
  unfold mthD at e
  split at e
  · have := r1.int; have := r2.int; subst v1 v2; cases e
    exact cr_gcd pins s σ H _ us Q I r ⟨_, _, rfl, q.now sub (.int _)⟩
  · have := r1.int; have := r2.int; subst v1 v2
    split at e
    · rename_i i j hz
      cases e
      rw [Bool.and_eq_true] at hz
      obtain ⟨t, u, rfl⟩ := Vals.int2 r
      have h1 := smallI_of hz.1
      have h2 := smallI_of hz.2
      exact PySem.W.mc_lcm (by omega) (by omega) fun _ => ⟨.int _, H, I.tok _, ⟨_, rfl⟩, q.now sub (.int _)⟩
    · cases e
  · cases e
end
/-! ### sorted(set(x)), x a list or a tuple of ints -/
theorem insU_mem (x : Int) : ∀ (l : List Int) (k : Int), k ∈ insU x l ↔ k = x ∨ k ∈ l
  | [], k => by unfold insU; simp
  | y :: ys, k => by
    unfold insU
    split
    · simp
    · split
      · rename_i h
        subst h
        rw [List.mem_cons]
        exact ⟨.inr, fun z => z.elim .inl id⟩
      · rw [List.mem_cons, insU_mem x ys k, List.mem_cons]
        exact ⟨fun z => z.elim (fun z => .inr (.inl z)) fun z => z.elim .inl fun z => .inr (.inr z), fun z => z.elim (fun z => .inr (.inl z)) fun z => z.elim .inl fun z => .inr (.inr z)⟩
theorem insU_asc (x : Int) : ∀ {l : List Int}, l.Pairwise (· < ·) → (insU x l).Pairwise (· < ·)
  | [], _ => by unfold insU; exact List.pairwise_singleton _ _
  | y :: ys, h => by
    obtain ⟨h1, h2⟩ := List.pairwise_cons.mp h
    unfold insU
    split
    · rename_i c
      refine List.pairwise_cons.mpr ⟨fun z hz => ?_, h⟩
      rcases List.mem_cons.mp hz with e | e
      · rw [e]; exact c
      · have := h1 z e
        omega
    · split
      · exact h
      · rename_i c1 c2
        refine List.pairwise_cons.mpr ⟨fun z hz => ?_, insU_asc x h2⟩
        rcases (insU_mem x ys z).mp hz with e | e
        · rw [e]; omega
        · exact h1 z e
theorem usort_mem : ∀ (l : List Int) (k : Int), k ∈ usort l ↔ k ∈ l
  | [], k => Iff.rfl
  | x :: xs, k => by
    unfold usort
    rw [insU_mem, usort_mem xs k, List.mem_cons]
theorem usort_asc : ∀ (l : List Int), (usort l).Pairwise (· < ·)
  | [] => List.Pairwise.nil
  | x :: xs => by unfold usort; exact insU_asc x (usort_asc xs)
theorem asc_uniq : ∀ {xs ys : List Int}, xs.Pairwise (· < ·) → ys.Pairwise (· < ·) → (∀ k, k ∈ xs ↔ k ∈ ys) → xs = ys
  | [], [], _, _, _ => rfl
  | [], y :: ys, _, _, h => absurd ((h y).mpr List.mem_cons_self) (by simp)
  | x :: xs, [], _, _, h => absurd ((h x).mp List.mem_cons_self) (by simp)
  | x :: xs, y :: ys, a, b, h => by
    obtain ⟨a1, a2⟩ := List.pairwise_cons.mp a
    obtain ⟨b1, b2⟩ := List.pairwise_cons.mp b
    have e : x = y := by
      rcases List.mem_cons.mp ((h x).mp List.mem_cons_self) with z | z
      · exact z
      · rcases List.mem_cons.mp ((h y).mpr List.mem_cons_self) with w | w
        · exact w.symm
        · have := a1 y w
          have := b1 x z
          omega
    subst e
    rw [asc_uniq a2 b2 fun z => ?_]
    constructor
    · intro hz
      have := a1 z hz
      rcases List.mem_cons.mp ((h z).mp (List.mem_cons_of_mem _ hz)) with w | w
      · omega
      · exact w
    · intro hz
      have := b1 z hz
      rcases List.mem_cons.mp ((h z).mpr (List.mem_cons_of_mem _ hz)) with w | w
      · omega
      · exact w
section
variable {X : Cx}
def rSetI (K : Frag) (w : World) : List V → Hp → VK → Prop := fun xs H Q => ∃ (l : Addr) (ns : List Int), xs = [V.ref l] ∧ (SqL K H l (ns.map V.int) ∨ SqT K H l (ns.map V.int)) ∧ ns.length < 64 ∧
  ∀ a n, H a = none → n ≤ ns.length → Q (.ref a) (upd H a (SetO w a (fun j => decide (j ∈ ns)) n))
theorem cr_setI (hc : X.calm = true) : CallR X (.type "set") (rSetI X.K X.w) := by
  intro pins s σ H xs us Q I r h
  obtain ⟨l, ns, rfl, hl, hf, q⟩ := h
  rw [Vals.ref1 r]
  have hn : H s.heap.objs.size = none := I.hok.fresh (Nat.le_refl _)
  have fin : ∀ (h' : Heap) (tk c : Nat), SetR X.w h' s.heap.objs.size (fun j => decide (j ∈ ns)) c → c ≤ ns.length → (∀ b o, s.heap.get? b = some o → h'.get? b = some o) → EP X pins σ Q (.ref s.heap.objs.size) { s with heap := h', toks := tk } :=
    fun h' tk c R hcl k => ⟨.ref s.heap.objs.size, upd H s.heap.objs.size (SetO X.w s.heap.objs.size (fun j => decide (j ∈ ns)) c), I.laid (t' := tk) k (Nat.le_refl _) (setO_new R), rfl, q _ c hn hcl⟩
  rcases hl with hl | hl
  · obtain ⟨its, rv, pl, hz⟩ := I.list hl
    exact call_set_listI (P := X.prog) (w := X.w) ns (I.ok.hd hc) pl.isList (by simpa using RZ.intsAre_vals rv) (by unfold scanBound; omega) fin
  · obtain ⟨its, rv, pl, hz⟩ := I.tuple hl
    exact call_set_tupI (P := X.prog) (w := X.w) ns (I.ok.hd hc) pl (by simpa using RZ.intsAre_vals rv) (by unfold scanBound; omega) fin
end
/-! ### the keys -/
theorem ndup_mem : ∀ (xs : List (List Int)) (x : List Int), x ∈ ndup xs ↔ x ∈ xs
  | [], x => Iff.rfl
  | y :: ys, x => by
    unfold ndup
    split
    · rename_i h
      rw [ndup_mem ys x, List.mem_cons]
      refine ⟨.inr, fun z => z.elim (fun z => ?_) id⟩
      rw [z]
      exact List.contains_iff_mem.mp h
    · rw [List.mem_cons, List.mem_cons, ndup_mem ys x]
theorem ndup_nodup : ∀ xs : List (List Int), (ndup xs).Nodup
  | [] => List.nodup_nil
  | y :: ys => by
    unfold ndup
    split
    · exact ndup_nodup ys
    · rename_i h
      refine List.nodup_cons.mpr ⟨fun z => h ?_, ndup_nodup ys⟩
      rw [ndup_mem] at z
      exact List.contains_iff_mem.mpr z
theorem ndup_len {L ks : List (List Int)} (nd : L.Nodup) (h : ∀ k, k ∈ L ↔ k ∈ ks) : L.length = (ndup ks).length :=
  ((List.perm_ext_iff_of_nodup nd (ndup_nodup ks)).mpr fun k => (h k).trans (ndup_mem ks k).symm).length_eq
theorem tupsI_of {K : Frag} {F H : Hp} (sub : Ex F H) : ∀ {vs : List V} {ds : List D} {ks : List (List Int)}, DpAll K F vs ds → tupsI ds = some ks → ∃ ps : List (Addr × List Int), vs = ps.map (fun p => V.ref p.1) ∧ ps.map (·.2) = ks ∧ ∀ p ∈ ps, SqT K H p.1 (p.2.map V.int)
  | _, _, ks, .nil, e => by
    cases e
    exact ⟨[], rfl, rfl, fun p h => by cases h⟩
  | _, _, ks, .cons (d := d) (ds := ds) a b, e => by
    unfold tupsI at e
    cases e1 : tupI d with
    | none => rw [e1] at e; cases e
    | some k =>
      rw [e1] at e
      have e : (tupsI ds).bind (fun ks => some (k :: ks)) = some ks := e
      cases e2 : tupsI ds with
      | none => rw [e2] at e; cases e
      | some ks' =>
        rw [e2] at e
        have e : some (k :: ks') = some ks := e
        cases e
        obtain ⟨ps, q1, q2, q3⟩ := tupsI_of sub b e2
        cases d with
        | tuple es =>
          cases a with
          | tup s al =>
            have := intsD_of al e1
            subst this
            refine ⟨(_, k) :: ps, by rw [q1]; rfl, by rw [List.map_cons, q2], fun p hp => ?_⟩
            rcases List.mem_cons.mp hp with z | z
            · subst z; exact sub.sqt s
            · exact q3 p z
        | _ => cases e1
end PyE

set_option Elab.async false
set_option linter.all false
set_option autoImplicit false
set_option maxRecDepth 100000
set_option maxHeartbeats 4000000
/-! # What an evaluation promises -/
namespace PyE
open PySem PySem.Spec PyProof.Rows L2

def Own (σ : L2.St) (env env' : SEnv) : Prop := ∀ a, O σ env' a → O σ env a
/-- an error's own dict, at d: its place is x -/
def XAt (K : Frag) (F H : Hp) (d : Addr) (x : D) : Prop := F d = none ∧ ∃ v, H d = some (.xd [((Str.ofString "at"), v)]) ∧ Dp K F v x
section
variable {ba : Addr} {K : Frag} {mg : Str → Option Value} {W : WX} {σ : L2.St} {α β γ δ : Type}
def Post (ba : Addr) (K : Frag) (mg : Str → Option Value) (W : WX) (σ : L2.St) (Rel : Hp → Hp → SEnv → α → β → Prop) (F H : Hp) (env : SEnv) (r : Rs α) (Q : β → Hp → Prop) : Prop :=
  match r with
  | .ok a env' => ∀ b F' H', Go (O σ env) F H F' H' → Own σ env env' → Sim ba K F' H' σ env' → Rel F' H' env' a b → Q b H'
  | .exc c x env' => ∀ d F' H', Go (O σ env) F H F' H' → Own σ env env' → Sim ba K F' H' σ env' → XAt K F' H' d x → ∀ C, mg c = some (.ref C) → W (.ref C) (some d) σ H'
  | .stuck => False
theorem Post.imp {Rel : Hp → Hp → SEnv → α → β → Prop} {F H : Hp} {env : SEnv} {r : Rs α} {Q Q' : β → Hp → Prop} (h : Post ba K mg W σ Rel F H env r Q) (hq : ∀ b H, Q b H → Q' b H) : Post ba K mg W σ Rel F H env r Q' := by
  cases r with
  | ok a e => exact fun b F' H' g o s q => hq _ _ (h b F' H' g o s q)
  | exc c x e => exact h
  | stuck => exact h
theorem Post.rel {Rel Rel' : Hp → Hp → SEnv → α → β → Prop} {F H : Hp} {env : SEnv} {r : Rs α} {Q : β → Hp → Prop} (h : Post ba K mg W σ Rel F H env r Q)
    (hr : ∀ F' H' env' a b, Rel' F' H' env' a b → Rel F' H' env' a b) : Post ba K mg W σ Rel' F H env r Q := by
  cases r with
  | ok a e => exact fun b F' H' g o s q => h b F' H' g o s (hr _ _ _ _ _ q)
  | exc c x e => exact h
  | stuck => exact h
/-- the first part of a bind; what is left is behind it -/
theorem Post.bind {Rel1 : Hp → Hp → SEnv → α → β → Prop} {Rel2 : Hp → Hp → SEnv → γ → δ → Prop} {F H : Hp} {env : SEnv} {r : Rs α} {f : α → SEnv → Rs γ} {Q : δ → Hp → Prop} (h : Post ba K mg W σ Rel2 F H env (r.bind f) Q) :
    Post ba K mg W σ Rel1 F H env r (fun b H1 => ∃ a env1 F1, Go (O σ env) F H F1 H1 ∧ Own σ env env1 ∧ Sim ba K F1 H1 σ env1 ∧ Rel1 F1 H1 env1 a b ∧ Post ba K mg W σ Rel2 F1 H1 env1 (f a env1) Q) := by
  cases r with
  | ok a env1 =>
    intro b F1 H1 g o s q
    refine ⟨a, env1, F1, g, o, s, q, ?_⟩
    have h : Post ba K mg W σ Rel2 F H env (f a env1) Q := h
    cases e : f a env1 with
    | ok a2 env2 =>
      rw [e] at h
      exact fun b F' H' g' o' s' q' => h b F' H' (g.trans g' fun x hx => .inl (o x hx)) (fun x hx => o x (o' x hx)) s' q'
    | exc c x env2 =>
      rw [e] at h
      exact fun d F' H' g' o' s' q' => h d F' H' (g.trans g' fun x hx => .inl (o x hx)) (fun x hx => o x (o' x hx)) s' q'
    | stuck => rw [e] at h; exact h
  | exc c x e => exact h
  | stuck => exact h
theorem Post.go {Rel : Hp → Hp → SEnv → α → β → Prop} {F H F1 H1 : Hp} {env env1 : SEnv} {r : Rs α} {Q : β → Hp → Prop} (h : Post ba K mg W σ Rel F H env r Q) (g : Go (O σ env) F H F1 H1) (o : Own σ env env1) : Post ba K mg W σ Rel F1 H1 env1 r Q := by
  cases r with
  | ok a e => exact fun b F' H' g' o' s' q' => h b F' H' (g.trans g' fun x hx => .inl (o x hx)) (fun x hx => o x (o' x hx)) s' q'
  | exc c x e => exact fun d F' H' g' o' s' q' => h d F' H' (g.trans g' fun x hx => .inl (o x hx)) (fun x hx => o x (o' x hx)) s' q'
  | stuck => exact h
/-- a reading of an evaluation -/
def tR (ba : Addr) (K : Frag) (mg : Str → Option Value) (W : WX) (Rel : L2.St → Hp → Hp → Hp → SEnv → α → β → Prop) (ev : SEnv → Rs α) : L2.St → Hp → (β → Hp → Prop) → Prop := fun σ H Q => ∃ F env, Sim ba K F H σ env ∧ Post ba K mg W σ (Rel σ H) F H env (ev env) Q
end
/-- a value; several; nothing but itself -/
def RE (K : Frag) (σ : L2.St) (H0 F H : Hp) (env : SEnv) (w : Vw) (v : V) : Prop := VwR K F H H0 σ env w v
def isTmp : Vw → Bool
  | .tmp _ => true
  | _ => false
/-- none of these is a list just made that stands at a -/
def NoTmp (a : Addr) : List Vw → List V → Prop
  | w :: ws, v :: vs => (isTmp w = true → v ≠ .ref a) ∧ NoTmp a ws vs
  | _, _ => True
def REs (K : Frag) (σ : L2.St) (H0 F H : Hp) (env : SEnv) : List Vw → List V → Prop
  | [], [] => True
  | w :: ws, v :: vs => VwR K F H H0 σ env w v ∧ (∀ a, isTmp w = true → v = .ref a → NoTmp a ws vs) ∧ REs K σ H0 F H env ws vs
  | _, _ => False
theorem REs.fresh {K : Frag} {σ : L2.St} {H0 F H : Hp} {env : SEnv} {a : Addr} (ha : H0 a ≠ none) : ∀ {ws : List Vw} {vs : List V}, REs K σ H0 F H env ws vs → NoTmp a ws vs
  | [], [], _ => trivial
  | [], _ :: _, _ => trivial
  | _ :: _, [], _ => trivial
  | w :: ws, v :: vs, h => by
    refine ⟨fun t z => ?_, REs.fresh ha h.2.2⟩
    cases w with
    | tmp ds =>
      obtain ⟨b, _, e, _, _, _, h5, _⟩ := h.1
      rw [z] at e
      cases e
      exact ha h5
    | now d => cases t
    | late i => cases t
def RI {α : Type} (σ : L2.St) (H0 F H : Hp) (env : SEnv) (a b : α) : Prop := a = b
/-- what is walked yields just these -/
def Yld (K : Frag) (F0 : Hp) (ds : List D) (J : It) : Prop := ∀ (i : Nat) (F H : Hp), Ex F0 F → Ex F H →
  (∀ d, ds[i]? = some d → J.go i H ∧ ∀ x H', J.yld i H x H' → ∃ F', Go (fun _ => False) F H F' H' ∧ Ex F' H' ∧ Dp K F' x d) ∧ (i = ds.length → J.stop i H)
def RY (K : Frag) (σ : L2.St) (H0 F H : Hp) (env : SEnv) (ds : List D) (J : It) : Prop := Yld K F ds J
abbrev tE (ba : Addr) (K : Frag) (mg : Str → Option Value) (W : WX) (ev : SEnv → Rs Vw) : TE := tR ba K mg W (RE K) ev
abbrev tEs (ba : Addr) (K : Frag) (mg : Str → Option Value) (W : WX) (ev : SEnv → Rs (List Vw)) : TA := tR ba K mg W (REs K) ev
abbrev tB' (ba : Addr) (K : Frag) (mg : Str → Option Value) (W : WX) (ev : SEnv → Rs Bool) : TT := tR ba K mg W RI ev
abbrev tO (ba : Addr) (K : Frag) (mg : Str → Option Value) (W : WX) (ev : SEnv → Rs (Option Int)) : TO := tR ba K mg W RI ev
abbrev tI (ba : Addr) (K : Frag) (mg : Str → Option Value) (W : WX) (ev : SEnv → Rs (List D)) : TI := tR ba K mg W (RY K) ev

section
variable {ba : Addr} {K : Frag} {F F' H H' H0 : Hp} {σ : L2.St} {env env' : SEnv}
theorem Sim.eqlen (s : Sim ba K F H σ env) (s' : Sim ba K F' H' σ env') : env'.length = env.length := s'.len.trans s.len.symm
theorem RE.go {w : Vw} {v : V} (s : Sim ba K F H σ env) (s' : Sim ba K F' H' σ env') (g : Go (O σ env) F H F' H') (o : Own σ env env') (r : RE K σ H0 F H env w v) : RE K σ H0 F' H' env' w v := VwR.go g o (s.eqlen s') r
theorem REs.go (s : Sim ba K F H σ env) (s' : Sim ba K F' H' σ env') (g : Go (O σ env) F H F' H') (o : Own σ env env') : ∀ {ws : List Vw} {vs : List V}, REs K σ H0 F H env ws vs → REs K σ H0 F' H' env' ws vs
  | [], [], _ => trivial
  | _ :: _, _ :: _, h => ⟨VwR.go g o (s.eqlen s') h.1, h.2.1, REs.go s s' g o h.2.2⟩
  | [], _ :: _, h => h.elim
  | _ :: _, [], h => h.elim
theorem RE.early {M : Addr → Prop} {w : Vw} {v : V} {F1 H1 : Hp} (g : Go M F1 H1 F' H') (r : RE K σ H' F H env w v) : RE K σ H1 F H env w v := VwR.early g r
theorem REs.early {M : Addr → Prop} {F1 H1 : Hp} (g : Go M F1 H1 F' H') : ∀ {ws : List Vw} {vs : List V}, REs K σ H' F H env ws vs → REs K σ H1 F H env ws vs
  | [], [], _ => trivial
  | _ :: _, _ :: _, h => ⟨VwR.early g h.1, h.2.1, REs.early g h.2.2⟩
  | [], _ :: _, h => h.elim
  | _ :: _, [], h => h.elim
/-- an operation's end: new objects alone -/
theorem fin (s : Sim ba K F H σ env) (g : Go (fun _ => False) F H F' H') (sub : Ex F' H') : Go (O σ env) F H F' H' ∧ Sim ba K F' H' σ env :=
  ⟨g.mono fun _ h => h.elim, s.go g sub fun _ _ h => h⟩
theorem VwN.vw {w : Vw} {v : V} (s : Sim ba K F H σ env) (g : Go (fun _ => False) F H F' H') (r : VwN K F' H' H w v) (h0 : ∀ a, H a = none → H0 a = none) : VwR K F' H' H0 σ env w v := by
  cases w with
  | now d => exact r
  | late i => exact r.elim
  | tmp ds =>
    obtain ⟨a, vs, e, h1, h2, h3, h4⟩ := r
    refine ⟨a, vs, e, h1, h2, fun z => ?_, h0 a h3, h4⟩
    obtain ⟨_, vs', e'⟩ := s.ofree z
    rw [h3] at e'
    cases e'
/-- a slot is set -/
theorem mine_set {i j : Nat} {sl : Sl} {es : List D} (h : Mine (env.set i sl) j es) : (j = i ∧ (sl = .own es ∨ sl = .bor es)) ∨ (j ≠ i ∧ Mine env j es) := by
  by_cases hj : i = j
  · subst hj
    left
    refine ⟨rfl, ?_⟩
    unfold Mine at h
    by_cases hl : i < env.length
    · rw [List.getElem?_set_self hl] at h
      simpa using h
    · rw [List.getElem?_eq_none (by simpa using hl)] at h
      simp at h
  · right
    refine ⟨Ne.symm hj, ?_⟩
    unfold Mine at h ⊢
    rw [List.getElem?_set_ne hj] at h
    exact h
theorem lent_set {i j : Nat} {sl : Sl} {es : List D} (h : ∀ (i : Nat) (ds : List D), env[i]? = some (Sl.bor ds) → σ[i]? = some (some (.ref ba))) (hn : sl ≠ .bor es) (e : (env.set i sl)[j]? = some (.bor es)) : σ[j]? = some (some (.ref ba)) := by
  by_cases hj : i = j
  · subst hj
    by_cases hl : i < env.length
    · rw [List.getElem?_set_self hl] at e
      exact absurd (Option.some.inj e) hn
    · rw [List.getElem?_eq_none (by simpa using hl)] at e
      cases e
  · rw [List.getElem?_set_ne hj] at e
    exact h j es e
/-- .. where the slots change alike -/
theorem lent_set2 {i j : Nat} {sl : Sl} {x : Option V} {es : List D} (h : ∀ (i : Nat) (ds : List D), env[i]? = some (Sl.bor ds) → σ[i]? = some (some (.ref ba))) (hn : sl ≠ .bor es) (e : (env.set i sl)[j]? = some (.bor es)) : (σ.set i x)[j]? = some (some (.ref ba)) := by
  by_cases hj : i = j
  · subst hj
    by_cases hl : i < env.length
    · rw [List.getElem?_set_self hl] at e
      exact absurd (Option.some.inj e) hn
    · rw [List.getElem?_eq_none (by simpa using hl)] at e
      cases e
  · rw [List.getElem?_set_ne hj] at e ⊢
    exact h j es e
theorem Sim.freeze (s : Sim ba K F H σ env) {i : Nat} {ds : List D} (e : Mine env i ds) : ∃ F', Go (O σ env) F H F' H ∧ Own σ env (env.set i (.sh (.list ds))) ∧ Sim ba K F' H σ (env.set i (.sh (.list ds))) ∧ (∃ v, σ[i]? = some (some v) ∧ Dp K F' v (.list ds)) ∧ ∀ x, F' x = F x ∨ O σ env x := by
  obtain ⟨a, vs, h1, h2, h3, h4⟩ := s.own i ds e
  have mem : O σ env a := ⟨i, ds, e, h1⟩
  have g : Go (O σ env) F H (upd F a (.lst vs)) H := Go.freeze mem h3
  have gx := g.ex
  have dp : Dp K (upd F a (.lst vs)) (.ref a) (.list ds) := .lst (.inl (.inl upd_same)) (dpa_ex gx _ _ h4)
  have hl : i < env.length := by
    rcases e with e | e <;> exact (List.getElem?_eq_some_iff.mp e).1
  refine ⟨_, g, fun b hb => ?_, ⟨fun b o z => ?_, by rw [List.length_set]; exact s.len, fun j d ej => ?_, fun j es m => ?_, fun j es ej => lent_set s.lent (by intro z; cases z) ej, fun j k b es fs m m' => ?_⟩, ⟨_, h1, dp⟩, fun x => ?_⟩
  · obtain ⟨j, es, m, ej⟩ := hb
    rcases mine_set m with ⟨_, z | z⟩ | ⟨_, m⟩
    · cases z
    · cases z
    · exact ⟨j, es, m, ej⟩
  · by_cases hb : b = a
    · subst hb; rw [upd_same] at z; cases z; exact h2
    · rw [upd_ne hb] at z; exact s.sub b o z
  · by_cases hj : i = j
    · subst hj
      rw [List.getElem?_set_self hl] at ej
      cases ej
      exact ⟨_, h1, dp⟩
    · rw [List.getElem?_set_ne hj] at ej
      obtain ⟨v, q1, q2⟩ := s.sh j d ej
      exact ⟨v, q1, dp_ex gx _ _ q2⟩
  · rcases mine_set m with ⟨_, z | z⟩ | ⟨hj, m⟩
    · cases z
    · cases z
    · obtain ⟨b, ws, q1, q2, q3, q4⟩ := s.own j es m
      refine ⟨b, ws, q1, q2, ?_, dpa_ex gx _ _ q4⟩
      rw [upd_ne (fun (z : b = a) => hj (s.dis j i a es ds m e (z ▸ q1) h1))]
      exact q3
  · rcases mine_set m with ⟨_, z | z⟩ | ⟨_, m⟩
    · cases z
    · cases z
    · rcases mine_set m' with ⟨_, z | z⟩ | ⟨_, m'⟩
      · cases z
      · cases z
      · exact s.dis j k b es fs m m'
  · by_cases hx : x = a
    · exact .inr (hx ▸ mem)
    · exact .inl (upd_ne hx)
theorem keepF_ok {M : Addr → Prop} (s : Sim ba K F H σ env) {w : Vw} {v : V} {d : D} (r : VwR K F H H0 σ env w v) (e : keepF env w = some (d, env')) (hm : ∀ a, (H0 a = none → M a) ∧ (O σ env a → M a)) :
    ∃ F', Go M F H F' H ∧ Own σ env env' ∧ Sim ba K F' H σ env' ∧ Dp K F' v d ∧ ∀ x, F' x = F x ∨ O σ env x ∨ (isTmp w = true ∧ v = .ref x) := by
  cases w with
  | now d' =>
    cases e
    exact ⟨F, Go.refl _ _ _, fun _ h => h, s, r, fun x => .inl rfl⟩
  | tmp ds =>
    cases e
    obtain ⟨a, vs, rfl, h1, h2, h3, h4, h5⟩ := r
    have g : Go M F H (upd F a (.lst vs)) H := Go.freeze ((hm a).1 h4) h2
    have g' : Go (fun b => b = a) F H (upd F a (.lst vs)) H := Go.freeze rfl h2
    have sub : Ex (upd F a (.lst vs)) H := fun b o z => by
      by_cases hb : b = a
      · subst hb; rw [upd_same] at z; cases z; exact h1
      · rw [upd_ne hb] at z; exact s.sub b o z
    refine ⟨_, g, fun _ h => h, s.go g' sub (fun b ob (z : b = a) => h3 (z ▸ ob)), .lst (.inl (.inl upd_same)) (dpa_ex g.ex _ _ h5), fun x => ?_⟩
    by_cases hx : x = a
    · exact .inr (.inr ⟨rfl, by rw [hx]⟩)
    · exact .inl (upd_ne hx)
  | late i =>
    obtain ⟨r, _⟩ := r
    cases q : env[i]? with
    | none => simp [keepF, q] at e
    | some sl =>
      cases sl with
      | no => simp [keepF, q] at e
      | bor ds => simp [keepF, q] at e
      | sh d' =>
        simp only [keepF, q, Option.some.injEq, Prod.mk.injEq] at e
        obtain ⟨rfl, rfl⟩ := e
        obtain ⟨v', h1, h2⟩ := s.sh i _ q
        rw [r] at h1
        cases h1
        exact ⟨F, Go.refl _ _ _, fun _ h => h, s, h2, fun x => .inl rfl⟩
      | own ds =>
        simp only [keepF, q, Option.some.injEq, Prod.mk.injEq] at e
        obtain ⟨rfl, rfl⟩ := e
        obtain ⟨F', g, o, s', ⟨v', h1, h2⟩, hx⟩ := s.freeze (i := i) (.inl q)
        rw [r] at h1
        cases h1
        exact ⟨F', g.mono fun a h => .inl ((hm a).2 h), o, s', h2, fun x => (hx x).elim .inl fun z => .inr (.inl z)⟩
/-- a list just made, where another one is frozen -/
theorem VwR.kept {w : Vw} {v : V} (r : VwR K F H H0 σ env w v) (ex : Ex F F') (o : Own σ env env') (hl : env'.length = env.length) (hx : ∀ a, isTmp w = true → v = .ref a → F' a = F a) : VwR K F' H H0 σ env' w v := by
  cases w with
  | now d => exact dp_ex ex _ _ r
  | late i => exact ⟨r.1, hl ▸ r.2⟩
  | tmp ds =>
    obtain ⟨a, vs, e, h1, h2, h3, h4, h5⟩ := r
    exact ⟨a, vs, e, h1, (hx a rfl e).trans h2, fun z => h3 (o a z), h4, dpa_ex ex _ _ h5⟩
theorem VwR.notO {w : Vw} {v : V} (r : VwR K F H H0 σ env w v) (t : isTmp w = true) {a : Addr} (e : v = .ref a) : ¬ O σ env a := by
  cases w with
  | now d => cases t
  | late i => cases t
  | tmp ds =>
    obtain ⟨b, vs, e', _, _, h3, _⟩ := r
    rw [e] at e'
    cases e'
    exact h3
theorem keepN_ok {M : Addr → Prop} : ∀ {ws : List Vw} {vs : List V} {ds : List D} {F : Hp} {env env' : SEnv}, Sim ba K F H σ env → REs K σ H0 F H env ws vs → keepN env ws = some (ds, env') → (∀ a, (H0 a = none → M a) ∧ (O σ env a → M a)) →
    ∃ F', Go M F H F' H ∧ Own σ env env' ∧ Sim ba K F' H σ env' ∧ DpAll K F' vs ds
  | [], [], ds, F, env, env', s, _, e, _ => by
    cases e
    exact ⟨F, Go.refl _ _ _, fun _ h => h, s, .nil⟩
  | [], _ :: _, _, _, _, _, _, h, _, _ => h.elim
  | _ :: _, [], _, _, _, _, _, h, _, _ => h.elim
  | w :: ws, v :: vs, ds, F, env, env', s, h, e, hm => by
    obtain ⟨h1, h2, h3⟩ := h
    unfold keepN at e
    cases e1 : keepF env w with
    | none => rw [e1] at e; cases e
    | some p =>
      obtain ⟨d, env1⟩ := p
      rw [e1] at e
      have e : (keepN env1 ws).bind (fun q => some (d :: q.1, q.2)) = some (ds, env') := e
      cases e2 : keepN env1 ws with
      | none => rw [e2] at e; cases e
      | some q =>
        obtain ⟨ds', env2⟩ := q
        rw [e2] at e
        have e : some (d :: ds', env2) = some (ds, env') := e
        cases e
        obtain ⟨F1, g1, o1, s1, p1, hx⟩ := keepF_ok (M := M) s h1 e1 hm
        have rest : ∀ {ws : List Vw} {vs : List V}, REs K σ H0 F H env ws vs → (∀ a, isTmp w = true → v = .ref a → NoTmp a ws vs) → REs K σ H0 F1 H env1 ws vs := by
          intro ws
          induction ws with
          | nil => intro vs r _; cases vs <;> exact r
          | cons w' ws ih =>
            intro vs r n
            cases vs with
            | nil => exact r
            | cons v' vs =>
              refine ⟨VwR.kept r.1 g1.ex o1 (s.eqlen s1) fun a t z => ?_, r.2.1, ih r.2.2 fun a t z => (n a t z).2⟩
              rcases hx a with q | q | ⟨q, q'⟩
              · exact q
              · exact absurd q (VwR.notO r.1 t z)
              · exact absurd z ((n a q q').1 t)
        obtain ⟨F2, g2, o2, s2, p2⟩ := keepN_ok (M := M) s1 (rest h3 h2) e2 fun a => ⟨(hm a).1, fun z => (hm a).2 (o1 a z)⟩
        exact ⟨F2, g1.trans g2 fun x h => .inl h, fun a z => o1 a (o2 a z), s2, .cons (dp_ex g2.ex _ _ p1) p2⟩
theorem look_keep {w : Vw} {d : D} (e : keepF env w = some (d, env')) : True := trivial
end
end PyE

set_option Elab.async false
set_option linter.all false
set_option autoImplicit false
set_option maxRecDepth 100000
set_option maxHeartbeats 4000000
/-! # Slots set and forgotten; a comprehension's loop -/
namespace PyE
open PySem PySem.Spec PyProof.Rows L2

section
variable {ba : Addr} {K : Frag} {F F' H H' H0 : Hp} {σ τ : L2.St} {env env' : SEnv}
theorem set_len {i : Nat} {x : Option V} : (σ.set i x).length = σ.length := List.length_set
/-- slot i: a datum that stays -/
theorem Sim.setSh (s : Sim ba K F H σ env) {i : Nat} {v : V} {d : D} (hi : i < env.length) (r : Dp K F v d) : Sim ba K F H (σ.set i (some v)) (env.set i (.sh d)) := by
  have hs : i < σ.length := by rw [← s.len]; exact hi
  have oth : ∀ {j : Nat} {es : List D}, Mine (env.set i (.sh d)) j es → j ≠ i ∧ Mine env j es := fun m => by
    rcases mine_set m with ⟨_, z | z⟩ | h
    · cases z
    · cases z
    · exact h
  refine ⟨s.sub, by rw [List.length_set, List.length_set]; exact s.len, fun j d' e => ?_, fun j es m => ?_, fun j es e => lent_set2 s.lent (by intro z; cases z) e, fun j k a es fs m m' e1 e2 => ?_⟩
  · by_cases hj : i = j
    · subst hj
      rw [List.getElem?_set_self hi] at e
      cases e
      exact ⟨v, List.getElem?_set_self hs, r⟩
    · rw [List.getElem?_set_ne hj] at e ⊢
      exact s.sh j d' e
  · obtain ⟨hj, m⟩ := oth m
    obtain ⟨a, vs, q1, q2⟩ := s.own j es m
    exact ⟨a, vs, by rw [List.getElem?_set_ne (Ne.symm hj)]; exact q1, q2⟩
  · obtain ⟨hj, m⟩ := oth m
    obtain ⟨hk, m'⟩ := oth m'
    rw [List.getElem?_set_ne (Ne.symm hj)] at e1
    rw [List.getElem?_set_ne (Ne.symm hk)] at e2
    exact s.dis j k a es fs m m' e1 e2
theorem own_setSh (s : Sim ba K F H σ env) {i : Nat} {v : Option V} {d : D} : ∀ a, O (σ.set i v) (env.set i (.sh d)) a → O σ env a := by
  rintro a ⟨j, es, m, e⟩
  rcases mine_set m with ⟨_, z | z⟩ | ⟨hj, m⟩
  · cases z
  · cases z
  · rw [List.getElem?_set_ne (Ne.symm hj)] at e
    exact ⟨j, es, m, e⟩
/-- slot i: nothing -/
theorem Sim.setNo (s : Sim ba K F H σ env) {i : Nat} : Sim ba K F H (σ.set i none) (env.set i .no) := by
  have oth : ∀ {j : Nat} {es : List D}, Mine (env.set i .no) j es → j ≠ i ∧ Mine env j es := fun m => by
    rcases mine_set m with ⟨_, z | z⟩ | h
    · cases z
    · cases z
    · exact h
  refine ⟨s.sub, by rw [List.length_set, List.length_set]; exact s.len, fun j d' e => ?_, fun j es m => ?_, fun j es e => lent_set2 s.lent (by intro z; cases z) e, fun j k a es fs m m' e1 e2 => ?_⟩
  · by_cases hj : i = j
    · subst hj
      by_cases hl : i < env.length
      · rw [List.getElem?_set_self hl] at e
        cases e
      · rw [List.getElem?_eq_none (by simpa using hl)] at e
        cases e
    · rw [List.getElem?_set_ne hj] at e ⊢
      exact s.sh j d' e
  · obtain ⟨hj, m⟩ := oth m
    obtain ⟨a, vs, q1, q2⟩ := s.own j es m
    exact ⟨a, vs, by rw [List.getElem?_set_ne (Ne.symm hj)]; exact q1, q2⟩
  · obtain ⟨hj, m⟩ := oth m
    obtain ⟨hk, m'⟩ := oth m'
    rw [List.getElem?_set_ne (Ne.symm hj)] at e1
    rw [List.getElem?_set_ne (Ne.symm hk)] at e2
    exact s.dis j k a es fs m m' e1 e2
theorem own_setNo {i : Nat} {v : Option V} : ∀ a, O (σ.set i v) (env.set i .no) a → O σ env a := by
  rintro a ⟨j, es, m, e⟩
  rcases mine_set m with ⟨_, z | z⟩ | ⟨hj, m⟩
  · cases z
  · cases z
  · rw [List.getElem?_set_ne (Ne.symm hj)] at e
    exact ⟨j, es, m, e⟩
/-- slot i: a list just made -/
theorem Sim.setOwn (s : Sim ba K F H σ env) {i : Nat} {a : Addr} {vs : List V} {ds : List D} (hi : i < env.length) (h1 : H a = some (.lst vs)) (h2 : F a = none) (h3 : ¬ O σ env a) (h4 : DpAll K F vs ds) : Sim ba K F H (σ.set i (some (.ref a))) (env.set i (.own ds)) := by
  have hs : i < σ.length := by rw [← s.len]; exact hi
  have oth : ∀ {j : Nat} {es : List D}, Mine (env.set i (.own ds)) j es → (j = i ∧ es = ds) ∨ (j ≠ i ∧ Mine env j es) := fun m => by
    rcases mine_set m with ⟨e, z | z⟩ | h
    · cases z; exact .inl ⟨e, rfl⟩
    · cases z
    · exact .inr h
  refine ⟨s.sub, by rw [List.length_set, List.length_set]; exact s.len, fun j d' e => ?_, fun j es m => ?_, fun j es e => lent_set2 s.lent (by intro z; cases z) e, fun j k b es fs m m' e1 e2 => ?_⟩
  · by_cases hj : i = j
    · subst hj
      rw [List.getElem?_set_self hi] at e
      cases e
    · rw [List.getElem?_set_ne hj] at e ⊢
      exact s.sh j d' e
  · rcases oth m with ⟨rfl, rfl⟩ | ⟨hj, m⟩
    · exact ⟨a, vs, List.getElem?_set_self hs, h1, h2, h4⟩
    · obtain ⟨b, ws, q1, q2⟩ := s.own j es m
      exact ⟨b, ws, by rw [List.getElem?_set_ne (Ne.symm hj)]; exact q1, q2⟩
  · rcases oth m with ⟨rfl, rfl⟩ | ⟨hj, m⟩
    · rw [List.getElem?_set_self hs] at e1
      cases e1
      rcases oth m' with ⟨rfl, rfl⟩ | ⟨hk, m'⟩
      · rfl
      · rw [List.getElem?_set_ne (Ne.symm hk)] at e2
        exact absurd ⟨k, fs, m', e2⟩ h3
    · rw [List.getElem?_set_ne (Ne.symm hj)] at e1
      have hO : O σ env b := ⟨j, es, m, e1⟩
      have hM : Mine env j es := m
      rcases oth m' with ⟨hki, hkd⟩ | ⟨hk, m'⟩
      · rw [hki, List.getElem?_set_self hs] at e2
        cases e2
        exact absurd hO h3
      · rw [List.getElem?_set_ne (Ne.symm hk)] at e2
        exact s.dis j k b es fs hM m' e1 e2
theorem own_setOwn {i : Nat} {a : Addr} {ds : List D} : ∀ b, O (σ.set i (some (.ref a))) (env.set i (.own ds)) b → O σ env b ∨ b = a := by
  rintro b ⟨j, es, m, e⟩
  rcases mine_set m with ⟨rfl, _⟩ | ⟨hj, m⟩
  · by_cases hs : j < σ.length
    · rw [List.getElem?_set_self hs] at e
      cases e
      exact .inr rfl
    · rw [List.getElem?_eq_none (by simpa using hs)] at e
      cases e
  · rw [List.getElem?_set_ne (Ne.symm hj)] at e
    exact .inl ⟨j, es, m, e⟩
/-- this frame's list at slot i is written -/
theorem Sim.setMine (s : Sim ba K F H σ env) {i : Nat} {a : Addr} {vs : List V} {ds es : List D} {sl : Sl} (m : Mine env i ds) (hsl : (env[i]? = some (.own ds) ∧ sl = .own es) ∨ (env[i]? = some (.bor ds) ∧ sl = .bor es)) (ha : σ[i]? = some (some (.ref a))) (h4 : DpAll K F vs es) :
    Go (O σ env) F H F (upd H a (.lst vs)) ∧ Sim ba K F (upd H a (.lst vs)) σ (env.set i sl) ∧ Own σ env (env.set i sl) := by
  have hi : i < env.length := by rcases m with e | e <;> exact (List.getElem?_eq_some_iff.mp e).1
  obtain ⟨a', vs', q1, q2, q3, q4⟩ := s.own i ds m
  rw [ha] at q1
  cases q1
  have oth : ∀ {j : Nat} {fs : List D}, Mine (env.set i sl) j fs → (j = i ∧ fs = es) ∨ (j ≠ i ∧ Mine env j fs) := fun mm => by
    rcases mine_set mm with ⟨e, z⟩ | h
    · left
      refine ⟨e, ?_⟩
      rcases hsl with ⟨_, r⟩ | ⟨_, r⟩ <;> subst r <;> rcases z with z | z <;> cases z <;> rfl
    · exact .inr h
  have mo : ∀ b, O σ (env.set i sl) b → O σ env b := by
    rintro b ⟨j, fs, mm, e⟩
    rcases oth mm with ⟨rfl, rfl⟩ | ⟨_, mm⟩
    · exact ⟨j, ds, m, e⟩
    · exact ⟨j, fs, mm, e⟩
  refine ⟨Go.write ⟨i, ds, m, ha⟩, ⟨s.sub.right q3, by rw [List.length_set]; exact s.len, fun j d' e => ?_, fun j fs mm => ?_, fun j fs e => ?_, fun j k b fs gs mm mm' e1 e2 => ?_⟩, mo⟩
  · by_cases hj : i = j
    · subst hj
      rw [List.getElem?_set_self hi] at e
      rcases hsl with ⟨_, r⟩ | ⟨_, r⟩ <;> subst r <;> cases e
    · rw [List.getElem?_set_ne hj] at e
      exact s.sh j d' e
  · rcases oth mm with ⟨rfl, rfl⟩ | ⟨hj, mm⟩
    · exact ⟨a, vs, ha, upd_same, q3, h4⟩
    · obtain ⟨b, ws, p1, p2, p3, p4⟩ := s.own j fs mm
      refine ⟨b, ws, p1, ?_, p3, p4⟩
      rw [upd_ne (fun (z : b = a) => hj (s.dis j i a fs ds mm m (z ▸ p1) ha))]
      exact p2
  · by_cases hj : i = j
    · subst hj
      rcases hsl with ⟨_, r⟩ | ⟨q, r⟩
      · subst r
        rw [List.getElem?_set_self hi] at e
        cases e
      · exact s.lent i ds q
    · rw [List.getElem?_set_ne hj] at e
      exact s.lent j fs e
  · rcases oth mm with ⟨rfl, rfl⟩ | ⟨hj, mm⟩
    · rcases oth mm' with ⟨rfl, rfl⟩ | ⟨hk, mm'⟩
      · rfl
      · exact s.dis j k b ds gs m mm' e1 e2
    · have hM : Mine env j fs := mm
      rcases oth mm' with ⟨hki, hkd⟩ | ⟨hk, mm'⟩
      · rw [hki] at e2 ⊢
        exact s.dis j i b fs ds hM m e1 e2
      · exact s.dis j k b fs gs hM mm' e1 e2
theorem Sim.wipe (s : Sim ba K F H σ env) : ∀ own : List Nat, Sim ba K F H (L2.wipe σ own) (wipeE env own)
  | [] => s
  | i :: own => (Sim.wipe s own).setNo
theorem own_wipe : ∀ (own : List Nat) (a : Addr), O (L2.wipe σ own) (wipeE env own) a → O σ env a
  | [], _, h => h
  | i :: own, a, h => own_wipe own a (own_setNo a h)
theorem wipeE_len : ∀ own : List Nat, (wipeE env own).length = env.length
  | [] => rfl
  | i :: own => by unfold wipeE; rw [List.length_set, wipeE_len own]
theorem putS_ok {i : Nat} {sl : Sl} (e : putS env i sl = some env') : env' = env.set i sl ∧ i < env.length := by
  unfold putS at e
  cases q : env[i]? with
  | none => rw [q] at e; cases e
  | some x =>
    rw [q] at e
    have hl := (List.getElem?_eq_some_iff.mp q).1
    cases x with
    | bor _ => cases e
    | no => cases e; exact ⟨rfl, hl⟩
    | sh _ => cases e; exact ⟨rfl, hl⟩
    | own _ => cases e; exact ⟨rfl, hl⟩
/-- a target: what the slots are behind it -/
def gT (K : Frag) : Tg → TG
  | .one i => gName i
  | .many is => gTup K is.length (gN is)
where gN : List Nat → TGs
  | [] => gNil
  | i :: is => gCons (gName i) (gN is)
theorem setN_ok : ∀ {is : List Nat} {ds : List D} {vs : List V} {σ : L2.St} {env env' : SEnv} {Q : L2.St → Hp → Prop}, Sim ba K F H σ env → DpAll K F vs ds → putN env is ds = some env' →
    (∀ σ', Sim ba K F H σ' env' → (∀ a, O σ' env' a → O σ env a) → (∀ own : List Nat, (∀ i ∈ is, i ∈ own) → L2.wipe σ' own = L2.wipe σ own) → Q σ' H) → gT.gN is vs σ H Q
  | [], [], _, σ, env, env', Q, s, r, e, h => by
    cases r
    cases e
    exact ⟨rfl, h σ s (fun _ h => h) fun _ _ => rfl⟩
  | i :: is, d :: ds, _, σ, env, env', Q, s, r, e, h => by
    cases r with
    | @cons v vs _ _ r1 r2 =>
      unfold putN at e
      cases e1 : putS env i (.sh d) with
      | none => rw [e1] at e; cases e
      | some env1 =>
        rw [e1] at e
        obtain ⟨rfl, hi⟩ := putS_ok e1
        refine ⟨v, vs, rfl, ?_⟩
        refine setN_ok (s.setSh hi r1) r2 e fun σ' s' o' w' => h σ' s' (fun a z => own_setSh s a (o' a z)) fun own hm => ?_
        rw [w' own fun j hj => hm j (List.mem_cons_of_mem _ hj)]
        exact wipe_set _ _ _ (hm i List.mem_cons_self)
  | [], _ :: _, _, _, _, _, _, _, _, e, _ => by cases e
  | _ :: _, [], _, _, _, _, _, _, _, e, _ => by cases e
where
  wipe_set (σ : L2.St) {i : Nat} (x : Option V) : ∀ own : List Nat, i ∈ own → L2.wipe (σ.set i x) own = L2.wipe σ own
  | [], h => by cases h
  | j :: own, h => by
    show (L2.wipe (σ.set i x) own).set j none = (L2.wipe σ own).set j none
    by_cases hj : i ∈ own
    · rw [wipe_set σ x own hj]
    · have hij : i = j := by
        rcases List.mem_cons.mp h with e | e
        · exact e
        · exact absurd e hj
      subst hij
      rw [wipe_out σ x own hj, List.set_set]
  wipe_out (σ : L2.St) {i : Nat} (x : Option V) : ∀ own : List Nat, i ∉ own → L2.wipe (σ.set i x) own = (L2.wipe σ own).set i x
  | [], _ => rfl
  | j :: own, h => by
    show (L2.wipe (σ.set i x) own).set j none = ((L2.wipe σ own).set j none).set i x
    have hij : i ≠ j := fun e => h (e ▸ List.mem_cons_self)
    rw [wipe_out σ x own fun z => h (List.mem_cons_of_mem _ z), List.set_comm _ _ hij]
def tgS : Tg → List Nat
  | .one i => [i]
  | .many is => is
theorem putT_ok {tg : Tg} {d : D} {v : V} {Q : L2.St → Hp → Prop} (s : Sim ba K F H σ env) (r : Dp K F v d) (e : putT env tg d = some env')
    (h : ∀ σ', Sim ba K F H σ' env' → (∀ a, O σ' env' a → O σ env a) → (∀ own : List Nat, (∀ i ∈ tgS tg, i ∈ own) → L2.wipe σ' own = L2.wipe σ own) → Q σ' H) : gT K tg v σ H Q := by
  cases tg with
  | one i =>
    obtain ⟨rfl, hi⟩ := putS_ok e
    exact h _ (s.setSh hi r) (own_setSh s) fun own hm => setN_ok.wipe_set _ _ _ (hm i List.mem_cons_self)
  | many is =>
    cases d with
    | tuple ds =>
      cases r with
      | tup q al =>
        have hl : ∀ {is : List Nat} {ds : List D} {env : SEnv}, putN env is ds = some env' → ds.length = is.length := by
          intro is
          induction is with
          | nil => intro ds env e; cases ds with
            | nil => rfl
            | cons _ _ => cases e
          | cons i is ih => intro ds env e; cases ds with
            | nil => cases e
            | cons d ds =>
              unfold putN at e
              cases e1 : putS env i (.sh d) with
              | none => rw [e1] at e; cases e
              | some env1 =>
                rw [e1] at e
                rw [List.length_cons, List.length_cons, ih e]
        exact ⟨_, _, rfl, s.sub.sqt q, (dpa_len al).trans (hl e), setN_ok s al e h⟩
    | _ => cases e
/-- .. where the slot's rule is to be known of every slot -/
theorem backE_len (old : SEnv) : ∀ own : List Nat, (backE old env own).length = env.length
  | [] => rfl
  | i :: own => by unfold backE; rw [List.length_set, backE_len old own]

/-! ### the loop of a comprehension -/
/-- between two turns: the new list at A holds os -/
structure LI (ba : Addr) (K : Frag) (M : Addr → Prop) (F0 H0 : Hp) (τ : L2.St) (A : Addr) (os : List D) (F H : Hp) (env : SEnv) : Prop where
  sim : Sim ba K F H τ env
  go : Go M F0 H0 F H
  own : ∀ a, O τ env a → M a
  acc : ∃ vs, H A = some (.lst vs) ∧ DpAll K F vs os
  fa : F A = none
  no : ¬ M A
theorem lc_loop {M : Addr → Prop} {F0 H0 : Hp} {τ : L2.St} {A : Addr} {step : D → SEnv → Rs (List D)} {J : It} {G : V → Hp → (Hp → Prop) → Prop} {QEnd : Hp → Prop} {ds os0 out : List D} {en env1 : SEnv} {F1 H1 : Hp}
    (y : Yld K F1 ds J) (e : lcL step ds env1 = .ok out en) (i0 : LI ba K M F0 H0 τ A os0 F1 H1 env1)
    (turn : ∀ (d : D) (a : List D) (env env' : SEnv) (os : List D) (F H : Hp) (x : V) (Nx : Hp → Prop), step d env = .ok a env' → os.length + a.length ≤ (os0 ++ out).length → LI ba K M F0 H0 τ A os F H env → Dp K F x d → (∀ F' H', LI ba K M F0 H0 τ A (os ++ a) F' H' env' → Ex F F' → Nx H') → G x H Nx)
    (hend : ∀ F H, LI ba K M F0 H0 τ A (os0 ++ out) F H en → Ex F1 F → QEnd H) :
    ∃ W : Nat → Nat → Hp → Prop, (∃ m, W 0 m H1) ∧ ∀ i m H, W i m H → (J.stop i H ∧ QEnd H) ∨ (J.go i H ∧ ∃ Nx : Hp → Prop, (∀ H', Nx H' → ∃ m', m' < m ∧ W (i + 1) m' H') ∧ ∀ x H', J.yld i H x H' → G x H' Nx) := by
  refine ⟨fun i m H => m = ds.length - i ∧ i ≤ ds.length ∧ ∃ F env os rest, Ex F1 F ∧ lcL step (ds.drop i) env = .ok rest en ∧ os ++ rest = os0 ++ out ∧ LI ba K M F0 H0 τ A os F H env, ⟨_, rfl, Nat.zero_le _, F1, env1, os0, out, Ex.refl _, e, rfl, i0⟩, ?_⟩
  rintro i m H ⟨rfl, hi, F, env, os, rest, ex, el, eo, li⟩
  by_cases hlt : i < ds.length
  · right
    have hd : ds[i]? = some ds[i] := List.getElem?_eq_getElem hlt
    obtain ⟨hgo, hy⟩ := (y i F H ex li.sim.sub).1 _ hd
    rw [List.drop_eq_getElem_cons hlt] at el
    unfold lcL at el
    cases e1 : step ds[i] env with
    | exc c x e2 => rw [e1] at el; cases el
    | stuck => rw [e1] at el; cases el
    | ok a env2 =>
      rw [e1] at el
      have el : (lcL step (ds.drop (i + 1)) env2).bind (fun b e' => .ok (a ++ b) e') = .ok rest en := el
      cases e3 : lcL step (ds.drop (i + 1)) env2 with
      | exc c x e2 => rw [e3] at el; cases el
      | stuck => rw [e3] at el; cases el
      | ok b en' =>
        rw [e3] at el
        have el : (Rs.ok (a ++ b) en' : Rs (List D)) = .ok rest en := el
        cases el
        refine ⟨hgo, fun H' => ∃ F', LI ba K M F0 H0 τ A (os ++ a) F' H' env2 ∧ Ex F F', fun H' ⟨F', li', ex'⟩ => ⟨ds.length - (i + 1), by omega, rfl, hlt, F', env2, os ++ a, b, ex.trans ex', e3, by rw [List.append_assoc]; exact eo, li'⟩, fun x H' hx => ?_⟩
        obtain ⟨F', g, sub, dp⟩ := hy x H' hx
        obtain ⟨vs, h1, h2⟩ := li.acc
        refine turn ds[i] a env env2 os F' H' x _ e1 (by rw [← eo, List.length_append, List.length_append]; omega) ⟨li.sim.go g sub fun _ _ h => h, li.go.trans g fun _ h => h.elim, li.own, ⟨vs, g.keep _ _ (fun h => h) h1, dpa_ex g.ex _ _ h2⟩, g.fz _ (fun h => h) (by rw [h1]; simp) li.fa, li.no⟩ dp fun F2 H2 li2 ex2 => ⟨F2, li2, g.ex.trans ex2⟩
  · have hi' : i = ds.length := by omega
    subst hi'
    rw [List.drop_length] at el
    cases el
    refine .inl ⟨(y _ F H ex li.sim.sub).2 rfl, hend F H ?_ ex⟩
    rw [List.append_nil] at eo
    rw [← eo]
    exact li
/-- an item goes onto the new list -/
theorem LI.push {M : Addr → Prop} {F0 H0 : Hp} {A : Addr} {os : List D} {d : D} {v : V} (hA : H0 A = none) (li : LI ba K M F0 H0 τ A os F H env) (r : Dp K F v d) : ∃ vs, H A = some (.lst vs) ∧ vs.length = os.length ∧ LI ba K M F0 H0 τ A (os ++ [d]) F (upd H A (.lst (vs ++ [v]))) env := by
  obtain ⟨vs, h1, h2⟩ := li.acc
  have nO : ¬ O τ env A := fun z => li.no (li.own A z)
  refine ⟨vs, h1, dpa_len h2, ⟨⟨li.sim.sub.right li.fa, li.sim.len, li.sim.sh, fun i es m => ?_, li.sim.lent, li.sim.dis⟩, ?_, li.own, ⟨_, upd_same, dpa_app h2 (.cons r .nil)⟩, li.fa, li.no⟩⟩
  · obtain ⟨a, ws, q1, q2, q3, q4⟩ := li.sim.own i es m
    refine ⟨a, ws, q1, ?_, q3, q4⟩
    rw [upd_ne (fun (z : a = A) => nO ⟨i, es, m, z ▸ q1⟩)]
    exact q2
  · exact li.go.trans (Go.write (M := fun x => x = A) rfl) fun x (hx : x = A) => .inr (hx ▸ hA)
end
end PyE

set_option Elab.async false
set_option linter.all false
set_option autoImplicit false
set_option maxRecDepth 100000
set_option maxHeartbeats 4000000
/-! # What is walked: a list or a tuple; enumerate of a tuple -/
namespace PySem
open Builtin
set_option maxHeartbeats 1000000 in
theorem meets_enumerate_newT (l : Addr) (items : Array Value) (n : Nat) (dct : Option Addr) (sl : Array (Option Value)) :
    Meets (Builtin.«enumerate.__new__» ⟨[.type "enumerate", .ref l], []⟩) (fun _ R s => s.heap.get? l = some { cls := .type "tuple", dict := dct, data := .seq items n, slots := sl } ∧
      R (.ok (.ret (.ref (s.heap.push { cls := .type "tuple_iterator", data := .fields #[.ref l, .int 0 0] }).objs.size)))
        { s with heap := (s.heap.push { cls := .type "tuple_iterator", data := .fields #[.ref l, .int 0 0] }).push { cls := .type "enumerate", data := .fields #[.none, .bool false, .ref s.heap.objs.size, rawInt 0, .none, .none] } }) :=
  .of_wp fun prog w A R s h => by
    obtain ⟨hp, g, d, tk, os⟩ := s; obtain ⟨hl, h⟩ := h
    have hsub := sub_enumerate
    have hL : Heap.IsTuple (Shared.heap ⟨hp, g, d, tk, os⟩) l items := ⟨_, hl, rfl, n, rfl⟩
    wp_walk using PySem.AutoSeq1.wpAny_loadPart' hl
    refine wpAny_stack_any fun st => wpAny_pure ?_
    split
    · rename_i c _ _ _ _ _
      cases (c == Value.type "enumerate")
      · wp_walk using PySem.AutoSeq1.wpAny_loadPart' hl, wpAny_pyIter_tuple hL
        exact ⟨_, rfl, h⟩
      · wp_walk using PySem.AutoSeq1.wpAny_loadPart' hl, wpAny_pyIter_tuple hL
        exact ⟨_, rfl, h⟩
    · wp_walk using PySem.AutoSeq1.wpAny_loadPart' hl, wpAny_pyIter_tuple hL
      exact ⟨_, rfl, h⟩
section
variable {prog : Program} {w : World} {A : Around} {E : Value → Shared → Prop} {s : Shared}
theorem call_enumerate_tuple {l : Addr} {items : Array Value} {Q : Value → Shared → Prop} (hL : s.heap.IsTuple l items)
    (h : ∀ h', IsEnum h' (s.heap.objs.size + 1) s.heap.objs.size 0 .none → h'.IsTupleIter s.heap.objs.size l 0 → h'.objs.size = s.heap.objs.size + 2 →
      (∀ b o, s.heap.get? b = some o → h'.get? b = some o) → Q (.ref (s.heap.objs.size + 1)) { s with heap := h' }) :
    wpAny (model prog w) A (call (.type "enumerate") [.ref l]) Q E s := by
  obtain ⟨⟨c, dct, dt, sl⟩, hl, hc, n, hd⟩ := hL
  replace hc : c = .type "tuple" := hc
  replace hd : dt = .seq items n := hd
  subst hc hd
  refine callType_new F.called_enumerate (by decide) (F.typeCall_enumerate_1 _) (F.newCall_enumerate_1 _) (fun obj => F.args_object_init_2 obj _) F.entry_enumerate_new
    (meets_enumerate_newT l items n dct sl) ⟨hl, ?_⟩
  have hz : (s.heap.push { cls := .type "tuple_iterator", data := .fields #[.ref l, .int 0 0] }).objs.size = s.heap.objs.size + 1 := Heap.size_push ..
  show _ ∧ _
  rw [hz]
  have he : IsEnum ((s.heap.push { cls := .type "tuple_iterator", data := .fields #[.ref l, .int 0 0] }).push
      { cls := .type "enumerate", data := .fields #[.none, .bool false, .ref s.heap.objs.size, rawInt 0, .none, .none] }) (s.heap.objs.size + 1) s.heap.objs.size 0 .none := by
    have := Heap.get?_push_size (s.heap.push { cls := .type "tuple_iterator", data := .fields #[.ref l, .int 0 0] })
      (o := { cls := .type "enumerate", data := .fields #[.none, .bool false, .ref s.heap.objs.size, rawInt 0, .none, .none] }) rfl
    rw [hz] at this; exact this
  refine ⟨⟨_, he, rfl⟩, h _ he ⟨_, Heap.get?_push_of_some _ (Heap.get?_push_size _ rfl), rfl, rfl⟩ (by rw [Heap.size_push, hz]) fun b o x => Heap.get?_push_of_some _ (Heap.get?_push_of_some _ x)⟩
end
end PySem
namespace PyE
open PySem PySem.Spec PyProof.Rows L2
/-- the tuple at a, each item in a new pair -/
def IteT (K : Frag) (a : Addr) : It :=
  ⟨fun i H => ∃ (xs : List V) (x : V), SqT K H a xs ∧ xs[i]? = some x, fun i H v H' => ∃ T x, v = .ref T ∧ H T = none ∧ H' = upd H T (.tup [.int (i : Nat), x]) ∧ ∀ xs, SqT K H a xs → xs[i]? = some x, fun i H => ∃ xs : List V, SqT K H a xs ∧ xs.length = i⟩
theorem turn_enumT {P : Program} {w : World} {K : Frag} {elts : List Expr} {kk : Nat} {tpos : Pos} (a e it : Addr) :
    Turn P w K (.Tuple elts kk tpos) (IteT K a) [e, it] e (fun i h => (∃ old, IsEnum h e it ((i : Nat) : Int) old) ∧ h.IsTupleIter it a i ∧ e ≠ it ∧ a ≠ it ∧ a ≠ e) where
  mem := by simp
  obj := fun i h st b hb => by
    obtain ⟨⟨old, he⟩, ⟨o, ho, hc, hd⟩, _⟩ := st
    have e' : b = e ∨ b = it := by simpa using hb
    rcases e' with z | z
    · rw [z]; exact ⟨_, he, fun v q => nomatch q⟩
    · rw [z]; exact ⟨o, ho, fun v q => by rw [hd] at q; cases q⟩
  keep := fun i h h' st k => let ⟨⟨old, he⟩, hi, hne⟩ := st; ⟨⟨old, k e (by simp) _ he⟩, hi.at fun o q => k it (by simp) o q, hne⟩
  item := by
    intro X hP hw hK hc i pins s σ H E I hf st hg
    subst hP hw hK
    obtain ⟨⟨old, he⟩, hit, hne, hai, hae⟩ := st
    obtain ⟨xs, x, hq, hx⟩ := hg
    obtain ⟨its, rv, p, hz⟩ := I.tuple hq
    obtain ⟨u, hu, ru⟩ := rv.get hx
    have hel : e < s.heap.objs.size := Heap.lt_size he
    have hil : it < s.heap.objs.size := by obtain ⟨_, q, _⟩ := hit; exact Heap.lt_size q
    have hlt : i < its.toArray.size := by
      have := (List.getElem?_eq_some_iff.mp hu).1
      simpa using this
    refine wpAny_pyNext_enum_itemD (Draws.tuple (A := X.A.in1) (I.ok.hd hc) it a hai its.toArray) he ⟨hit, p⟩ hlt hne (by simp only [List.mem_cons, List.not_mem_nil, or_false, not_or]; exact ⟨hne, Ne.symm hae⟩) fun x0 h' tk hx0 ho hst' hT hsz hk => ?_
    have ex0 : x0 = u := by
      have h1 : its[i]? = some x0 := by simpa using hx0
      rw [hu] at h1
      exact (Option.some.inj h1).symm
    subst ex0
    obtain ⟨hit', p'⟩ := hst'
    refine ⟨_, rfl, wpAny_letOwnedTupleGo_enum (s := { s with heap := h', toks := tk + 1 }) ho fun h'' he' sb => ?_⟩
    have hT2 : h''.get? s.heap.objs.size = some { cls := .type "tuple", data := .seq #[.int i tk, x0] } := (sb.2 _ (Nat.ne_of_gt hel)).trans hT
    have new : ObjOk X.prog X.w (upd H s.heap.objs.size (.tup [.int (i : Nat), x])) h'' s.heap.objs.size (.tup [.int (i : Nat), x]) :=
      ⟨by show 2 ≤ sizeLine; decide, [.int i tk, x0], .cons ⟨_, rfl⟩ (.cons ru .nil), ⟨_, hT2, rfl, _, rfl⟩⟩
    have I1 : Inv X pins σ (upd H s.heap.objs.size (.tup [.int (i : Nat), x])) { s with heap := h'', toks := tk + 1 } :=
      I.turnedNew (ch := [e, it]) (fun b ob hb q => (sb.2 b (fun z => hb (by simp [z]))).trans (hk b ob (fun z => hb (by simp [z])) (fun z => hb (by simp [z])) q)) hf (Nat.le_refl _) new
    refine ⟨.ref s.heap.objs.size, _, I1, rfl, ⟨_, x, rfl, I.hok.fresh (Nat.le_refl _), rfl, fun ys hy => by rw [I.tuple_inj hy hq]; exact hx⟩, ⟨⟨x0, ?_⟩, hit'.at fun o q => (sb.2 it (Ne.symm hne)).trans q, hne, hai, hae⟩, fun b hb => ?_⟩
    · have e1 : ((i + 1 : Nat) : Int) = (i : Int) + 1 := by omega
      rw [e1]; exact he'
    · have hb' : b < s.heap.objs.size := by
        have e' : b = e ∨ b = it := by simpa using hb
        rcases e' with z | z
        · rw [z]; exact hel
        · rw [z]; exact hil
      rw [upd_ne (Nat.ne_of_lt hb')]
      exact (hf b hb).1
  done := by
    intro X hP hw hK hc i pins s σ H E I hf st hg
    subst hP hw hK
    obtain ⟨⟨old, he⟩, hit, hne, hai, hae⟩ := st
    obtain ⟨xs, hq, hx⟩ := hg
    obtain ⟨its, rv, p, hz⟩ := I.tuple hq
    obtain ⟨f0, f1, f2, f3, f4, f5⟩ := hf it (by simp)
    have hl := rv.length
    have ei : i = its.toArray.size := by rw [List.size_toArray, ← hl, hx]
    exact wpAny_pyNext_enum_endD (Draws.tuple (A := X.A.in1) (I.ok.hd hc) it a hai its.toArray) he (by rw [← ei]; exact ⟨hit, p⟩) fun h' eb => ⟨rfl, I.turned (t' := s.toks) (fun b o hb q => eb b o hb q) f0 f1 f3 f4 f5⟩
  self := fun A i s Q E st h => let ⟨⟨_, he⟩, _⟩ := st; wpAny_pyIter_enum he h
section
variable {X : Cx}
/-- enumerate(e), e a list or a tuple -/
theorem pi_enumB {e : Expr} {ta : TA} {p pos tpos : Pos} {elts : List Expr} {kk : Nat} (hg : Gl X "enumerate") (hm : X.mg "enumerate" = none) (ha : PA X [e] ta) (hs : starEach [e] X.env = [(false, eval e X.env)]) :
    PI X (.Tuple elts kk tpos) (.Call (.Name "enumerate" p) [e] [] pos) (fun σ H R => ta σ H fun vs H1 => ∃ x, vs = [x] ∧ ((∃ a, x = .ref a ∧ (∃ xs, SqL X.K H1 a xs) ∧ R (Ite X.K a) H1) ∨ (∃ a, x = .ref a ∧ (∃ xs, SqT X.K H1 a xs) ∧ R (IteT X.K a) H1))) := by
  refine ⟨fun pins s σ H R I h => ?_⟩
  refine Call_ (ld_blt I hg hm boot_enumerate (PyProof.Rows.callWith_type1 (thn (ha.run pos pins s σ H _ I h) fun us s1 ⟨vs, H1, I1, r1, q1⟩ => ?_) hs rfl))
  obtain ⟨x, ex, q1⟩ := q1
  subst ex
  cases r1 with
  | cons r rr =>
    cases rr
    rcases q1 with ⟨a, e, ⟨xs, hq⟩, q⟩ | ⟨a, e, ⟨xs, hq⟩, q⟩
    · subst e
      cases r
      obtain ⟨its, rv, p', hz⟩ := I1.list hq
      refine call_enumerate_list p'.isList fun h' he hit hsz hk => wpAny_pyIter_enum he ?_
      have I2 : Inv X pins σ H1 { s1 with heap := h' } := I1.kept (t' := s1.toks) hk
      refine ⟨s1.heap.objs.size + 1, [s1.heap.objs.size + 1, s1.heap.objs.size], _, _, H1, rfl, I2, turn_enum a (s1.heap.objs.size + 1) s1.heap.objs.size, ⟨⟨.none, he⟩, hit, Nat.succ_ne_self _⟩, fun b hb => ?_, q⟩
      have e' : b = s1.heap.objs.size + 1 ∨ b = s1.heap.objs.size := by simpa using hb
      have hle : s1.heap.objs.size ≤ b := by
        rcases e' with z | z
        · rw [z]; exact Nat.le_succ _
        · rw [z]; exact Nat.le_refl _
      exact I1.fpOk hle (I1.hok.fresh hle)
    · subst e
      cases r
      obtain ⟨its, rv, p', hz⟩ := I1.tuple hq
      have hlt : a < s1.heap.objs.size := p'.lt
      refine call_enumerate_tuple (show s1.heap.IsTuple a its.toArray from p') fun h' he hit hsz hk => wpAny_pyIter_enum he ?_
      have I2 : Inv X pins σ H1 { s1 with heap := h' } := I1.kept (t' := s1.toks) hk
      refine ⟨s1.heap.objs.size + 1, [s1.heap.objs.size + 1, s1.heap.objs.size], _, _, H1, rfl, I2, turn_enumT a (s1.heap.objs.size + 1) s1.heap.objs.size, ⟨⟨.none, he⟩, hit, Nat.succ_ne_self _, Nat.ne_of_lt hlt, Nat.ne_of_lt (Nat.lt_succ_of_lt hlt)⟩, fun b hb => ?_, q⟩
      have e' : b = s1.heap.objs.size + 1 ∨ b = s1.heap.objs.size := by simpa using hb
      have hle : s1.heap.objs.size ≤ b := by
        rcases e' with z | z
        · rw [z]; exact Nat.le_succ _
        · rw [z]; exact Nat.le_refl _
      exact I1.fpOk hle (I1.hok.fresh hle)
theorem pi_seq {e tg : Expr} {te : TE} (he : PE X e te) : PI X tg e (fun σ H R => te σ H fun x H1 => (∃ a, x = .ref a ∧ (∃ xs, SqL X.K H1 a xs) ∧ R (Itl X.K a) H1) ∨ (∃ a, x = .ref a ∧ (∃ xs, SqT X.K H1 a xs) ∧ R (Itt X.K a) H1)) := by
  refine ⟨fun pins s σ H R I h => ?_⟩
  refine thn (he.run pins s σ H _ I h) fun v s1 ⟨x, H1, I1, r1, q1⟩ => ?_
  rcases q1 with ⟨a, e, ⟨xs, hq⟩, q⟩ | ⟨a, e, ⟨xs, hq⟩, q⟩
  · subst e
    cases r1
    obtain ⟨its, rv, p, hz⟩ := I1.list hq
    refine wpAny_pyIter_list p.isList ?_
    refine ⟨s1.heap.objs.size, [s1.heap.objs.size], _, _, H1, rfl, I1.kept (t' := s1.toks) fun b o e => Heap.get?_push_of_some _ e, turn_list a _, ⟨_, Heap.get?_push_size _ rfl, rfl, rfl⟩, fun b hb => ?_, q⟩
    have e : b = s1.heap.objs.size := by simpa using hb
    subst e
    exact I1.fpOk (Nat.le_refl _) (I1.hok.fresh (Nat.le_refl _))
  · subst e
    cases r1
    obtain ⟨its, rv, p, hz⟩ := I1.tuple hq
    refine wpAny_pyIter_tuple (show s1.heap.IsTuple a its.toArray from p) ?_
    refine ⟨s1.heap.objs.size, [s1.heap.objs.size], _, _, H1, rfl, I1.kept (t' := s1.toks) fun b o e => Heap.get?_push_of_some _ e, turn_tuple a _, ⟨_, Heap.get?_push_size _ rfl, rfl, rfl⟩, fun b hb => ?_, q⟩
    have e : b = s1.heap.objs.size := by simpa using hb
    subst e
    exact I1.fpOk (Nat.le_refl _) (I1.hok.fresh (Nat.le_refl _))
end
end PyE

set_option Elab.async false
set_option linter.all false
set_option autoImplicit false
set_option maxRecDepth 100000
set_option maxHeartbeats 4000000
/-! # The text and the small language: a checker, and that what it takes is run as the evaluator says -/
namespace PyE
open PySem PySem.Spec PyProof.Rows L2

/-! ### equality of data, decided -/
mutual
def sameD : D → D → Bool
  | .none, .none => true
  | .bool a, .bool b => a == b
  | .int a, .int b => a == b
  | .str a, .str b => a == b
  | .list xs, .list ys => sameL xs ys
  | .tuple xs, .tuple ys => sameL xs ys
  | _, _ => false
def sameL : List D → List D → Bool
  | [], [] => true
  | x :: xs, y :: ys => sameD x y && sameL xs ys
  | _, _ => false
end
mutual
theorem sameD_eq : ∀ (a b : D), sameD a b = true → a = b
  | .none, b, h => by cases b <;> first | rfl | (simp [sameD] at h)
  | .bool a, b, h => by cases b <;> simp [sameD] at h; subst h; rfl
  | .int a, b, h => by cases b <;> simp [sameD] at h; subst h; rfl
  | .str a, b, h => by cases b <;> simp [sameD] at h; subst h; rfl
  | .list xs, b, h => by
    cases b <;> simp [sameD] at h
    rw [sameL_eq xs _ h]
  | .tuple xs, b, h => by
    cases b <;> simp [sameD] at h
    rw [sameL_eq xs _ h]
  | .dict _, b, h => by cases b <;> simp [sameD] at h
theorem sameL_eq : ∀ (a b : List D), sameL a b = true → a = b
  | [], b, h => by cases b <;> simp [sameL] at h; rfl
  | x :: xs, b, h => by
    cases b with
    | nil => simp [sameL] at h
    | cons y ys =>
      simp only [sameL, Bool.and_eq_true] at h
      rw [sameD_eq x y h.1, sameL_eq xs ys h.2]
end

/-! ### the checker -/
structure Gam where
  N : List Str
  con : List (Str × D)
  mb : List Str
structure Sc where
  sc : Scope
  fn : Str → Bool
def visB (sc : Scope) (x : Str) : Bool := match sc.names.lookup x with
  | some .local => true
  | some .cell => true
  | some .free => true
  | _ => false
def locB (S : Sc) (x : Str) : Bool := match S.sc.names.lookup x with
  | some .local => true
  | some .cell => S.fn x
  | _ => false
def glB (sc : Scope) (x : Str) : Bool := match sc.names.lookup x with
  | some .globalImplicit => true
  | _ => false
def okName (x : Str) : Bool := !(x == ("__debug__" : Str)) && !(x == ("__classdict__" : Str)) && !(x == ("__name__" : Str))
def notStar : Expr → Bool
  | .Starred _ _ => false
  | _ => true
def notSet : Expr → Bool
  | .Set _ _ _ => false
  | _ => true
def notCall : Expr → Bool
  | .Call _ _ _ _ => false
  | _ => true
def notSlice : Expr → Bool
  | .Slice _ _ _ _ => false
  | _ => true
/-- isTrue takes the value's truth -/
def plainB : Expr → Bool
  | .UnaryOp .Not _ _ => false
  | .BoolOp _ _ _ => false
  | .IfExp _ _ _ _ => false
  | .Compare _ _ _ _ => false
  | _ => true
def noComp : Expr → Bool
  | .ListComp _ _ _ _ => false
  | .SetComp _ _ _ _ => false
  | .DictComp _ _ _ _ _ => false
  | _ => true
def constOk : D → Const → Bool
  | .none, .none => true
  | .bool a, .bool b => a == b
  | .int a, .int b => a == b
  | .str a, .str b => a == b
  | _, _ => false
def bfName : Bf → Str
  | .len => "len" | .sum => "sum" | .all => "all" | .any => "any" | .abs => "abs" | .min => "min" | .max => "max"
  | .tuple => "tuple" | .list => "list" | .int => "int" | .bool => "bool" | .sorted => "sorted" | .dvm => "divmod"
def mfName : Mf → Str
  | .gcd => "gcd" | .lcm => "lcm"
def mfId : Mf → String
  | .gcd => "math.gcd" | .lcm => "math.lcm"
def tyS : Ty → Str
  | .int => "int" | .bool => "bool" | .str => "str" | .tuple => "tuple" | .list => "list"
def chkNm (Γ : Gam) (S : Sc) : List Nat → List Expr → Bool
  | [], [] => true
  | i :: is, .Name x _ :: es => decide (Γ.N[i]? = some x) && locB S x && chkNm Γ S is es
  | _, _ => false
def chkTg (Γ : Gam) (S : Sc) : Tg → Expr → Bool
  | .one i, .Name x _ => decide (Γ.N[i]? = some x) && locB S x
  | .many is, .Tuple es _ _ => chkNm Γ S is es
  | _, _ => false
def chkTy (S : Sc) : List Ty → List Expr → Bool
  | [], [] => true
  | t :: ts, .Name x _ :: es => (x == tyS t) && glB S.sc x && chkTy S ts es
  | _, _ => false
def ownP (N : List Str) (own : List Nat) : List (Str × Nat) := own.map fun i => ((N[i]?).getD default, i)
/-- the scope that runs in a comprehension's block -/
def blkS (S : Sc) (scope : Scope) : Sc := ⟨relS scope S.sc, fun x => scope.names.lookup x == some .cell⟩

mutual
def chkE (Γ : Gam) (S : Sc) : IE → Expr → Bool
  | .k d, x => match x with
    | .Constant c _ _ => constOk d c
    | _ => false
  | .v i, x => match x with
    | .Name x _ => decide (Γ.N[i]? = some x) && visB S.sc x && okName x
    | _ => false
  | .g n d, x => match x with
    | .Name x _ => (n == x) && glB S.sc x && okName x && (match Γ.con.lookup x with
      | some d' => sameD d d'
      | none => false)
    | _ => false
  | .bin op a b, x => match x with
    | .BinOp y o z _ => decide (op = o) && chkE Γ S a y && chkE Γ S b z
    | _ => false
  | .neg a, x => match x with
    | .UnaryOp .USub y _ => chkE Γ S a y
    | _ => false
  | .cmp op a b, x => match x with
    | .Compare y [o] [z] _ => decide (op = o) && notSet z && chkE Γ S a y && chkE Γ S b z
    | _ => false
  | .cmp2 op op' a b c, x => match x with
    | .Compare y [o, o'] [z, w] _ => decide (op = o) && decide (op' = o') && notSet w && chkE Γ S a y && chkE Γ S b z && chkE Γ S c w
    | _ => false
  | .and a b, x => match x with
    | .BoolOp .And (y :: z :: r) pos => chkE Γ S a y && (match r with
      | [] => chkE Γ S b z
      | _ => chkE Γ S b (.BoolOp .And (z :: r) pos))
    | _ => false
  | .or a b, x => match x with
    | .BoolOp .Or (y :: z :: r) pos => chkE Γ S a y && (match r with
      | [] => chkE Γ S b z
      | _ => chkE Γ S b (.BoolOp .Or (z :: r) pos))
    | _ => false
  | .nt a, x => match x with
    | .UnaryOp .Not y _ => chkE Γ S a y
    | _ => false
  | .ife t a b, x => match x with
    | .IfExp y z w _ => chkE Γ S t y && chkE Γ S a z && chkE Γ S b w
    | _ => false
  | .tup es, x => match x with
    | .Tuple ys _ _ => chkEs Γ S es ys
    | _ => false
  | .lst es, x => match x with
    | .List ys _ => chkEs Γ S es ys
    | _ => false
  | .ix a b, x => match x with
    | .Subscript y z _ => notSlice z && chkE Γ S a y && chkE Γ S b z
    | _ => false
  | .sl a lo hi, x => match x with
    | .Subscript y (.Slice l h none _) _ => chkE Γ S a y && chkO Γ S lo l && chkO Γ S hi h
    | _ => false
  | .call f es, x => match x with
    | .Call (.Name g _) ys [] _ => (f == g) && glB S.sc g && okName g && chkEs Γ S es ys
    | _ => false
  | .callb f i es, x => match x with
    | .Call (.Name g _) (.Name y _ :: ys) [] _ => (f == g) && glB S.sc g && okName g && decide (Γ.N[i]? = some y) && visB S.sc y && okName y && chkEs Γ S es ys
    | _ => false
  | .bf f es, x => match x with
    | .Call (.Name g _) (y :: ys) [] _ => (bfName f == g) && glB S.sc g && chkEs Γ S es (y :: ys)
    | _ => false
  | .isi a ts tupled, x => match x with
    | .Call (.Name g _) [y, z] [] _ => (g == ("isinstance" : Str)) && glB S.sc g && chkE Γ S a y && (match tupled, ts, z with
      | false, [t], .Name n _ => (n == tyS t) && glB S.sc n
      | true, ts, .Tuple ns _ _ => chkTy S ts ns && decide (ts.length ≤ 1000)
      | _, _, _ => false) && notStar y
    | _ => false
  | .cnt a e, x => match x with
    | .Call (.Attribute y m ap) [z] [] cp => (m == ("count" : Str)) && ap.endLine == cp.line && notStar z && notCall y && chkE Γ S a y && chkE Γ S e z
    | _ => false
  | .sset a, x => match x with
    | .Call (.Name g _) [.Call (.Name h _) [y] [] _] [] _ => (g == ("sorted" : Str)) && glB S.sc g && (h == ("set" : Str)) && glB S.sc h && notStar y && chkE Γ S a y
    | _ => false
  | .lnset a, x => match x with
    | .Call (.Name g _) [.Call (.Name h _) [y] [] _] [] _ => (g == ("len" : Str)) && glB S.sc g && (h == ("set" : Str)) && glB S.sc h && notStar y && chkE Γ S a y
    | _ => false
  | .mth f a b, x => match x with
    | .Call (.Name g _) [y, z] [] _ => (g == mfName f) && glB S.sc g && Γ.mb.contains g && notStar y && notStar z && chkE Γ S a y && chkE Γ S b z
    | _ => false
  | .lc e tg it c own, x => match x with
    | .ListComp y [⟨tgx, itx, ifs, 0⟩] scope _ => blkC Γ.N S.sc scope (ownP Γ.N own) && notSet itx && chkI Γ S it tgx itx && chkTg Γ (blkS S scope) tg tgx && (tgS tg).all (fun i => own.contains i) && chkC Γ (blkS S scope) c ifs && chkE Γ (blkS S scope) e y
    | _ => false
  | .lc2 e tg it c tg2 it2 c2 own own2, x => match x with
    | .ListComp y [⟨tgx, itx, ifs, 0⟩, ⟨tgx2, itx2, ifs2, 0⟩] scope _ => blkC Γ.N S.sc scope (ownP Γ.N own) && notSet itx && notSet itx2 && chkI Γ S it tgx itx && chkTg Γ (blkS S scope) tg tgx && (tgS tg).all (fun i => own.contains i) && chkC Γ (blkS S scope) c ifs &&
        own2.all (fun i => own.contains i) && chkI Γ (blkS S scope) it2 tgx2 itx2 && chkTg Γ (blkS S scope) tg2 tgx2 && (tgS tg2).all (fun i => own2.contains i) && chkC Γ (blkS S scope) c2 ifs2 && chkE Γ (blkS S scope) e y
    | _ => false
def chkEs (Γ : Gam) (S : Sc) : IEs → List Expr → Bool
  | .nil, xs => match xs with
    | [] => true
    | _ => false
  | .cons e es, xs => match xs with
    | x :: ys => notStar x && chkE Γ S e x && chkEs Γ S es ys
    | _ => false
def chkO (Γ : Gam) (S : Sc) : IO → Option Expr → Bool
  | .none, x => match x with
    | none => true
    | _ => false
  | .some e, x => match x with
    | some y => chkE Γ S e y
    | _ => false
def chkC (Γ : Gam) (S : Sc) : IO → List Expr → Bool
  | .none, xs => match xs with
    | [] => true
    | _ => false
  | .some e, xs => match xs with
    | [y] => chkE Γ S e y
    | _ => false
def chkI (Γ : Gam) (S : Sc) : II → Expr → Expr → Bool
  | .seq e, _, x => chkE Γ S e x
  | .r1 a, _, x => match x with
    | .Call (.Name g _) [y] [] _ => (g == ("range" : Str)) && glB S.sc g && notStar y && chkE Γ S a y
    | _ => false
  | .r2 a b, _, x => match x with
    | .Call (.Name g _) [y, z] [] _ => (g == ("range" : Str)) && glB S.sc g && notStar y && notStar z && chkE Γ S a y && chkE Γ S b z
    | _ => false
  | .r3 a b c, _, x => match x with
    | .Call (.Name g _) [y, z, w] [] _ => (g == ("range" : Str)) && glB S.sc g && notStar y && notStar z && notStar w && chkE Γ S a y && chkE Γ S b z && chkE Γ S c w
    | _ => false
  | .enum e, tg, x => match tg, x with
    | .Tuple _ _ _, .Call (.Name g _) [y] [] _ => (g == ("enumerate" : Str)) && glB S.sc g && notStar y && chkE Γ S e y
    | _, _ => false
end

/-! ### small facts of the text -/
theorem star_of {e : Expr} {es : List Expr} {env : Env} (h : notStar e = true) : starEach (e :: es) env = (false, eval e env) :: starEach es env := by
  cases e <;> first | rfl | (exact absurd h (by simp [notStar]))
theorem noStars {Γ : Gam} {S : Sc} : ∀ {es : IEs} {xs : List Expr}, chkEs Γ S es xs = true → ∀ (pos : Pos) (env : Env), (backTo pos (starEach xs env)).any (·.1) = false
  | .nil, [], _, _, _ => rfl
  | .nil, _ :: _, h, _, _ => by simp [chkEs] at h
  | .cons e es, [], h, _, _ => by simp [chkEs] at h
  | .cons e es, x :: xs, h, pos, env => by
    simp only [chkEs, Bool.and_eq_true] at h
    rw [star_of h.1.1]
    have ih := noStars h.2 pos env
    simpa [backTo] using ih
theorem base_of {e : Expr} {f : Str} {env : Env} (h : notCall e = true) : attributeBase e f env (eval e env) = eval e env := by
  cases e <;> first | rfl | (exact absurd h (by simp [notCall]))
theorem plainIx_of {b : Expr} (h : notSlice b = true) : PlainIx b := by
  intro o i
  cases b <;> first | rfl | (exact absurd h (by simp [notSlice]))
theorem marks_of {b : Expr} (op : CmpOp) (h : notSet b = true) : behindInMarks op b = false := by
  cases b <;> first | rfl | (exact absurd h (by simp [notSet]))
theorem folded_of {e : Expr} {env : Env} (h : notSet e = true) (x : Value) : foldedSetIterable e env x = pure x := by
  cases e <;> first | rfl | (exact absurd h (by simp [notSet]))
theorem plain_of {e : Expr} {env : Env} (h : plainB e = true) (whole : Sem Value) : isTrue e env whole = (do let v ← whole; standAt e.pos; holding [v] (truthy v)) := by
  cases e with
  | UnaryOp op x p => cases op <;> first | rfl | (exact absurd h (by simp [plainB]))
  | BoolOp _ _ _ => exact absurd h (by simp [plainB])
  | IfExp _ _ _ _ => exact absurd h (by simp [plainB])
  | Compare _ _ _ _ => exact absurd h (by simp [plainB])
  | _ => rfl
theorem swaps_of {e : Expr} {t : Option Expr} {l : Nat} {env : Env} (h : noComp e = true) : swapsWith e t l env = pure false := by
  cases e <;> first | rfl | (exact absurd h (by simp [noComp]))
theorem okName_of {x : Str} (h : okName x = true) : (x == ("__debug__" : Str)) = false ∧ (x == ("__classdict__" : Str)) = false ∧ x ≠ ("__name__" : Str) := by
  unfold okName at h
  simp only [Bool.and_eq_true, Bool.not_eq_true'] at h
  exact ⟨h.1.1, h.1.2, by simpa using h.2⟩
theorem visB_of {sc : Scope} {x : Str} (h : visB sc x = true) : Vis sc x := by
  unfold visB at h
  split at h
  · rename_i e; exact .inl e
  · rename_i e; exact .inr (.inl e)
  · rename_i e; exact .inr (.inr e)
  · cases h
theorem ownP_snd {N : List Str} (own : List Nat) : (ownP N own).map (·.2) = own := by
  unfold ownP
  rw [List.map_map]
  exact List.map_id _
end PyE

set_option Elab.async false
set_option linter.all false
set_option autoImplicit false
set_option maxRecDepth 100000
set_option maxHeartbeats 4000000
/-! # What the checker takes is run as the evaluator says: expressions -/
namespace PyE
open PySem PySem.Spec PyProof.Rows L2

/-- what a def promises the others -/
def spF (K : Frag) (mg : Str → Option Value) (fs : FnSem) : Sp := fun vs H Q E => vs.length = fs.arity ∧
  ((fs.bor = false ∧ ∃ F ds, Ex F H ∧ DpAll K F vs ds ∧ match fs.run ds with
    | .ret d _ => ∀ v F' H', Go (fun _ => False) F H F' H' → Ex F' H' → Dp K F' v d → Q v H'
    | .exc c x _ => ∀ dd F' H', Go (fun _ => False) F H F' H' → Ex F' H' → XAt K F' H' dd x → ∀ C, mg c = some (.ref C) → E (.ref C) (some dd) H'
    | .stuck => False) ∨
   (fs.bor = true ∧ ∃ F a vr ws bs ds, vs = .ref a :: vr ∧ Ex F H ∧ H a = some (.lst ws) ∧ F a = none ∧ DpAll K F ws bs ∧ DpAll K F vr ds ∧ match fs.run (.list bs :: ds) with
    | .ret d b' => ∀ v F' H' ws', Go (fun x => x = a) F H F' H' → Ex F' H' → H' a = some (.lst ws') → F' a = none → DpAll K F' ws' b' → Dp K F' v d → Q v H'
    | .exc c x b' => ∀ dd F' H' ws', Go (fun x => x = a) F H F' H' → Ex F' H' → H' a = some (.lst ws') → F' a = none → DpAll K F' ws' b' → XAt K F' H' dd x → ∀ C, mg c = some (.ref C) → E (.ref C) (some dd) H'
    | .stuck => False))
def blts : List Str := ["len", "sum", "all", "any", "abs", "min", "max", "tuple", "list", "int", "bool", "str", "isinstance", "range", "enumerate", "zip", "sorted", "set", "dict", "reversed", "divmod"]
structure Cok (Φ : Fns) (Γ : Gam) (S : Sc) (m : Nat) (W : WX) (X : Cx) : Prop where
  hN : X.N = Γ.N
  nd : Γ.N.Nodup
  hsc : X.env.scope = S.sc
  hfn : X.fn = S.fn
  calm : X.calm = true
  room : Room m X.A
  tk : Takes X W
  con : ∀ x d, Γ.con.lookup x = some d → ∃ u v, X.mg x = some u ∧ RelV v u ∧ Dp X.K (fun _ => none) v d
  fn : ∀ f fs, Φ f = some fs → ∃ fa fd ps, X.mg f = some (.ref fa) ∧ PySem.W.keepIn X.K (.ref fa) = true ∧ Binds X.K fd ps [] ∧ FnOk X.prog X.w X.K X.mg X.base (L2.CX X.prog X.w) m fa fd ps (spF X.K X.mg fs)
  blt : ∀ x ∈ blts, X.mg x = none
  mb : ∀ f : Mf, Γ.mb.contains (mfName f) = true → X.mg (mfName f) = some (.builtin (mfId f))
abbrev W0 : WX := fun _ _ _ _ => False
section
variable {ba : Addr} {Φ : Fns} {Γ : Gam} {S : Sc} {m : Nat} {W : WX} {X : Cx}
theorem Cok.blk (C : Cok Φ Γ S m W X) (scope : Scope) (s : Shared) (H : Hp) (A : Addr) (cl : List (Str × Addr)) (fp : List Addr) : Cok Φ Γ (blkS S scope) m W0 (X.blk s H scope (compEnvC scope cl A X.env) fp) :=
  ⟨C.hN, C.nd, by show relS scope X.env.scope = _; rw [C.hsc]; rfl, rfl, C.calm, C.room, takes0, C.con, C.fn, C.blt, C.mb⟩
theorem Cok.ix (C : Cok Φ Γ S m W X) {i : Nat} {x : Str} (h : Γ.N[i]? = some x) : X.N[i]? = some x := by rw [C.hN]; exact h
theorem Cok.vis (C : Cok Φ Γ S m W X) {x : Str} (h : visB S.sc x = true) : Vis X.env.scope x := by rw [C.hsc]; exact visB_of h
theorem Cok.gl (C : Cok Φ Γ S m W X) {x : Str} (h : glB S.sc x = true) : Gl X x := by
  show X.env.scope.names.lookup x = _
  rw [C.hsc]
  unfold glB at h
  split at h
  · assumption
  · cases h
theorem Cok.loc (C : Cok Φ Γ S m W X) {x : Str} (h : locB S x = true) : L2.Loc X.env.scope x ∧ (X.fn x = true ∨ X.env.scope.names.lookup x = some .local) := by
  unfold locB at h
  unfold L2.Loc
  rw [C.hsc, C.hfn]
  split at h
  · rename_i e; exact ⟨.inl e, .inr e⟩
  · rename_i e; exact ⟨.inr e, .inl h⟩
  · cases h
theorem Cok.hu (C : Cok Φ Γ S m W X) : X.A.units + 64 < cLine := C.room.units
theorem pe_imp {e : Expr} {t t' : TE} (h : PE X e t) (hi : ∀ σ H Q, t' σ H Q → t σ H Q) : PE X e t' := ⟨fun pins s σ H Q I q => h.run pins s σ H Q I (hi σ H Q q)⟩
theorem pt_imp {e : Expr} {t t' : TT} (h : PT X e t) (hi : ∀ σ H Q, t' σ H Q → t σ H Q) : PT X e t' := ⟨fun pins s σ H Q I q => h.run pins s σ H Q I (hi σ H Q q)⟩
theorem pw_imp {e : Expr} {t t' : TT} (h : PW X e t) (hi : ∀ σ H Q, t' σ H Q → t σ H Q) : PW X e t' := ⟨fun wh pins s σ H Q I q => h.run wh pins s σ H Q I (hi σ H Q q)⟩
theorem pa_imp {e : List Expr} {t t' : TA} (h : PA X e t) (hi : ∀ σ H Q, t' σ H Q → t σ H Q) : PA X e t' := ⟨fun pos pins s σ H Q I q => h.run pos pins s σ H Q I (hi σ H Q q)⟩
theorem pi_imp {tg e : Expr} {t t' : TI} (h : PI X tg e t) (hi : ∀ σ H Q, t' σ H Q → t σ H Q) : PI X tg e t' := ⟨fun pins s σ H Q I q => h.run pins s σ H Q I (hi σ H Q q)⟩
theorem po_imp {e : Option Expr} {t t' : TO} (h : PO X e t) (hi : ∀ σ H Q, t' σ H Q → t σ H Q) : PO X e t' := ⟨fun pins s σ H Q I q => h.run pins s σ H Q I (hi σ H Q q)⟩
theorem pts_imp {e : List Expr} {t t' : TT} (h : PTs X e t) (hi : ∀ σ H Q, t' σ H Q → t σ H Q) : PTs X e t' := ⟨fun pins s σ H Q I q => h.run pins s σ H Q I (hi σ H Q q)⟩
end
section
variable {ba : Addr} {K : Frag} {mg : Str → Option Value} {W : WX} {σ : L2.St} {F H : Hp} {env : SEnv}
theorem one {γ δ : Type} {Rel : Hp → Hp → SEnv → γ → δ → Prop} {A : SEnv → Rs Vw} {k : Vw → SEnv → Rs γ} {Q : δ → Hp → Prop} (s : Sim ba K F H σ env) (h : Post ba K mg W σ Rel F H env ((A env).bind k) Q) :
    tE ba K mg W A σ H (fun v1 H1 => ∃ x env1 F1, Go (O σ env) F H F1 H1 ∧ Own σ env env1 ∧ Sim ba K F1 H1 σ env1 ∧ RE K σ H F1 H1 env1 x v1 ∧ Post ba K mg W σ Rel F1 H1 env1 (k x env1) Q) :=
  ⟨F, env, s, Post.bind (Rel1 := RE K σ H) h⟩
theorem two {γ δ : Type} {Rel : Hp → Hp → SEnv → γ → δ → Prop} {A B : SEnv → Rs Vw} {k : Vw → Vw → SEnv → Rs γ} {Q : δ → Hp → Prop} (s : Sim ba K F H σ env)
    (h : Post ba K mg W σ Rel F H env ((A env).bind fun x e1 => (B e1).bind fun y e2 => k x y e2) Q) :
    tE ba K mg W A σ H (fun v1 H1 => tE ba K mg W B σ H1 (fun v2 H2 => ∃ x y env2 F2, Go (O σ env) F H F2 H2 ∧ Own σ env env2 ∧ Sim ba K F2 H2 σ env2 ∧ RE K σ H F2 H2 env2 x v1 ∧ RE K σ H F2 H2 env2 y v2 ∧ Post ba K mg W σ Rel F2 H2 env2 (k x y env2) Q)) := by
  refine ⟨F, env, s, (Post.bind (Rel1 := RE K σ H) h).imp ?_⟩
  rintro v1 H1 ⟨x, env1, F1, g1, o1, s1, r1, h1⟩
  refine ⟨F1, env1, s1, (Post.bind (Rel1 := RE K σ H1) h1).imp ?_⟩
  rintro v2 H2 ⟨y, env2, F2, g2, o2, s2, r2, h2⟩
  exact ⟨x, y, env2, F2, g1.trans g2 (fun a z => .inl (o1 a z)), fun a z => o1 a (o2 a z), s2, RE.go s1 s2 g2 o2 r1, RE.early g1 r2, h2⟩
/-- an operation that ends an evaluation -/
theorem post_rn {w : Vw} {H0 : Hp} {Q : VK} (s : Sim ba K F H σ env) (h : Post ba K mg W σ (RE K σ H0) F H env (.ok w env) Q) (h0 : ∀ a, H a = none → H0 a = none) : RN K F H w Q := fun v F' H' g sub r =>
  let ⟨g', s'⟩ := fin s g sub
  h v F' H' g' (fun _ z => z) s' (VwN.vw s g r h0)
theorem post_now {w : Vw} {v : V} {H0 : Hp} {Q : VK} (s : Sim ba K F H σ env) (h : Post ba K mg W σ (RE K σ H0) F H env (.ok w env) Q) (r : RE K σ H0 F H env w v) : Q v H := h v F H (Go.refl _ _ _) (fun _ z => z) s r
theorem post_it {α : Type} {a : α} {Q : α → Hp → Prop} {H0 : Hp} (s : Sim ba K F H σ env) (h : Post ba K mg W σ (RI σ H0) F H env (.ok a env) Q) : Q a H := h a F H (Go.refl _ _ _) (fun _ z => z) s rfl
theorem noK {d : D} {v : V} (h : Dp K (fun _ => none) v d) : Dp K F v d := dp_ex (fun _ _ (z : (none : Option HO) = some _) => by cases z) _ _ h
end
section
variable {ba : Addr} {Φ : Fns} {Γ : Gam} {S : Sc} {m : Nat} {W : WX} {X : Cx}
abbrev TE' (ba : Addr) (X : Cx) (W : WX) (ev : SEnv → Rs Vw) : TE := tE ba X.K X.mg W ev

/-! ### names and constants -/
theorem p_now {v : V} {d : D} {x : Expr} (h : PE X x (tC v)) (r : ∀ F, Dp X.K F v d) : PE X x (TE' ba X W fun env => .ok (.now d) env) := by
  refine pe_imp h fun σ H Q q => ?_
  obtain ⟨F, env, s, q⟩ := q
  exact post_now (H0 := H) s q (r F)
theorem p_k {d : D} {x : Expr} (hc : chkE Γ S (.k d) x = true) : PE X x (TE' ba X W (evE Φ (.k d))) := by
  show PE X x (TE' ba X W fun env => .ok (.now d) env)
  unfold chkE at hc
  split at hc
  · rename_i c j pos
    unfold constOk at hc
    split at hc
    · exact p_now pe_non fun F => .non
    · have := eq_of_beq hc; subst this; exact p_now pe_bl fun F => .bl _
    · have := eq_of_beq hc; subst this; exact p_now pe_int fun F => .int _
    · have := eq_of_beq hc; subst this; exact p_now pe_str fun F => .str _
    · cases hc
  · cases hc
theorem p_v (C : Cok Φ Γ S m W X) {i : Nat} {x : Expr} (hc : chkE Γ S (.v i) x = true) : PE X x (TE' ba X W (evE Φ (.v i))) := by
  unfold chkE at hc
  split at hc
  · rename_i n pos
    simp only [Bool.and_eq_true, decide_eq_true_eq] at hc
    obtain ⟨o1, o2, o3⟩ := okName_of hc.2
    refine pe_imp (pe_var (C.ix hc.1.1) (C.vis hc.1.2) o1 o2) fun σ H Q ⟨F, env, s, q⟩ => ?_
    unfold evE at q
    cases e : env[i]? with
    | none => rw [e] at q; exact q.elim
    | some sl =>
      rw [e] at q
      have hl := (List.getElem?_eq_some_iff.mp e).1
      cases sl with
      | no => exact q.elim
      | sh d =>
        obtain ⟨v, h1, h2⟩ := s.sh i d e
        exact ⟨v, h1, post_now (H0 := H) s q h2⟩
      | own ds =>
        obtain ⟨a, vs, h1, _⟩ := s.own i ds (.inl e)
        exact ⟨_, h1, post_now (H0 := H) (w := .late i) s q ⟨h1, hl⟩⟩
      | bor ds =>
        obtain ⟨a, vs, h1, _⟩ := s.own i ds (.inr e)
        exact ⟨_, h1, post_now (H0 := H) (w := .late i) s q ⟨h1, hl⟩⟩
  · cases hc
theorem p_g (C : Cok Φ Γ S m W X) {n : Str} {d : D} {x : Expr} (hc : chkE Γ S (.g n d) x = true) : PE X x (TE' ba X W (evE Φ (.g n d))) := by
  unfold chkE at hc
  split at hc
  · rename_i y pos
    simp only [Bool.and_eq_true] at hc
    obtain ⟨⟨⟨h1, h2⟩, h3⟩, h4⟩ := hc
    obtain ⟨o1, o2, o3⟩ := okName_of h3
    split at h4
    · rename_i d' e
      have := sameD_eq _ _ h4
      subst this
      obtain ⟨u, v, q1, q2, q3⟩ := C.con _ _ e
      exact p_now (pe_glob (C.gl h2) q1 q2 o1) fun F => noK q3
    · cases h4
  · cases hc

/-! ### operators -/
theorem p_bin (C : Cok Φ Γ S m W X) {op : Operator} {a b : IE} {xa xb : Expr} {pos : Pos} (ha : PE X xa (TE' ba X W (evE Φ a))) (hb : PE X xb (TE' ba X W (evE Φ b))) : PE X (.BinOp xa op xb pos) (TE' ba X W (evE Φ (.bin op a b))) := by
  refine pe_imp (pe_op (opBin op) ha hb) fun σ H Q ⟨F, env, s, q⟩ => ?_
  obtain ⟨F1, env1, s1, q1⟩ := two s q
  refine ⟨F1, env1, s1, q1.imp fun v1 H1 ⟨F2, env2, s2, q2⟩ => ⟨F2, env2, s2, q2.imp ?_⟩⟩
  rintro v2 H2 ⟨x, y, env2, F2, g, o, s2, r1, r2, p⟩
  cases e1 : look env2 x with
  | none => rw [e1] at p; exact p.elim
  | some d =>
    cases e2 : look env2 y with
    | none => rw [e1, e2] at p; exact p.elim
    | some d' =>
      rw [e1, e2] at p
      have p : Post ba X.K X.mg W σ (RE X.K σ H) F2 H2 env2 (Rs.opt (binD op d d') env2) Q := p
      cases e3 : binD op d d' with
      | none => rw [e3] at p; exact p.elim
      | some w =>
        rw [e3] at p
        exact ⟨F2, d, d', w, s2.sub, look_vr s2 r1 e1, look_vr s2 r2 e2, e3, post_rn s2 p fun a z => g.fresh z⟩
theorem p_neg (C : Cok Φ Γ S m W X) {a : IE} {xa : Expr} {pos : Pos} (ha : PE X xa (TE' ba X W (evE Φ a))) : PE X (.UnaryOp .USub xa pos) (TE' ba X W (evE Φ (.neg a))) := by
  refine pe_imp (pe_un unNeg ha) fun σ H Q ⟨F, env, s, q⟩ => ?_
  obtain ⟨F1, env1, s1, q1⟩ := one s q
  refine ⟨F1, env1, s1, q1.imp ?_⟩
  rintro v1 H1 ⟨x, env2, F2, g, o, s2, r1, p⟩
  cases e1 : look env2 x with
  | none => rw [e1] at p; exact p.elim
  | some d =>
    rw [e1] at p
    cases d with
    | int i => exact ⟨F2, i, look_vr s2 r1 e1, post_now s2 p (.int _)⟩
    | _ => exact p.elim
theorem cmp_end {op : CmpOp} {σ : L2.St} {H0 F H : Hp} {env : SEnv} {x y : Vw} {v1 v2 : V} {Q : VK} (s : Sim ba X.K F H σ env) (r1 : RE X.K σ H0 F H env x v1) (r2 : RE X.K σ H0 F H env y v2)
    (p : Post ba X.K X.mg W σ (RE X.K σ H0) F H env (match look env x, look env y with
      | some d, some d' => .opt ((cmpD op d d').map fun b => .now (.bool b)) env
      | _, _ => .stuck) Q) : rCmp X.K op v1 v2 H Q := by
  cases e1 : look env x with
  | none => rw [e1] at p; exact p.elim
  | some d =>
    cases e2 : look env y with
    | none => rw [e1, e2] at p; exact p.elim
    | some d' =>
      rw [e1, e2] at p
      have p : Post ba X.K X.mg W σ (RE X.K σ H0) F H env (Rs.opt ((cmpD op d d').map fun b => .now (.bool b)) env) Q := p
      cases e3 : cmpD op d d' with
      | none => rw [e3] at p; exact p.elim
      | some b =>
        rw [e3] at p
        exact ⟨F, d, d', b, s.sub, look_vr s r1 e1, look_vr s r2 e2, e3, post_now s p (.bl _)⟩
theorem cmp_two {op : CmpOp} {a b : IE} {σ : L2.St} {H : Hp} {Q : VK} (q : TE' ba X W (evE Φ (.cmp op a b)) σ H Q) : tOp (rCmp X.K op) (TE' ba X W (evE Φ a)) (TE' ba X W (evE Φ b)) σ H Q := by
  obtain ⟨F, env, s, q⟩ := q
  obtain ⟨F1, env1, s1, q1⟩ := two s q
  refine ⟨F1, env1, s1, q1.imp fun v1 H1 ⟨F2, env2, s2, q2⟩ => ⟨F2, env2, s2, q2.imp ?_⟩⟩
  rintro v2 H2 ⟨x, y, env2, F2, g, o, s2, r1, r2, p⟩
  exact cmp_end s2 r1 r2 p
theorem p_cmp (C : Cok Φ Γ S m W X) {op : CmpOp} {a b : IE} {xa xb : Expr} {pos : Pos} (hs : notSet xb = true) (ha : PE X xa (TE' ba X W (evE Φ a))) (hb : PE X xb (TE' ba X W (evE Φ b))) : PE X (.Compare xa [op] [xb] pos) (TE' ba X W (evE Φ (.cmp op a b))) :=
  pe_imp (pe_cmpR (opCmp C.hu op) ha hb (marks_of op hs)) fun σ H Q q => cmp_two q
theorem evT_of {e : IE} {σ : L2.St} {H : Hp} {Q : Bool → Hp → Prop} (q : tB' ba X.K X.mg W (evT Φ e) σ H Q) : TE' ba X W (evE Φ e) σ H (fun v H' => ∃ k, TruV X.K v H' k ∧ Q k H') := by
  obtain ⟨F, env, s, q⟩ := q
  obtain ⟨F1, env1, s1, q1⟩ := one s q
  refine ⟨F1, env1, s1, q1.imp ?_⟩
  rintro v1 H1 ⟨x, env2, F2, g, o, s2, r1, p⟩
  cases e1 : look env2 x with
  | none =>
    have : truR env2 x = none := by unfold truR; rw [e1]; rfl
    rw [this] at p
    exact p.elim
  | some d =>
    cases e2 : truD d with
    | none =>
      have : truR env2 x = none := by unfold truR; rw [e1]; exact e2
      rw [this] at p
      exact p.elim
    | some b =>
      have : truR env2 x = some b := by unfold truR; rw [e1]; exact e2
      rw [this] at p
      exact ⟨b, tru_of s2.sub (look_vr s2 r1 e1) e2, post_it s2 p⟩
/-- a test whose text isTrue takes by the value -/
theorem t_plain {e : IE} {x : Expr} (hp : plainB x = true) (h : PE X x (TE' ba X W (evE Φ e))) : PT X x (tB' ba X.K X.mg W (evT Φ e)) :=
  pt_imp (pt_truth h (plain_of hp)) fun σ H Q q => evT_of q
theorem t_cmp (C : Cok Φ Γ S m W X) {op : CmpOp} {a b : IE} {xa xb : Expr} {pos : Pos} (hs : notSet xb = true) (ha : PE X xa (TE' ba X W (evE Φ a))) (hb : PE X xb (TE' ba X W (evE Φ b))) : PT X (.Compare xa [op] [xb] pos) (tB' ba X.K X.mg W (evT Φ (.cmp op a b))) := by
  refine pt_imp (pt_cmpR (opCmp C.hu op) ha hb (marks_of op hs)) fun σ H Q q => ?_
  obtain ⟨F, env, s, q⟩ := evT_of q
  obtain ⟨F1, env1, s1, q1⟩ := two s q
  refine ⟨F1, env1, s1, q1.imp fun v1 H1 ⟨F2, env2, s2, q2⟩ => ⟨F2, env2, s2, q2.imp ?_⟩⟩
  rintro v2 H2 ⟨x, y, env2, F2, g, o, s2, r1, r2, p⟩
  obtain ⟨F3, d, d', b, h1, h2, h3, h4, k, h5, h6⟩ := cmp_end s2 r1 r2 p
  have h5 : k = b := h5
  subst h5
  exact ⟨F3, d, d', k, h1, h2, h3, h4, k, rfl, h6⟩
theorem last_of {op op' : CmpOp} {b c : Expr} (h : notSet c = true) : lastMarks [op, op'] [b, c] = false := by
  show behindInMarks op' c = false
  exact marks_of op' h
theorem cmp2_two {o o' : CmpOp} {a b c : IE} {σ : L2.St} {H : Hp} {Q Q' : VK} (hQ : ∀ k H, Q (.bl k) H → Q' (.bl k) H) (q : TE' ba X W (evE Φ (.cmp2 o o' a b c)) σ H Q) : tChain (rCmp X.K o) (rCmp X.K o') (TE' ba X W (evE Φ a)) (TE' ba X W (evE Φ b)) (TE' ba X W (evE Φ c)) σ H Q' := by
  obtain ⟨F, env, s, q⟩ := q
  obtain ⟨F1, env1, s1, q1⟩ := two s q
  refine ⟨F1, env1, s1, q1.imp fun v1 H1 ⟨F2, env2, s2, q2⟩ => ⟨F2, env2, s2, q2.imp ?_⟩⟩
  rintro v2 H2 ⟨x, y, env2, F2, g, ow, s2, r1, r2, p⟩
  cases e1 : look env2 x with
  | none => rw [e1] at p; exact p.elim
  | some d =>
    cases e2 : look env2 y with
    | none => rw [e1, e2] at p; exact p.elim
    | some d' =>
      rw [e1, e2] at p
      cases e3 : cmpD o d d' with
      | none =>
        simp only [e3] at p
        exact p.elim
      | some b' =>
        refine ⟨F2, d, d', b', s2.sub, look_vr s2 r1 e1, look_vr s2 r2 e2, e3, b', rfl, ?_⟩
        cases b' with
        | false =>
          simp only [e3] at p
          exact hQ _ _ (post_now (w := .now (.bool false)) s2 p (.bl _))
        | true =>
          simp only [e3] at p
          show TE' ba X W (evE Φ c) σ H2 _
          obtain ⟨F3, env3, s3, q3⟩ := one s2 p
          refine ⟨F3, env3, s3, q3.imp ?_⟩
          rintro v3 H3 ⟨z, env4, F4, g4, o4, s4, r4, p4⟩
          obtain ⟨F5, d5, d6, b5, h1, h2, h3, h4, h5⟩ := cmp_end s4 (RE.go s2 s4 g4 o4 r2) (RE.early g r4) p4
          exact ⟨F5, d5, d6, b5, h1, h2, h3, h4, hQ _ _ h5⟩
theorem p_cmp2 (C : Cok Φ Γ S m W X) {o o' : CmpOp} {a b c : IE} {xa xb xc : Expr} {pos : Pos} (hs : notSet xc = true) (ha : PE X xa (TE' ba X W (evE Φ a))) (hb : PE X xb (TE' ba X W (evE Φ b))) (hc : PE X xc (TE' ba X W (evE Φ c))) : PE X (.Compare xa [o, o'] [xb, xc] pos) (TE' ba X W (evE Φ (.cmp2 o o' a b c))) :=
  pe_imp (pe_chain (opCmp C.hu o) (opCmp C.hu o') ha hb hc (last_of hs)) fun σ H Q q => cmp2_two (fun _ _ z => z) q
theorem t_cmp2 (C : Cok Φ Γ S m W X) {o o' : CmpOp} {a b c : IE} {xa xb xc : Expr} {pos : Pos} (hs : notSet xc = true) (ha : PE X xa (TE' ba X W (evE Φ a))) (hb : PE X xb (TE' ba X W (evE Φ b))) (hc : PE X xc (TE' ba X W (evE Φ c))) : PT X (.Compare xa [o, o'] [xb, xc] pos) (tB' ba X.K X.mg W (evT Φ (.cmp2 o o' a b c))) := by
  refine pt_imp (pt_chain (opCmp C.hu o) (opCmp C.hu o') ha hb hc (last_of hs)) fun σ H Q q => ?_
  exact cmp2_two (fun k H' ⟨k', h5, h6⟩ => ⟨k, rfl, by have h5 : k' = k := h5; rw [← h5]; exact h6⟩) (evT_of q)

/-! ### and, or, not, a if t else b -/
theorem tru_case {σ : L2.St} {H0 F H : Hp} {env : SEnv} {x : Vw} {v : V} (s : Sim ba X.K F H σ env) (r : RE X.K σ H0 F H env x v) {b : Bool} (e : truR env x = some b) : TruV X.K v H b := by
  unfold truR at e
  cases e1 : look env x with
  | none => rw [e1] at e; cases e
  | some d => rw [e1] at e; exact tru_of s.sub (look_vr s r e1) e
theorem bind_ok {α β : Type} {a : α} {e : SEnv} {f : α → SEnv → Rs β} : (Rs.ok a e).bind f = f a e := rfl
/-- one of two, by a bool -/
@[reducible] def sel {α : Type} (x y : α) : Bool → α
  | true => x
  | false => y
theorem if_T {b : Bool} {A B : Prop} (e : b = true) (h : A) : if b = true then A else B := by rw [if_pos e]; exact h
theorem if_F {b : Bool} {A B : Prop} (e : b = false) (h : B) : if b = true then A else B := by rw [if_neg (by rw [e]; exact Bool.false_ne_true)]; exact h
theorem p_and {a b : IE} {xa xb : Expr} {xr : List Expr} {pos : Pos} (ha : PE X xa (TE' ba X W (evE Φ a))) (hb : PE X (.BoolOp .And (xb :: xr) pos) (TE' ba X W (evE Φ b))) : PE X (.BoolOp .And (xa :: xb :: xr) pos) (TE' ba X W (evE Φ (.and a b))) := by
  refine pe_imp (pe_andT ha hb) fun σ H Q q => ?_
  obtain ⟨F, env, s, q⟩ := q
  obtain ⟨F1, env1, s1, q1⟩ := one s q
  refine ⟨F1, env1, s1, q1.imp ?_⟩
  rintro v1 H1 ⟨x, env2, F2, g, o, s2, r1, p⟩
  cases e : truR env2 x with
  | none => rw [e] at p; exact p.elim
  | some c =>
    refine ⟨c, tru_case s2 r1 e, ?_⟩
    rw [e] at p
    cases c with
    | true => exact if_T rfl ⟨F2, env2, s2, p.rel fun _ _ _ _ _ z => RE.early g z⟩
    | false => exact if_F rfl (post_now s2 p r1)
theorem p_or {a b : IE} {xa xb : Expr} {xr : List Expr} {pos : Pos} (ha : PE X xa (TE' ba X W (evE Φ a))) (hb : PE X (.BoolOp .Or (xb :: xr) pos) (TE' ba X W (evE Φ b))) : PE X (.BoolOp .Or (xa :: xb :: xr) pos) (TE' ba X W (evE Φ (.or a b))) := by
  refine pe_imp (pe_orT ha hb) fun σ H Q q => ?_
  obtain ⟨F, env, s, q⟩ := q
  obtain ⟨F1, env1, s1, q1⟩ := one s q
  refine ⟨F1, env1, s1, q1.imp ?_⟩
  rintro v1 H1 ⟨x, env2, F2, g, o, s2, r1, p⟩
  cases e : truR env2 x with
  | none => rw [e] at p; exact p.elim
  | some c =>
    refine ⟨c, tru_case s2 r1 e, ?_⟩
    rw [e] at p
    cases c with
    | true => exact if_T rfl (post_now s2 p r1)
    | false => exact if_F rfl ⟨F2, env2, s2, p.rel fun _ _ _ _ _ z => RE.early g z⟩
theorem p_nt {a : IE} {xa : Expr} {pos : Pos} (ha : PE X xa (TE' ba X W (evE Φ a))) : PE X (.UnaryOp .Not xa pos) (TE' ba X W (evE Φ (.nt a))) := by
  refine pe_imp (pe_notT ha) fun σ H Q q => ?_
  obtain ⟨F, env, s, q⟩ := q
  obtain ⟨F1, env1, s1, q1⟩ := one s q
  refine ⟨F1, env1, s1, q1.imp ?_⟩
  rintro v1 H1 ⟨x, env2, F2, g, o, s2, r1, p⟩
  cases e : truR env2 x with
  | none => rw [e] at p; exact p.elim
  | some c =>
    rw [e] at p
    exact ⟨c, tru_case s2 r1 e, post_now s2 p (.bl _)⟩
/-- a test, then what hangs on it -/
theorem test_then {t : IE} {γ δ : Type} {Rel : Hp → Hp → SEnv → γ → δ → Prop} {k : Bool → SEnv → Rs γ} {σ : L2.St} {F H : Hp} {env : SEnv} {Q : δ → Hp → Prop} (s : Sim ba X.K F H σ env)
    (h : Post ba X.K X.mg W σ Rel F H env ((evE Φ t env).bind fun x e1 => match truR e1 x with
      | some true => k true e1
      | some false => k false e1
      | none => .stuck) Q) :
    tB' ba X.K X.mg W (evT Φ t) σ H (fun b H1 => ∃ env1 F1, Go (O σ env) F H F1 H1 ∧ Own σ env env1 ∧ Sim ba X.K F1 H1 σ env1 ∧ Post ba X.K X.mg W σ Rel F1 H1 env1 (k b env1) Q) := by
  have h' : Post ba X.K X.mg W σ Rel F H env ((evT Φ t env).bind k) Q := by
    have e : (evT Φ t env).bind k = ((evE Φ t env).bind fun x e1 => match truR e1 x with
      | some true => k true e1
      | some false => k false e1
      | none => .stuck) := by
      unfold evT
      cases evE Φ t env with
      | ok a e1 =>
        rw [bind_ok, bind_ok]
        cases truR e1 a with
        | none => rfl
        | some b => cases b <;> rfl
      | exc c x e1 => rfl
      | stuck => rfl
    rw [e]
    exact h
  refine ⟨F, env, s, (Post.bind (Rel1 := RI σ H) h').imp ?_⟩
  rintro b H1 ⟨a, env1, F1, g, o, s1, rfl, p⟩
  exact ⟨env1, F1, g, o, s1, p⟩
theorem p_ife {t a b : IE} {xt xa xb : Expr} {pos : Pos} (ht : PT X xt (tB' ba X.K X.mg W (evT Φ t))) (ha : PE X xa (TE' ba X W (evE Φ a))) (hb : PE X xb (TE' ba X W (evE Φ b))) : PE X (.IfExp xt xa xb pos) (TE' ba X W (evE Φ (.ife t a b))) := by
  refine pe_imp (pe_ifExp ht ha hb) fun σ H Q q => ?_
  obtain ⟨F, env, s, q⟩ := q
  have q : Post ba X.K X.mg W σ (RE X.K σ H) F H env ((evE Φ t env).bind fun x e1 => match truR e1 x with
      | some true => (fun (b' : Bool) e1 => sel (evE Φ a e1) (evE Φ b e1) b') true e1
      | some false => (fun (b' : Bool) e1 => sel (evE Φ a e1) (evE Φ b e1) b') false e1
      | none => .stuck) Q := q
  obtain ⟨F1, env1, s1, q1⟩ := test_then (k := fun (b' : Bool) e1 => sel (evE Φ a e1) (evE Φ b e1) b') s q
  refine ⟨F1, env1, s1, q1.imp ?_⟩
  rintro c H1 ⟨env2, F2, g, o, s2, p⟩
  cases c with
  | true => exact if_T rfl ⟨F2, env2, s2, p.rel fun _ _ _ _ _ z => RE.early g z⟩
  | false => exact if_F rfl ⟨F2, env2, s2, p.rel fun _ _ _ _ _ z => RE.early g z⟩
theorem t_ife {t a b : IE} {xt xa xb : Expr} {pos : Pos} (ht : PT X xt (tB' ba X.K X.mg W (evT Φ t))) (ha : PT X xa (tB' ba X.K X.mg W (evT Φ a))) (hb : PT X xb (tB' ba X.K X.mg W (evT Φ b))) : PT X (.IfExp xt xa xb pos) (tB' ba X.K X.mg W (evT Φ (.ife t a b))) := by
  refine ⟨fun pins s σ H Q I h => ?_⟩
  obtain ⟨F, env, sm, q⟩ := h
  have e : evT Φ (.ife t a b) env = ((evE Φ t env).bind fun x e1 => match truR e1 x with
      | some true => (fun (b' : Bool) e1 => sel (evT Φ a e1) (evT Φ b e1) b') true e1
      | some false => (fun (b' : Bool) e1 => sel (evT Φ a e1) (evT Φ b e1) b') false e1
      | none => .stuck) := by
    show ((evE Φ t env).bind _).bind _ = _
    cases evE Φ t env with
    | ok x e1 =>
      rw [bind_ok, bind_ok]
      cases truR e1 x with
      | none => rfl
      | some b' => cases b' <;> rfl
    | exc c x e1 => rfl
    | stuck => rfl
  rw [e] at q
  show wpAny _ _ (do if ← isTrue xt X.env (eval xt X.env) then isTrue xa X.env (eval xa X.env) else isTrue xb X.env (eval xb X.env)) _ _ _
  refine wpAny_bind (thn (ht.run pins s σ H _ I (test_then (k := fun (b' : Bool) e1 => sel (evT Φ a e1) (evT Φ b e1) b') sm q)) fun c s1 ⟨H1, I1, env2, F2, g, o, s2, p⟩ => ?_)
  cases c with
  | true => exact ha.run pins s1 σ H1 Q I1 ⟨F2, env2, s2, p⟩
  | false => exact hb.run pins s1 σ H1 Q I1 ⟨F2, env2, s2, p⟩
theorem evT_and {a b : IE} {env : SEnv} : evT Φ (.and a b) env = ((evE Φ a env).bind fun x e1 => match truR e1 x with
      | some true => (fun (b' : Bool) e1 => sel (evT Φ b e1) (.ok false e1) b') true e1
      | some false => (fun (b' : Bool) e1 => sel (evT Φ b e1) (.ok false e1) b') false e1
      | none => .stuck) := by
  show ((evE Φ a env).bind _).bind _ = _
  cases evE Φ a env with
  | ok x e1 =>
    rw [bind_ok, bind_ok]
    cases h : truR e1 x with
    | none => rfl
    | some b' =>
      cases b' with
      | true => rfl
      | false =>
        show Rs.opt (truR e1 x) e1 = _
        rw [h]
  | exc c x e1 => rfl
  | stuck => rfl
theorem evT_or {a b : IE} {env : SEnv} : evT Φ (.or a b) env = ((evE Φ a env).bind fun x e1 => match truR e1 x with
      | some true => (fun (b' : Bool) e1 => sel (.ok true e1) (evT Φ b e1) b') true e1
      | some false => (fun (b' : Bool) e1 => sel (.ok true e1) (evT Φ b e1) b') false e1
      | none => .stuck) := by
  show ((evE Φ a env).bind _).bind _ = _
  cases evE Φ a env with
  | ok x e1 =>
    rw [bind_ok, bind_ok]
    cases h : truR e1 x with
    | none => rfl
    | some b' =>
      cases b' with
      | false => rfl
      | true =>
        show Rs.opt (truR e1 x) e1 = _
        rw [h]
  | exc c x e1 => rfl
  | stuck => rfl
theorem evT_nt {a : IE} {env : SEnv} : evT Φ (.nt a) env = (evT Φ a env).bind fun b e1 => .ok (!b) e1 := by
  show ((evE Φ a env).bind _).bind _ = ((evE Φ a env).bind _).bind _
  cases evE Φ a env with
  | ok x e1 =>
    rw [bind_ok, bind_ok]
    cases truR e1 x with
    | none => rfl
    | some b' => rfl
  | exc c x e1 => rfl
  | stuck => rfl
theorem t_and {a b : IE} {xa xb : Expr} {xr : List Expr} {pos : Pos} (ha : PT X xa (tB' ba X.K X.mg W (evT Φ a))) (hb : PW X (.BoolOp .And (xb :: xr) pos) (tB' ba X.K X.mg W (evT Φ b))) : PW X (.BoolOp .And (xa :: xb :: xr) pos) (tB' ba X.K X.mg W (evT Φ (.and a b))) := by
  refine pw_imp (pw_and ha hb) fun σ H Q q => ?_
  obtain ⟨F, env, s, q⟩ := q
  rw [evT_and] at q
  obtain ⟨F1, env1, s1, q1⟩ := test_then (k := fun (b' : Bool) e1 => sel (evT Φ b e1) (.ok false e1) b') s q
  refine ⟨F1, env1, s1, q1.imp ?_⟩
  rintro c H1 ⟨env2, F2, g, o, s2, p⟩
  cases c with
  | true => exact if_T rfl ⟨F2, env2, s2, p⟩
  | false => exact if_F rfl (post_it (H0 := H) s2 p)
theorem t_or {a b : IE} {xa xb : Expr} {xr : List Expr} {pos : Pos} (ha : PT X xa (tB' ba X.K X.mg W (evT Φ a))) (hb : PW X (.BoolOp .Or (xb :: xr) pos) (tB' ba X.K X.mg W (evT Φ b))) : PW X (.BoolOp .Or (xa :: xb :: xr) pos) (tB' ba X.K X.mg W (evT Φ (.or a b))) := by
  refine pw_imp (pw_or ha hb) fun σ H Q q => ?_
  obtain ⟨F, env, s, q⟩ := q
  rw [evT_or] at q
  obtain ⟨F1, env1, s1, q1⟩ := test_then (k := fun (b' : Bool) e1 => sel (.ok true e1) (evT Φ b e1) b') s q
  refine ⟨F1, env1, s1, q1.imp ?_⟩
  rintro c H1 ⟨env2, F2, g, o, s2, p⟩
  cases c with
  | true => exact if_T rfl (post_it (H0 := H) s2 p)
  | false => exact if_F rfl ⟨F2, env2, s2, p⟩
theorem t_nt {a : IE} {xa : Expr} {pos : Pos} (ha : PT X xa (tB' ba X.K X.mg W (evT Φ a))) : PT X (.UnaryOp .Not xa pos) (tB' ba X.K X.mg W (evT Φ (.nt a))) := by
  refine pt_imp (pt_not ha) fun σ H Q q => ?_
  obtain ⟨F, env, s, q⟩ := q
  rw [evT_nt] at q
  refine ⟨F, env, s, (Post.bind (Rel1 := RI σ H) q).imp ?_⟩
  rintro b H1 ⟨a', env1, F1, g, o, s1, rfl, p⟩
  exact post_it (H0 := H) s1 p

/-! ### displays, subscripts, slices -/
theorem keep_end {σ : L2.St} {H0 F H : Hp} {env env' : SEnv} {ws : List Vw} {vs : List V} {ds : List D} (s : Sim ba X.K F H σ env) (r : REs X.K σ H0 F H env ws vs) (e : keepN env ws = some (ds, env')) :
    ∃ F', Go (fun a => O σ env a ∨ H0 a = none) F H F' H ∧ Own σ env env' ∧ Sim ba X.K F' H σ env' ∧ DpAll X.K F' vs ds := keepN_ok s r e fun a => ⟨fun z => .inr z, fun z => .inl z⟩
/-- an evaluation's end behind a step that froze lists just made -/
theorem Post.froze {α β : Type} {Rel : Hp → Hp → SEnv → α → β → Prop} {σ : L2.St} {F0 H0 F H F' : Hp} {env0 env env' : SEnv} {a : α} {Q : β → Hp → Prop} {K : Frag} {mg : Str → Option Value}
    (h : Post ba K mg W σ Rel F0 H0 env0 (.ok a env') Q) (g : Go (O σ env0) F0 H0 F H) (o : Own σ env0 env) (g' : Go (fun a => O σ env a ∨ H0 a = none) F H F' H) (o' : Own σ env env') :
    ∀ b F2 H2, Go (O σ env') F' H F2 H2 → Sim ba K F2 H2 σ env' → Rel F2 H2 env' a b → Q b H2 := fun b F2 H2 g2 s2 r =>
  h b F2 H2 ((g.trans g' fun x z => z.elim (fun z => .inl (o x z)) .inr).trans g2 fun x z => .inl (o x (o' x z))) (fun x z => o x (o' x z)) s2 r
end
end PyE

set_option Elab.async false
set_option linter.all false
set_option autoImplicit false
set_option maxRecDepth 100000
set_option maxHeartbeats 4000000
/-! # What the checker takes is run as the evaluator says: displays, calls, what is walked, comprehensions -/
namespace PyE
open PySem PySem.Spec PyProof.Rows L2
section
variable {ba : Addr} {Φ : Fns} {Γ : Gam} {S : Sc} {m : Nat} {W : WX} {X : Cx}
theorem a_nil : PA X [] (tEs ba X.K X.mg W (evEs Φ .nil)) := pa_imp pa_nil fun σ H Q q => by
  obtain ⟨F, env, s, q⟩ := q
  exact q [] F H (Go.refl _ _ _) (fun _ z => z) s trivial
theorem a_cons {e : IE} {es : IEs} {x : Expr} {xs : List Expr} (hs : notStar x = true) (he : PE X x (TE' ba X W (evE Φ e))) (hes : PA X xs (tEs ba X.K X.mg W (evEs Φ es))) : PA X (x :: xs) (tEs ba X.K X.mg W (evEs Φ (.cons e es))) := by
  refine pa_imp (pa_cons he hes (star_of hs)) fun σ H Q q => ?_
  obtain ⟨F, env, s, q⟩ := q
  obtain ⟨F1, env1, s1, q1⟩ := one s q
  refine ⟨F1, env1, s1, q1.imp ?_⟩
  rintro v H1 ⟨w, env2, F2, g, o, s2, r, p⟩
  refine ⟨F2, env2, s2, (Post.bind (Rel1 := REs X.K σ H1) p).imp ?_⟩
  rintro vs H2 ⟨ws, env3, F3, g3, o3, s3, r3, p3⟩
  refine p3 (v :: vs) F3 H2 (Go.refl _ _ _) (fun _ z => z) s3 ⟨RE.go s2 s3 g3 o3 r, fun a t z => ?_, REs.early g r3⟩
  refine REs.fresh ?_ r3
  cases w with
  | tmp ds =>
    obtain ⟨b, _, e, h1, _⟩ := r
    rw [z] at e
    cases e
    rw [h1]
    simp
  | now d => cases t
  | late i => cases t
/-- arguments, kept -/
theorem keep_all {es : IEs} {γ δ : Type} {Rel : Hp → Hp → SEnv → γ → δ → Prop} {k : List D → SEnv → Rs γ} {σ : L2.St} {F H : Hp} {env : SEnv} {Q : δ → Hp → Prop} (s : Sim ba X.K F H σ env)
    (h : Post ba X.K X.mg W σ Rel F H env ((evEs Φ es env).bind fun ws e1 => match keepN e1 ws with
      | some (ds, e2) => k ds e2
      | none => .stuck) Q) :
    tEs ba X.K X.mg W (evEs Φ es) σ H (fun vs H1 => ∃ ds env1 F1, Go (O σ env) F H F1 H1 ∧ Own σ env env1 ∧ Sim ba X.K F1 H1 σ env1 ∧ DpAll X.K F1 vs ds ∧ Post ba X.K X.mg W σ Rel F1 H1 env1 (k ds env1) Q) := by
  refine ⟨F, env, s, ?_⟩
  cases e0 : evEs Φ es env with
  | ok ws env1 =>
    rw [e0, bind_ok] at h
    intro vs F1 H1 g o s1 r
    cases e : keepN env1 ws with
    | none => rw [e] at h; exact h.elim
    | some q =>
      obtain ⟨ds, env2⟩ := q
      rw [e] at h
      have h : Post ba X.K X.mg W σ Rel F H env (k ds env2) Q := h
      obtain ⟨F2, g2, o2, s2, al⟩ := keep_end s1 r e
      have gg : Go (O σ env) F H F2 H1 := g.trans g2 fun x z => z.elim (fun z => .inl (o x z)) .inr
      exact ⟨ds, env2, F2, gg, fun x z => o x (o2 x z), s2, al, h.go gg fun x z => o x (o2 x z)⟩
  | exc c x env1 => rw [e0] at h; exact h
  | stuck => rw [e0] at h; exact h
/-- one value, kept -/
theorem keep_one {e : IE} {γ δ : Type} {Rel : Hp → Hp → SEnv → γ → δ → Prop} {k : D → SEnv → Rs γ} {σ : L2.St} {F H : Hp} {env : SEnv} {Q : δ → Hp → Prop} (s : Sim ba X.K F H σ env)
    (h : Post ba X.K X.mg W σ Rel F H env ((evE Φ e env).bind fun w e1 => match keepF e1 w with
      | some (d, e2) => k d e2
      | none => .stuck) Q) :
    TE' ba X W (evE Φ e) σ H (fun v H1 => ∃ d env1 F1, Go (O σ env) F H F1 H1 ∧ Own σ env env1 ∧ Sim ba X.K F1 H1 σ env1 ∧ Dp X.K F1 v d ∧ Post ba X.K X.mg W σ Rel F1 H1 env1 (k d env1) Q) := by
  refine ⟨F, env, s, ?_⟩
  cases e0 : evE Φ e env with
  | ok w env1 =>
    rw [e0, bind_ok] at h
    intro v F1 H1 g o s1 r
    cases e : keepF env1 w with
    | none => rw [e] at h; exact h.elim
    | some q =>
      obtain ⟨d, env2⟩ := q
      rw [e] at h
      have h : Post ba X.K X.mg W σ Rel F H env (k d env2) Q := h
      obtain ⟨F2, g2, o2, s2, al, _⟩ := keepF_ok (M := fun a => O σ env1 a ∨ H a = none) s1 r e fun a => ⟨fun z => .inr z, fun z => .inl z⟩
      have gg : Go (O σ env) F H F2 H1 := g.trans g2 fun x z => z.elim (fun z => .inl (o x z)) .inr
      exact ⟨d, env2, F2, gg, fun x z => o x (o2 x z), s2, al, h.go gg fun x z => o x (o2 x z)⟩
  | exc c x env1 => rw [e0] at h; exact h
  | stuck => rw [e0] at h; exact h
theorem p_tup {es : IEs} {xs : List Expr} {j : Nat} {pos : Pos} (h : PA X xs (tEs ba X.K X.mg W (evEs Φ es))) : PE X (.Tuple xs j pos) (TE' ba X W (evE Φ (.tup es))) := by
  refine pe_imp (pe_tup h) fun σ H Q q => ?_
  obtain ⟨F, env, s, q⟩ := q
  obtain ⟨F1, env1, s1, q1⟩ := keep_all (k := fun ds e2 => (if szOk ds.length then Rs.ok (Vw.now (.tuple ds)) e2 else .stuck : Rs Vw)) s q
  refine ⟨F1, env1, s1, q1.imp ?_⟩
  rintro vs H1 ⟨ds, env2, F2, g, o, s2, al, p⟩
  have hl := dpa_len al
  cases hz : szOk ds.length with
  | false => simp only [hz] at p; exact p.elim
  | true =>
    simp only [hz] at p
    exact ⟨by rw [hl]; exact szOk_le hz, fun a ha => (post_rn s2 p fun x z => g.fresh z).tup s2.sub al ha⟩
theorem p_lst {es : IEs} {xs : List Expr} {pos : Pos} (h : PA X xs (tEs ba X.K X.mg W (evEs Φ es))) : PE X (.List xs pos) (TE' ba X W (evE Φ (.lst es))) := by
  refine pe_imp (pe_lst h) fun σ H Q q => ?_
  obtain ⟨F, env, s, q⟩ := q
  obtain ⟨F1, env1, s1, q1⟩ := keep_all (k := fun ds e2 => (if szOk ds.length then Rs.ok (Vw.tmp ds) e2 else .stuck : Rs Vw)) s q
  refine ⟨F1, env1, s1, q1.imp ?_⟩
  rintro vs H1 ⟨ds, env2, F2, g, o, s2, al, p⟩
  have hl := dpa_len al
  cases hz : szOk ds.length with
  | false => simp only [hz] at p; exact p.elim
  | true =>
    simp only [hz] at p
    exact ⟨by rw [hl]; exact szOk_le hz, fun a ha => (post_rn s2 p fun x z => g.fresh z).lst s2.sub al ha⟩
theorem p_ix {a b : IE} {xa xb : Expr} {pos : Pos} (hs : notSlice xb = true) (ha : PE X xa (TE' ba X W (evE Φ a))) (hb : PE X xb (TE' ba X W (evE Φ b))) : PE X (.Subscript xa xb pos) (TE' ba X W (evE Φ (.ix a b))) := by
  refine pe_imp (pe_ix ixAll ha hb (plainIx_of hs)) fun σ H Q q => ?_
  obtain ⟨F, env, s, q⟩ := q
  obtain ⟨F1, env1, s1, q1⟩ := two s q
  refine ⟨F1, env1, s1, q1.imp fun v1 H1 ⟨F2, env2, s2, q2⟩ => ⟨F2, env2, s2, q2.imp ?_⟩⟩
  rintro v2 H2 ⟨x, y, env2, F2, g, o, s2, r1, r2, p⟩
  cases e1 : look env2 x with
  | none => rw [e1] at p; exact p.elim
  | some d =>
    cases e2 : look env2 y with
    | none => rw [e1, e2] at p; exact p.elim
    | some d' =>
      rw [e1, e2] at p
      have p : Post ba X.K X.mg W σ (RE X.K σ H) F2 H2 env2 (Rs.opt ((ixD d d').map .now) env2) Q := p
      cases e3 : ixD d d' with
      | none => rw [e3] at p; exact p.elim
      | some w =>
        rw [e3] at p
        exact ⟨F2, d, d', w, s2.sub, look_vr s2 r1 e1, look_vr s2 r2 e2, e3, fun v r => post_now (w := .now w) s2 p r⟩
theorem o_none : PO X none (tO ba X.K X.mg W (evO Φ .none)) := po_imp po_none fun σ H Q q => by
  obtain ⟨F, env, s, q⟩ := q
  exact post_it (H0 := H) s q
theorem o_some {e : IE} {x : Expr} (he : PE X x (TE' ba X W (evE Φ e))) : PO X (some x) (tO ba X.K X.mg W (evO Φ (.some e))) := by
  refine po_imp (po_some he) fun σ H Q q => ?_
  obtain ⟨F, env, s, q⟩ := q
  obtain ⟨F1, env1, s1, q1⟩ := one s q
  refine ⟨F1, env1, s1, q1.imp ?_⟩
  rintro v H1 ⟨w, env2, F2, g, o, s2, r, p⟩
  cases e1 : look env2 w with
  | none => rw [e1] at p; exact p.elim
  | some d =>
    rw [e1] at p
    cases d with
    | int i => exact ⟨i, (look_vr s2 r e1).int, post_it (H0 := H) s2 p⟩
    | _ => exact p.elim
theorem p_sl {a : IE} {lo hi : IO} {xa : Expr} {xl xh : Option Expr} {p2 pos : Pos} (ha : PE X xa (TE' ba X W (evE Φ a))) (hl : PO X xl (tO ba X.K X.mg W (evO Φ lo))) (hh : PO X xh (tO ba X.K X.mg W (evO Φ hi))) : PE X (.Subscript xa (.Slice xl xh none p2) pos) (TE' ba X W (evE Φ (.sl a lo hi))) := by
  refine pe_imp (pe_slice slAll ha hl hh) fun σ H Q q => ?_
  obtain ⟨F, env, s, q⟩ := q
  obtain ⟨F1, env1, s1, q1⟩ := one s q
  refine ⟨F1, env1, s1, q1.imp ?_⟩
  rintro v1 H1 ⟨x, env2, F2, g2, o2, s2, r1, p⟩
  refine ⟨F2, env2, s2, (Post.bind (Rel1 := RI σ H1) p).imp ?_⟩
  rintro l H2 ⟨l', env3, F3, g3, o3, s3, rfl, p⟩
  refine ⟨F3, env3, s3, (Post.bind (Rel1 := RI σ H2) p).imp ?_⟩
  rintro h H3 ⟨h', env4, F4, g4, o4, s4, rfl, p⟩
  have r1' := RE.go s3 s4 g4 o4 (RE.go s2 s3 g3 o3 r1)
  cases e1 : look env4 x with
  | none => rw [e1] at p; exact p.elim
  | some d =>
    rw [e1] at p
    have p : Post ba X.K X.mg W σ (RE X.K σ H) F4 H3 env4 (Rs.opt (slD d l' h') env4) Q := p
    cases e3 : slD d l' h' with
    | none => rw [e3] at p; exact p.elim
    | some w =>
      rw [e3] at p
      exact ⟨F4, d, w, s4.sub, look_vr s4 r1' e1, e3, post_rn s4 p fun a z => g2.fresh (g3.fresh (g4.fresh z))⟩

/-! ### calls -/
theorem pe_callS0 {k : Nat} {f : Addr} {fd : FuncData} {ps : List Str} {sp : Sp} {E : L2.St → XK} {CX : CXT} {x : Str} {p pos : Pos} (F : FnOk X.prog X.w X.K X.mg X.base CX k f fd ps sp) (hr : Room k X.A) (hg : Gl X x) (hm : X.mg x = some (.ref f)) (hk : PySem.W.keepIn X.K (.ref f) = true) (hb : Binds X.K fd ps []) (hx : ∀ σ, PassesAt CX X σ (E σ))
    (hdb : (x == ("__debug__" : Str)) = false) : PE X (.Call (.Name x p) [] [] pos) (tCallS sp E tNil) := by
  refine ⟨fun pins s σ H Q I h => ?_⟩
  refine wpAny_Call_Name_kw (ld_glob I hg hm ?_ hdb)
  exact PySem.W.callWith_K0 I.kIn hk (run_fnS (us := []) F hr hb (hx σ) I .nil h)
theorem pe_false {x : Expr} {t : TE} (h : ∀ σ H Q, ¬ t σ H Q) : PE X x t := ⟨fun _ _ σ H Q _ q => (h σ H Q q).elim⟩
/-- any call of a def of the text -/
theorem pe_callA {k : Nat} {f : Addr} {fd : FuncData} {ps : List Str} {sp : Sp} {E : L2.St → XK} {CX : CXT} {x : Str} {p pos : Pos} {xs : List Expr} {t : TA} (F : FnOk X.prog X.w X.K X.mg X.base CX k f fd ps sp) (hr : Room k X.A) (hg : Gl X x) (hm : X.mg x = some (.ref f)) (hk : PySem.W.keepIn X.K (.ref f) = true) (hb : Binds X.K fd ps []) (hx : ∀ σ, PassesAt CX X σ (E σ))
    (hdb : (x == ("__debug__" : Str)) = false) (ha : PA X xs t) (hs : ∀ e es, xs = e :: es → starEach (e :: es) X.env = (false, eval e X.env) :: starEach es X.env ∧ (backTo pos (starEach es X.env)).any (·.1) = false) (h0 : xs = [] → ∀ σ H Q, t σ H Q → Q [] H) :
    PE X (.Call (.Name x p) xs [] pos) (tCallS sp E t) := by
  cases xs with
  | nil => exact pe_imp (pe_callS0 F hr hg hm hk hb hx hdb) fun σ H Q q => h0 rfl σ H _ q
  | cons e es =>
    obtain ⟨h1, h2⟩ := hs e es rfl
    exact pe_callS F hr hg hm hk hb hx ha hdb h1 h2
theorem stars_of : ∀ {es : IEs} {xs : List Expr}, chkEs Γ S es xs = true → ∀ (pos : Pos) (env : Env) (e : Expr) (r : List Expr), xs = e :: r → starEach (e :: r) env = (false, eval e env) :: starEach r env ∧ (backTo pos (starEach r env)).any (·.1) = false
  | .nil, _, h, _, _, _, _, z => by subst z; simp [chkEs] at h
  | .cons ie es, _, h, pos, env, e, r, z => by
    subst z
    simp only [chkEs, Bool.and_eq_true] at h
    exact ⟨star_of h.1.1, noStars h.2 pos env⟩
theorem p_call (C : Cok Φ Γ S m W X) {f : Str} {es : IEs} {xs : List Expr} {p pos : Pos} (hc : chkEs Γ S es xs = true) (hg : glB S.sc f = true) (ho : okName f = true) (h : PA X xs (tEs ba X.K X.mg W (evEs Φ es))) :
    PE X (.Call (.Name f p) xs [] pos) (TE' ba X W (evE Φ (.call f es))) := by
  obtain ⟨o1, o2, o3⟩ := okName_of ho
  cases hΦ : Φ f with
  | none =>
    refine pe_false fun σ H Q q => ?_
    obtain ⟨F, env, s, q⟩ := q
    unfold evE at q
    rw [hΦ] at q
    exact q
  | some fs =>
    obtain ⟨fa, fd, ps, h1, h2, h3, h4⟩ := C.fn f fs hΦ
    refine pe_imp (pe_callA (E := WE W) h4 C.room (C.gl hg) h1 h2 h3 (fun σ => passAt C.tk σ) o1 h (fun e es' z => stars_of hc pos X.env e es' z) (fun z σ H Q q => ?_)) fun σ H Q q => ?_
    · subst z
      cases es with
      | cons _ _ => simp [chkEs] at hc
      | nil =>
        obtain ⟨F, env, s, q⟩ := q
        exact q [] F H (Go.refl _ _ _) (fun _ z => z) s trivial
    · obtain ⟨F, env, s, q⟩ := q
      have q : Post ba X.K X.mg W σ (RE X.K σ H) F H env ((evEs Φ es env).bind fun ws e1 => match keepN e1 ws with
        | some (ds, e2) => callK fs ds e2
        | none => .stuck) Q := by
        unfold evE at q
        rw [hΦ] at q
        exact q
      obtain ⟨F1, env1, s1, q1⟩ := keep_all (k := callK fs) s q
      refine ⟨F1, env1, s1, q1.imp ?_⟩
      rintro vs H1 ⟨ds, env2, F2, g, o, s2, al, p⟩
      unfold callK at p
      cases hb : (!fs.bor && ds.length == fs.arity) with
      | false => simp only [hb] at p; exact p.elim
      | true =>
        simp only [hb, if_true] at p
        rw [Bool.and_eq_true] at hb
        have hb1 : fs.bor = false := by simpa using hb.1
        have hb2 : ds.length = fs.arity := by simpa using hb.2
        refine ⟨(dpa_len al).trans hb2, .inl ⟨hb1, F2, ds, s2.sub, al, ?_⟩⟩
        cases hrun : fs.run ds with
        | stuck => rw [hrun] at p; exact p.elim
        | ret d b =>
          rw [hrun] at p
          intro v F' H' g' sub dp
          obtain ⟨g2, s3⟩ := fin s2 g' sub
          exact p v F' H' g2 (fun _ z => z) s3 dp
        | exc c x b =>
          rw [hrun] at p
          intro dd F' H' g' sub xa Ca hCa
          obtain ⟨g2, s3⟩ := fin s2 g' sub
          exact p dd F' H' g2 (fun _ z => z) s3 xa Ca hCa
theorem p_callb (C : Cok Φ Γ S m W X) {f : Str} {i : Nat} {es : IEs} {y : Str} {xs : List Expr} {p py pos : Pos} (hc : chkEs Γ S es xs = true) (hg : glB S.sc f = true) (ho : okName f = true) (hi : Γ.N[i]? = some y) (hv : visB S.sc y = true) (hy : okName y = true) (h : PA X xs (tEs ba X.K X.mg W (evEs Φ es))) :
    PE X (.Call (.Name f p) (.Name y py :: xs) [] pos) (TE' ba X W (evE Φ (.callb f i es))) := by
  obtain ⟨o1, o2, o3⟩ := okName_of ho
  obtain ⟨y1, y2, y3⟩ := okName_of hy
  cases hΦ : Φ f with
  | none =>
    refine pe_false fun σ H Q q => ?_
    obtain ⟨F, env, s, q⟩ := q
    unfold evE at q
    rw [hΦ] at q
    exact q
  | some fs =>
    obtain ⟨fa, fd, ps, h1, h2, h3, h4⟩ := C.fn f fs hΦ
    have hvar : PE X (.Name y py) (tVar i) := pe_var (C.ix hi) (C.vis hv) y1 y2
    refine pe_imp (pe_callA (E := WE W) h4 C.room (C.gl hg) h1 h2 h3 (fun σ => passAt C.tk σ) o1 (pa_cons hvar h rfl) (fun e es' z => by
      cases z
      exact ⟨rfl, noStars hc pos X.env⟩) (fun z => by cases z)) fun σ H Q q => ?_
    obtain ⟨F, env, s, q⟩ := q
    have q : Post ba X.K X.mg W σ (RE X.K σ H) F H env (match some fs, isMine env i with
      | some fs, true => (evEs Φ es env).bind fun ws e1 => match keepN e1 ws with
        | some (ds, e2) => callbK fs i ds e2
        | none => .stuck
      | _, _ => .stuck) Q := by
      unfold evE at q
      rw [hΦ] at q
      exact q
    cases hm : isMine env i with
    | false => rw [hm] at q; exact q.elim
    | true =>
      rw [hm] at q
      have q : Post ba X.K X.mg W σ (RE X.K σ H) F H env ((evEs Φ es env).bind fun ws e1 => match keepN e1 ws with
        | some (ds, e2) => callbK fs i ds e2
        | none => .stuck) Q := q
      have hM : ∃ bs, Mine env i bs := by
        unfold isMine at hm
        split at hm
        · rename_i bs e; exact ⟨bs, .inl e⟩
        · rename_i bs e; exact ⟨bs, .inr e⟩
        · cases hm
      obtain ⟨bs0, hM⟩ := hM
      obtain ⟨a, vs0, ha, _⟩ := s.own i bs0 hM
      refine ⟨.ref a, ha, ?_⟩
      obtain ⟨F1, env1, s1, q1⟩ := keep_all (k := callbK fs i) s q
      refine ⟨F1, env1, s1, q1.imp ?_⟩
      rintro vs H1 ⟨ds, env2, F2, g, o, s2, al, p⟩
      unfold callbK at p
      cases hb : (fs.bor && ds.length + 1 == fs.arity) with
      | false => simp only [hb] at p; exact p.elim
      | true =>
        simp only [hb, if_true] at p
        rw [Bool.and_eq_true] at hb
        have hb2 : ds.length + 1 = fs.arity := by simpa using hb.2
        have main : ∀ (bs : List D) (mk : List D → Sl), (∀ es fs', (mk es = .own fs' ∨ mk es = .bor fs') → fs' = es) → ((env2[i]? = some (.own bs) ∧ mk = Sl.own) ∨ (env2[i]? = some (.bor bs) ∧ mk = Sl.bor)) →
            Post ba X.K X.mg W σ (RE X.K σ H) F2 H1 env2 (match fs.run (.list bs :: ds) with
              | .ret d b => .ok (.now d) (env2.set i (mk b))
              | .exc c x b => .exc c x (env2.set i (mk b))
              | .stuck => .stuck) Q → spF X.K X.mg fs (.ref a :: vs) H1 Q (WE W σ) := by
          intro bs mk hmk hsl p
          have hM2 : Mine env2 i bs := hsl.elim (fun z => .inl z.1) fun z => .inr z.1
          obtain ⟨a', ws, e1, e2, e3, e4⟩ := s2.own i bs hM2
          rw [ha] at e1
          cases e1
          have hO : O σ env2 a := ⟨i, bs, hM2, ha⟩
          refine ⟨by rw [List.length_cons, dpa_len al]; exact hb2, .inr ⟨hb.1, F2, a, vs, ws, bs, ds, rfl, s2.sub, e2, e3, e4, al, ?_⟩⟩
          -- behind the call: the list at a holds ws'
          have back : ∀ {F' H' : Hp} {ws' : List V} {b' : List D}, Go (fun x => x = a) F2 H1 F' H' → Ex F' H' → H' a = some (.lst ws') → F' a = none → DpAll X.K F' ws' b' →
              Go (O σ env2) F2 H1 F' H' ∧ Own σ env2 (env2.set i (mk b')) ∧ Sim ba X.K F' H' σ (env2.set i (mk b')) := by
            intro F' H' ws' b' g' sub ha' fa' al'
            refine ⟨g'.mono fun x z => .inl (z ▸ hO), ?_, ?_⟩
            · rintro x ⟨j, es', mm, ej⟩
              rcases mine_set mm with ⟨rfl, _⟩ | ⟨_, mm⟩
              · exact ⟨j, bs, hM2, ej⟩
              · exact ⟨j, es', mm, ej⟩
            · have hil : i < env2.length := by rcases hM2 with e | e <;> exact (List.getElem?_eq_some_iff.mp e).1
              refine ⟨sub, by rw [List.length_set]; exact s2.len, fun j d e => ?_, fun j es' mm => ?_, fun j es' e => ?_, fun j k b es' fs' mm mm' q1 q2 => ?_⟩
              · by_cases hj : i = j
                · subst hj
                  rw [List.getElem?_set_self hil] at e
                  rcases hsl with ⟨_, z⟩ | ⟨_, z⟩ <;> subst z <;> cases e
                · rw [List.getElem?_set_ne hj] at e
                  obtain ⟨v, q1, q2⟩ := s2.sh j d e
                  exact ⟨v, q1, dp_ex g'.ex _ _ q2⟩
              · rcases mine_set mm with ⟨rfl, z⟩ | ⟨hj, mm⟩
                · have := hmk _ _ z
                  subst this
                  exact ⟨a, ws', ha, ha', fa', al'⟩
                · obtain ⟨b, us, q1, q2, q3, q4⟩ := s2.own j es' mm
                  have hba : ¬ b = a := fun z => hj (s2.dis j i a es' bs mm hM2 (z ▸ q1) ha)
                  exact ⟨b, us, q1, g'.keep b _ hba q2, g'.fz b hba (by rw [q2]; simp) q3, dpa_ex g'.ex _ _ q4⟩
              · by_cases hj : i = j
                · subst hj
                  rw [List.getElem?_set_self hil] at e
                  rcases hsl with ⟨_, z⟩ | ⟨q, z⟩
                  · subst z
                    cases e
                  · exact s2.lent i bs q
                · rw [List.getElem?_set_ne hj] at e
                  exact s2.lent j es' e
              · have old : ∀ {j : Nat} {es' : List D}, Mine (env2.set i (mk b')) j es' → ∃ fs', Mine env2 j fs' := fun mm => by
                  rcases mine_set mm with ⟨rfl, _⟩ | ⟨_, mm⟩
                  · exact ⟨bs, hM2⟩
                  · exact ⟨_, mm⟩
                obtain ⟨_, m1⟩ := old mm
                obtain ⟨_, m2⟩ := old mm'
                exact s2.dis j k b _ _ m1 m2 q1 q2
          cases hrun : fs.run (.list bs :: ds) with
          | stuck => rw [hrun] at p; exact p.elim
          | ret d b =>
            rw [hrun] at p
            intro v F' H' ws' g' sub ha' fa' al' dp
            obtain ⟨g2, o2, s3⟩ := back g' sub ha' fa' al'
            exact p v F' H' g2 o2 s3 dp
          | exc c x b =>
            rw [hrun] at p
            intro dd F' H' ws' g' sub ha' fa' al' xa Ca hCa
            obtain ⟨g2, o2, s3⟩ := back g' sub ha' fa' al'
            exact p dd F' H' g2 o2 s3 xa Ca hCa
        cases e2 : env2[i]? with
        | none => rw [e2] at p; exact p.elim
        | some sl =>
          rw [e2] at p
          cases sl with
          | no => exact p.elim
          | sh _ => exact p.elim
          | own bs => exact main bs Sl.own (fun es fs' z => by rcases z with z | z <;> cases z <;> rfl) (.inl ⟨e2, rfl⟩) p
          | bor bs => exact main bs Sl.bor (fun es fs' z => by rcases z with z | z <;> cases z <;> rfl) (.inr ⟨e2, rfl⟩) p

/-! ### built-in functions, isinstance -/
theorem looks_vr {σ : L2.St} {H0 F H : Hp} {env : SEnv} (s : Sim ba X.K F H σ env) : ∀ {ws : List Vw} {vs : List V} {ds : List D}, REs X.K σ H0 F H env ws vs → looks env ws = some ds →
    ∃ n, n = ds.length ∧ vs.length = n ∧ ∀ (i : Nat) d v, ds[i]? = some d → vs[i]? = some v → VR X.K F H v d
  | [], [], ds, _, e => by
    cases e
    exact ⟨0, rfl, rfl, fun i d v h => by simp at h⟩
  | [], _ :: _, _, h, _ => h.elim
  | _ :: _, [], _, h, _ => h.elim
  | w :: ws, v :: vs, ds, h, e => by
    unfold looks at e
    cases e1 : look env w with
    | none => rw [e1] at e; cases e
    | some d =>
      rw [e1] at e
      have e : (looks env ws).bind (fun ds => some (d :: ds)) = some ds := e
      cases e2 : looks env ws with
      | none => rw [e2] at e; cases e
      | some ds' =>
        rw [e2] at e
        have e : some (d :: ds') = some ds := e
        cases e
        obtain ⟨n, h1, h2, h3⟩ := looks_vr s h.2.2 e2
        refine ⟨n + 1, by rw [List.length_cons, h1], by rw [List.length_cons, h2], fun i d0 v0 p1 p2 => ?_⟩
        cases i with
        | zero =>
          cases p1
          cases p2
          exact look_vr s h.1 e1
        | succ i => exact h3 i d0 v0 p1 p2
theorem bf_in (f : Bf) : bfName f ∈ blts := by cases f <;> decide +kernel
theorem p_bf (C : Cok Φ Γ S m W X) {f : Bf} {es : IEs} {g : Str} {x : Expr} {xs : List Expr} {p pos : Pos} (hc : chkEs Γ S es (x :: xs) = true) (hg : glB S.sc g = true) (hn : bfName f = g) (h : PA X (x :: xs) (tEs ba X.K X.mg W (evEs Φ es))) :
    PE X (.Call (.Name g p) (x :: xs) [] pos) (TE' ba X W (evE Φ (.bf f es))) := by
  subst hn
  have hm := C.blt _ (bf_in f)
  have st := stars_of hc pos X.env x xs rfl
  have goal : ∀ σ H Q, TE' ba X W (evE Φ (.bf f es)) σ H Q → tCB (rBf X.K f) (tEs ba X.K X.mg W (evEs Φ es)) σ H Q := by
    intro σ H Q q
    obtain ⟨F, env, s, q⟩ := q
    refine ⟨F, env, s, (Post.bind (Rel1 := REs X.K σ H) q).imp ?_⟩
    rintro vs H1 ⟨ws, env1, F1, g, o, s1, r, p⟩
    cases e : looks env1 ws with
    | none => rw [e] at p; exact p.elim
    | some ds =>
      rw [e] at p
      have p : Post ba X.K X.mg W σ (RE X.K σ H) F1 H1 env1 (Rs.opt (bfD f ds) env1) Q := p
      cases e3 : bfD f ds with
      | none => rw [e3] at p; exact p.elim
      | some w =>
        rw [e3] at p
        exact ⟨F1, ds, w, s1.sub, looks_vr s1 r e, e3, post_rn s1 p fun a z => g.fresh z⟩
  have hr := bfAll (X := X) C.calm C.hu f
  cases f with
  | tuple => exact pe_imp (pe_callTy hr (C.gl hg) hm (by decide +kernel) h (by decide +kernel) (by decide +kernel) st.1 st.2) goal
  | list => exact pe_imp (pe_callTy hr (C.gl hg) hm (by decide +kernel) h (by decide +kernel) (by decide +kernel) st.1 st.2) goal
  | int => exact pe_imp (pe_callTy hr (C.gl hg) hm (by decide +kernel) h (by decide +kernel) (by decide +kernel) st.1 st.2) goal
  | bool => exact pe_imp (pe_callTy hr (C.gl hg) hm (by decide +kernel) h (by decide +kernel) (by decide +kernel) st.1 st.2) goal
  | len => exact pe_imp (pe_callB hr (C.gl hg) hm (by decide +kernel) h (by decide +kernel) (by decide +kernel) st.1 st.2) goal
  | sum => exact pe_imp (pe_callB hr (C.gl hg) hm (by decide +kernel) h (by decide +kernel) (by decide +kernel) st.1 st.2) goal
  | all => exact pe_imp (pe_callB hr (C.gl hg) hm (by decide +kernel) h (by decide +kernel) (by decide +kernel) st.1 st.2) goal
  | any => exact pe_imp (pe_callB hr (C.gl hg) hm (by decide +kernel) h (by decide +kernel) (by decide +kernel) st.1 st.2) goal
  | abs => exact pe_imp (pe_callB hr (C.gl hg) hm (by decide +kernel) h (by decide +kernel) (by decide +kernel) st.1 st.2) goal
  | min => exact pe_imp (pe_callB hr (C.gl hg) hm (by decide +kernel) h (by decide +kernel) (by decide +kernel) st.1 st.2) goal
  | max => exact pe_imp (pe_callB hr (C.gl hg) hm (by decide +kernel) h (by decide +kernel) (by decide +kernel) st.1 st.2) goal
  | sorted => exact pe_imp (pe_callB hr (C.gl hg) hm (by decide +kernel) h (by decide +kernel) (by decide +kernel) st.1 st.2) goal
  | dvm => exact pe_imp (pe_callB hr (C.gl hg) hm (by decide +kernel) h (by decide +kernel) (by decide +kernel) st.1 st.2) goal
/-- a class's name, as a value -/
theorem pe_ty (C : Cok Φ Γ S m W X) {t : Ty} {n : Str} {p : Pos} (hn : n = tyS t) (hg : glB S.sc n = true) : PE X (.Name n p) (tC (.ty (tyN t))) := by
  subst hn
  have hm : X.mg (tyS t) = none := C.blt _ (by cases t <;> decide +kernel)
  refine pe_bltn (u := .type (tyN t)) (C.gl hg) hm ?_ rfl ?_ ?_ <;> cases t <;> decide +kernel
theorem clsv (t : Ty) : ClsV (.ty (tyN t)) (.type (tyN t)) := .ty _
theorem p_isi1 (C : Cok Φ Γ S m W X) {a : IE} {t : Ty} {x : Expr} {g n : Str} {p pn pos : Pos} (hg : glB S.sc g = true) (hgn : g = "isinstance") (hs : notStar x = true) (hn : n = tyS t) (hgl : glB S.sc n = true) (ha : PE X x (TE' ba X W (evE Φ a))) :
    PE X (.Call (.Name g p) [x, .Name n pn] [] pos) (TE' ba X W (evE Φ (.isi a [t] false))) := by
  subst hgn
  have hm := C.blt "isinstance" (by decide +kernel)
  refine pe_imp (pe_callB call_isi (C.gl hg) hm (by decide +kernel) (pa_cons ha (pa_cons (pe_ty C hn hgl) pa_nil rfl) (star_of hs)) (by decide +kernel) (by decide +kernel) (star_of hs) rfl) fun σ H Q q => ?_
  obtain ⟨F, env, s, q⟩ := q
  obtain ⟨F1, env1, s1, q1⟩ := one s q
  refine ⟨F1, env1, s1, q1.imp ?_⟩
  rintro v H1 ⟨w, env2, F2, g, o, s2, r, p⟩
  cases e1 : look env2 w with
  | none => rw [e1] at p; exact p.elim
  | some d =>
    rw [e1] at p
    have vr := look_vr s2 r e1
    have fin' : (∀ kvs, d ≠ .dict kvs) → Post ba X.K X.mg W σ (RE X.K σ H) F2 H1 env2 (.ok (.now (.bool ([t].any (isTy d)))) env2) Q → rIsi X.K [v, .ty (tyN t)] H1 Q := fun hd p => by
      obtain ⟨n, h1, h2⟩ := tyx_of s2.sub vr hd
      refine ⟨v, _, _, _, isTy d t, rfl, clsv t, h1, kit_ty (h2 t), ?_⟩
      have e : [t].any (isTy d) = isTy d t := by simp
      rw [e] at p
      exact post_now (w := .now (.bool (isTy d t))) s2 p (.bl _)
    cases d with
    | dict kvs => exact p.elim
    | _ => exact fin' (fun _ z => by cases z) p
theorem pa_tys (C : Cok Φ Γ S m W X) : ∀ {ts : List Ty} {ns : List Expr}, chkTy S ts ns = true → PA X ns (fun _ H Q => Q (ts.map fun t => V.ty (tyN t)) H)
  | [], ns, h => by
    cases ns with
    | nil => exact pa_imp pa_nil fun _ _ _ q => q
    | cons _ _ => cases h
  | t :: ts, ns, h => by
    cases ns with
    | nil => cases h
    | cons n ns =>
      cases n <;> first | cases h | skip
      simp only [chkTy, Bool.and_eq_true] at h
      exact pa_imp (pa_cons (pe_ty C (by simpa using h.1.1) h.1.2) (pa_tys C h.2) rfl) fun _ _ _ q => q
theorem kit_tys {d : D} {n : String} {K : Frag} (h2 : ∀ t, kitB n (tyN t) = some (isTy d t)) : ∀ ts : List Ty, PySem.W.kitAny K (.type n) (ts.map fun t => Value.type (tyN t)) = some (ts.any (isTy d))
  | [] => kitAny_nil
  | t :: ts => by
    refine kitAny_cons (b := isTy d t) (kit_ty (h2 t)) (fun e => ?_) (fun e => ?_)
    · rw [List.any_cons, e, Bool.false_or]
      exact kit_tys h2 ts
    · rw [List.any_cons, e, Bool.true_or]
theorem paired_tys : ∀ ts : List Ty, Paired ClsV (ts.map fun t => V.ty (tyN t)) (ts.map fun t => Value.type (tyN t))
  | [] => .nil
  | t :: ts => .cons (clsv t) (paired_tys ts)
theorem p_isiT (C : Cok Φ Γ S m W X) {a : IE} {ts : List Ty} {x : Expr} {ns : List Expr} {j : Nat} {g : Str} {p pt pos : Pos} (hg : glB S.sc g = true) (hgn : g = "isinstance") (hs : notStar x = true) (hn : chkTy S ts ns = true) (hl : ts.length ≤ 1000) (ha : PE X x (TE' ba X W (evE Φ a))) :
    PE X (.Call (.Name g p) [x, .Tuple ns j pt] [] pos) (TE' ba X W (evE Φ (.isi a ts true))) := by
  subst hgn
  have hm := C.blt "isinstance" (by decide +kernel)
  refine pe_imp (pe_callB call_isiT (C.gl hg) hm (by decide +kernel) (pa_cons ha (pa_cons (pe_tup (pa_tys C hn)) pa_nil rfl) (star_of hs)) (by decide +kernel) (by decide +kernel) (star_of hs) rfl) fun σ H Q q => ?_
  obtain ⟨F, env, s, q⟩ := q
  obtain ⟨F1, env1, s1, q1⟩ := one s q
  refine ⟨F1, env1, s1, q1.imp ?_⟩
  rintro v H1 ⟨w, env2, F2, g, o, s2, r, p⟩
  refine ⟨by rw [List.length_map]; exact Nat.le_trans hl (by decide), fun tp htp => ?_⟩
  have gn : Go (fun _ => False) F2 H1 (upd F2 tp (.tup (ts.map fun t => V.ty (tyN t)))) (upd H1 tp (.tup (ts.map fun t => V.ty (tyN t)))) := Go.new s2.sub htp
  have sub := s2.sub.both tp (.tup (ts.map fun t => V.ty (tyN t)))
  obtain ⟨g3, s3⟩ := fin s2 gn sub
  have r3 : RE X.K σ H _ _ env2 w v := RE.go s2 s3 g3 (fun _ z => z) r
  cases e1 : look env2 w with
  | none => rw [e1] at p; exact p.elim
  | some d =>
    rw [e1] at p
    have vr := look_vr s3 r3 e1
    have fin' : (∀ kvs, d ≠ .dict kvs) → Post ba X.K X.mg W σ (RE X.K σ H) F2 H1 env2 (.ok (.now (.bool (ts.any (isTy d)))) env2) Q → rIsiT X.K [v, .ref tp] (upd H1 tp (.tup (ts.map fun t => V.ty (tyN t)))) Q := fun hd p => by
      obtain ⟨n, h1, h2⟩ := tyx_of s3.sub vr hd
      exact ⟨v, tp, _, _, _, _, rfl, upd_same, paired_tys ts, h1, kit_tys h2 ts, p _ _ _ g3 (fun _ z => z) s3 (.bl _)⟩
    cases d with
    | dict kvs => exact p.elim
    | _ => exact fin' (fun _ z => by cases z) p

/-! ### xs.count(e) -/
theorem p_cnt (C : Cok Φ Γ S m W X) {a e : IE} {x y : Expr} {f : Str} {ap cp : Pos} (hf : f = "count") (hl : (ap.endLine == cp.line) = true) (hs : notStar y = true) (hc : notCall x = true) (ha : PE X x (TE' ba X W (evE Φ a))) (he : PE X y (TE' ba X W (evE Φ e))) :
    PE X (.Call (.Attribute x f ap) [y] [] cp) (TE' ba X W (evE Φ (.cnt a e))) := by
  subst hf
  refine pe_imp (pe_bm PySem.F.plainAttrs_list PySem.F.slot_list_count PySem.F.type_list_count mt_cnt ha (pa_cons he pa_nil (star_of hs)) (base_of hc) (by rw [star_of hs]; rfl) hl (star_of hs) rfl) fun σ H Q ⟨F, env, s, q⟩ => ?_
  obtain ⟨F1, env1, s1, q1⟩ := one s q
  refine ⟨F1, env1, s1, q1.imp ?_⟩
  rintro v1 H1 ⟨w, env2, F2, g, o, s2, r1, p⟩
  cases e1 : look env2 w with
  | none => rw [e1] at p; exact p.elim
  | some d =>
    rw [e1] at p
    cases d with
    | list ds =>
      obtain ⟨l, vs, rfl, hl, _⟩ := look_vr s2 r1 e1
      refine ⟨.inl ⟨rfl, vs, hl⟩, ?_⟩
      obtain ⟨F3, env3, s3, q3⟩ := one s2 p
      refine ⟨F3, env3, s3, q3.imp ?_⟩
      rintro v2 H2 ⟨y, env4, F4, g4, o4, s4, r2, p⟩
      have r1 := RE.go s2 s4 g4 o4 r1
      cases e2 : look env4 w with
      | none => rw [e2] at p; exact p.elim
      | some d1 =>
        cases e3 : look env4 y with
        | none => rw [e2, e3] at p; cases d1 <;> exact p.elim
        | some d2 =>
          rw [e2, e3] at p
          cases d1 with
          | list ys =>
            have p : Post ba X.K X.mg W σ (RE X.K σ H) F4 H2 env4 (if (flatD d2 && ys.all flatD) = true then .ok (.now (.int (cntD d2 ys))) env4 else .stuck) Q := p
            cases hz : (flatD d2 && ys.all flatD) with
            | false => rw [hz] at p; exact p.elim
            | true =>
              rw [hz] at p
              rw [Bool.and_eq_true] at hz
              obtain ⟨l', vs', ev, hl', al⟩ := look_vr s4 r1 e2
              cases ev
              have r2' : Dp X.K F4 v2 d2 := by
                have := look_vr s4 r2 e3
                cases d2 <;> first | exact this | (exact absurd hz.1 (by simp [flatD]))
              refine ⟨l, vs', v2, rfl, rfl, hl', flatV_of r2' hz.1, flatAll_of al hz.2, ?_⟩
              rw [cntD_of r2' hz.1 al hz.2]
              exact post_now s4 p (.int _)
          | _ => exact p.elim
    | _ => exact p.elim

/-! ### len(set(a)); gcd, lcm -/
theorem p_lnset (C : Cok Φ Γ S m W X) {a : IE} {x : Expr} {g h : Str} {p p2 p3 pos : Pos} (hg : glB S.sc g = true) (hgn : g = "len") (hh : glB S.sc h = true) (hhn : h = "set") (hs : notStar x = true) (ha : PE X x (TE' ba X W (evE Φ a))) :
    PE X (.Call (.Name g p) [.Call (.Name h p2) [x] [] p3] [] pos) (TE' ba X W (evE Φ (.lnset a))) := by
  subst hgn hhn
  have hm := C.blt "len" (by decide +kernel)
  have hm2 := C.blt "set" (by decide +kernel)
  refine pe_imp (pe_callB cr_lenSetT (C.gl hg) hm (by decide +kernel) (pa_cons (pe_callTy (cr_setTT C.calm C.hu) (C.gl hh) hm2 (by decide +kernel) (pa_cons ha pa_nil (star_of hs)) (by decide +kernel) (by decide +kernel) (star_of hs) rfl) pa_nil rfl) (by decide +kernel) (by decide +kernel) rfl rfl) fun σ H Q q => ?_
  obtain ⟨F, env, s, q⟩ := q
  obtain ⟨F1, env1, s1, q1⟩ := one s q
  refine ⟨F1, env1, s1, q1.imp ?_⟩
  rintro v H1 ⟨w, env2, F2, g, o, s2, r, p⟩
  cases e1 : look env2 w with
  | none => rw [e1] at p; exact p.elim
  | some d =>
    rw [e1] at p
    have p : Post ba X.K X.mg W σ (RE X.K σ H) F2 H1 env2 (Rs.opt (lnsetD d) env2) Q := p
    have vr := look_vr s2 r e1
    have key : ∀ {l : Addr} {vs : List V} {ds : List D}, v = .ref l → (SqL X.K H1 l vs ∨ SqT X.K H1 l vs) → DpAll X.K F2 vs ds → Post ba X.K X.mg W σ (RE X.K σ H) F2 H1 env2 (Rs.opt ((tupsI ds).bind fun ks => if decide (ks.length < 64) then some (.now (.int (ndup ks).length)) else none) env2) Q →
        rSetTT X.K X.prog X.w [v] H1 (fun v2 H2 => ∃ (a : Addr) (L : List (Addr × List Int)), [v2] = [V.ref a] ∧ H2 a = some (SetTO X.prog X.w a L) ∧ (∀ p ∈ L, SqT X.K H2 p.1 (p.2.map V.int)) ∧ Q (.int (L.length : Nat)) H2) := by
      intro l vs ds ev hq al p
      cases e2 : tupsI ds with
      | none => rw [e2] at p; exact p.elim
      | some ks =>
        rw [e2] at p
        have p : Post ba X.K X.mg W σ (RE X.K σ H) F2 H1 env2 (Rs.opt (if decide (ks.length < 64) = true then some (.now (.int (ndup ks).length)) else none) env2) Q := p
        cases hz : decide (ks.length < 64) with
        | false => rw [hz] at p; exact p.elim
        | true =>
          rw [hz] at p
          have p : Post ba X.K X.mg W σ (RE X.K σ H) F2 H1 env2 (.ok (.now (.int (ndup ks).length)) env2) Q := p
          have hz := of_decide_eq_true hz
          obtain ⟨ps, q1, q2, q3⟩ := tupsI_of s2.sub al e2
          subst q1
          refine ⟨l, ps, by rw [ev], hq, q3, by rw [← q2, List.length_map] at hz; exact hz, fun a L ha h1 h2 h3 => ?_⟩
          have gn : Go (fun _ => False) F2 H1 F2 (upd H1 a (SetTO X.prog X.w a L)) := Go.newM ha
          have sub : Ex F2 (upd H1 a (SetTO X.prog X.w a L)) := s2.sub.right (s2.sub.none ha)
          obtain ⟨g3, s3⟩ := fin s2 gn sub
          refine ⟨a, L, rfl, upd_same, fun p hp => ?_, ?_⟩
          · exact (show Ex H1 (upd H1 a (SetTO X.prog X.w a L)) from Ex.put ha).sqt (q3 p (h1 p hp))
          · have hl : L.length = (ndup ks).length := by
              rw [← List.length_map (f := fun p : Addr × List Int => p.2)]
              refine ndup_len h3 fun k => ⟨fun hk => ?_, fun hk => ?_⟩
              · obtain ⟨p, hp, rfl⟩ := List.mem_map.mp hk
                rw [← q2]
                exact List.mem_map.mpr ⟨p, h1 p hp, rfl⟩
              · rw [← q2] at hk
                obtain ⟨p, hp, rfl⟩ := List.mem_map.mp hk
                exact h2 p hp
            rw [hl]
            exact p _ _ _ g3 (fun _ z => z) s3 (.int _)
    cases d with
    | list ds =>
      obtain ⟨l, vs, ev, h1, al⟩ := vr.lst
      exact key ev (.inl h1) al p
    | tuple ds =>
      obtain ⟨l, vs, ev, h1, al⟩ := vr.tup s2.sub
      exact key ev (.inr h1) al p
    | _ => exact p.elim
theorem p_sset (C : Cok Φ Γ S m W X) {a : IE} {x : Expr} {g h : Str} {p p2 p3 pos : Pos} (hg : glB S.sc g = true) (hgn : g = "sorted") (hh : glB S.sc h = true) (hhn : h = "set") (hs : notStar x = true) (ha : PE X x (TE' ba X W (evE Φ a))) :
    PE X (.Call (.Name g p) [.Call (.Name h p2) [x] [] p3] [] pos) (TE' ba X W (evE Φ (.sset a))) := by
  subst hgn hhn
  have hm := C.blt "sorted" (by decide +kernel)
  have hm2 := C.blt "set" (by decide +kernel)
  refine pe_imp (pe_callB (cr_sortedSet C.calm) (C.gl hg) hm (by decide +kernel) (pa_cons (pe_callTy (cr_setI C.calm) (C.gl hh) hm2 (by decide +kernel) (pa_cons ha pa_nil (star_of hs)) (by decide +kernel) (by decide +kernel) (star_of hs) rfl) pa_nil rfl) (by decide +kernel) (by decide +kernel) rfl rfl) fun σ H Q q => ?_
  obtain ⟨F, env, s, q⟩ := q
  obtain ⟨F1, env1, s1, q1⟩ := one s q
  refine ⟨F1, env1, s1, q1.imp ?_⟩
  rintro v H1 ⟨w, env2, F2, g, o, s2, r, p⟩
  cases e1 : look env2 w with
  | none => rw [e1] at p; exact p.elim
  | some d =>
    rw [e1] at p
    have p : Post ba X.K X.mg W σ (RE X.K σ H) F2 H1 env2 (Rs.opt (ssetD d) env2) Q := p
    have vr := look_vr s2 r e1
    have key : ∀ {l : Addr} {vs : List V} {ds : List D}, v = .ref l → (SqL X.K H1 l vs ∨ SqT X.K H1 l vs) → DpAll X.K F2 vs ds → Post ba X.K X.mg W σ (RE X.K σ H) F2 H1 env2 (Rs.opt ((intsD ds).bind fun ns => if decide (ns.length < 64) then some (.tmp ((usort ns).map .int)) else none) env2) Q →
        rSetI X.K X.w [v] H1 (fun v2 H2 => rSortedSet X.w [v2] H2 Q) := by
      intro l vs ds ev hq al p
      cases e2 : intsD ds with
      | none => rw [e2] at p; exact p.elim
      | some ns =>
        rw [e2] at p
        have p : Post ba X.K X.mg W σ (RE X.K σ H) F2 H1 env2 (Rs.opt (if decide (ns.length < 64) = true then some (Vw.tmp ((usort ns).map .int)) else none) env2) Q := p
        cases hz : decide (ns.length < 64) with
        | false => rw [hz] at p; exact p.elim
        | true =>
          rw [hz] at p
          have p : Post ba X.K X.mg W σ (RE X.K σ H) F2 H1 env2 (.ok (.tmp ((usort ns).map .int)) env2) Q := p
          have hz := of_decide_eq_true hz
          have hv := intsD_of al e2
          subst hv
          have rn := post_rn s2 p fun a z => g.fresh z
          refine ⟨l, ns, by rw [ev], hq, hz, fun a n ha hn => ⟨a, _, n, rfl, upd_same, by omega, fun os q asc mem len hp => ?_⟩⟩
          have hos : os = usort ns := asc_uniq asc (usort_asc ns) fun k => by
            rw [mem k, usort_mem]
            exact decide_eq_true_iff
          subst hos
          have hne : q ≠ a := fun z => by rw [z, upd_same] at hp; cases hp
          have hp1 : H1 q = none := by rw [upd_ne hne] at hp; exact hp
          have fa : F2 a = none := s2.sub.none ha
          have fq : F2 q = none := s2.sub.none hp1
          have sub1 : Ex F2 (upd H1 a (SetO X.w a (fun j => decide (j ∈ ns)) n)) := s2.sub.right fa
          have sub2 : Ex F2 (upd (upd H1 a (SetO X.w a (fun j => decide (j ∈ ns)) n)) q (.lst ((usort ns).map V.int))) := sub1.right fq
          have g1 : Go (fun _ => False) F2 H1 F2 (upd H1 a (SetO X.w a (fun j => decide (j ∈ ns)) n)) := Go.newM ha
          have g2 : Go (fun _ => False) F2 (upd H1 a (SetO X.w a (fun j => decide (j ∈ ns)) n)) F2 (upd (upd H1 a (SetO X.w a (fun j => decide (j ∈ ns)) n)) q (.lst ((usort ns).map V.int))) := Go.newM hp
          exact rn _ F2 _ (g1.trans g2 fun _ z => z.elim) sub2 ⟨q, _, rfl, upd_same, fq, hp1, dpa_ofInts _⟩
    cases d with
    | list ds =>
      obtain ⟨l, vs, ev, h1, al⟩ := vr.lst
      exact key ev (.inl h1) al p
    | tuple ds =>
      obtain ⟨l, vs, ev, h1, al⟩ := vr.tup s2.sub
      exact key ev (.inr h1) al p
    | _ => exact p.elim
theorem p_mth (C : Cok Φ Γ S m W X) {f : Mf} {a b : IE} {x y : Expr} {g : Str} {p pos : Pos} (hg : glB S.sc g = true) (hgn : g = mfName f) (hb : Γ.mb.contains g = true) (hs : notStar x = true) (hs2 : notStar y = true) (ha : PE X x (TE' ba X W (evE Φ a))) (hb' : PE X y (TE' ba X W (evE Φ b))) :
    PE X (.Call (.Name g p) [x, y] [] pos) (TE' ba X W (evE Φ (.mth f a b))) := by
  subst hgn
  have hm := C.mb f hb
  have e2 : starEach [y] X.env = [(false, eval y X.env)] := star_of hs2
  refine pe_imp (pe_callBfun (id := mfId f) (r := rMth X.K f) (by have := cr_mth (X := X) f; cases f <;> exact this) (C.gl hg) hm (pa_cons ha (pa_cons hb' pa_nil (star_of hs2)) (star_of hs)) (by cases f <;> decide +kernel) (star_of hs) (by rw [e2]; rfl)) fun σ H Q q => ?_
  obtain ⟨F, env, s, q⟩ := q
  obtain ⟨F1, env1, s1, q1⟩ := two s q
  refine ⟨F1, env1, s1, q1.imp fun v1 H1 ⟨F2, env2, s2, q2⟩ => ⟨F2, env2, s2, q2.imp ?_⟩⟩
  rintro v2 H2 ⟨x, y, env2, F2, g, o, s2, r1, r2, p⟩
  cases e1 : look env2 x with
  | none => rw [e1] at p; exact p.elim
  | some d =>
    cases e2 : look env2 y with
    | none => rw [e1, e2] at p; exact p.elim
    | some d' =>
      rw [e1, e2] at p
      have p : Post ba X.K X.mg W σ (RE X.K σ H) F2 H2 env2 (Rs.opt (mthD f d d') env2) Q := p
      cases e3 : mthD f d d' with
      | none => rw [e3] at p; exact p.elim
      | some w =>
        rw [e3] at p
        exact ⟨F2, d, d', w, v1, v2, rfl, s2.sub, look_vr s2 r1 e1, look_vr s2 r2 e2, e3, post_rn s2 p fun a z => g.fresh z⟩
/-! ### what is walked -/
theorem yld_rg {F : Hp} (lo : Int) (n : Nat) : Yld X.K F (rgD lo n) (Itr lo n) := by
  intro i F' H e sub
  have hl : (rgD lo n).length = n := by simp [rgD]
  refine ⟨fun d hd => ?_, fun h => by rw [hl] at h; exact Nat.le_of_eq h.symm⟩
  have hi : i < n := by
    have := (List.getElem?_eq_some_iff.mp hd).1
    rwa [hl] at this
  have hd' : d = .int (lo + (i : Nat)) := by
    unfold rgD at hd
    rw [List.getElem?_map, List.getElem?_range hi] at hd
    exact (Option.some.inj hd).symm
  subst hd'
  refine ⟨hi, fun x H' h => ?_⟩
  obtain ⟨rfl, rfl⟩ := h
  exact ⟨F', Go.refl _ _ _, sub, .int _⟩
theorem yld_rgC {F : Hp} (lo c : Int) (n : Nat) : Yld X.K F (rgC lo c n) (Itc lo c n) := by
  intro i F' H e sub
  have hl : (rgC lo c n).length = n := by simp [rgC]
  refine ⟨fun d hd => ?_, fun h => by rw [hl] at h; exact Nat.le_of_eq h.symm⟩
  have hi : i < n := by
    have := (List.getElem?_eq_some_iff.mp hd).1
    rwa [hl] at this
  have hd' : d = .int (lo + (i : Nat) * c) := by
    unfold rgC at hd
    rw [List.getElem?_map, List.getElem?_range hi] at hd
    exact (Option.some.inj hd).symm
  subst hd'
  refine ⟨hi, fun x H' h => ?_⟩
  obtain ⟨rfl, rfl⟩ := h
  exact ⟨F', Go.refl _ _ _, sub, .int _⟩
theorem yld_list {F : Hp} {a : Addr} {vs : List V} {ds : List D} (h : SqL X.K F a vs) (al : DpAll X.K F vs ds) : Yld X.K F ds (Itl X.K a) := by
  intro i F' H e sub
  have hs : SqL X.K H a vs := (e.trans sub).sql h
  refine ⟨fun d hd => ?_, fun hi => ⟨vs, hs, by rw [hi, dpa_len al]; exact Nat.le_refl _⟩⟩
  obtain ⟨v, h1, h2⟩ := dpa_get al hd
  refine ⟨⟨vs, v, hs, h1⟩, fun x H' hx => ?_⟩
  obtain ⟨rfl, hy⟩ := hx
  have := hy vs hs
  rw [h1] at this
  cases this
  exact ⟨F', Go.refl _ _ _, sub, dp_ex e _ _ h2⟩
theorem yld_tup {F : Hp} {a : Addr} {vs : List V} {ds : List D} (h : SqT X.K F a vs) (al : DpAll X.K F vs ds) : Yld X.K F ds (Itt X.K a) := by
  intro i F' H e sub
  have hs : SqT X.K H a vs := (e.trans sub).sqt h
  refine ⟨fun d hd => ?_, fun hi => ⟨vs, hs, by rw [hi, dpa_len al]; exact Nat.le_refl _⟩⟩
  obtain ⟨v, h1, h2⟩ := dpa_get al hd
  refine ⟨⟨vs, v, hs, h1⟩, fun x H' hx => ?_⟩
  obtain ⟨rfl, hy⟩ := hx
  have := hy vs hs
  rw [h1] at this
  cases this
  exact ⟨F', Go.refl _ _ _, sub, dp_ex e _ _ h2⟩
theorem enum_get : ∀ (ds : List D) (n i : Nat), (enumD n ds)[i]? = (ds[i]?).map fun d => .tuple [.int ((n + i : Nat) : Int), d]
  | [], _, i => by simp [enumD]
  | d :: ds, n, 0 => by simp [enumD]
  | d :: ds, n, i + 1 => by
    have ih := enum_get ds (n + 1) i
    rw [enumD, List.getElem?_cons_succ, List.getElem?_cons_succ, ih]
    have e : n + 1 + i = n + (i + 1) := by omega
    rw [e]
theorem enum_len : ∀ (ds : List D) (n : Nat), (enumD n ds).length = ds.length
  | [], _ => rfl
  | d :: ds, n => by rw [enumD, List.length_cons, List.length_cons, enum_len ds]
theorem enum_pair {F' H : Hp} {T : Addr} {x : V} {d : D} {i : Nat} (sub : Ex F' H) (hT : H T = none) (r : Dp X.K F' x d) :
    ∃ F2, Go (fun _ => False) F' H F2 (upd H T (.tup [.int (i : Nat), x])) ∧ Ex F2 (upd H T (.tup [.int (i : Nat), x])) ∧ Dp X.K F2 (.ref T) (.tuple [.int ((0 + i : Nat) : Int), d]) := by
  have g : Go (fun _ => False) F' H (upd F' T (.tup [.int (i : Nat), x])) (upd H T (.tup [.int (i : Nat), x])) := Go.new sub hT
  refine ⟨_, g, sub.both _ _, .tup (.inl (.inl upd_same)) (.cons ?_ (.cons (dp_ex g.ex _ _ r) .nil))⟩
  rw [Nat.zero_add]
  exact .int _
theorem yld_enum {F : Hp} {a : Addr} {vs : List V} {ds : List D} (h : SqL X.K F a vs) (al : DpAll X.K F vs ds) : Yld X.K F (enumD 0 ds) (Ite X.K a) := by
  intro i F' H e sub
  have hs : SqL X.K H a vs := (e.trans sub).sql h
  refine ⟨fun d hd => ?_, fun hi => ⟨vs, hs, by rw [hi, enum_len, dpa_len al]; exact Nat.le_refl _⟩⟩
  rw [enum_get] at hd
  cases h0 : ds[i]? with
  | none => rw [h0] at hd; cases hd
  | some d0 =>
    rw [h0] at hd
    cases hd
    obtain ⟨v, h1, h2⟩ := dpa_get al h0
    refine ⟨⟨vs, v, hs, h1⟩, fun x H' hx => ?_⟩
    obtain ⟨T, y, rfl, hT, rfl, hy⟩ := hx
    have := hy vs hs
    rw [h1] at this
    cases this
    exact enum_pair sub hT (dp_ex e _ _ h2)
theorem yld_enumT {F : Hp} {a : Addr} {vs : List V} {ds : List D} (h : SqT X.K F a vs) (al : DpAll X.K F vs ds) : Yld X.K F (enumD 0 ds) (IteT X.K a) := by
  intro i F' H e sub
  have hs : SqT X.K H a vs := (e.trans sub).sqt h
  refine ⟨fun d hd => ?_, fun hi => ⟨vs, hs, by rw [hi, enum_len, dpa_len al]⟩⟩
  rw [enum_get] at hd
  cases h0 : ds[i]? with
  | none => rw [h0] at hd; cases hd
  | some d0 =>
    rw [h0] at hd
    cases hd
    obtain ⟨v, h1, h2⟩ := dpa_get al h0
    refine ⟨⟨vs, v, hs, h1⟩, fun x H' hx => ?_⟩
    obtain ⟨T, y, rfl, hT, rfl, hy⟩ := hx
    have := hy vs hs
    rw [h1] at this
    cases this
    exact enum_pair sub hT (dp_ex e _ _ h2)
theorem post_y {σ : L2.St} {H0 F H : Hp} {env : SEnv} {ds : List D} {J : It} {R : It → Hp → Prop} (s : Sim ba X.K F H σ env) (p : Post ba X.K X.mg W σ (RY X.K σ H0) F H env (.ok ds env) R) (y : Yld X.K F ds J) : R J H := p J F H (Go.refl _ _ _) (fun _ z => z) s y
theorem i_seq {e : IE} {x tg : Expr} (he : PE X x (TE' ba X W (evE Φ e))) : PI X tg x (tI ba X.K X.mg W (evI Φ (.seq e))) := by
  refine pi_imp (pi_seq he) fun σ H R q => ?_
  obtain ⟨F, env, s, q⟩ := q
  obtain ⟨F1, env1, s1, q1⟩ := keep_one (k := fun d e2 => Rs.opt (seqD d) e2) s q
  refine ⟨F1, env1, s1, q1.imp ?_⟩
  rintro v H1 ⟨d, env2, F2, g, o, s2, dp, p⟩
  cases d with
  | list ds =>
    cases dp with
    | lst h1 al => exact .inl ⟨_, rfl, ⟨_, s2.sub.sql h1⟩, post_y s2 p (yld_list h1 al)⟩
  | tuple ds =>
    cases dp with
    | tup h1 al => exact .inr ⟨_, rfl, ⟨_, s2.sub.sqt h1⟩, post_y s2 p (yld_tup h1 al)⟩
  | _ => exact p.elim
theorem rOk_of {i : Int} (h : rOk i = true) : -(2 ^ 62) ≤ i ∧ i < 2 ^ 62 := by
  have := inB_of h
  omega
theorem i_r1 (C : Cok Φ Γ S m W X) {a : IE} {x tg : Expr} {g : Str} {p pos : Pos} (hg : glB S.sc g = true) (hn : g = "range") (hs : notStar x = true) (ha : PE X x (TE' ba X W (evE Φ a))) : PI X tg (.Call (.Name g p) [x] [] pos) (tI ba X.K X.mg W (evI Φ (.r1 a))) := by
  subst hn
  refine pi_imp (pi_range1 (C.gl hg) (C.blt "range" (by decide +kernel)) (pa_cons ha pa_nil (star_of hs)) (star_of hs)) fun σ H R q => ?_
  obtain ⟨F, env, s, q⟩ := q
  obtain ⟨F1, env1, s1, q1⟩ := one s q
  refine ⟨F1, env1, s1, q1.imp ?_⟩
  rintro v H1 ⟨w, env2, F2, g, o, s2, r, p⟩
  cases e1 : look env2 w with
  | none => rw [e1] at p; exact p.elim
  | some d =>
    rw [e1] at p
    cases d with
    | int j =>
      have p : Post ba X.K X.mg W σ (RY X.K σ H) F2 H1 env2 (if rOk j then .ok (rgD 0 j.toNat) env2 else .stuck) R := p
      cases hz : rOk j with
      | false => rw [hz] at p; exact p.elim
      | true =>
        rw [hz] at p
        have := (look_vr s2 r e1).int
        subst this
        exact ⟨j, rfl, (rOk_of hz).1, (rOk_of hz).2, post_y s2 p (yld_rg 0 _)⟩
    | _ => exact p.elim
theorem i_r2 (C : Cok Φ Γ S m W X) {a b : IE} {x y tg : Expr} {g : Str} {p pos : Pos} (hg : glB S.sc g = true) (hn : g = "range") (hs : notStar x = true) (hs2 : notStar y = true) (ha : PE X x (TE' ba X W (evE Φ a))) (hb : PE X y (TE' ba X W (evE Φ b))) : PI X tg (.Call (.Name g p) [x, y] [] pos) (tI ba X.K X.mg W (evI Φ (.r2 a b))) := by
  subst hn
  have e2 : starEach [y] X.env = [(false, eval y X.env)] := star_of hs2
  refine pi_imp (pi_range2 (C.gl hg) (C.blt "range" (by decide +kernel)) (pa_cons ha (pa_cons hb pa_nil (star_of hs2)) (star_of hs)) (by rw [star_of hs, e2]) e2) fun σ H R q => ?_
  obtain ⟨F, env, s, q⟩ := q
  obtain ⟨F1, env1, s1, q1⟩ := two s q
  refine ⟨F1, env1, s1, q1.imp fun v1 H1 ⟨F2, env2, s2, q2⟩ => ⟨F2, env2, s2, q2.imp ?_⟩⟩
  rintro v2 H2 ⟨w1, w2, env2, F2, g, o, s2, r1, r2, p⟩
  cases e1 : look env2 w1 with
  | none => rw [e1] at p; exact p.elim
  | some d =>
    cases e2 : look env2 w2 with
    | none => rw [e1, e2] at p; cases d <;> exact p.elim
    | some d' =>
      rw [e1, e2] at p
      cases d with
      | int i =>
        cases d' with
        | int j =>
          have p : Post ba X.K X.mg W σ (RY X.K σ H) F2 H2 env2 (if rOk i && rOk j then .ok (rgD i (j - i).toNat) env2 else .stuck) R := p
          cases hz : (rOk i && rOk j) with
          | false => rw [hz] at p; exact p.elim
          | true =>
            rw [hz] at p
            rw [Bool.and_eq_true] at hz
            have h1 := (look_vr s2 r1 e1).int
            have h2 := (look_vr s2 r2 e2).int
            subst h1 h2
            exact ⟨i, j, rfl, ⟨(rOk_of hz.1).1, (rOk_of hz.1).2, (rOk_of hz.2).1, (rOk_of hz.2).2⟩, post_y s2 p (yld_rg i _)⟩
        | _ => exact p.elim
      | _ => exact p.elim
theorem i_r3 (C : Cok Φ Γ S m W X) {a b c : IE} {x y z tg : Expr} {g : Str} {p pos : Pos} (hg : glB S.sc g = true) (hn : g = "range") (hs : notStar x = true) (hs2 : notStar y = true) (hs3 : notStar z = true) (ha : PE X x (TE' ba X W (evE Φ a))) (hb : PE X y (TE' ba X W (evE Φ b))) (hc : PE X z (TE' ba X W (evE Φ c))) : PI X tg (.Call (.Name g p) [x, y, z] [] pos) (tI ba X.K X.mg W (evI Φ (.r3 a b c))) := by
  subst hn
  have e3 : starEach [z] X.env = [(false, eval z X.env)] := star_of hs3
  refine pi_imp (pi_range3 (C.gl hg) (C.blt "range" (by decide +kernel)) (pa_cons ha (pa_cons hb (pa_cons hc pa_nil (star_of hs3)) (star_of hs2)) (star_of hs)) (star_of hs) (by rw [star_of hs2, e3]; rfl)) fun σ H R q => ?_
  obtain ⟨F, env, s, q⟩ := q
  obtain ⟨F1, env1, s1, q1⟩ := two s q
  refine ⟨F1, env1, s1, q1.imp fun v1 H1 ⟨F2, env2, s2, q2⟩ => ⟨F2, env2, s2, q2.imp ?_⟩⟩
  rintro v2 H2 ⟨w1, w2, env2, F2, g, o, s2, r1, r2, p⟩
  obtain ⟨F3, env3, s3, q3⟩ := one s2 p
  refine ⟨F3, env3, s3, q3.imp ?_⟩
  rintro v3 H3 ⟨w3, env4, F4, g4, o4, s4, r3, p⟩
  have r1 := RE.go s2 s4 g4 o4 r1
  have r2 := RE.go s2 s4 g4 o4 r2
  cases e1 : look env4 w1 with
  | none => rw [e1] at p; exact p.elim
  | some d =>
    cases e2 : look env4 w2 with
    | none => rw [e1, e2] at p; cases d <;> exact p.elim
    | some d' =>
      cases e3 : look env4 w3 with
      | none => rw [e1, e2, e3] at p; cases d <;> cases d' <;> exact p.elim
      | some d'' =>
        rw [e1, e2, e3] at p
        cases d with
        | int i =>
          cases d' with
          | int j =>
            cases d'' with
            | int k =>
              have p : Post ba X.K X.mg W σ (RY X.K σ H) F4 H3 env4 (if k != 0 && decide (k.natAbs < 1073741824) && Builtin.Range.small i j k && decide (0 ≤ Builtin.Range.rangeSize i j k) then .ok (rgC i k (Builtin.Range.rangeSize i j k).toNat) env4 else .stuck) R := p
              cases hz : (k != 0 && decide (k.natAbs < 1073741824) && Builtin.Range.small i j k && decide (0 ≤ Builtin.Range.rangeSize i j k)) with
              | false => rw [hz] at p; exact p.elim
              | true =>
                rw [hz] at p
                simp only [Bool.and_eq_true, decide_eq_true_eq, bne_iff_ne, ne_eq] at hz
                have h1 := (look_vr s4 r1 e1).int
                have h2 := (look_vr s4 r2 e2).int
                have h3 := (look_vr s4 r3 e3).int
                subst h1 h2 h3
                exact ⟨i, j, k, _, rfl, ⟨hz.1.1.1, hz.1.1.2, hz.1.2, (Int.toNat_of_nonneg hz.2).symm⟩, post_y s4 p (yld_rgC i k _)⟩
            | _ => exact p.elim
          | _ => exact p.elim
        | _ => exact p.elim
theorem i_enum (C : Cok Φ Γ S m W X) {e : IE} {x : Expr} {g : Str} {es : List Expr} {j : Nat} {p tpos pos : Pos} (hg : glB S.sc g = true) (hn : g = "enumerate") (hs : notStar x = true) (he : PE X x (TE' ba X W (evE Φ e))) : PI X (.Tuple es j tpos) (.Call (.Name g p) [x] [] pos) (tI ba X.K X.mg W (evI Φ (.enum e))) := by
  subst hn
  refine pi_imp (pi_enumB (C.gl hg) (C.blt "enumerate" (by decide +kernel)) (pa_cons he pa_nil (star_of hs)) (star_of hs)) fun σ H R q => ?_
  obtain ⟨F, env, s, q⟩ := q
  obtain ⟨F1, env1, s1, q1⟩ := keep_one (k := enumK) s q
  refine ⟨F1, env1, s1, q1.imp ?_⟩
  rintro v H1 ⟨d, env2, F2, g, o, s2, dp, p⟩
  refine ⟨v, rfl, ?_⟩
  cases d with
  | list ds =>
    cases dp with
    | lst h1 al => exact .inl ⟨_, rfl, ⟨_, s2.sub.sql h1⟩, post_y s2 p (yld_enum h1 al)⟩
  | tuple ds =>
    cases dp with
    | tup h1 al => exact .inr ⟨_, rfl, ⟨_, s2.sub.sqt h1⟩, post_y s2 p (yld_enumT h1 al)⟩
  | _ => exact p.elim
end
end PyE

set_option Elab.async false
set_option linter.all false
set_option autoImplicit false
set_option maxRecDepth 100000
set_option maxHeartbeats 4000000
/-! # What the checker takes is run as the evaluator says: comprehensions; all expressions -/
namespace PyE
open PySem PySem.Spec PyProof.Rows L2
section
variable {ba : Addr} {K : Frag} {F F1 F' H H1 H' F0 H0 : Hp} {σ τ τ' : L2.St} {env env1 en env' : SEnv}
theorem wipeE_out {i : Nat} : ∀ {own : List Nat}, i ∉ own → (wipeE env own)[i]? = env[i]?
  | [], _ => rfl
  | j :: own, h => by
    show ((wipeE env own).set j .no)[i]? = _
    rw [List.getElem?_set_ne (fun (z : j = i) => h (z ▸ List.mem_cons_self))]
    exact wipeE_out fun z => h (List.mem_cons_of_mem _ z)
theorem wipeE_in {i : Nat} {sl : Sl} : ∀ {own : List Nat}, i ∈ own → (wipeE env own)[i]? = some sl → sl = .no
  | j :: own, h, e => by
    have e : ((wipeE env own).set j .no)[i]? = some sl := e
    by_cases hj : j = i
    · subst hj
      by_cases hl : j < (wipeE env own).length
      · rw [List.getElem?_set_self hl] at e
        exact (Option.some.inj e).symm
      · rw [List.getElem?_eq_none (by simpa using hl)] at e
        cases e
    · rw [List.getElem?_set_ne hj] at e
      rcases List.mem_cons.mp h with z | z
      · exact absurd z.symm hj
      · exact wipeE_in z e
theorem mine_wipe {i : Nat} {ds : List D} {own : List Nat} (m : Mine (wipeE env own) i ds) : i ∉ own ∧ Mine env i ds := by
  have hn : i ∉ own := fun z => by
    rcases m with m | m <;> cases wipeE_in z m
  unfold Mine at m ⊢
  rw [wipeE_out hn] at m
  exact ⟨hn, m⟩
theorem wipe_out' {i : Nat} : ∀ {own : List Nat}, i ∉ own → (L2.wipe σ own)[i]? = σ[i]?
  | [], _ => rfl
  | j :: own, h => by
    show ((L2.wipe σ own).set j none)[i]? = _
    rw [List.getElem?_set_ne (fun (z : j = i) => h (z ▸ List.mem_cons_self))]
    exact wipe_out' fun z => h (List.mem_cons_of_mem _ z)
theorem backE_out {old : SEnv} {i : Nat} : ∀ {own : List Nat}, i ∉ own → (backE old env own)[i]? = env[i]?
  | [], _ => rfl
  | j :: own, h => by
    show ((backE old env own).set j _)[i]? = _
    rw [List.getElem?_set_ne (fun (z : j = i) => h (z ▸ List.mem_cons_self))]
    exact backE_out fun z => h (List.mem_cons_of_mem _ z)
theorem backE_in {old : SEnv} {i : Nat} {sl : Sl} (hl : env.length = old.length) : ∀ {own : List Nat}, i ∈ own → (backE old env own)[i]? = some sl → old[i]? = some sl
  | j :: own, h, e => by
    have e : ((backE old env own).set j (old.getD j .no))[i]? = some sl := e
    by_cases hj : j = i
    · subst hj
      by_cases hlt : j < (backE old env own).length
      · rw [List.getElem?_set_self hlt] at e
        rw [backE_len, hl] at hlt
        rw [List.getD_eq_getElem?_getD, List.getElem?_eq_getElem hlt] at e
        rw [List.getElem?_eq_getElem hlt]
        exact e
      · rw [List.getElem?_eq_none (by simpa using hlt)] at e
        cases e
    · rw [List.getElem?_set_ne hj] at e
      rcases List.mem_cons.mp h with z | z
      · exact absurd z.symm hj
      · exact backE_in hl z e
theorem mine_back {old : SEnv} {i : Nat} {ds : List D} {own : List Nat} (hl : env.length = old.length) (m : Mine (backE old env own) i ds) : (i ∈ own ∧ Mine old i ds) ∨ (i ∉ own ∧ Mine env i ds) := by
  by_cases h : i ∈ own
  · exact .inl ⟨h, m.elim (fun z => .inl (backE_in hl h z)) fun z => .inr (backE_in hl h z)⟩
  · unfold Mine at m
    rw [backE_out h] at m
    exact .inr ⟨h, m⟩
/-- behind a block, the frame's own names as they were -/
theorem Sim.back {own : List Nat} (s1 : Sim ba K F1 H1 σ env1) (g : Go (O (L2.wipe σ own) (wipeE env1 own)) F1 H1 F H) (s : Sim ba K F H (L2.wipe σ own) en) (ho : ∀ a, O (L2.wipe σ own) en a → O (L2.wipe σ own) (wipeE env1 own) a) :
    Sim ba K F H σ (backE env1 en own) ∧ Own σ env1 (backE env1 en own) := by
  have hl : en.length = env1.length := by rw [s.len, wipe_length, s1.len]
  have away : ∀ {i : Nat} {ds : List D} {a : Addr}, i ∈ own → Mine env1 i ds → σ[i]? = some (some (.ref a)) → ¬ O (L2.wipe σ own) (wipeE env1 own) a := by
    rintro i ds a hi m e ⟨j, es, mj, ej⟩
    obtain ⟨hj, mj⟩ := mine_wipe mj
    rw [wipe_out' hj] at ej
    exact hj (s1.dis i j a ds es m mj e ej ▸ hi)
  refine ⟨⟨s.sub, by rw [backE_len, hl, s1.len], fun i d e => ?_, fun i ds m => ?_, fun i ds e => ?_, fun i j a ds es m m' e1 e2 => ?_⟩, ?_⟩
  · by_cases h : i ∈ own
    · obtain ⟨v, q1, q2⟩ := s1.sh i d (backE_in hl h e)
      exact ⟨v, q1, dp_ex g.ex _ _ q2⟩
    · rw [backE_out h] at e
      obtain ⟨v, q1, q2⟩ := s.sh i d e
      rw [wipe_out' h] at q1
      exact ⟨v, q1, q2⟩
  · rcases mine_back hl m with ⟨h, m⟩ | ⟨h, m⟩
    · obtain ⟨a, vs, q1, q2, q3, q4⟩ := s1.own i ds m
      have n := away h m q1
      exact ⟨a, vs, q1, g.keep a _ n q2, g.fz a n (by rw [q2]; simp) q3, dpa_ex g.ex _ _ q4⟩
    · obtain ⟨a, vs, q1, q2⟩ := s.own i ds m
      rw [wipe_out' h] at q1
      exact ⟨a, vs, q1, q2⟩
  · by_cases h : i ∈ own
    · exact s1.lent i ds (backE_in hl h e)
    · rw [backE_out h] at e
      have q := s.lent i ds e
      rw [wipe_out' h] at q
      exact q
  · rcases mine_back hl m with ⟨h, m⟩ | ⟨h, m⟩
    · rcases mine_back hl m' with ⟨h', m'⟩ | ⟨h', m'⟩
      · exact s1.dis i j a ds es m m' e1 e2
      · exact absurd (ho a ⟨j, es, m', by rw [wipe_out' h']; exact e2⟩) (away h m e1)
    · rcases mine_back hl m' with ⟨h', m'⟩ | ⟨h', m'⟩
      · exact absurd (ho a ⟨i, ds, m, by rw [wipe_out' h]; exact e1⟩) (away h' m' e2)
      · exact s.dis i j a ds es m m' (by rw [wipe_out' h]; exact e1) (by rw [wipe_out' h']; exact e2)
  · rintro a ⟨i, ds, m, e⟩
    rcases mine_back hl m with ⟨h, m⟩ | ⟨h, m⟩
    · exact ⟨i, ds, m, e⟩
    · obtain ⟨j, es, mj, ej⟩ := ho a ⟨i, ds, m, by rw [wipe_out' h]; exact e⟩
      obtain ⟨hj, mj⟩ := mine_wipe mj
      rw [wipe_out' hj] at ej
      exact ⟨j, es, mj, ej⟩
theorem wipe_sub : ∀ (own2 own : List Nat), (∀ i ∈ own2, i ∈ own) → L2.wipe (L2.wipe σ own2) own = L2.wipe σ own
  | [], _, _ => rfl
  | i :: own2, own, h => by
    show L2.wipe ((L2.wipe σ own2).set i none) own = _
    rw [setN_ok.wipe_set _ _ own (h i List.mem_cons_self)]
    exact wipe_sub own2 own fun j hj => h j (List.mem_cons_of_mem _ hj)
theorem LI.step {M N : Addr → Prop} {A : Addr} {os : List D} (li : LI ba K M F0 H0 τ A os F H env) (g : Go N F H F' H') (hN : ∀ x, N x → M x ∨ (H0 x = none ∧ x ≠ A)) (s : Sim ba K F' H' τ' env') (ho : ∀ a, O τ' env' a → M a) : LI ba K M F0 H0 τ' A os F' H' env' := by
  obtain ⟨vs, h1, h2⟩ := li.acc
  have nA : ¬ N A := fun z => (hN A z).elim li.no fun z => z.2 rfl
  exact ⟨s, li.go.trans g fun x z => (hN x z).imp id And.left, ho, ⟨vs, g.keep A _ nA h1, dpa_ex g.ex _ _ h2⟩, g.fz A nA (by rw [h1]; simp) li.fa, li.no⟩
theorem LI.wipe {M : Addr → Prop} {A : Addr} {os : List D} (own : List Nat) (li : LI ba K M F0 H0 τ A os F H env) : LI ba K M F0 H0 (L2.wipe τ own) A os F H (wipeE env own) :=
  li.step (N := fun _ => False) (Go.refl _ _ _) (fun _ z => z.elim) (li.sim.wipe own) fun a z => li.own a (own_wipe own a z)
end

section
variable {ba : Addr} {Φ : Fns} {Γ : Gam} {S : Sc} {m : Nat} {W : WX} {X : Cx}
theorem pgs_nm (C : Cok Φ Γ S m W X) : ∀ {is : List Nat} {xs : List Expr}, chkNm Γ S is xs = true → PGs X xs (gT.gN is) ∧ (assignEach xs X.env).length = is.length ∧ (assignEach xs X.env).findIdx? (·.1) = none
  | [], xs, h => by
    cases xs with
    | nil => exact ⟨pgs_nil, rfl, rfl⟩
    | cons _ _ => cases h
  | i :: is, xs, h => by
    cases xs with
    | nil => cases h
    | cons x xs =>
      cases x <;> first | cases h | skip
      simp only [chkNm, Bool.and_eq_true, decide_eq_true_eq] at h
      obtain ⟨⟨h1, h2⟩, h3⟩ := h
      obtain ⟨h4, h5⟩ := C.loc h2
      obtain ⟨q1, q2, q3⟩ := pgs_nm C h3
      refine ⟨pgs_cons (pg_name (by rw [C.hN]; exact C.nd) (C.ix h1) h4 h5) q1 rfl, ?_, ?_⟩
      · show (assignEach xs X.env).length + 1 = _
        rw [q2, List.length_cons]
      · show List.findIdx? (·.1) ((false, _) :: assignEach xs X.env) = none
        rw [List.findIdx?_cons, q3]
        rfl
theorem pg_T (C : Cok Φ Γ S m W X) {tg : Tg} {x : Expr} (h : chkTg Γ S tg x = true) : PG X x (gT X.K tg) := by
  cases tg with
  | one i =>
    cases x <;> first | cases h | skip
    simp only [chkTg, Bool.and_eq_true, decide_eq_true_eq] at h
    obtain ⟨h4, h5⟩ := C.loc h.2
    exact pg_name (by rw [C.hN]; exact C.nd) (C.ix h.1) h4 h5
  | many is =>
    cases x <;> first | cases h | skip
    obtain ⟨q1, q2, q3⟩ := pgs_nm C (is := is) h
    exact pg_tup C.calm q1 q2 q3

/-- one turn -/
theorem lc_turn {ba : Addr} {K : Frag} {mg : Str → Option Value} {c : IO} {e : IE} {tg : Tg} {own : List Nat} {M : Addr → Prop} {F0 H0 : Hp} {σ : L2.St} {A : Addr} {d : D} {a os : List D} {env env' : SEnv} {F H : Hp} {x : V} {Nx : Hp → Prop} (hA : H0 A = none) (htg : ∀ i ∈ tgS tg, i ∈ own)
    (es : lcStep (evC Φ c) (evE Φ e) tg own d env = .ok a env') (hlen : os.length + a.length ≤ sizeLine) (li : LI ba K M F0 H0 (L2.wipe σ own) A os F H env) (dp : Dp K F x d) (nx : ∀ F' H', LI ba K M F0 H0 (L2.wipe σ own) A (os ++ a) F' H' env' → Ex F F' → Nx H') :
    gT K tg x (L2.wipe σ own) H fun σ2 H2 => L2.wipe σ2 own = L2.wipe σ own ∧ tB' ba K mg W0 (evC Φ c) σ2 H2 fun b H3 =>
      if b = true then tE ba K mg W0 (evE Φ e) σ2 H3 fun y H4 => ∃ acc, H4 A = some (.lst acc) ∧ acc.length < sizeLine ∧ Nx (upd H4 A (.lst (acc ++ [y]))) else Nx H3 := by
  unfold lcStep at es
  cases e1 : putT env tg d with
  | none => rw [e1] at es; cases es
  | some en1 =>
    rw [e1] at es
    have es : (evC Φ c en1).bind (fun ok en2 => if ok then (evE Φ e en2).bind fun w en3 => match keepF en3 w with
      | some (d, en4) => .ok [d] (wipeE en4 own)
      | none => .stuck
    else .ok [] (wipeE en2 own)) = .ok a env' := es
    refine putT_ok li.sim dp e1 fun σ2 s2 o2 w2 => ?_
    have hw : L2.wipe σ2 own = L2.wipe σ own := (w2 own htg).trans (wipe_sub own own fun _ z => z)
    refine ⟨hw, ?_⟩
    have li2 : LI ba K M F0 H0 σ2 A os F H en1 := li.step (N := fun _ => False) (Go.refl _ _ _) (fun _ z => z.elim) s2 fun a z => li.own a (o2 a z)
    refine ⟨F, en1, s2, ?_⟩
    cases e2 : evC Φ c en1 with
    | exc c' x' en2 => rw [e2] at es; cases es
    | stuck => rw [e2] at es; cases es
    | ok okb en2 =>
      rw [e2, bind_ok] at es
      intro b F3 H3 g3 o3 s3 hb
      have hb : okb = b := hb
      subst hb
      have li3 : LI ba K M F0 H0 σ2 A os F3 H3 en2 := li2.step g3 (fun x z => .inl (li2.own x z)) s3 fun a z => li2.own a (o3 a z)
      cases okb with
      | false =>
        have es : (Rs.ok [] (wipeE en2 own) : Rs (List D)) = .ok a env' := es
        cases es
        refine if_F rfl (nx F3 H3 ?_ g3.ex)
        rw [List.append_nil, ← hw]
        exact li3.wipe own
      | true =>
        have es : (evE Φ e en2).bind (fun w en3 => match keepF en3 w with
          | some (d, en4) => .ok [d] (wipeE en4 own)
          | none => .stuck) = .ok a env' := es
        refine if_T rfl ?_
        refine ⟨F3, en2, s3, ?_⟩
        cases e3 : evE Φ e en2 with
        | exc c' x' en2 => rw [e3] at es; cases es
        | stuck => rw [e3] at es; cases es
        | ok w en3 =>
          rw [e3, bind_ok] at es
          intro y F4 H4 g4 o4 s4 r4
          have li4 : LI ba K M F0 H0 σ2 A os F4 H4 en3 := li3.step g4 (fun x z => .inl (li3.own x z)) s4 fun a z => li3.own a (o4 a z)
          cases e4 : keepF en3 w with
          | none => rw [e4] at es; cases es
          | some q =>
            obtain ⟨d', en4⟩ := q
            rw [e4] at es
            have es : (Rs.ok [d'] (wipeE en4 own) : Rs (List D)) = .ok a env' := es
            cases es
            obtain ⟨F5, g5, o5, s5, dp5, _⟩ := keepF_ok (M := fun a => O σ2 en3 a ∨ H3 a = none) s4 r4 e4 fun a => ⟨.inr, .inl⟩
            have hA3 : H3 A ≠ none := by
              obtain ⟨vs, h1, _⟩ := li3.acc
              rw [h1]; simp
            have li5 : LI ba K M F0 H0 σ2 A os F5 H4 en4 := li4.step g5 (fun x z => z.elim (fun z => .inl (li4.own x z)) fun z => .inr ⟨li3.go.fresh z, fun q => hA3 (q ▸ z)⟩) s5 fun a z => li4.own a (o5 a z)
            obtain ⟨vs, h1, h2, li6⟩ := li5.push hA dp5
            refine ⟨vs, h1, ?_, nx F5 _ ?_ ((g3.ex.trans g4.ex).trans g5.ex)⟩
            · rw [h2]
              have : ([d'] : List D).length = 1 := rfl
              omega
            · rw [← hw]
              exact li6.wipe own
/-- one turn, with a second clause -/
theorem lc2_turn {ba : Addr} {K : Frag} {mg : Str → Option Value} {c c2 : IO} {e : IE} {it2 : II} {tg tg2 : Tg} {own own2 : List Nat} {M : Addr → Prop} {F0 H0 : Hp} {σ : L2.St} {A : Addr} {d : D} {a os : List D} {env env' : SEnv} {F H : Hp} {x : V} {Nx : Hp → Prop} (hA : H0 A = none) (htg : ∀ i ∈ tgS tg, i ∈ own) (htg2 : ∀ i ∈ tgS tg2, i ∈ own2) (hsub : ∀ i ∈ own2, i ∈ own)
    (es : lc2Step (evC Φ c) (evI Φ it2) (evC Φ c2) (evE Φ e) tg tg2 own own2 d env = .ok a env') (hlen : os.length + a.length ≤ sizeLine) (li : LI ba K M F0 H0 (L2.wipe σ own) A os F H env) (dp : Dp K F x d) (nx : ∀ F' H', LI ba K M F0 H0 (L2.wipe σ own) A (os ++ a) F' H' env' → Ex F F' → Nx H') :
    gT K tg x (L2.wipe σ own) H fun σ2 H2 => L2.wipe σ2 own = L2.wipe σ own ∧ tB' ba K mg W0 (evC Φ c) σ2 H2 fun b H3 =>
      if b = true then tI ba K mg W0 (evI Φ it2) σ2 H3 fun J1 H4 => ∃ W1 : Nat → Nat → Hp → Prop, (∃ m, W1 0 m H4) ∧ ∀ j k H, W1 j k H →
        (J1.stop j H ∧ Nx H) ∨ (J1.go j H ∧ ∃ Nx1 : Hp → Prop, (∀ H', Nx1 H' → ∃ k', k' < k ∧ W1 (j + 1) k' H') ∧ ∀ x H', J1.yld j H x H' → gT K tg2 x (L2.wipe σ2 own2) H' fun σ3 H5 => L2.wipe σ3 own2 = L2.wipe σ2 own2 ∧ tB' ba K mg W0 (evC Φ c2) σ3 H5 fun b H6 =>
          if b = true then tE ba K mg W0 (evE Φ e) σ3 H6 fun y H7 => ∃ acc, H7 A = some (.lst acc) ∧ acc.length < sizeLine ∧ Nx1 (upd H7 A (.lst (acc ++ [y]))) else Nx1 H6)
      else Nx H3 := by
  unfold lc2Step at es
  cases e1 : putT env tg d with
  | none => rw [e1] at es; cases es
  | some en1 =>
    rw [e1] at es
    have es : (evC Φ c en1).bind (fun ok en2 => if ok then (evI Φ it2 en2).bind fun ds2 en3 =>
        match lcL (lcStep (evC Φ c2) (evE Φ e) tg2 own2) ds2 (wipeE en3 own2) with
        | .ok out en4 => .ok out (wipeE en4 own)
        | _ => .stuck
      else .ok [] (wipeE en2 own)) = .ok a env' := es
    refine putT_ok li.sim dp e1 fun σ2 s2 o2 w2 => ?_
    have hw : L2.wipe σ2 own = L2.wipe σ own := (w2 own htg).trans (wipe_sub own own fun _ z => z)
    refine ⟨hw, ?_⟩
    have li2 : LI ba K M F0 H0 σ2 A os F H en1 := li.step (N := fun _ => False) (Go.refl _ _ _) (fun _ z => z.elim) s2 fun a z => li.own a (o2 a z)
    refine ⟨F, en1, s2, ?_⟩
    cases e2 : evC Φ c en1 with
    | exc c' x' en2 => rw [e2] at es; cases es
    | stuck => rw [e2] at es; cases es
    | ok okb en2 =>
      rw [e2, bind_ok] at es
      intro b F3 H3 g3 o3 s3 hb
      have hb : okb = b := hb
      subst hb
      have li3 : LI ba K M F0 H0 σ2 A os F3 H3 en2 := li2.step g3 (fun x z => .inl (li2.own x z)) s3 fun a z => li2.own a (o3 a z)
      cases okb with
      | false =>
        have es : (Rs.ok [] (wipeE en2 own) : Rs (List D)) = .ok a env' := es
        cases es
        refine if_F rfl (nx F3 H3 ?_ g3.ex)
        rw [List.append_nil, ← hw]
        exact li3.wipe own
      | true =>
        have es : (evI Φ it2 en2).bind (fun ds2 en3 =>
          match lcL (lcStep (evC Φ c2) (evE Φ e) tg2 own2) ds2 (wipeE en3 own2) with
          | .ok out en4 => .ok out (wipeE en4 own)
          | _ => .stuck) = .ok a env' := es
        refine if_T rfl ?_
        refine ⟨F3, en2, s3, ?_⟩
        cases e3 : evI Φ it2 en2 with
        | exc c' x' en2 => rw [e3] at es; cases es
        | stuck => rw [e3] at es; cases es
        | ok ds2 en3 =>
          rw [e3, bind_ok] at es
          intro J1 F4 H4 g4 o4 s4 y4
          have li4 : LI ba K M F0 H0 σ2 A os F4 H4 en3 := li3.step g4 (fun x z => .inl (li3.own x z)) s4 fun a z => li3.own a (o4 a z)
          cases e4 : lcL (lcStep (evC Φ c2) (evE Φ e) tg2 own2) ds2 (wipeE en3 own2) with
          | exc c' x' en2 => rw [e4] at es; cases es
          | stuck => rw [e4] at es; cases es
          | ok out en4 =>
            rw [e4] at es
            have es : (Rs.ok out (wipeE en4 own) : Rs (List D)) = .ok a env' := es
            cases es
            refine lc_loop (G := fun x H' Nx1 => gT K tg2 x (L2.wipe σ2 own2) H' fun σ3 H5 => L2.wipe σ3 own2 = L2.wipe σ2 own2 ∧ tB' ba K mg W0 (evC Φ c2) σ3 H5 fun b H6 =>
              if b = true then tE ba K mg W0 (evE Φ e) σ3 H6 fun y H7 => ∃ acc, H7 A = some (.lst acc) ∧ acc.length < sizeLine ∧ Nx1 (upd H7 A (.lst (acc ++ [y]))) else Nx1 H6) y4 e4 (li4.wipe own2) (fun d a' env env' os' F5 H5 x Nx1 es5 hl5 li5 dp5 nx5 => ?_) fun F5 H5 li5 ex5 => ?_
            · refine lc_turn hA htg2 es5 ?_ li5 dp5 nx5
              refine Nat.le_trans hl5 ?_
              rw [List.length_append]
              exact hlen
            · refine nx F5 H5 ?_ ((g3.ex.trans g4.ex).trans ex5)
              · have := li5.wipe own
                rw [wipe_sub own2 own hsub, hw] at this
                exact this

/-! ### comprehensions -/
theorem lcEnd_ok {σ : L2.St} {F1 H1 H0 : Hp} {env1 : SEnv} {own : List Nat} {r : Rs (List D)} {Q : VK} (p : Post ba X.K X.mg W σ (RE X.K σ H0) F1 H1 env1 (lcEnd env1 own r) Q) : ∃ out en, r = .ok out en ∧ szOk out.length = true ∧ Post ba X.K X.mg W σ (RE X.K σ H0) F1 H1 env1 (.ok (.tmp out) (backE env1 en own)) Q := by
  unfold lcEnd at p
  cases r with
  | exc c x e => exact p.elim
  | stuck => exact p.elim
  | ok out en =>
    cases hz : szOk out.length with
    | false => simp only [hz] at p; exact p.elim
    | true => simp only [hz, if_true] at p; exact ⟨out, en, rfl, hz, p⟩
/-- the new list, ahead of the first turn -/
theorem LI.first {σ : L2.St} {F H : Hp} {env : SEnv} {A : Addr} {own : List Nat} (s : Sim ba X.K F H σ env) (hA : H A = none) : LI ba X.K (O (L2.wipe σ own) (wipeE env own)) F H (L2.wipe σ own) A [] F (upd H A (.lst [])) (wipeE env own) := by
  have nO : ¬ O σ env A := fun z => by
    obtain ⟨_, vs, h⟩ := s.ofree z
    rw [hA] at h
    cases h
  have g : Go (fun _ => False) F H F (upd H A (.lst [])) := Go.newM hA
  have s' : Sim ba X.K F (upd H A (.lst [])) σ env := s.go g (s.sub.right (s.sub.none hA)) fun _ _ z => z
  exact ⟨s'.wipe own, Go.newM hA, fun _ z => z, ⟨[], upd_same, .nil⟩, s.sub.none hA, fun z => nO (own_wipe own A z)⟩
theorem lc_fin {σ : L2.St} {F1 H1 H0 F H : Hp} {env1 en : SEnv} {own : List Nat} {A : Addr} {out : List D} {Q : VK} (s1 : Sim ba X.K F1 H1 σ env1) (p : Post ba X.K X.mg W σ (RE X.K σ H0) F1 H1 env1 (.ok (.tmp out) (backE env1 en own)) Q)
    (li : LI ba X.K (O (L2.wipe σ own) (wipeE env1 own)) F1 H1 (L2.wipe σ own) A out F H en) (hA : H1 A = none) (h0 : ∀ a, H1 a = none → H0 a = none) : Q (.ref A) H := by
  obtain ⟨s, o⟩ := s1.back li.go li.sim li.own
  obtain ⟨vs, h1, h2⟩ := li.acc
  refine p (.ref A) F H (li.go.mono fun x z => .inl (own_wipe own x z)) o s ⟨A, vs, rfl, h1, li.fa, fun z => ?_, h0 A hA, h2⟩
  obtain ⟨_, vs', h⟩ := s1.ofree (o A z)
  rw [hA] at h
  cases h
theorem bigOut {out : List D} (h : szOk out.length = true) : out.length ≤ sizeLine := szOk_le h
theorem rd_lc {c : IO} {e : IE} {it : II} {tg : Tg} {own : List Nat} (htg : ∀ i ∈ tgS tg, i ∈ own) {σ : L2.St} {H : Hp} {Q : VK} (q : TE' ba X W (evE Φ (.lc e tg it c own)) σ H Q) :
    tLc (tI ba X.K X.mg W (evI Φ it)) (gT X.K tg) (tB' ba X.K X.mg W0 (evC Φ c)) (tE ba X.K X.mg W0 (evE Φ e)) own σ H Q := by
  obtain ⟨F, env, s, q⟩ := q
  refine ⟨F, env, s, (Post.bind (Rel1 := RY X.K σ H) q).imp ?_⟩
  rintro J H1 ⟨ds, env1, F1, g1, o1, s1, y1, p⟩ A hA
  obtain ⟨out, en, e1, hz, p⟩ := lcEnd_ok p
  refine lc_loop (G := fun x H' Nx => gT X.K tg x (L2.wipe σ own) H' fun σ2 H2 => L2.wipe σ2 own = L2.wipe σ own ∧ tB' ba X.K X.mg W0 (evC Φ c) σ2 H2 fun b H3 =>
      if b = true then tE ba X.K X.mg W0 (evE Φ e) σ2 H3 fun y H4 => ∃ acc, H4 A = some (.lst acc) ∧ acc.length < sizeLine ∧ Nx (upd H4 A (.lst (acc ++ [y]))) else Nx H3) y1 e1 (LI.first s1 hA) (fun d a env env' os F5 H5 x Nx es5 hl5 li5 dp5 nx5 => ?_) fun F5 H5 li5 ex5 => ?_
  · exact lc_turn hA htg es5 (Nat.le_trans hl5 (bigOut hz)) li5 dp5 nx5
  · exact lc_fin s1 p li5 hA fun a z => g1.fresh z
theorem rd_lc2 {c c2 : IO} {e : IE} {it it2 : II} {tg tg2 : Tg} {own own2 : List Nat} (htg : ∀ i ∈ tgS tg, i ∈ own) (htg2 : ∀ i ∈ tgS tg2, i ∈ own2) (hsub : ∀ i ∈ own2, i ∈ own) {σ : L2.St} {H : Hp} {Q : VK} (q : TE' ba X W (evE Φ (.lc2 e tg it c tg2 it2 c2 own own2)) σ H Q) :
    tLc2 (tI ba X.K X.mg W (evI Φ it)) (gT X.K tg) (tB' ba X.K X.mg W0 (evC Φ c)) (tI ba X.K X.mg W0 (evI Φ it2)) (gT X.K tg2) (tB' ba X.K X.mg W0 (evC Φ c2)) (tE ba X.K X.mg W0 (evE Φ e)) own own2 σ H Q := by
  obtain ⟨F, env, s, q⟩ := q
  refine ⟨F, env, s, (Post.bind (Rel1 := RY X.K σ H) q).imp ?_⟩
  rintro J H1 ⟨ds, env1, F1, g1, o1, s1, y1, p⟩ A hA
  obtain ⟨out, en, e1, hz, p⟩ := lcEnd_ok p
  refine lc_loop (G := fun x H' Nx => gT X.K tg x (L2.wipe σ own) H' fun σ2 H2 => L2.wipe σ2 own = L2.wipe σ own ∧ tB' ba X.K X.mg W0 (evC Φ c) σ2 H2 fun b H3 =>
      if b = true then tI ba X.K X.mg W0 (evI Φ it2) σ2 H3 fun J1 H4 => ∃ W1 : Nat → Nat → Hp → Prop, (∃ m, W1 0 m H4) ∧ ∀ j k H, W1 j k H →
        (J1.stop j H ∧ Nx H) ∨ (J1.go j H ∧ ∃ Nx1 : Hp → Prop, (∀ H', Nx1 H' → ∃ k', k' < k ∧ W1 (j + 1) k' H') ∧ ∀ x H', J1.yld j H x H' → gT X.K tg2 x (L2.wipe σ2 own2) H' fun σ3 H5 => L2.wipe σ3 own2 = L2.wipe σ2 own2 ∧ tB' ba X.K X.mg W0 (evC Φ c2) σ3 H5 fun b H6 =>
          if b = true then tE ba X.K X.mg W0 (evE Φ e) σ3 H6 fun y H7 => ∃ acc, H7 A = some (.lst acc) ∧ acc.length < sizeLine ∧ Nx1 (upd H7 A (.lst (acc ++ [y]))) else Nx1 H6)
      else Nx H3) y1 e1 (LI.first s1 hA) (fun d a env env' os F5 H5 x Nx es5 hl5 li5 dp5 nx5 => ?_) fun F5 H5 li5 ex5 => ?_
  · exact lc2_turn hA htg htg2 hsub es5 (Nat.le_trans hl5 (bigOut hz)) li5 dp5 nx5
  · exact lc_fin s1 p li5 hA fun a z => g1.fresh z
end
end PyE

set_option Elab.async false
set_option linter.all false
set_option autoImplicit false
set_option maxRecDepth 100000
set_option maxHeartbeats 4000000
/-! # All expressions -/
namespace PyE
open PySem PySem.Spec PyProof.Rows L2
section
variable {ba : Addr} {Φ : Fns} {Γ : Gam} {m : Nat}
def R3 (ba : Addr) (Φ : Fns) (X : Cx) (W : WX) (e : IE) (x : Expr) : Prop := PE X x (TE' ba X W (evE Φ e)) ∧ PT X x (tB' ba X.K X.mg W (evT Φ e)) ∧ ((∃ op vs pos, x = .BoolOp op vs pos) → PW X x (tB' ba X.K X.mg W (evT Φ e)))
theorem R3.plain {X : Cx} {W : WX} {e : IE} {x : Expr} (hp : plainB x = true) (h : PE X x (TE' ba X W (evE Φ e))) : R3 ba Φ X W e x :=
  ⟨h, t_plain hp h, fun ⟨_, _, _, z⟩ => by subst z; cases hp⟩
theorem R3.mk' {X : Cx} {W : WX} {e : IE} {x : Expr} (h : PE X x (TE' ba X W (evE Φ e))) (h2 : PT X x (tB' ba X.K X.mg W (evT Φ e))) (hn : ∀ op vs pos, x ≠ .BoolOp op vs pos) : R3 ba Φ X W e x :=
  ⟨h, h2, fun ⟨o, v, p, z⟩ => absurd z (hn o v p)⟩
theorem mem_all {own : List Nat} {l : List Nat} (h : l.all (fun i => own.contains i) = true) : ∀ i ∈ l, i ∈ own := fun i hi => by
  have := List.all_eq_true.mp h i hi
  simpa using this
theorem nodup' {S : Sc} {W : WX} {X : Cx} (C : Cok Φ Γ S m W X) : X.N.Nodup := by rw [C.hN]; exact C.nd
theorem blkok {S : Sc} {W : WX} {X : Cx} (C : Cok Φ Γ S m W X) {scope : Scope} {own : List Nat} (h : blkC Γ.N S.sc scope (ownP Γ.N own) = true) : BlkOk X.N X.env.scope scope (ownP Γ.N own) := by
  rw [C.hN, C.hsc]; exact blkOk_by h
mutual
theorem sndE : ∀ (e : IE) {S : Sc} {W : WX} {X : Cx} (C : Cok Φ Γ S m W X) (x : Expr), chkE Γ S e x = true → R3 ba Φ X W e x
  | .k d, S, W, X, C, x, hc => by
    refine R3.plain ?_ (p_k hc)
    unfold chkE at hc
    split at hc
    · rfl
    · cases hc
  | .v i, S, W, X, C, x, hc => by
    refine R3.plain ?_ (p_v C hc)
    unfold chkE at hc
    split at hc
    · rfl
    · cases hc
  | .g n d, S, W, X, C, x, hc => by
    refine R3.plain ?_ (p_g C hc)
    unfold chkE at hc
    split at hc
    · rfl
    · cases hc
  | .bin op a b, S, W, X, C, x, hc => by
    unfold chkE at hc
    split at hc
    · simp only [Bool.and_eq_true, decide_eq_true_eq] at hc
      obtain ⟨⟨rfl, h1⟩, h2⟩ := hc
      exact R3.plain rfl (p_bin C (sndE a C _ h1).1 (sndE b C _ h2).1)
    · cases hc
  | .neg a, S, W, X, C, x, hc => by
    unfold chkE at hc
    split at hc
    · exact R3.plain rfl (p_neg C (sndE a C _ hc).1)
    · cases hc
  | .cmp op a b, S, W, X, C, x, hc => by
    unfold chkE at hc
    split at hc
    · simp only [Bool.and_eq_true, decide_eq_true_eq] at hc
      obtain ⟨⟨⟨rfl, h0⟩, h1⟩, h2⟩ := hc
      exact R3.mk' (p_cmp C h0 (sndE a C _ h1).1 (sndE b C _ h2).1) (t_cmp C h0 (sndE a C _ h1).1 (sndE b C _ h2).1) fun _ _ _ z => by cases z
    · cases hc
  | .cmp2 op op' a b c, S, W, X, C, x, hc => by
    unfold chkE at hc
    split at hc
    · simp only [Bool.and_eq_true, decide_eq_true_eq] at hc
      obtain ⟨⟨⟨⟨⟨rfl, rfl⟩, h0⟩, h1⟩, h2⟩, h3⟩ := hc
      exact R3.mk' (p_cmp2 C h0 (sndE a C _ h1).1 (sndE b C _ h2).1 (sndE c C _ h3).1) (t_cmp2 C h0 (sndE a C _ h1).1 (sndE b C _ h2).1 (sndE c C _ h3).1) fun _ _ _ z => by cases z
    · cases hc
  | .and a b, S, W, X, C, x, hc => by
    unfold chkE at hc
    split at hc
    · rename_i y z r pos
      simp only [Bool.and_eq_true] at hc
      obtain ⟨h1, h2⟩ := hc
      obtain ⟨q1, q2, _⟩ := sndE a C _ h1
      cases r with
      | nil =>
        obtain ⟨p1, p2, _⟩ := sndE b C _ h2
        have w := t_and q2 (pw_and1 p2) (pos := pos)
        exact ⟨p_and q1 (pe_one p1), w.pt, fun _ => w⟩
      | cons z' r =>
        obtain ⟨p1, _, p3⟩ := sndE b C _ h2
        have w := t_and q2 (p3 ⟨_, _, _, rfl⟩)
        exact ⟨p_and q1 p1, w.pt, fun _ => w⟩
    · cases hc
  | .or a b, S, W, X, C, x, hc => by
    unfold chkE at hc
    split at hc
    · rename_i y z r pos
      simp only [Bool.and_eq_true] at hc
      obtain ⟨h1, h2⟩ := hc
      obtain ⟨q1, q2, _⟩ := sndE a C _ h1
      cases r with
      | nil =>
        obtain ⟨p1, p2, _⟩ := sndE b C _ h2
        have w := t_or q2 (pw_or1 p2) (pos := pos)
        exact ⟨p_or q1 (pe_one p1), w.pt, fun _ => w⟩
      | cons z' r =>
        obtain ⟨p1, _, p3⟩ := sndE b C _ h2
        have w := t_or q2 (p3 ⟨_, _, _, rfl⟩)
        exact ⟨p_or q1 p1, w.pt, fun _ => w⟩
    · cases hc
  | .nt a, S, W, X, C, x, hc => by
    unfold chkE at hc
    split at hc
    · obtain ⟨q1, q2, _⟩ := sndE a C _ hc
      exact R3.mk' (p_nt q1) (t_nt q2) fun _ _ _ z => by cases z
    · cases hc
  | .ife t a b, S, W, X, C, x, hc => by
    unfold chkE at hc
    split at hc
    · simp only [Bool.and_eq_true] at hc
      obtain ⟨⟨h1, h2⟩, h3⟩ := hc
      obtain ⟨q1, q2, _⟩ := sndE t C _ h1
      obtain ⟨r1, r2, _⟩ := sndE a C _ h2
      obtain ⟨s1, s2, _⟩ := sndE b C _ h3
      exact R3.mk' (p_ife q2 r1 s1) (t_ife q2 r2 s2) fun _ _ _ z => by cases z
    · cases hc
  | .tup es, S, W, X, C, x, hc => by
    unfold chkE at hc
    split at hc
    · exact R3.plain rfl (p_tup (sndEs es C _ hc))
    · cases hc
  | .lst es, S, W, X, C, x, hc => by
    unfold chkE at hc
    split at hc
    · exact R3.plain rfl (p_lst (sndEs es C _ hc))
    · cases hc
  | .ix a b, S, W, X, C, x, hc => by
    unfold chkE at hc
    split at hc
    · simp only [Bool.and_eq_true] at hc
      obtain ⟨⟨h0, h1⟩, h2⟩ := hc
      exact R3.plain rfl (p_ix h0 (sndE a C _ h1).1 (sndE b C _ h2).1)
    · cases hc
  | .sl a lo hi, S, W, X, C, x, hc => by
    unfold chkE at hc
    split at hc
    · simp only [Bool.and_eq_true] at hc
      obtain ⟨⟨h0, h1⟩, h2⟩ := hc
      exact R3.plain rfl (p_sl (sndE a C _ h0).1 (sndO lo C _ h1) (sndO hi C _ h2))
    · cases hc
  | .call f es, S, W, X, C, x, hc => by
    unfold chkE at hc
    split at hc
    · rename_i g p ys pos
      simp only [Bool.and_eq_true, beq_iff_eq] at hc
      obtain ⟨⟨⟨rfl, h1⟩, h2⟩, h3⟩ := hc
      exact R3.plain rfl (p_call C h3 h1 h2 (sndEs es C _ h3))
    · cases hc
  | .callb f i es, S, W, X, C, x, hc => by
    unfold chkE at hc
    split at hc
    · simp only [Bool.and_eq_true, beq_iff_eq, decide_eq_true_eq] at hc
      obtain ⟨⟨⟨⟨⟨⟨rfl, h1⟩, h2⟩, h3⟩, h4⟩, h5⟩, h6⟩ := hc
      exact R3.plain rfl (p_callb C h6 h1 h2 h3 h4 h5 (sndEs es C _ h6))
    · cases hc
  | .bf f es, S, W, X, C, x, hc => by
    unfold chkE at hc
    split at hc
    · simp only [Bool.and_eq_true, beq_iff_eq] at hc
      obtain ⟨⟨h0, h1⟩, h2⟩ := hc
      exact R3.plain rfl (p_bf C h2 h1 h0 (sndEs es C _ h2))
    · cases hc
  | .isi a ts tupled, S, W, X, C, x, hc => by
    unfold chkE at hc
    split at hc
    · rename_i g p y z pos
      simp only [Bool.and_eq_true, beq_iff_eq] at hc
      obtain ⟨⟨⟨⟨h0, h1⟩, h2⟩, h3⟩, h4⟩ := hc
      split at h3
      · simp only [Bool.and_eq_true, beq_iff_eq] at h3
        exact R3.plain rfl (p_isi1 C h1 h0 h4 h3.1 h3.2 (sndE a C _ h2).1)
      · simp only [Bool.and_eq_true, decide_eq_true_eq] at h3
        exact R3.plain rfl (p_isiT C h1 h0 h4 h3.1 h3.2 (sndE a C _ h2).1)
      · cases h3
    · cases hc
  | .cnt a e, S, W, X, C, x, hc => by
    unfold chkE at hc
    split at hc
    · simp only [Bool.and_eq_true, beq_iff_eq] at hc
      obtain ⟨⟨⟨⟨⟨h0, h1⟩, h2⟩, h3⟩, h4⟩, h5⟩ := hc
      exact R3.plain rfl (p_cnt C h0 (by rw [h1]; exact beq_self_eq_true _) h2 h3 (sndE a C _ h4).1 (sndE e C _ h5).1)
    · cases hc
  | .sset a, S, W, X, C, x, hc => by
    unfold chkE at hc
    split at hc
    · simp only [Bool.and_eq_true, beq_iff_eq] at hc
      obtain ⟨⟨⟨⟨⟨h0, h1⟩, h2⟩, h3⟩, h4⟩, h5⟩ := hc
      exact R3.plain rfl (p_sset C h1 h0 h3 h2 h4 (sndE a C _ h5).1)
    · cases hc
  | .lnset a, S, W, X, C, x, hc => by
    unfold chkE at hc
    split at hc
    · simp only [Bool.and_eq_true, beq_iff_eq] at hc
      obtain ⟨⟨⟨⟨⟨h0, h1⟩, h2⟩, h3⟩, h4⟩, h5⟩ := hc
      exact R3.plain rfl (p_lnset C h1 h0 h3 h2 h4 (sndE a C _ h5).1)
    · cases hc
  | .mth f a b, S, W, X, C, x, hc => by
    unfold chkE at hc
    split at hc
    · simp only [Bool.and_eq_true, beq_iff_eq] at hc
      obtain ⟨⟨⟨⟨⟨⟨h0, h1⟩, h2⟩, h3⟩, h4⟩, h5⟩, h6⟩ := hc
      exact R3.plain rfl (p_mth C h1 h0 h2 h3 h4 (sndE a C _ h5).1 (sndE b C _ h6).1)
    · cases hc
  | .lc e tg it c own, S, W, X, C, x, hc => by
    unfold chkE at hc
    split at hc
    · rename_i y tgx itx ifs scope pos
      simp only [Bool.and_eq_true] at hc
      obtain ⟨⟨⟨⟨⟨⟨h0, h1⟩, h2⟩, h3⟩, h4⟩, h5⟩, h6⟩ := hc
      refine R3.plain rfl (pe_imp (pe_lc (g := gT X.K tg) (tt := tB' ba X.K X.mg W0 (evC Φ c)) (te := tE ba X.K X.mg W0 (evE Φ e)) C.calm (nodup' C) (sndI it C _ _ h2) (blkok C h0) (fun s H A cl fp => pg_T (C.blk scope s H A cl fp) h3) (fun s H A cl fp => sndC c (C.blk scope s H A cl fp) _ h5) (fun s H A cl fp => (sndE e (C.blk scope s H A cl fp) _ h6).1) (folded_of h1)) fun σ H Q q => ?_)
      rw [ownP_snd]
      exact rd_lc (mem_all h4) q
    · cases hc
  | .lc2 e tg it c tg2 it2 c2 own own2, S, W, X, C, x, hc => by
    unfold chkE at hc
    split at hc
    · rename_i y tgx itx ifs tgx2 itx2 ifs2 scope pos
      simp only [Bool.and_eq_true] at hc
      obtain ⟨⟨⟨⟨⟨⟨⟨⟨⟨⟨⟨⟨h0, h1⟩, h1'⟩, h2⟩, h3⟩, h4⟩, h5⟩, h6⟩, h7⟩, h8⟩, h9⟩, h10⟩, h11⟩ := hc
      refine R3.plain rfl (pe_imp (pe_lc2 (g := gT X.K tg) (g1 := gT X.K tg2) (vs1 := own2) (tt := tB' ba X.K X.mg W0 (evC Φ c)) (te := tE ba X.K X.mg W0 (evE Φ e)) (wi1 := tI ba X.K X.mg W0 (evI Φ it2)) (tt1 := tB' ba X.K X.mg W0 (evC Φ c2)) C.calm (nodup' C) (sndI it C _ _ h2) (blkok C h0) (fun i hi => by rw [ownP_snd]; exact mem_all h6 i hi) (fun s H A cl fp => pg_T (C.blk scope s H A cl fp) h3) (fun s H A cl fp => sndC c (C.blk scope s H A cl fp) _ h5)
        (fun s H A cl fp => sndI it2 (C.blk scope s H A cl fp) _ _ h7) (fun s H A cl fp => pg_T (C.blk scope s H A cl fp) h8) (fun s H A cl fp => sndC c2 (C.blk scope s H A cl fp) _ h10)
        (fun s H A cl fp => (sndE e (C.blk scope s H A cl fp) _ h11).1) (folded_of h1) (fun env x => folded_of h1' x)) fun σ H Q q => ?_)
      rw [ownP_snd]
      exact rd_lc2 (mem_all h4) (mem_all h9) (mem_all h6) q
    · cases hc
theorem sndEs : ∀ (es : IEs) {S : Sc} {W : WX} {X : Cx} (C : Cok Φ Γ S m W X) (xs : List Expr), chkEs Γ S es xs = true → PA X xs (tEs ba X.K X.mg W (evEs Φ es))
  | .nil, S, W, X, C, xs, hc => by
    unfold chkEs at hc
    split at hc
    · exact a_nil
    · cases hc
  | .cons e es, S, W, X, C, xs, hc => by
    unfold chkEs at hc
    split at hc
    · simp only [Bool.and_eq_true] at hc
      exact a_cons hc.1.1 (sndE e C _ hc.1.2).1 (sndEs es C _ hc.2)
    · cases hc
theorem sndO : ∀ (o : IO) {S : Sc} {W : WX} {X : Cx} (C : Cok Φ Γ S m W X) (x : Option Expr), chkO Γ S o x = true → PO X x (tO ba X.K X.mg W (evO Φ o))
  | .none, S, W, X, C, x, hc => by
    unfold chkO at hc
    split at hc
    · exact o_none
    · cases hc
  | .some e, S, W, X, C, x, hc => by
    unfold chkO at hc
    split at hc
    · exact o_some (sndE e C _ hc).1
    · cases hc
theorem sndC : ∀ (o : IO) {S : Sc} {W : WX} {X : Cx} (C : Cok Φ Γ S m W X) (xs : List Expr), chkC Γ S o xs = true → PTs X xs (tB' ba X.K X.mg W (evC Φ o))
  | .none, S, W, X, C, xs, hc => by
    unfold chkC at hc
    split at hc
    · exact pts_imp pts_nil fun σ H Q q => by
        obtain ⟨F, env, s, q⟩ := q
        exact post_it (H0 := H) s q
    · cases hc
  | .some e, S, W, X, C, xs, hc => by
    unfold chkC at hc
    split at hc
    · exact pts_one (sndE e C _ hc).2.1
    · cases hc
theorem sndI : ∀ (it : II) {S : Sc} {W : WX} {X : Cx} (C : Cok Φ Γ S m W X) (tg x : Expr), chkI Γ S it tg x = true → PI X tg x (tI ba X.K X.mg W (evI Φ it))
  | .seq e, S, W, X, C, tg, x, hc => by
    unfold chkI at hc
    exact i_seq (sndE e C _ hc).1
  | .r1 a, S, W, X, C, tg, x, hc => by
    unfold chkI at hc
    split at hc
    · simp only [Bool.and_eq_true, beq_iff_eq] at hc
      obtain ⟨⟨⟨h0, h1⟩, h2⟩, h3⟩ := hc
      exact i_r1 C h1 h0 h2 (sndE a C _ h3).1
    · cases hc
  | .r2 a b, S, W, X, C, tg, x, hc => by
    unfold chkI at hc
    split at hc
    · simp only [Bool.and_eq_true, beq_iff_eq] at hc
      obtain ⟨⟨⟨⟨⟨h0, h1⟩, h2⟩, h3⟩, h4⟩, h5⟩ := hc
      exact i_r2 C h1 h0 h2 h3 (sndE a C _ h4).1 (sndE b C _ h5).1
    · cases hc
  | .r3 a b c, S, W, X, C, tg, x, hc => by
    unfold chkI at hc
    split at hc
    · simp only [Bool.and_eq_true, beq_iff_eq] at hc
      obtain ⟨⟨⟨⟨⟨⟨⟨h0, h1⟩, h2⟩, h3⟩, h3'⟩, h4⟩, h5⟩, h6⟩ := hc
      exact i_r3 C h1 h0 h2 h3 h3' (sndE a C _ h4).1 (sndE b C _ h5).1 (sndE c C _ h6).1
    · cases hc
  | .enum e, S, W, X, C, tg, x, hc => by
    unfold chkI at hc
    split at hc
    · simp only [Bool.and_eq_true, beq_iff_eq] at hc
      obtain ⟨⟨⟨h0, h1⟩, h2⟩, h3⟩ := hc
      exact i_enum C h1 h0 h2 (sndE e C _ h3).1
    · cases hc
end
end
end PyE

set_option Elab.async false
set_option linter.all false
set_option autoImplicit false
set_option maxRecDepth 100000
set_option maxHeartbeats 4000000
/-! # Statements: what the evaluator promises of them -/
namespace PyE
open PySem PySem.Spec PyProof.Rows L2
section
variable {ba : Addr} {K : Frag} {mg : Str → Option Value} {W : WX}
def FPost (ba : Addr) (K : Frag) (mg : Str → Option Value) (W : WX) (M : Addr → Prop) (F H : Hp) (Z : Ends) (r : FR) : Prop := match r with
  | .nxt e => ∀ σ' F' H', Go M F H F' H' → (∀ a, O σ' e a → M a ∨ H a = none) → Sim ba K F' H' σ' e → Z.nx σ' H'
  | .brk e => ∀ σ' F' H', Go M F H F' H' → (∀ a, O σ' e a → M a ∨ H a = none) → Sim ba K F' H' σ' e → Z.bk σ' H'
  | .cnt e => ∀ σ' F' H', Go M F H F' H' → (∀ a, O σ' e a → M a ∨ H a = none) → Sim ba K F' H' σ' e → Z.ct σ' H'
  | .ret d e => ∀ v σ' F' H', Go M F H F' H' → (∀ a, O σ' e a → M a ∨ H a = none) → Sim ba K F' H' σ' e → Dp K F' v d → Z.rt v H'
  | .exc c x e => ∀ d σ' F' H', Go M F H F' H' → (∀ a, O σ' e a → M a ∨ H a = none) → Sim ba K F' H' σ' e → XAt K F' H' d x → ∀ C, mg c = some (.ref C) → W (.ref C) (some d) σ' H'
  | .stuck => False
theorem FPost.go {M M' : Addr → Prop} {F H F1 H1 : Hp} {Z : Ends} {r : FR} (h : FPost ba K mg W M F H Z r) (g : Go M F H F1 H1) (hm : ∀ x, M' x → M x ∨ H x = none) : FPost ba K mg W M' F1 H1 Z r := by
  have own : ∀ {σ' : L2.St} {e : SEnv}, (∀ a, O σ' e a → M' a ∨ H1 a = none) → ∀ a, O σ' e a → M a ∨ H a = none := fun h a z => (h a z).elim (hm a) fun q => .inr (g.fresh q)
  cases r with
  | nxt e => exact fun σ' F' H' g' o s => h σ' F' H' (g.trans g' hm) (own o) s
  | brk e => exact fun σ' F' H' g' o s => h σ' F' H' (g.trans g' hm) (own o) s
  | cnt e => exact fun σ' F' H' g' o s => h σ' F' H' (g.trans g' hm) (own o) s
  | ret d e => exact fun v σ' F' H' g' o s => h v σ' F' H' (g.trans g' hm) (own o) s
  | exc c x e => exact fun d σ' F' H' g' o s => h d σ' F' H' (g.trans g' hm) (own o) s
  | stuck => exact h
abbrev Up (M : Addr → Prop) (H : Hp) : Addr → Prop := fun x => M x ∨ H x = none
theorem FPost.toF {α β : Type} {M : Addr → Prop} {F H : Hp} {Z : Ends} {σ : L2.St} {env : SEnv} {Rel : Hp → Hp → SEnv → α → β → Prop} {r : Rs α} {f : α → SEnv → FR} (hM : ∀ a, O σ env a → M a) (h : FPost ba K mg W M F H Z (r.toF f)) :
    Post ba K mg W σ Rel F H env r (fun b H1 => ∃ a env1 F1, Go M F H F1 H1 ∧ Own σ env env1 ∧ Sim ba K F1 H1 σ env1 ∧ Rel F1 H1 env1 a b ∧ FPost ba K mg W (Up M H) F1 H1 Z (f a env1)) := by
  cases r with
  | ok a e =>
    intro b F1 H1 g o s q
    have g' : Go M F H F1 H1 := g.mono fun x z => .inl (hM x z)
    have h : FPost ba K mg W M F H Z (f a e) := h
    exact ⟨a, e, F1, g', o, s, q, h.go g' fun x z => z⟩
  | exc c x e =>
    have h : FPost ba K mg W M F H Z (.exc c x e) := h
    intro d F' H' g o s xa C hC
    exact h d σ F' H' (g.mono fun x z => .inl (hM x z)) (fun a z => .inl (hM a (o a z))) s xa C hC
  | stuck => exact h
theorem fone {M : Addr → Prop} {F H : Hp} {Z : Ends} {σ : L2.St} {env : SEnv} {A : SEnv → Rs Vw} {k : Vw → SEnv → FR} (s : Sim ba K F H σ env) (hM : ∀ a, O σ env a → M a) (h : FPost ba K mg W M F H Z ((A env).toF k)) :
    tE ba K mg W A σ H (fun v1 H1 => ∃ x env1 F1, Go M F H F1 H1 ∧ (∀ a, O σ env1 a → Up M H a) ∧ Sim ba K F1 H1 σ env1 ∧ RE K σ H F1 H1 env1 x v1 ∧ FPost ba K mg W (Up M H) F1 H1 Z (k x env1)) :=
  ⟨F, env, s, (FPost.toF (Rel := RE K σ H) hM h).imp fun b H1 ⟨a, env1, F1, g, o, s1, r, p⟩ => ⟨a, env1, F1, g, fun a z => .inl (hM a (o a z)), s1, r, p⟩⟩
theorem fkeep {M : Addr → Prop} {F H : Hp} {Z : Ends} {σ : L2.St} {env : SEnv} {A : SEnv → Rs Vw} {k : D → SEnv → FR} (s : Sim ba K F H σ env) (hM : ∀ a, O σ env a → M a)
    (h : FPost ba K mg W M F H Z ((A env).toF fun w e1 => match keepF e1 w with
      | some (d, e2) => k d e2
      | none => .stuck)) :
    tE ba K mg W A σ H (fun v1 H1 => ∃ d env2 F2, Go M F H F2 H1 ∧ (∀ a, O σ env2 a → Up M H a) ∧ Sim ba K F2 H1 σ env2 ∧ Dp K F2 v1 d ∧ FPost ba K mg W (Up M H) F2 H1 Z (k d env2)) := by
  obtain ⟨F0, env0, s0, p0⟩ := fone s hM h
  refine ⟨F0, env0, s0, p0.imp ?_⟩
  rintro v1 H1 ⟨x, env1, F1, g, o, s1, r, p⟩
  cases e : keepF env1 x with
  | none => rw [e] at p; exact p.elim
  | some q =>
    obtain ⟨d, env2⟩ := q
    rw [e] at p
    have p : FPost ba K mg W (Up M H) F1 H1 Z (k d env2) := p
    obtain ⟨F2, g2, o2, s2, dp, _⟩ := keepF_ok (M := Up M H) s1 r e fun a => ⟨.inr, o a⟩
    exact ⟨d, env2, F2, g.trans g2 fun x z => z, fun a z => o a (o2 a z), s2, dp, p.go g2 fun x z => .inl z⟩
theorem putW_ok {M : Addr → Prop} {F H H0 : Hp} {σ : L2.St} {env e2 : SEnv} {w : Vw} {v : V} {i : Nat} (s : Sim ba K F H σ env) (hm : ∀ a, (H0 a = none → M a) ∧ (O σ env a → M a)) (r : VwR K F H H0 σ env w v) (e : putW env i w = some e2) :
    ∃ F2, Go M F H F2 H ∧ Sim ba K F2 H (σ.set i (some v)) e2 ∧ ∀ a, O (σ.set i (some v)) e2 a → M a := by
  have gen : ∀ {p : D × SEnv}, keepF env w = some p → putS p.2 i (.sh p.1) = some e2 → ∃ F2, Go M F H F2 H ∧ Sim ba K F2 H (σ.set i (some v)) e2 ∧ ∀ a, O (σ.set i (some v)) e2 a → M a := by
    rintro ⟨d, e1⟩ h1 h2
    obtain ⟨F2, g2, o2, s2, dp, _⟩ := keepF_ok (M := M) s r h1 hm
    obtain ⟨rfl, hi⟩ := putS_ok h2
    exact ⟨F2, g2, s2.setSh hi dp, fun a z => (hm a).2 (o2 a (own_setSh s2 a z))⟩
  cases w with
  | tmp ds =>
    obtain ⟨rfl, hi⟩ := putS_ok (show putS env i (.own ds) = some e2 from e)
    obtain ⟨a, vs, rfl, h1, h2, h3, h4, h5⟩ := r
    refine ⟨F, Go.refl _ _ _, s.setOwn hi h1 h2 h3 h5, fun b z => ?_⟩
    rcases own_setOwn b z with q | q
    · exact (hm b).2 q
    · exact (hm b).1 (q ▸ h4)
  | now d => exact gen (p := (d, env)) rfl e
  | late j =>
    have e : (keepF env (.late j)).bind (fun p => putS p.2 i (.sh p.1)) = some e2 := e
    cases h1 : keepF env (.late j) with
    | none => rw [h1] at e; cases e
    | some p => rw [h1] at e; exact gen h1 e
/-- a statement's reading -/
def tS (ba : Addr) (K : Frag) (mg : Str → Option Value) (W : WX) (ev : SEnv → FR) : TS := fun Z σ H => ∃ F env M, Sim ba K F H σ env ∧ (∀ a, O σ env a → M a) ∧ FPost ba K mg W M F H Z (ev env)
theorem FPost.tS {M M' : Addr → Prop} {F H F1 H1 : Hp} {Z : Ends} {σ : L2.St} {env : SEnv} {ev : SEnv → FR} (h : FPost ba K mg W M F H Z (ev env)) (g : Go M F H F1 H1) (s : Sim ba K F1 H1 σ env) (o : ∀ a, O σ env a → Up M H a) : PyE.tS ba K mg W ev Z σ H1 :=
  ⟨F1, env, Up M H, s, o, h.go g fun x z => z⟩
/-- the turns of a for -/
theorem for_loop {M1 : Addr → Prop} {F1 H1 : Hp} {σ1 : L2.St} {env1 : SEnv} {ds : List D} {J : It} {Z : Ends} {step : D → SEnv → FR} {g : TG} {tb : TS}
    (y : Yld K F1 ds J) (s : Sim ba K F1 H1 σ1 env1) (o : ∀ a, O σ1 env1 a → M1 a) (h : FPost ba K mg W M1 F1 H1 Z (forL step ds env1))
    (turn : ∀ (d : D) (env : SEnv) (F H : Hp) (σ : L2.St) (M : Addr → Prop) (x : V) (Z' : Ends), Sim ba K F H σ env → (∀ a, O σ env a → M a) → Dp K F x d → FPost ba K mg W M F H Z' (step d env) → g x σ H fun σ2 H2 => tb Z' σ2 H2) :
    ∃ W : Nat → Nat → L2.St → Hp → Prop, (∃ m, W 0 m σ1 H1) ∧ ∀ i m σ H, W i m σ H →
      (J.stop i H ∧ Z.nx σ H) ∨ (J.go i H ∧ ∃ N : L2.St → Hp → Prop, (∀ σ' H', N σ' H' → ∃ m', m' < m ∧ W (i + 1) m' σ' H') ∧ ∀ x H', J.yld i H x H' → g x σ H' fun σ2 H2 => tb { Z with nx := N, ct := N, bk := Z.nx } σ2 H2) := by
  refine ⟨fun i m σ H => m = ds.length - i ∧ i ≤ ds.length ∧ ∃ F env M, Ex F1 F ∧ Sim ba K F H σ env ∧ (∀ a, O σ env a → M a) ∧ FPost ba K mg W M F H Z (forL step (ds.drop i) env), ⟨_, rfl, Nat.zero_le _, F1, env1, M1, Ex.refl _, s, o, h⟩, ?_⟩
  rintro i m σ H ⟨rfl, hi, F, env, M, ex, s, o, p⟩
  by_cases hlt : i < ds.length
  · right
    have hd : ds[i]? = some ds[i] := List.getElem?_eq_getElem hlt
    obtain ⟨hgo, hy⟩ := (y i F H ex s.sub).1 _ hd
    rw [List.drop_eq_getElem_cons hlt] at p
    unfold forL at p
    refine ⟨hgo, fun σ' H' => ∃ F' env' M', Ex F1 F' ∧ Sim ba K F' H' σ' env' ∧ (∀ a, O σ' env' a → M' a) ∧ FPost ba K mg W M' F' H' Z (forL step (ds.drop (i + 1)) env'), fun σ' H' ⟨F', env', M', ex', s', o', p'⟩ => ⟨ds.length - (i + 1), by omega, rfl, hlt, F', env', M', ex', s', o', p'⟩, fun x H' hx => ?_⟩
    obtain ⟨F2, g2, sub2, dp⟩ := hy x H' hx
    refine turn ds[i] env F2 H' σ M x _ (s.go g2 sub2 fun _ _ h => h) o dp ?_
    have g2' : Go M F H F2 H' := g2.mono fun _ z => z.elim
    cases e1 : step ds[i] env with
    | nxt e =>
      rw [e1] at p
      exact fun σ' F' H'' g' o' s' => ⟨F', e, Up M H', ex.trans (g2.ex.trans g'.ex), s', o', p.go (g2'.trans g' fun x z => .inl z) fun x z => z.imp id g2'.fresh⟩
    | cnt e =>
      rw [e1] at p
      exact fun σ' F' H'' g' o' s' => ⟨F', e, Up M H', ex.trans (g2.ex.trans g'.ex), s', o', p.go (g2'.trans g' fun x z => .inl z) fun x z => z.imp id g2'.fresh⟩
    | brk e =>
      rw [e1] at p
      have p : FPost ba K mg W M F H Z (.nxt e) := p
      exact p.go g2' fun x z => .inl z
    | ret d e =>
      rw [e1] at p
      have p : FPost ba K mg W M F H Z (.ret d e) := p
      exact p.go g2' fun x z => .inl z
    | exc c q e =>
      rw [e1] at p
      have p : FPost ba K mg W M F H Z (.exc c q e) := p
      exact p.go g2' fun x z => .inl z
    | stuck => rw [e1] at p; exact p.elim
  · have hi' : i = ds.length := by omega
    subst hi'
    rw [List.drop_length] at p
    exact .inl ⟨(y _ F H ex s.sub).2 rfl, p σ F H (Go.refl _ _ _) (fun a z => .inl (o a z)) s⟩
end
end PyE

set_option Elab.async false
set_option linter.all false
set_option autoImplicit false
set_option maxRecDepth 100000
set_option maxHeartbeats 4000000
/-! # An own error over Exception (with own classes between) whose __init__ stores one field, at: made, raised, read -/
namespace PySem
namespace HandSPX
open Builtin Builtin.ObjectAttr
abbrev exTl : List Value := [.type "Exception", .type "BaseException", .type "object"]
def refsEX : List Value → Bool
  | .ref _ :: r => refsEX r
  | l => l == exTl
theorem refsEX_cases : ∀ l : List Value, refsEX l = true → (∃ c r, l = .ref c :: r ∧ refsEX r = true) ∨ l = exTl
  | [], e => .inr (beq_iff_eq.mp e)
  | .ref c :: r, e => .inl ⟨c, r, rfl, e⟩
  | .none :: _, e => .inr (beq_iff_eq.mp e)
  | .ellipsis :: _, e => .inr (beq_iff_eq.mp e)
  | .notImplemented :: _, e => .inr (beq_iff_eq.mp e)
  | .bool _ :: _, e => .inr (beq_iff_eq.mp e)
  | .int _ _ :: _, e => .inr (beq_iff_eq.mp e)
  | .float _ _ :: _, e => .inr (beq_iff_eq.mp e)
  | .str _ _ :: _, e => .inr (beq_iff_eq.mp e)
  | .bytes _ _ :: _, e => .inr (beq_iff_eq.mp e)
  | .type _ :: _, e => .inr (beq_iff_eq.mp e)
  | .builtin _ :: _, e => .inr (beq_iff_eq.mp e)
theorem refsEX_pass (self : Value) : ∀ l : List Value, refsEX l = true → refuseLoop self "__setattr__" l = pure () := by
  intro l
  induction l with
  | nil => intro e; exact absurd e (by decide)
  | cons a r ih =>
    intro e
    rcases refsEX_cases (a :: r) e with ⟨c, r', q, h⟩ | q
    · obtain ⟨rfl, rfl⟩ := List.cons.inj q
      rw [refuseLoop_ref]; exact ih h
    · rw [q]; exact F.store_Exception.passes self
theorem refsEX_contains (X : String) : ∀ l : List Value, refsEX l = true → l.contains (.type X) = exTl.contains (.type X) := by
  intro l
  induction l with
  | nil => intro e; exact absurd e (by decide)
  | cons a r ih =>
    intro e
    rcases refsEX_cases (a :: r) e with ⟨c, r', q, h⟩ | q
    · obtain ⟨rfl, rfl⟩ := List.cons.inj q
      rw [List.contains_cons, ih h]; rfl
    · rw [q]
theorem refsEX_ne {l : List Value} (e : refsEX l = true) : l.isEmpty = false := by
  cases l with
  | nil => exact absurd e (by decide)
  | cons _ _ => rfl
section
variable {prog : Program} {w : World} {A : Around} {E : Value → Shared → Prop} {R : Result → Shared → Prop} {hp : Heap} {g : Array GenState} {d : Drawn} {t : Nat} {os : OsState}
theorem exc_osaE {K : W.Frag} {name : Str} {tk : Tok} {v : Value} {x C : Addr} {fv : Array Value} {cd : ClassData}
    (X : K.In hp) (hx : hp.get? x = some { cls := .ref C, data := .fields fv }) (hcd : W.clsIn K C = some cd) (hm : refsEX cd.mro = true) (hh : cd.hasDict = true) (ha : W.findIn K (.ref C) name = some none)
    (hq : ∀ h' tk' dx, (∀ b o, b ≠ x → hp.get? b = some o → h'.get? b = some o) → hp.objs.size ≤ dx → dx ≠ x → h'.get? x = some { cls := .ref C, dict := some dx, data := .fields fv } →
      h'.Ns1 dx (fun y => if y = name then some v else none) → R (.ok (.ret .none)) ⟨h', g, d, tk', os⟩) :
    codeAny (model prog w) A (.call (.builtin "object.__setattr__") ⟨[.ref x, .str name tk, v], []⟩) R ⟨hp, g, d, t, os⟩ := by
  have I : W.InstAt hp x { cls := .ref C, data := .fields fv } C none := ⟨hx, rfl, rfl, trivial⟩
  have SF := F.store_object
  have ne := refsEX_ne hm
  have hob : cd.mro.contains (.type "object") = true := (refsEX_contains "object" _ hm).trans (by decide +kernel)
  have hxs : x ≠ hp.objs.size := Nat.ne_of_lt (Heap.lt_size hx)
  have sub : W.Looks (model prog w) hp (isInstance (.ref x) (.type "object")) true := I.type.andThen (W.looks_mroIn X (by unfold W.mroIn; rw [hcd, Option.bind_some, if_neg (by rw [ne]; decide), hob]))
  refine codeAny_call_builtin SF.slot.plain SF.entry (@W.check_slot (model prog w) _ _ ⟨hp, g, d, t, os⟩ "object.__setattr__" "object" "__setattr__" (.ref x) [.str name tk, v] [] _ SF.kind SF.split sub (SF.args (.ref x) (.str name tk) v) ?_)
  have hmr : W.Looks (model prog w) hp (mroOf (.ref C)) cd.mro := (W.looks_clsIn X hcd).andThen .now
  have L3 : W.Looks (model prog w) hp (storeTaker? none) none := .now
  have hcls : W.Looks (model prog w) hp (classData C) cd := W.looks_clsIn X hcd
  rw [W.osa_eq, refuse_eq]
  refine wpAny_bind (wpAny_bind (I.type.at (wpAny_bind (hmr.at ?_))))
  rw [refsEX_pass _ _ hm]
  refine wpAny_pure (wpAny_bind (I.type.at (wpAny_bind ((W.looks_findIn X ha).at (wpAny_bind (L3.at ?_))))))
  show wpAny _ _ (storeInOwnDict (.ref x) (.ref C) (.str name tk) name v false) _ _ _
  obtain ⟨nm, bs, mro, ns, qn, hd, sn, sb, ab, col, del⟩ := cd
  dsimp only at hh
  subst hh
  unfold storeInOwnDict ownDictForStores
  repeat (first | with_reducible refine store_in_new ?_ ?_ | with_reducible refine wpAny_loadPart_at hx ?_ | with_reducible refine hcls.at ?_ | wp_step)
  · exact ⟨_, #[], _, (Heap.get?_update_ne _ _ _ _ hxs.symm).trans (Heap.get?_push_at rfl rfl), rfl, fun e he => absurd he (by simp), fun _ => rfl⟩
  · intro h' tk' hn' hs
    have hx₁ : (hp.push { cls := .type "dict", data := .dict #[] }).get? x = some { cls := .ref C, data := .fields fv } := Heap.get?_push_of_some _ hx
    refine hq h' tk' hp.objs.size (fun b o hb ho => ?_) (Nat.le_refl _) hxs.symm ?_ hn'
    · exact (hs.2 b (Nat.ne_of_lt (Heap.lt_size ho))).trans ((Heap.get?_update_ne _ _ _ _ hb).trans (Heap.get?_push_of_some _ ho))
    · exact (hs.2 x hxs).trans (Heap.get?_update_self _ hx₁ rfl)
end
end HandSPX
end PySem
namespace PySem
namespace BadX
open PySem.W PySem.Calls PyProof.Rows PySem.HandSPX
/-! ### the text of __init__ -/
def iA (p1 p2 : Pos) : Arguments := { posonlyargs := [], args := [{ arg := "self", annotation := none, pos := p1 }, { arg := "at", annotation := none, pos := p2 }], vararg := none, kwonlyargs := [], kw_defaults := [], kwarg := none, defaults := [] }
def iB (q1 q2 q3 q4 : Pos) : List Stmt := [.Assign [.Attribute (.Name "self" q1) "at" q2] (.Name "at" q3) q4]
def iS : Scope := { kind := .function, names := [(PySem.Str.ofString "self", .local), (PySem.Str.ofString "at", .local)], isGenerator := false, isCoroutine := false, more := [] }
/-- what the written part says of BadValue, at C, and of its __init__, at fI -/
structure BadTxt (K : Frag) (mg : Str → Option Value) (C fI : Addr) : Prop where
  gC : mg "BadValue" = some (.ref C)
  cls : ∃ nm q N bs bm sn sub ab col dd k0 k1 k2 k3 k5, K.lookup C = some (excClassObj nm q C N bs bm true sn sub ab col dd k0 k1 k2 k3 k5 "Exception.__new__") ∧ refsEX bm = true
  sa : findIn K (.ref C) "__setattr__" = some (some (.builtin "object.__setattr__"))
  ga : findIn K (.ref C) "__getattribute__" = some (some (.builtin "BaseException.__getattribute__"))
  gg : findIn K (.ref C) "__getattr__" = some none
  noN : findIn K (.ref C) "at" = some none
  iC : findIn K (.ref C) "__init__" = some (some (.ref fI))
  tC : typeIn K (.ref fI) = some (.type "function")
  kC : keepIn K (.ref C) = true
  exC : subIn K (.ref C) (.type "BaseException") = some true
  tyC : typeIn K (.ref C) = some (.type "type")
  hdC : hasDictIn K C = true
  te : exmOne K (.ref C) (.ref C) = some true
  fn : ∃ (oc : Value) (od : Option Addr) (doc pm : Value) (an : Option Addr) (cdv ct : Value) (osl : Array (Option Value)) (p1 p2 q1 q2 q3 q4 : Pos),
    K.lookup fI = some ⟨oc, od, .func (fnOf "__init__" "BadValue.__init__" (iA p1 p2) (iB q1 q2 q3 q4) iS .none .none doc pm an cdv ct), osl⟩ ∧ codeIn K cdv "BadValue.__init__" = true
theorem one_size (v : Value) : [v].length ≤ sizeLine := by
  rw [sizeLine_eq]
  exact (by decide : 1 ≤ 16777216)
theorem kept_but {K : Frag} {h h' : Heap} {x : Addr} (X : K.In h) (hx : K.lookup x = none) (k : ∀ b o, b ≠ x → h.get? b = some o → h'.get? b = some o) : K.In h' := fun a o e =>
  k a o (fun z => by rw [z, hx] at e; cases e) (X a o e)
theorem ldC {M : Model} {s : Shared} {name : Str} {scope : Scope} {L a : Addr} {cd : Value} {m : Str → Option Value} {x : Str} {pos : Pos} {v : Value} {Q : Value → Shared → Prop} {A : Around} {E : Value → Shared → Prop} (hn : s.heap.Ns L m) (hv : m x = some v) (h : Q v s)
    (hk : scope.kind = .function := by rfl) (hl : (envOfC name scope L a cd).kindOf x = some .local := by rfl) (hd : (x == ("__debug__" : Str)) = false := by decide) :
    wpAny M A (eval (.Name x pos) (envOfC name scope L a cd)) Q E s := wpAny_Name (wpAny_loadName_local hk hl hn hv h) hd
/-- what __init__ leaves of a fresh exception at x -/
structure InitEnd (h h' : Heap) (x C dx t1 : Addr) (v : Value) : Prop where
  keep : ∀ b o, b ≠ x → h.get? b = some o → h'.get? b = some o
  obj : h'.get? x = some { cls := .ref C, dict := some dx, data := .fields #[.ref t1, .none, .none, .none, .bool false, .none] }
  dbig : h.objs.size ≤ dx
  dne : dx ≠ x
  ns : h'.Ns1 dx (fun y => if y = "at" then some v else none)
/-- a made BadValue -/
structure OwnMade (h h' : Heap) (e C d : Addr) (v : Value) : Prop where
  keep : ∀ b o, h.get? b = some o → h'.get? b = some o
  new : h.objs.size ≤ e
  obj : ∃ oe vs, h'.get? e = some oe ∧ oe.cls = .ref C ∧ oe.dict = some d ∧ oe.data = .fields vs ∧ vs[1]? = some .none
  dbig : h.objs.size ≤ d
  dne : d ≠ e
  ns : h'.Ns1 d (fun y => if y = "at" then some v else none)
section
variable {prog : Program} {w : World} {A : Around} {E : Value → Shared → Prop} {R : Result → Shared → Prop} {s : Shared} {K : Frag} {mg : Str → Option Value} {C fI : Addr}
theorem bad_init (T : BadTxt K mg C fI) {x t0 : Addr} {v : Value} (X : K.In s.heap) (hlim : s.heap.NoLimit) (hx : s.heap.get? x = some (excO C t0)) (hnx : K.lookup x = none) (hroom : A.depth < recursionLimit)
    (hq : ∀ h' tk dx, InitEnd s.heap h' x C dx t0 v → R (.ok (.ret .none)) { s with heap := h', toks := tk }) :
    codeAny (model prog w) A (.call (.ref fI) ⟨[.ref x, v], []⟩) R s := by
  obtain ⟨oc, od, doc, pm, an, cdv, ct, osl, p1, p2, q1, q2, q3, q4, ho, hcd⟩ := T.fn
  obtain ⟨nm, q, N, bs, bm, sn, sub, ab, col, dd, k0, k1, k2, k3, k5, hC, hbm⟩ := T.cls
  have hcl : clsIn K C = some { name := nm, bases := bs, mro := .ref C :: bm, ns := N, qualname := q, hasDict := true, slotNames := sn, subclasses := sub, abstract := ab, collection := col, hasDel := false } := by unfold clsIn; rw [hC] <;> rfl
  refine Att.call_fn (binds := [("self", .ref x), ("at", v)]) X hlim ho hcd hroom (BindsTo.of_eq (by first | rfl | with_unfolding_all rfl)) (by first | rfl | decide | with_unfolding_all rfl) (fun s₁ IC => ?_) rfl rfl rfl
  obtain ⟨h₁, tk₁, rfl⟩ := IC.toInCall.same
  have k : ∀ b o, s.heap.get? b = some o → h₁.get? b = some o := IC.toInCall.keep
  have hn := IC.toInCall.ns
  have hxL : s.heap.objs.size ≠ x := Nat.ne_of_gt (Heap.lt_size hx)
  have X₁ : K.In h₁ := X.keeps k
  have hx₁ := k _ _ hx
  -- self.at = at
  show wpAny _ _ (execs _ _) _ _ _
  refine wpAny_execs_cons (plainObj_wpAny_Assign_Attribute ?_)
  refine ldC (v := v) hn (by first | rfl | with_unfolding_all rfl | kernel_rfl) (ldC (v := .ref x) hn (by first | rfl | with_unfolding_all rfl | kernel_rfl) ?_)
  refine set_plain X₁ (ox := excO C t0) (od := none) ⟨hx₁, rfl, rfl, trivial⟩ T.sa ?_
  refine exc_osaE X₁ hx₁ hcl (show refsEX (.ref C :: bm) = true from hbm) rfl T.noN (fun h₃ tk₃ dx k₃ dn dne hx₃ hn₃ => ?_)
  show wpAny _ _ (execs _ _) _ _ _
  have z : s.heap.objs.size < h₁.objs.size := hn.lt
  exact wpAny_execs_nil (hq h₃ tk₃ dx ⟨fun b o hb e => k₃ b o hb (k b o e), hx₃, Nat.le_of_lt (Nat.lt_of_lt_of_le z dn), dne, hn₃⟩)
theorem bad_made (T : BadTxt K mg C fI) {v : Value} (X : K.In s.heap) (hlim : s.heap.NoLimit) (hroom : A.depth + 1 < recursionLimit)
    (hq : ∀ h' tk e d, OwnMade s.heap h' e C d v → R (.ok (.ret (.ref e))) { s with heap := h', toks := tk }) :
    codeAny (model prog w) A (.call (.ref C) ⟨[v], []⟩) R s := by
  obtain ⟨nm, q, N, bs, bm, sn, sub, ab, col, dd, k0, k1, k2, k3, k5, hC, hbm⟩ := T.cls
  obtain ⟨hp, g, dr, tk, os⟩ := s
  have k : ∀ b o, hp.get? b = some o → ((hp.push (kdv_tup [v])).push (excO C hp.objs.size)).get? b = some o := fun b o e => Heap.get?_push_of_some _ (Heap.get?_push_of_some _ e)
  have hget : ((hp.push (kdv_tup [v])).push (excO C hp.objs.size)).get? (hp.objs.size + 1) = some (excO C hp.objs.size) := by heap_get
  have hnx : K.lookup (hp.objs.size + 1) = none := by
    cases e : K.lookup (hp.objs.size + 1) with
    | none => rfl
    | some o =>
      have z : hp.get? (hp.objs.size + 1) = some o := X _ _ e
      exact absurd (Nat.lt_of_succ_lt (Heap.lt_size z)) (Nat.lt_irrefl _)
  refine call_own F.excBase_Exception (fun X => refsEX_contains X bm hbm) (X _ _ hC) (looks_findIn X T.iC) (fun self => bind_fn X self T.tC) (one_size v) ?_
  refine bad_init (s := ⟨(hp.push (kdv_tup [v])).push (excO C hp.objs.size), g, dr, tk, os⟩) T (X.keeps k) (hlim.keeps k) hget hnx ?_ fun h' tk' dx ⟨k', hx, dn, dne, hns⟩ => ?_
  · show A.depth + 1 < recursionLimit
    exact hroom
  · have old : ∀ b o, hp.get? b = some o → h'.get? b = some o := fun b o e => k' b o (Nat.ne_of_lt (Nat.lt_succ_of_lt (Heap.lt_size e))) (k b o e)
    have z : hp.objs.size + 1 + 1 ≤ dx := by
      first
        | (simpa only [Heap.size_push] using dn)
        | exact dn
        | (have q := dn; rw [Heap.size_push, Heap.size_push] at q; exact q)
    exact ⟨rfl, hq h' tk' (hp.objs.size + 1) dx ⟨old, Nat.le_succ _, ⟨_, _, hx, rfl, rfl, rfl, rfl⟩, Nat.le_trans (Nat.le_trans (Nat.le_succ _) (Nat.le_succ _)) z, dne, hns⟩⟩
end
end BadX
end PySem
namespace L2
open PySem PySem.Spec PyProof.Rows
theorem relO_bad {v : V} {v' : Value} (r : RelV v v') (f : Str) : RelO (List.lookup f [(("at" : Str), v)]) (if f = "at" then some v' else none) := by
  by_cases hw : f = "at"
  · subst hw
    rw [if_pos rfl]
    have q : List.lookup ("at" : Str) [(("at" : Str), v)] = some v := by simp [List.lookup]
    rw [q]
    exact r
  · rw [if_neg hw]
    have qw : (f == ("at" : Str)) = false := by simpa using hw
    have q2 : List.lookup f [(("at" : Str), v)] = none := by simp [List.lookup, qw]
    rw [q2]
    trivial
section
variable {X : Cx} {C fI : Addr}
/-- BadValue(e) -/
def tMkBad (C : Addr) (ta : TA) : St → Hp → XK → Prop := fun σ H Q => ta σ H fun vs H1 => ∃ v, vs = [v] ∧ ∀ d, H1 d = none → Q (.ref C) (some d) (upd H1 d (.xd [(("at" : Str), v)]))
theorem pmk_bad {a : Expr} {ta : TA} {p pos : Pos} {k : Nat} (T : PySem.BadX.BadTxt X.K X.mg C fI) (hr : Room k X.A) (ha : PA X [a] ta) (hg : Gl X "BadValue" := by rfl)
    (he : starEach (a :: []) X.env = (false, eval a X.env) :: starEach [] X.env := by rfl) (hpl : (backTo pos (starEach [] X.env)).any (·.1) = false := by rfl) :
    PMk X (.Call (.Name "BadValue" p) [a] [] pos) (tMkBad C ta) := by
  intro pins s σ H Q I h
  refine wpAny_Call_Name_kw (ld_glob I hg T.gC ?_)
  refine PySem.W.callWith_K (h₀ := X.base) I.ok.mod.kin T.kC (thn (ha.run pos pins s σ H _ I h) fun us s1 hh => ?_) he hpl
  obtain ⟨vs, H1, I1, r1, v, ev, q1⟩ := hh
  subst ev
  refine ⟨I1.kIn, ?_⟩
  cases r1 with
  | cons rv rn =>
    rename_i v' us'
    cases rn
    show wpAny _ _ (call (.ref C) [v']) _ _ _
    have hlim := I1.nolimit
    obtain ⟨hp, g, dr, tk, os⟩ := s1
    refine wpAny_call (PySem.BadX.bad_made T I1.kIn hlim (by have := hr.dp; omega) fun h' tk' e d M => ?_)
    show MkP X pins σ Q (.ref e) ⟨h', g, dr, tk', os⟩
    obtain ⟨oe, fv, hoe, hc, hd, hdat, h1⟩ := M.obj
    have hns := M.ns
    obtain ⟨G', g1, g2⟩ := restrict h' fun b => decide (b ≠ e)
    have gk : ∀ b, b ≠ e → G'.get? b = h'.get? b := fun b hb => g1 b (decide_eq_true hb)
    have ge : G'.get? e = none := g2 e (by simp)
    have old : ∀ b o, hp.get? b = some o → G'.get? b = some o := fun b o q => (gk b (Nat.ne_of_lt (Nat.lt_of_lt_of_le (Heap.lt_size q) M.new))).trans (M.keep b o q)
    have ob : ObjOk X.prog X.w (upd H1 d (.xd [(("at" : Str), v)])) G' d (.xd [(("at" : Str), v)]) :=
      ⟨_, hns.at (fun o q => (gk d M.dne).trans q), fun f => relO_bad rv f⟩
    have J : Inv X pins σ (upd H1 d (.xd [(("at" : Str), v)])) ⟨G', g, dr, tk', os⟩ := I1.laid (t' := tk') old M.dbig ob
    refine ⟨e, oe, fv, ⟨G', g, dr, tk', os⟩, _, .ref C, some d, rfl, J, fun b o q => ?_, ge, hoe, ⟨hc, hd⟩, hdat, h1, ?_, rfl, I1.bare, raises_own T.exC T.tyC, q1 d (I1.hok.fresh M.dbig)⟩
    · by_cases hb : b = e
      · have q' : G'.get? b = some o := q
        rw [hb, ge] at q'; cases q'
      · exact (gk b hb).symm.trans q
    · rw [upd_ne (Ne.symm M.dne)]
      exact I1.hok.fresh M.new
/-- raise BadValue(e) -/
def tRaiseBad (C : Addr) (W : WX) (ta : TA) : TS := fun _ σ H => tMkBad C ta σ H fun cls d H' => W cls d σ H'
theorem ps_raiseBad {a : Expr} {ta : TA} {W : WX} {p pos pos2 : Pos} {k : Nat} (hc : X.calm = true) (T : PySem.BadX.BadTxt X.K X.mg C fI) (hr : Room k X.A) (tk : Takes X W) (ha : PA X [a] ta) (hg : Gl X "BadValue" := by rfl)
    (he : starEach (a :: []) X.env = (false, eval a X.env) :: starEach [] X.env := by rfl) (hpl : (backTo pos (starEach [] X.env)).any (·.1) = false := by rfl) :
    PS X (.Raise (some (.Call (.Name "BadValue" p) [a] [] pos)) none pos2) (tRaiseBad C W ta) := ps_raise hc tk (pmk_bad T hr ha hg he hpl)
/-- error.at, error the exception that the suite holds (at a; its class cls, its dict d) -/
def tAtBad (C : Addr) (a : Addr) (cls : Value) (d : Option Addr) (te : TE) : TE := fun σ H Q => te σ H fun x H1 => x = .ref a ∧ cls = .ref C ∧ ∃ (dd : Addr) (v : V), d = some dd ∧ H1 dd = some (.xd [(("at" : Str), v)]) ∧ Q v H1
theorem pe_atBad {a : Addr} {oe : Obj} {cls : Value} {d : Option Addr} {pn : List (Addr × Obj)} {e : Expr} {te : TE} {pos : Pos} (T : PySem.BadX.BadTxt X.K X.mg C fI) (hz : Zc cls d oe) (hf : ∃ vs, oe.data = .fields vs) (he : PE (X.suite a ((a, oe) :: pn)) e te)
    (hb : attributeBase e "at" X.env (eval e X.env) = eval e X.env := by rfl) :
    PE (X.suite a ((a, oe) :: pn)) (.Attribute e "at" pos) (tAtBad C a cls d te) := by
  refine ⟨fun pins s σ H Q I h => ?_⟩
  refine attr_of hb (thn (he.run pins s σ H _ I h) fun u s1 hh => ?_)
  obtain ⟨x, H1, I1, rx, ex, ec, dd, v, ed, ea, q⟩ := hh
  subst ex
  obtain rfl : u = Value.ref a := rx
  subst ec
  subst ed
  obtain ⟨ha, _⟩ := I1.pin (a, oe) (List.mem_append_left _ List.mem_cons_self)
  obtain ⟨vs, hd⟩ := hf
  have hx : ObjOk X.prog X.w H1 s1.heap dd (.xd [(("at" : Str), v)]) := I1.hok dd _ ea
  obtain ⟨mA, hns, hr⟩ := hx
  obtain ⟨od, ho, hl⟩ := lookIn_ns hns
  have l : List.lookup ("at" : Str) [(("at" : Str), v)] = some v := by simp [List.lookup]
  obtain ⟨u, hu, ru⟩ := RelO.some_of (v := v) (o := mA "at") (by rw [← l]; exact hr "at")
  have J : PySem.W.InstAt s1.heap a oe C (some od) := ⟨ha, hz.1, by unfold PySem.W.notCls; rw [hd] <;> rfl, by rw [hz.2]; exact ho⟩
  exact HandSPX.exc_get I1.kIn J T.ga T.gg T.exC (PySem.W.findObj_own T.hdC T.noN rfl (by rw [hl, hu])) (handed_of ru) ⟨v, H1, I1.tok _, ru, q⟩
end
end L2

set_option Elab.async false
set_option linter.all false
set_option autoImplicit false
set_option maxRecDepth 100000
set_option maxHeartbeats 4000000
/-! # Statements: the checker, and that what it takes is run as the evaluator says -/
namespace PyE
open PySem PySem.Spec PyProof.Rows L2

/-! ### the checker -/
/-- a comprehension's own scope -/
def compScope : Expr → Option Scope
  | .ListComp _ _ s _ => some s
  | .SetComp _ _ s _ => some s
  | .DictComp _ _ _ s _ => some s
  | _ => none
def swB (S : Sc) (y : Str) (py : Pos) (x : Expr) : Bool := match compScope x with
  | none => false
  | some s => (S.sc.names.lookup y == some .local) && py.line == x.pos.line && !(s.names.any fun (n, k) => n == y && (k == .local || k == .cell))
def isLcE : IE → Bool
  | .lc _ _ _ _ _ => true
  | .lc2 _ _ _ _ _ _ _ _ _ => true
  | _ => false
def isTup : Expr → Bool
  | .Tuple _ _ _ => true
  | _ => false
/-- one of the names lies in a cell -/
def someCell (S : Sc) (ts : List Expr) : Bool := ts.any fun t => match t with
  | .Name x _ => !(S.sc.names.lookup x == some .local)
  | _ => true
/-- a tuple of constants alone, or more than three, or a name in a cell -/
def noSwap (S : Sc) (ts : List Expr) (x : Expr) : Bool := match x with
  | .Tuple vs _ _ => !(ts.length == 2 || ts.length == 3) || vs.all (foldedForSure 8) || someCell S ts
  | _ => true
def parOk (S : Sc) (ts vs : List Expr) : Bool := match ts, vs with
  | [.Name x px, .Name y py], [a, b] => (S.sc.names.lookup x == some .local) && (S.sc.names.lookup y == some .local) && px.line == py.line && notStar a && notStar b && !(vs.all (foldedForSure 8)) && !(vs.all (constantsAlone 8)) && decide (x ≠ y)
  | [.Name x px, .Name y py, .Name z pz], [a, b, c] => (S.sc.names.lookup x == some .local) && (S.sc.names.lookup y == some .local) && (S.sc.names.lookup z == some .local) && px.line == py.line && px.line == pz.line && notStar a && notStar b && notStar c && !(vs.all (foldedForSure 8)) && !(vs.all (constantsAlone 8)) && decide (x ≠ y ∧ x ≠ z ∧ y ≠ z)
  | _, _ => false
def chkKV (Γ : Gam) (S : Sc) : IE → Expr → Bool
  | .k d, x => chkE Γ S (.k d) x
  | .v i, x => chkE Γ S (.v i) x
  | _, _ => false
mutual
def chkS (Γ : Gam) (S : Sc) : IS → Stmt → Bool
  | .asg i e, st => match st with
    | .Assign [.Name y py] x pos => decide (Γ.N[i]? = some y) && locB S y && chkE Γ S e x && (!swB S y py x || isLcE e)
    | _ => false
  | .asgT is e, st => match st with
    | .Assign [.Tuple ts k p] x pos => chkNm Γ S is ts && chkE Γ S e x && noSwap S ts x && noComp x
    | _ => false
  | .par is es, st => match st with
    | .Assign [.Tuple ts k p] (.Tuple xs k2 p2) pos => chkNm Γ S is ts && chkEs Γ S es xs && parOk S ts xs
    | _ => false
  | .asg2 i j e, st => match st with
    | .Assign [.Name y _, .Name z _] x _ => decide (Γ.N[i]? = some y) && locB S y && decide (Γ.N[j]? = some z) && locB S z && chkE Γ S e x
    | _ => false
  | .aug i op e, st => match st with
    | .AugAssign (.Name y _) o x _ => decide (Γ.N[i]? = some y) && locB S y && decide (op = o) && (decide (op = .Add) || decide (op = .Sub)) && chkE Γ S e x
    | _ => false
  | .app i e, st => match st with
    | .Expr (.Call (.Attribute (.Name y py) m ap) [x] [] cp) pos => decide (Γ.N[i]? = some y) && visB S.sc y && okName y && (m == ("append" : Str)) && ap.endLine == cp.line && notStar x && chkE Γ S e x
    | _ => false
  | .set i a e, st => match st with
    | .Assign [.Subscript (.Name y _) z _] x _ => decide (Γ.N[i]? = some y) && visB S.sc y && okName y && notSlice z && noComp x && chkE Γ S a z && chkE Γ S e x
    | _ => false
  | .ex e, st => match st with
    | .Expr x _ => noComp x && chkE Γ S e x
    | _ => false
  | .ret e, st => match st with
    | .Return (some x) _ => chkE Γ S e x
    | _ => false
  | .retN, st => match st with
    | .Return none _ => true
    | _ => false
  | .ite t a b, st => match st with
    | .If x y z _ => chkE Γ S t x && chkSs Γ S a y && chkSs Γ S b z
    | _ => false
  | .for_ tg it b, st => match st with
    | .For tgx itx y [] _ => notSet itx && chkI Γ S it tgx itx && chkTg Γ S tg tgx && chkSs Γ S b y
    | _ => false
  | .whl t b, st => match st with
    | .While x y [] _ => chkE Γ S t x && chkSs Γ S b y
    | _ => false
  | .pop i, st => match st with
    | .Expr (.Call (.Attribute (.Name y _) m ap) [] [] cp) _ => decide (Γ.N[i]? = some y) && visB S.sc y && okName y && (m == ("pop" : Str)) && ap.endLine == cp.line
    | _ => false
  | .raise0, st => match st with
    | .Raise (some (.Call (.Name _ _) [] [] _)) none _ => true
    | _ => false
  | .brk, st => match st with
    | .Break _ => true
    | _ => false
  | .cnt, st => match st with
    | .Continue _ => true
    | _ => false
  | .pass, st => match st with
    | .Pass _ => true
    | _ => false
  | .raise c e, st => match st with
    | .Raise (some (.Call (.Name g _) [x] [] _)) none _ => (c == g) && (c == ("BadValue" : Str)) && glB S.sc g && notStar x && chkE Γ S e x
    | _ => false
  | .tryAt b c i e, st => match st with
    | .Try y [.ExceptHandler (some (.Name g _)) (some n) [.Return (some (.Compare (.Attribute (.Name n' _) f _) [.Eq] [x] _)) _] _] [] [] _ =>
      (c == g) && (c == ("BadValue" : Str)) && glB S.sc g && decide (Γ.N[i]? = some n) && (S.sc.names.lookup n == some .local) && (n == n') && okName n && (f == ("at" : Str)) && notSet x && chkKV Γ S e x && chkSs Γ S b y
    | _ => false
def chkSs (Γ : Gam) (S : Sc) : ISs → List Stmt → Bool
  | .nil, sts => match sts with
    | [] => true
    | _ => false
  | .cons s r, sts => match sts with
    | st :: rest => chkS Γ S s st && chkSs Γ S r rest
    | _ => false
end

/-- the context of statements -/
structure Sok (Φ : Fns) (Γ : Gam) (S : Sc) (m : Nat) (W : WX) (X : Cx) : Prop extends Cok Φ Γ S m W X where
  po : PassesOwn (model X.prog X.w) X.A X.env X.xe
  fk : S.sc.kind = .function
  stk : X.stack = X.env :: X.outer
  fr : X.env.frame = some X.env.locals
  pm : 1 ≤ m
  bad : ∃ C fI, PySem.BadX.BadTxt X.K X.mg C fI
section
variable {ba : Addr} {Φ : Fns} {Γ : Gam} {S : Sc} {m : Nat} {W : WX} {X : Cx}
theorem ps_imp {st : Stmt} {t t' : TS} (h : PS X st t) (hi : ∀ Z σ H, t' Z σ H → t Z σ H) : PS X st t' := ⟨fun pins s σ H Z I q => h.run pins s σ H Z I (hi Z σ H q)⟩
theorem pss_imp {st : List Stmt} {t t' : TS} (h : PSs X st t) (hi : ∀ Z σ H, t' Z σ H → t Z σ H) : PSs X st t' := ⟨fun pins s σ H Z I q => h.run pins s σ H Z I (hi Z σ H q)⟩
abbrev TS' (ba : Addr) (X : Cx) (W : WX) (ev : SEnv → FR) : TS := tS ba X.K X.mg W ev
theorem here {ba : Addr} {K : Frag} {mg : Str → Option Value} {M : Addr → Prop} {F H : Hp} {Z : Ends} {σ : L2.St} {env : SEnv} (h : FPost ba K mg W M F H Z (.nxt env)) (s : Sim ba K F H σ env) (o : ∀ a, O σ env a → M a) : Z.nx σ H :=
  h σ F H (Go.refl _ _ _) (fun a z => .inl (o a z)) s
/-! ### swaps -/
theorem sw_not {x : Expr} {y : Str} {py : Pos} {l : Nat} {env : Env} (hk : env.scope.kind = .function) (hS : env.scope = S.sc) (h : swB S y py x = false) : swapsWith x (some (.Name y py)) l env = pure false := by
  have key : ∀ {s : Scope}, compScope x = some s → (env.kindOf y == some .local && py.line == x.pos.line && !(s.names.any fun (n, k) => n == y && (k == .local || k == .cell))) = false := fun {s} e => by
    unfold swB at h
    rw [e] at h
    have hy : env.kindOf y = S.sc.names.lookup y := by show env.scope.names.lookup y = _; rw [hS]
    rw [hy]
    exact h
  have hb : env.blockKind = .function := by unfold Env.blockKind; rw [hk]; rfl
  have hb' : (env.blockKind == .function) = true := by rw [hb]; rfl
  cases x with
  | ListComp a b s p =>
    have := key (s := s) rfl
    unfold swapsWith
    simp only [hb', Bool.true_and, this]
  | SetComp a b s p =>
    have := key (s := s) rfl
    unfold swapsWith
    simp only [hb', Bool.true_and, this]
  | DictComp a b c s p =>
    have := key (s := s) rfl
    unfold swapsWith
    simp only [hb', Bool.true_and, this]
  | _ => rfl
theorem sw_yes {a : Expr} {b : List Comprehension} {s : Scope} {p : Pos} {y : Str} {py : Pos} {l : Nat} {env : Env} (hk : env.scope.kind = .function) (hS : env.scope = S.sc) (h : swB S y py (.ListComp a b s p) = true) : swapsWith (.ListComp a b s p) (some (.Name y py)) l env = pure true ∧ env.scope.names.lookup y = some .local := by
  have h : ((S.sc.names.lookup y == some .local) && py.line == p.line && !(s.names.any fun (n, k) => n == y && (k == .local || k == .cell))) = true := h
  simp only [Bool.and_eq_true, Bool.not_eq_true'] at h
  have h1 : env.scope.names.lookup y = some .local := by rw [hS]; exact eq_of_beq h.1.1
  exact ⟨sw_true hk h1 h.1.2 h.2, h1⟩
theorem sw0 {x : Expr} {t : Expr} {l : Nat} {env : Env} (h : noComp x = true) : swapsWithSole [t] x l env = pure false := swaps_of h
theorem ss_one {t x : Expr} {env : Env} (h : ∀ ts k p, t ≠ .Tuple ts k p) (h2 : ∀ ts p, t ≠ .List ts p) : swappedStores [t] x env = pure none := by
  unfold swappedStores
  cases t <;> first | (exact absurd rfl (h _ _ _)) | (exact absurd rfl (h2 _ _)) | rfl
theorem fm_lt {α β : Type} {f : α → Option β} : ∀ {ts : List α}, (ts.any fun t => (f t).isNone) = true → (ts.filterMap f).length < ts.length
  | [], h => by simp at h
  | t :: ts, h => by
    rw [List.any_cons, Bool.or_eq_true] at h
    rw [List.filterMap_cons]
    have le := List.length_filterMap_le f ts
    cases e : f t with
    | none =>
      show (ts.filterMap f).length < ts.length + 1
      omega
    | some b =>
      rw [e] at h
      have := fm_lt (h.resolve_left (by simp))
      show (ts.filterMap f).length + 1 < ts.length + 1
      omega
theorem ss_tup {S : Sc} {ts : List Expr} {k : Nat} {p : Pos} {x : Expr} {env : Env} (hsc : env.scope = S.sc) (h : noSwap S ts x = true) : swappedStores [.Tuple ts k p] x env = pure none := by
  unfold swappedStores
  cases x with
  | Tuple vs k2 p2 =>
    have h : (!(ts.length == 2 || ts.length == 3) || vs.all (foldedForSure 8) || someCell S ts) = true := h
    simp only [pure_bind]
    split
    · rfl
    · split
      · rfl
      · split
        · rfl
        · rename_i h1 _ h2
          rw [Bool.or_eq_true, Bool.or_eq_true] at h
          rcases h with (h | h) | h
          · rw [h] at h1
            simp at h1
          · rw [if_pos h]
          · exfalso
            apply h2
            rw [Bool.or_eq_true]
            left
            rw [bne_iff_ne]
            refine Nat.ne_of_lt (fm_lt ?_)
            unfold someCell at h
            rw [List.any_eq_true] at h ⊢
            obtain ⟨t, ht, hz⟩ := h
            refine ⟨t, ht, ?_⟩
            cases t <;> first | rfl | skip
            rename_i id pos
            have hk : (env.kindOf id == some NameKind.local) = false := by
              have : env.kindOf id = S.sc.names.lookup id := by rw [← hsc]; rfl
              rw [this]
              simpa using hz
            simp [hk]
  | _ => rfl

/-! ### assignments -/
theorem asg_rd {te : TE} {i : Nat} {e : IE} {X' : Cx} (hte : te = TE' ba X W (evE Φ e)) {n : Nat} {Z : Ends} {σ : L2.St} {H : Hp} (q : TS' ba X W (evS Φ n (.asg i e)) Z σ H) : tAsg te (gName i) Z σ H := by
  subst hte
  obtain ⟨F, env, M, s, o, p⟩ := q
  obtain ⟨F1, env1, s1, q1⟩ := fone s o p
  refine ⟨F1, env1, s1, q1.imp ?_⟩
  rintro v H1 ⟨w, env2, F2, g, o2, s2, r, p⟩
  cases e1 : putW env2 i w with
  | none => rw [e1] at p; exact p.elim
  | some e2 =>
    rw [e1] at p
    have p : FPost ba X.K X.mg W (Up M H) F2 H1 Z (.nxt e2) := p
    obtain ⟨F3, g3, s3, o3⟩ := putW_ok (M := Up M H) s2 (fun a => ⟨.inr, o2 a⟩) r e1
    exact here (p.go g3 fun x z => .inl z) s3 o3
theorem asgT_rd {is : List Nat} {e : IE} {n : Nat} {Z : Ends} {σ : L2.St} {H : Hp} (q : TS' ba X W (evS Φ n (.asgT is e)) Z σ H) : tAsg (TE' ba X W (evE Φ e)) (gT X.K (.many is)) Z σ H := by
  obtain ⟨F, env, M, s, o, p⟩ := q
  obtain ⟨F1, env1, s1, q1⟩ := fkeep (k := fun d e2 => match putT e2 (.many is) d with
      | some e3 => FR.nxt e3
      | none => .stuck) s o p
  refine ⟨F1, env1, s1, q1.imp ?_⟩
  rintro v H1 ⟨d, env2, F2, g, o2, s2, dp, p⟩
  cases e1 : putT env2 (.many is) d with
  | none => rw [e1] at p; exact p.elim
  | some e2 =>
    rw [e1] at p
    exact putT_ok s2 dp e1 fun σ3 s3 o3 _ => here p s3 fun a z => o2 a (o3 a z)
theorem asg2_rd {i j : Nat} {e : IE} {n : Nat} {Z : Ends} {σ : L2.St} {H : Hp} (q : TS' ba X W (evS Φ n (.asg2 i j e)) Z σ H) : tAsg2 (TE' ba X W (evE Φ e)) (gName i) (gName j) Z σ H := by
  obtain ⟨F, env, M, s, o, p⟩ := q
  obtain ⟨F1, env1, s1, q1⟩ := fkeep (k := fun d e2 => match putN e2 [i, j] [d, d] with
      | some e3 => FR.nxt e3
      | none => .stuck) s o p
  refine ⟨F1, env1, s1, q1.imp ?_⟩
  rintro v H1 ⟨d, env2, F2, g, o2, s2, dp, p⟩
  cases e1 : putN env2 [i, j] [d, d] with
  | none => rw [e1] at p; exact p.elim
  | some e3 =>
    rw [e1] at p
    have z := setN_ok (is := [i, j]) (vs := [v, v]) (Q := Z.nx) s2 (.cons dp (.cons dp .nil)) e1 fun σ3 s3 o3 _ => here p s3 fun a z => o2 a (o3 a z)
    obtain ⟨v1, r1, e4, v2, r2, e5, e6, z⟩ := z
    cases e4
    cases e5
    exact z
theorem par_end {M : Addr → Prop} {F H : Hp} {Z : Ends} {σ : L2.St} {e2 : SEnv} {is : List Nat} {ds : List D} {vs : List V} (s : Sim ba X.K F H σ e2) (o : ∀ a, O σ e2 a → M a) (dp : DpAll X.K F vs ds) (p : FPost ba X.K X.mg W M F H Z (match putN e2 is ds with
      | some e3 => FR.nxt e3
      | none => .stuck)) : gT.gN is vs σ H Z.nx := by
  cases e1 : putN e2 is ds with
  | none => rw [e1] at p; exact p.elim
  | some e3 =>
    rw [e1] at p
    exact setN_ok s dp e1 fun σ3 s3 o3 _ => here p s3 fun a z => o a (o3 a z)
theorem par_rd {is : List Nat} {es : IEs} {n : Nat} {Z : Ends} {σ : L2.St} {H : Hp} (q : TS' ba X W (evS Φ n (.par is es)) Z σ H) : tEs ba X.K X.mg W (evEs Φ es) σ H (fun vs H1 => gT.gN is vs σ H1 Z.nx) := by
  obtain ⟨F, env, M, s, o, p⟩ := q
  refine ⟨F, env, s, (FPost.toF (Rel := REs X.K σ H) o p).imp ?_⟩
  rintro vs H1 ⟨ws, env1, F1, g, o1, s1, r, p⟩
  cases e1 : keepN env1 ws with
  | none => rw [e1] at p; exact p.elim
  | some q =>
    obtain ⟨ds, e2⟩ := q
    rw [e1] at p
    have p : FPost ba X.K X.mg W (Up M H) F1 H1 Z (match putN e2 is ds with
      | some e3 => FR.nxt e3
      | none => .stuck) := p
    obtain ⟨F2, g2, o2, s2, dp⟩ := keepN_ok (M := Up M H) s1 r e1 fun a => ⟨.inr, fun z => .inl (o a (o1 a z))⟩
    exact par_end s2 (fun a z => .inl (o a (o1 a (o2 a z)))) dp (p.go g2 fun x z => .inl z)
theorem aug_rd {i : Nat} {op : Operator} {e : IE} {f : Int → Int → Int} (hf : ∀ a b : Int, binD op (.int a) (.int b) = some (.now (.int (f a b)))) {n : Nat} {Z : Ends} {σ : L2.St} {H : Hp} (q : TS' ba X W (evS Φ n (.aug i op e)) Z σ H) : tAug i (TE' ba X W (evE Φ e)) (ipI f) Z σ H := by
  obtain ⟨F, env, M, s, o, p⟩ := q
  unfold evS at p
  cases e0 : env[i]? with
  | none => rw [e0] at p; exact p.elim
  | some sl =>
    rw [e0] at p
    cases sl with
    | no => exact p.elim
    | own _ => exact p.elim
    | bor _ => exact p.elim
    | sh d =>
      obtain ⟨x, h1, h2⟩ := s.sh i d e0
      refine ⟨x, h1, ?_⟩
      obtain ⟨F1, env1, s1, q1⟩ := fone s o p
      refine ⟨F1, env1, s1, q1.imp ?_⟩
      rintro v H1 ⟨w, env2, F2, g, o2, s2, r, p⟩
      cases d with
      | int a =>
        cases e1 : look env2 w with
        | none => rw [e1] at p; exact p.elim
        | some d' =>
          rw [e1] at p
          cases d' with
          | int b =>
            have p : FPost ba X.K X.mg W (Up M H) F2 H1 Z (match binD op (.int a) (.int b) with
              | some (.now d') => (match putS env2 i (.sh d') with
                | some e2 => FR.nxt e2
                | none => .stuck)
              | _ => .stuck) := p
            rw [hf a b] at p
            have p : FPost ba X.K X.mg W (Up M H) F2 H1 Z (match putS env2 i (.sh (.int (f a b))) with
                | some e2 => FR.nxt e2
                | none => .stuck) := p
            cases e2 : putS env2 i (.sh (.int (f a b))) with
            | none => rw [e2] at p; exact p.elim
            | some e3 =>
              rw [e2] at p
              obtain ⟨rfl, hi⟩ := putS_ok e2
              have hv := (look_vr s2 r e1).int
              subst hv
              cases h2
              exact ⟨a, b, rfl, rfl, here p (s2.setSh hi (.int _)) fun a z => o2 a (own_setSh s2 a z)⟩
          | _ => exact p.elim
      | _ => exact p.elim

/-! ### lists that are written -/
theorem mine_of {env : SEnv} {i : Nat} {ds : List D} (h : env[i]? = some (.own ds) ∨ env[i]? = some (.bor ds)) : Mine env i ds := h
/-- the kinds of slot that a list of this frame's is in -/
theorem two_kinds {F H : Hp} {M : Addr → Prop} {Z : Ends} {env : SEnv} {i : Nat} {f : List D → FR} {g : List D → FR} (p : FPost ba X.K X.mg W M F H Z (match env[i]? with
    | some (.own ds) => f ds
    | some (.bor ds) => g ds
    | _ => .stuck)) : (∃ ds, env[i]? = some (.own ds) ∧ FPost ba X.K X.mg W M F H Z (f ds)) ∨ (∃ ds, env[i]? = some (.bor ds) ∧ FPost ba X.K X.mg W M F H Z (g ds)) := by
  cases e : env[i]? with
  | none => rw [e] at p; exact p.elim
  | some sl =>
    rw [e] at p
    cases sl with
    | no => exact p.elim
    | sh _ => exact p.elim
    | own ds => exact .inl ⟨ds, rfl, p⟩
    | bor ds => exact .inr ⟨ds, rfl, p⟩
end
end PyE

set_option Elab.async false
set_option linter.all false
set_option autoImplicit false
set_option maxRecDepth 100000
set_option maxHeartbeats 4000000
/-! # All statements -/
namespace PyE
open PySem PySem.Spec PyProof.Rows L2
section
variable {ba : Addr} {Φ : Fns} {Γ : Gam} {S : Sc} {m : Nat} {W : WX} {X : Cx}
theorem isMine_of {env : SEnv} {i : Nat} (h : isMine env i = true) : ∃ ds, Mine env i ds := by
  unfold isMine at h
  split at h
  · rename_i ds e; exact ⟨ds, .inl e⟩
  · rename_i ds e; exact ⟨ds, .inr e⟩
  · cases h
theorem if_mine {F H : Hp} {M : Addr → Prop} {Z : Ends} {env : SEnv} {i : Nat} {r : FR} (p : FPost ba X.K X.mg W M F H Z (if isMine env i = true then r else .stuck)) : isMine env i = true ∧ FPost ba X.K X.mg W M F H Z r := by
  cases h : isMine env i with
  | false => rw [h] at p; exact p.elim
  | true => rw [h] at p; exact ⟨rfl, p⟩
theorem app_end {M : Addr → Prop} {F H : Hp} {Z : Ends} {σ : L2.St} {e2 : SEnv} {i : Nat} {d : D} {v : V} {a : Addr} (s : Sim ba X.K F H σ e2) (o : ∀ a, O σ e2 a → M a) (ha : σ[i]? = some (some (.ref a))) (dp : Dp X.K F v d) (p : FPost ba X.K X.mg W M F H Z (appK e2 i d)) :
    rAppend (.ref a) [v] H (fun _ H3 => Z.nx σ H3) := by
  unfold appK at p
  have fin : ∀ {ds : List D} {sl : Sl}, Mine e2 i ds → ((e2[i]? = some (.own ds) ∧ sl = .own (ds ++ [d])) ∨ (e2[i]? = some (.bor ds) ∧ sl = .bor (ds ++ [d]))) → FPost ba X.K X.mg W M F H Z (if szOk (ds.length + 1) = true then .nxt (e2.set i sl) else .stuck) → rAppend (.ref a) [v] H (fun _ H3 => Z.nx σ H3) := by
    intro ds sl mi hsl p
    cases hz : szOk (ds.length + 1) with
    | false => rw [hz] at p; exact p.elim
    | true =>
      rw [hz] at p
      have p : FPost ba X.K X.mg W M F H Z (.nxt (e2.set i sl)) := p
      obtain ⟨a', vs, q1, q2, q3, q4⟩ := s.own i ds mi
      rw [ha] at q1
      cases q1
      obtain ⟨g, s3, o3⟩ := s.setMine (vs := vs ++ [v]) mi hsl ha (dpa_app q4 (.cons dp .nil))
      refine ⟨a, vs, v, rfl, rfl, q2, ?_, here (p.go (g.mono fun x z => .inl (o x z)) fun x z => .inl z) s3 fun x z => o x (o3 x z)⟩
      have := dpa_len q4
      have hz' : ds.length + 1 ≤ 16777216 := by unfold szOk at hz; exact of_decide_eq_true hz
      rw [sizeLine_eq]
      omega
  rcases two_kinds p with ⟨ds, e, p⟩ | ⟨ds, e, p⟩
  · exact fin (.inl e) (.inl ⟨e, rfl⟩) p
  · exact fin (.inr e) (.inr ⟨e, rfl⟩) p
theorem set_end {M : Addr → Prop} {F H : Hp} {Z : Ends} {σ : L2.St} {e2 : SEnv} {i : Nat} {d : D} {v : V} {a : Addr} {j : Int} (s : Sim ba X.K F H σ e2) (o : ∀ a, O σ e2 a → M a) (ha : σ[i]? = some (some (.ref a))) (dp : Dp X.K F v d) (p : FPost ba X.K X.mg W M F H Z (setK e2 i j d)) :
    rSetL (.ref a) (.int j) v H (fun H3 => Z.nx σ H3) := by
  unfold setK at p
  have fin : ∀ {ds : List D} {f : Nat → Sl}, Mine e2 i ds → (∀ k, (e2[i]? = some (.own ds) ∧ f k = .own (ds.set k d)) ∨ (e2[i]? = some (.bor ds) ∧ f k = .bor (ds.set k d))) → FPost ba X.K X.mg W M F H Z (match ixN ds.length j with
      | some m => .nxt (e2.set i (f m))
      | none => .stuck) → rSetL (.ref a) (.int j) v H (fun H3 => Z.nx σ H3) := by
    intro ds f mi hsl p
    cases hz : ixN ds.length j with
    | none => rw [hz] at p; exact p.elim
    | some k =>
      rw [hz] at p
      have p : FPost ba X.K X.mg W M F H Z (.nxt (e2.set i (f k))) := p
      obtain ⟨a', vs, q1, q2, q3, q4⟩ := s.own i ds mi
      rw [ha] at q1
      cases q1
      obtain ⟨g, s3, o3⟩ := s.setMine (vs := vs.set k v) mi (hsl k) ha (dpa_set dp k q4)
      exact ⟨a, vs, j, k, rfl, rfl, q2, by rw [dpa_len q4]; exact hz, here (p.go (g.mono fun x z => .inl (o x z)) fun x z => .inl z) s3 fun x z => o x (o3 x z)⟩
  rcases two_kinds p with ⟨ds, e, p⟩ | ⟨ds, e, p⟩
  · exact fin (f := fun k => .own (ds.set k d)) (.inl e) (fun k => .inl ⟨e, rfl⟩) p
  · exact fin (f := fun k => .bor (ds.set k d)) (.inr e) (fun k => .inr ⟨e, rfl⟩) p
theorem app_rd {i : Nat} {e : IE} {n : Nat} {Z : Ends} {σ : L2.St} {H : Hp} (q : TS' ba X W (evS Φ n (.app i e)) Z σ H) : tDrop (tBM X.K "list" rAppend (tVar i) (tCons (TE' ba X W (evE Φ e)) tNil)) Z σ H := by
  obtain ⟨F, env, M, s, o, p⟩ := q
  unfold evS at p
  obtain ⟨hm, p⟩ := if_mine p
  obtain ⟨ds0, mi⟩ := isMine_of hm
  obtain ⟨a, vs, q1, q2, q3, q4⟩ := s.own i ds0 mi
  refine ⟨_, q1, .inl ⟨rfl, vs, .inl (.inl q2)⟩, ?_⟩
  obtain ⟨F1, env1, s1, p1⟩ := fkeep (k := fun d e2 => appK e2 i d) s o p
  refine ⟨F1, env1, s1, p1.imp ?_⟩
  rintro v H1 ⟨d, env2, F2, g, o2, s2, dp, p⟩
  exact app_end s2 o2 q1 dp p
theorem set_rd {i : Nat} {a e : IE} {n : Nat} {Z : Ends} {σ : L2.St} {H : Hp} (q : TS' ba X W (evS Φ n (.set i a e)) Z σ H) : tAsg (TE' ba X W (evE Φ e)) (gSub (tVar i) (TE' ba X W (evE Φ a)) rSetL) Z σ H := by
  obtain ⟨F, env, M, s, o, p⟩ := q
  unfold evS at p
  obtain ⟨hm, p⟩ := if_mine p
  obtain ⟨ds0, mi⟩ := isMine_of hm
  obtain ⟨a0, vs, q1, q2, q3, q4⟩ := s.own i ds0 mi
  obtain ⟨F1, env1, s1, p1⟩ := fkeep (k := fun d e2 => (evE Φ a e2).toF fun x e3 => match look e3 x with
      | some (.int j) => setK e3 i j d
      | _ => .stuck) s o p
  refine ⟨F1, env1, s1, p1.imp ?_⟩
  rintro v H1 ⟨d, env2, F2, g, o2, s2, dp, p⟩
  refine ⟨_, q1, ?_⟩
  obtain ⟨F3, env3, s3, p3⟩ := fone s2 o2 p
  refine ⟨F3, env3, s3, p3.imp ?_⟩
  rintro j H2 ⟨x, env4, F4, g4, o4, s4, r, p⟩
  cases e1 : look env4 x with
  | none => rw [e1] at p; exact p.elim
  | some dj =>
    rw [e1] at p
    cases dj with
    | int k =>
      have hv := (look_vr s4 r e1).int
      subst hv
      exact set_end s4 o4 q1 (dp_ex g4.ex _ _ dp) p
    | _ => exact p.elim

/-! ### pop -/
theorem dpa_dropLast {K : Frag} {F : Hp} : ∀ {vs : List V} {ds : List D}, DpAll K F vs ds → DpAll K F vs.dropLast ds.dropLast := fun {vs ds} h => by
  rw [List.dropLast_eq_take, List.dropLast_eq_take, dpa_len h]
  exact dpa_take _ h
theorem pop_rd {i : Nat} {n : Nat} {Z : Ends} {σ : L2.St} {H : Hp} (q : TS' ba X W (evS Φ n (.pop i)) Z σ H) : tDrop (tBM0 X.K "list" rPop (tVar i)) Z σ H := by
  obtain ⟨F, env, M, s, o, p⟩ := q
  have p : FPost ba X.K X.mg W M F H Z (popK env i) := p
  unfold popK at p
  have fin : ∀ {ds : List D} {sl : Sl}, Mine env i ds → ((env[i]? = some (.own ds) ∧ sl = .own ds.dropLast) ∨ (env[i]? = some (.bor ds) ∧ sl = .bor ds.dropLast)) → FPost ba X.K X.mg W M F H Z (if ds.isEmpty = true then .stuck else .nxt (env.set i sl)) → tDrop (tBM0 X.K "list" rPop (tVar i)) Z σ H := by
    intro ds sl mi hsl p
    cases hz : ds.isEmpty with
    | true => rw [hz] at p; exact p.elim
    | false =>
      rw [hz] at p
      have p : FPost ba X.K X.mg W M F H Z (.nxt (env.set i sl)) := p
      obtain ⟨a, vs, q1, q2, q3, q4⟩ := s.own i ds mi
      have hl := dpa_len q4
      have hne : 0 < vs.length := by
        rw [hl]
        cases ds with
        | nil => cases hz
        | cons _ _ => exact Nat.succ_pos _
      obtain ⟨g, s3, o3⟩ := s.setMine (vs := vs.dropLast) mi hsl q1 (dpa_dropLast q4)
      exact ⟨.ref a, q1, .inl ⟨rfl, vs, .inl (.inl q2)⟩, a, vs, vs[vs.length - 1], rfl, rfl, q2, List.getElem?_eq_getElem (by omega), here (p.go (g.mono fun x z => .inl (o x z)) fun x z => .inl z) s3 fun x z => o x (o3 x z)⟩
  rcases two_kinds p with ⟨ds, e, p⟩ | ⟨ds, e, p⟩
  · exact fin (.inl e) (.inl ⟨e, rfl⟩) p
  · exact fin (.inr e) (.inr ⟨e, rfl⟩) p
theorem ps_false {st : Stmt} {t : TS} (h : ∀ Z σ H, ¬ t Z σ H) : PS X st t := ⟨fun pins s σ H Z I q => (h Z σ H q).elim⟩
/-! ### the rest -/
theorem ex_rd {e : IE} {n : Nat} {Z : Ends} {σ : L2.St} {H : Hp} (q : TS' ba X W (evS Φ n (.ex e)) Z σ H) : tDrop (TE' ba X W (evE Φ e)) Z σ H := by
  obtain ⟨F, env, M, s, o, p⟩ := q
  obtain ⟨F1, env1, s1, q1⟩ := fone s o p
  refine ⟨F1, env1, s1, q1.imp ?_⟩
  rintro v H1 ⟨w, env2, F2, g, o2, s2, r, p⟩
  exact here p s2 o2
theorem ret_rd {e : IE} {n : Nat} {Z : Ends} {σ : L2.St} {H : Hp} (q : TS' ba X W (evS Φ n (.ret e)) Z σ H) : tRet (TE' ba X W (evE Φ e)) Z σ H := by
  obtain ⟨F, env, M, s, o, p⟩ := q
  obtain ⟨F1, env1, s1, q1⟩ := fkeep (k := fun d e2 => FR.ret d e2) s o p
  refine ⟨F1, env1, s1, q1.imp ?_⟩
  rintro v H1 ⟨d, env2, F2, g, o2, s2, dp, p⟩
  exact p v σ F2 H1 (Go.refl _ _ _) (fun a z => .inl (o2 a z)) s2 dp
theorem retN_rd {n : Nat} {Z : Ends} {σ : L2.St} {H : Hp} (q : TS' ba X W (evS Φ n .retN) Z σ H) : tRetN Z σ H := by
  obtain ⟨F, env, M, s, o, p⟩ := q
  exact p .non σ F H (Go.refl _ _ _) (fun a z => .inl (o a z)) s .non
theorem nx_rd {Z : Ends} {σ : L2.St} {H : Hp} (q : TS' ba X W (fun env => .nxt env) Z σ H) : tNext Z σ H := by
  obtain ⟨F, env, M, s, o, p⟩ := q
  exact here p s o
theorem brk_rd {n : Nat} {Z : Ends} {σ : L2.St} {H : Hp} (q : TS' ba X W (evS Φ n .brk) Z σ H) : tBreak Z σ H := by
  obtain ⟨F, env, M, s, o, p⟩ := q
  exact p σ F H (Go.refl _ _ _) (fun a z => .inl (o a z)) s
theorem cnt_rd {n : Nat} {Z : Ends} {σ : L2.St} {H : Hp} (q : TS' ba X W (evS Φ n .cnt) Z σ H) : tCont Z σ H := by
  obtain ⟨F, env, M, s, o, p⟩ := q
  exact p σ F H (Go.refl _ _ _) (fun a z => .inl (o a z)) s
theorem ite_rd {t : IE} {a b : ISs} {n : Nat} {Z : Ends} {σ : L2.St} {H : Hp} (q : TS' ba X W (evS Φ n (.ite t a b)) Z σ H) : tIfS (tB' ba X.K X.mg W (evT Φ t)) (TS' ba X W (evSs Φ n a)) (TS' ba X W (evSs Φ n b)) Z σ H := by
  obtain ⟨F, env, M, s, o, p⟩ := q
  refine ⟨F, env, s, (FPost.toF (Rel := RI σ H) o p).imp ?_⟩
  rintro b' H1 ⟨c, env1, F1, g, o1, s1, r, p⟩
  have r : c = b' := r
  subst r
  cases c with
  | true => exact if_T rfl ⟨F1, env1, Up M H, s1, fun a z => .inl (o a (o1 a z)), p⟩
  | false => exact if_F rfl ⟨F1, env1, Up M H, s1, fun a z => .inl (o a (o1 a z)), p⟩
theorem for_rd {tg : Tg} {it : II} {b : ISs} {n : Nat} {Z : Ends} {σ : L2.St} {H : Hp} (q : TS' ba X W (evS Φ n (.for_ tg it b)) Z σ H) : tFor (tI ba X.K X.mg W (evI Φ it)) (gT X.K tg) (TS' ba X W (evSs Φ n b)) Z σ H := by
  obtain ⟨F, env, M, s, o, p⟩ := q
  refine ⟨F, env, s, (FPost.toF (Rel := RY X.K σ H) o p).imp ?_⟩
  rintro J H1 ⟨ds, env1, F1, g, o1, s1, y, p⟩
  refine for_loop (g := gT X.K tg) (tb := TS' ba X W (evSs Φ n b)) y s1 (fun a z => .inl (o a (o1 a z))) p ?_
  intro d env F H σ M x Z' s o dp p
  cases e1 : putT env tg d with
  | none => rw [e1] at p; exact p.elim
  | some e2 =>
    rw [e1] at p
    exact putT_ok s dp e1 fun σ3 s3 o3 _ => ⟨F, e2, M, s3, fun a z => o a (o3 a z), p⟩
theorem whl_rd {t : IE} {b : ISs} {n : Nat} {Z : Ends} {σ : L2.St} {H : Hp} (q : TS' ba X W (evS Φ n (.whl t b)) Z σ H) : tWhile (tB' ba X.K X.mg W (evT Φ t)) (TS' ba X W (evSs Φ n b)) Z σ H := by
  obtain ⟨F, env, M, s, o, p⟩ := q
  have p : FPost ba X.K X.mg W M F H Z (whlL (evT Φ t) (evSs Φ n b) n env) := p
  refine ⟨fun m σ H => ∃ F env M, Sim ba X.K F H σ env ∧ (∀ a, O σ env a → M a) ∧ FPost ba X.K X.mg W M F H Z (whlL (evT Φ t) (evSs Φ n b) m env), ⟨n, F, env, M, s, o, p⟩, ?_⟩
  rintro m σ H ⟨F, env, M, s, o, p⟩
  cases m with
  | zero => exact p.elim
  | succ m =>
    unfold whlL at p
    refine ⟨F, env, s, (FPost.toF (Rel := RI σ H) o p).imp ?_⟩
    rintro b' H1 ⟨c, env1, F1, g, o1, s1, r, p⟩
    have r : c = b' := r
    subst r
    have o1' : ∀ a, O σ env1 a → Up M H a := fun a z => .inl (o a (o1 a z))
    cases c with
    | false => exact if_F rfl (here p s1 o1')
    | true =>
      refine if_T rfl ⟨fun σ' H' => ∃ F env M, Sim ba X.K F H' σ' env ∧ (∀ a, O σ' env a → M a) ∧ FPost ba X.K X.mg W M F H' Z (whlL (evT Φ t) (evSs Φ n b) m env), fun σ' H' h => ⟨m, Nat.lt_succ_self m, h⟩, F1, env1, Up M H, s1, o1', ?_⟩
      have p : FPost ba X.K X.mg W (Up M H) F1 H1 Z (match evSs Φ n b env1 with
        | .nxt e' => whlL (evT Φ t) (evSs Φ n b) m e'
        | .cnt e' => whlL (evT Φ t) (evSs Φ n b) m e'
        | .brk e' => .nxt e'
        | r => r) := p
      cases e1 : evSs Φ n b env1 with
      | nxt e =>
        rw [e1] at p
        exact fun σ' F' H'' g' o' s' => ⟨F', e, Up (Up M H) H1, s', o', p.go g' fun x z => z⟩
      | cnt e =>
        rw [e1] at p
        exact fun σ' F' H'' g' o' s' => ⟨F', e, Up (Up M H) H1, s', o', p.go g' fun x z => z⟩
      | brk e => rw [e1] at p; exact p
      | ret d e => rw [e1] at p; exact p
      | exc c q e => rw [e1] at p; exact p
      | stuck => rw [e1] at p; exact p.elim
theorem seq_rd {a : IS} {b : ISs} {n : Nat} {Z : Ends} {σ : L2.St} {H : Hp} (q : TS' ba X W (evSs Φ n (.cons a b)) Z σ H) : tSeq (TS' ba X W (evS Φ n a)) (TS' ba X W (evSs Φ n b)) Z σ H := by
  obtain ⟨F, env, M, s, o, p⟩ := q
  refine ⟨F, env, M, s, o, ?_⟩
  have p : FPost ba X.K X.mg W M F H Z ((evS Φ n a env).bind fun e => evSs Φ n b e) := p
  cases e1 : evS Φ n a env with
  | nxt e =>
    rw [e1] at p
    have p : FPost ba X.K X.mg W M F H Z (evSs Φ n b e) := p
    exact fun σ' F' H'' g' o' s' => ⟨F', e, Up M H, s', o', p.go g' fun x z => z⟩
  | cnt e => rw [e1] at p; exact p
  | brk e => rw [e1] at p; exact p
  | ret d e => rw [e1] at p; exact p
  | exc c q e => rw [e1] at p; exact p
  | stuck => rw [e1] at p; exact p.elim
theorem raise_rd {C fI : Addr} (T : PySem.BadX.BadTxt X.K X.mg C fI) {e : IE} {n : Nat} {Z : Ends} {σ : L2.St} {H : Hp} (q : TS' ba X W (evS Φ n (.raise "BadValue" e)) Z σ H) : tRaiseBad C W (tCons (TE' ba X W (evE Φ e)) tNil) Z σ H := by
  obtain ⟨F, env, M, s, o, p⟩ := q
  obtain ⟨F1, env1, s1, q1⟩ := fkeep (k := fun d e2 => FR.exc "BadValue" d e2) s o p
  refine ⟨F1, env1, s1, q1.imp ?_⟩
  rintro v H1 ⟨d, env2, F2, g, o2, s2, dp, p⟩
  refine ⟨v, rfl, fun dd hd => ?_⟩
  have g3 : Go (Up M H) F2 H1 F2 (upd H1 dd (.xd [(("at" : Str), v)])) := Go.newM hd
  have f0 : F2 dd = none := by
    cases q : F2 dd with
    | none => rfl
    | some u => rw [s2.sub dd u q] at hd; cases hd
  exact p dd σ F2 _ g3 (fun a z => .inl (o2 a z)) (s2.go (M := fun _ => False) (Go.newM hd) (s2.sub.right f0) fun _ _ z => z) ⟨f0, v, upd_same, dp⟩ C T.gC
end
end PyE

set_option Elab.async false
set_option linter.all false
set_option autoImplicit false
set_option maxRecDepth 100000
set_option maxHeartbeats 4000000
/-! # What the statements' checker takes is run as the evaluator says -/
namespace PyE
open PySem PySem.Spec PyProof.Rows L2
section
variable {ba : Addr} {Φ : Fns} {Γ : Gam} {S : Sc} {m : Nat} {W : WX} {X : Cx}
theorem Sok.kind (C : Sok Φ Γ S m W X) : X.env.scope.kind = .function := by rw [C.hsc]; exact C.fk
theorem Sok.nd' (C : Sok Φ Γ S m W X) : X.N.Nodup := by rw [C.hN]; exact C.nd
theorem Sok.tr (C : Sok Φ Γ S m W X) (W' : WX) (pn : List (Addr × Obj)) (xe : Value → Shared → Prop) (tk : Takes (X.tr pn xe) W') (po : PassesOwn (model X.prog X.w) X.A X.env xe) : Sok Φ Γ S m W' (X.tr pn xe) :=
  ⟨⟨C.hN, C.nd, C.hsc, C.hfn, C.calm, C.room, tk, C.con, C.fn, C.blt, C.mb⟩, po, C.fk, C.stk, C.fr, C.pm, C.bad⟩
theorem assign_one {t : Expr} {env : Env} (h : notStar t = true) : (assignEach [t] env).map (·.2) = [assign t env] := by
  cases t <;> first | rfl | (exact absurd h (by simp [notStar]))
/-- name = e -/
theorem s_asg (C : Sok Φ Γ S m W X) {i : Nat} {e : IE} {y : Str} {py pos : Pos} {x : Expr} {n : Nat} (h1 : Γ.N[i]? = some y) (h2 : locB S y = true) (h3 : chkE Γ S e x = true) (h4 : (!swB S y py x || isLcE e) = true) : PS X (.Assign [.Name y py] x pos) (TS' ba X W (evS Φ n (.asg i e))) := by
  obtain ⟨l1, l2⟩ := C.loc h2
  cases hs : swB S y py x with
  | false => exact ps_imp (ps_set C.nd' (C.ix h1) l1 (sndE e C.toCok _ h3).1 (sw_not C.kind C.hsc hs) l2) fun Z σ H q => asg_rd rfl (X' := X) q
  | true =>
    rw [hs] at h4
    cases e <;> first | (cases h4; done) | skip
    · rename_i e tg it c own
      unfold chkE at h3
      split at h3
      · rename_i y' tgx itx ifs scope pos'
        simp only [Bool.and_eq_true] at h3
        obtain ⟨⟨⟨⟨⟨⟨h0, g1⟩, g2⟩, g3⟩, g4⟩, g5⟩, g6⟩ := h3
        obtain ⟨s1, s2⟩ := sw_yes (l := pos.line) C.kind C.hsc hs
        refine ps_imp (ps_setLc C.calm C.nd' (C.ix h1) s2 s1 (g := gT X.K tg) (tt := tB' ba X.K X.mg W0 (evC Φ c)) (te := tE ba X.K X.mg W0 (evE Φ e)) (sndI (ba := ba) it C.toCok _ _ g2) (blkok C.toCok h0) (fun s H A cl fp => pg_T (C.toCok.blk scope s H A cl fp) g3) (fun s H A cl fp => sndC c (C.toCok.blk scope s H A cl fp) _ g5)
          (fun s H A cl fp => (sndE e (C.toCok.blk scope s H A cl fp) _ g6).1) (folded_of g1)) fun Z σ H q => ?_
        rw [ownP_snd]
        have q' := asg_rd (X' := X) rfl q
        exact rd_lc (mem_all g4) q'
      · cases h3
    · rename_i e tg it c tg2 it2 c2 own own2
      unfold chkE at h3
      split at h3
      · rename_i y' tgx itx ifs tgx2 itx2 ifs2 scope pos'
        simp only [Bool.and_eq_true] at h3
        obtain ⟨⟨⟨⟨⟨⟨⟨⟨⟨⟨⟨⟨h0, g1⟩, g1'⟩, g2⟩, g3⟩, g4⟩, g5⟩, g6⟩, g7⟩, g8⟩, g9⟩, g10⟩, g11⟩ := h3
        obtain ⟨s1, s2⟩ := sw_yes (l := pos.line) C.kind C.hsc hs
        refine ps_imp (ps_setLc2 C.calm C.nd' (C.ix h1) s2 s1 (g := gT X.K tg) (g1 := gT X.K tg2) (vs1 := own2) (tt := tB' ba X.K X.mg W0 (evC Φ c)) (te := tE ba X.K X.mg W0 (evE Φ e)) (wi1 := tI ba X.K X.mg W0 (evI Φ it2)) (tt1 := tB' ba X.K X.mg W0 (evC Φ c2)) (sndI (ba := ba) it C.toCok _ _ g2) (blkok C.toCok h0) (fun i hi => by rw [ownP_snd]; exact mem_all g6 i hi)
          (fun s H A cl fp => pg_T (C.toCok.blk scope s H A cl fp) g3) (fun s H A cl fp => sndC c (C.toCok.blk scope s H A cl fp) _ g5)
          (fun s H A cl fp => sndI (ba := ba) it2 (C.toCok.blk scope s H A cl fp) _ _ g7) (fun s H A cl fp => pg_T (C.toCok.blk scope s H A cl fp) g8) (fun s H A cl fp => sndC c2 (C.toCok.blk scope s H A cl fp) _ g10)
          (fun s H A cl fp => (sndE e (C.toCok.blk scope s H A cl fp) _ g11).1) (folded_of g1) (fun env x => folded_of g1' x)) fun Z σ H q => ?_
        rw [ownP_snd]
        have q' := asg_rd (X' := X) rfl q
        exact rd_lc2 (mem_all g4) (mem_all g9) (mem_all g6) q'
      · cases h3
/-- a, b = x, y -/
theorem swap2 {x y : Str} {px py pt pt2 : Pos} {kt k2 : Nat} {a b : Expr} {env : Env} (hk : env.scope.kind = .function) (hx : env.scope.names.lookup x = some .local) (hy : env.scope.names.lookup y = some .local) (hl : (px.line == py.line) = true) (ha : notStar a = true) (hb : notStar b = true)
    (h1 : [a, b].all (foldedForSure 8) = false) (h2 : [a, b].all (constantsAlone 8) = false) (hne : x ≠ y) :
    swappedStores [.Tuple [.Name x px, .Name y py] kt pt] (.Tuple [a, b] k2 pt2) env = pure (some [x, y]) := by
  have kx : (env.kindOf x == some .local) = true := by rw [show env.kindOf x = some .local from hx]; rfl
  have ky : (env.kindOf y == some .local) = true := by rw [show env.kindOf y = some .local from hy]; rfl
  have hbk : env.blockKind = .function := by unfold Env.blockKind; rw [hk]; rfl
  have hl' : px.line = py.line := eq_of_beq hl
  have er : [x, y].eraseDups = [x, y] := by
    have : (y == x) = false := by simpa using (Ne.symm hne)
    simp [List.eraseDups, List.eraseDupsBy, List.eraseDupsBy.loop, this]
  unfold swappedStores
  simp only [hbk, h1, h2, List.any_cons, List.any_nil, List.filterMap_cons, List.filterMap_nil, List.head?_cons, Option.map_some, Option.getD_some, Expr.pos, kx, ky, hl', beq_self_eq_true, Bool.and_self, if_true, er, List.length_cons, List.length_nil, pure_bind]
  rw [if_neg (by decide)]
  split
  · exact absurd ha (by simp [notStar])
  split
  · exact absurd hb (by simp [notStar])
  rfl
theorem swap3 {x y z : Str} {px py pz pt pt2 : Pos} {kt k2 : Nat} {a b c : Expr} {env : Env} (hk : env.scope.kind = .function) (hx : env.scope.names.lookup x = some .local) (hy : env.scope.names.lookup y = some .local) (hz : env.scope.names.lookup z = some .local) (hl : (px.line == py.line) = true) (hl2 : (px.line == pz.line) = true) (ha : notStar a = true) (hb : notStar b = true) (hc : notStar c = true)
    (h1 : [a, b, c].all (foldedForSure 8) = false) (h2 : [a, b, c].all (constantsAlone 8) = false) (hne : x ≠ y ∧ x ≠ z ∧ y ≠ z) :
    swappedStores [.Tuple [.Name x px, .Name y py, .Name z pz] kt pt] (.Tuple [a, b, c] k2 pt2) env = pure (some [x, y, z]) := by
  have kx : (env.kindOf x == some .local) = true := by rw [show env.kindOf x = some .local from hx]; rfl
  have ky : (env.kindOf y == some .local) = true := by rw [show env.kindOf y = some .local from hy]; rfl
  have kz : (env.kindOf z == some .local) = true := by rw [show env.kindOf z = some .local from hz]; rfl
  have hbk : env.blockKind = .function := by unfold Env.blockKind; rw [hk]; rfl
  have hl' : px.line = py.line := eq_of_beq hl
  have hl2' : py.line = pz.line := hl'.symm.trans (eq_of_beq hl2)
  have er : [x, y, z].eraseDups = [x, y, z] := by
    have e1 : (y == x) = false := by simpa using (Ne.symm hne.1)
    have e2 : (z == x) = false := by simpa using (Ne.symm hne.2.1)
    have e3 : (z == y) = false := by simpa using (Ne.symm hne.2.2)
    simp [List.eraseDups, List.eraseDupsBy, List.eraseDupsBy.loop, e1, e2, e3]
  unfold swappedStores
  simp only [hbk, h1, h2, List.any_cons, List.any_nil, List.filterMap_cons, List.filterMap_nil, List.head?_cons, Option.map_some, Option.getD_some, Expr.pos, kx, ky, kz, hl', hl2', beq_self_eq_true, Bool.and_self, if_true, er, List.length_cons, List.length_nil, pure_bind]
  rw [if_neg (by decide)]
  split
  · exact absurd ha (by simp [notStar])
  split
  · exact absurd hb (by simp [notStar])
  split
  · exact absurd hc (by simp [notStar])
  rfl
end
end PyE

set_option Elab.async false
set_option linter.all false
set_option autoImplicit false
set_option maxRecDepth 100000
set_option maxHeartbeats 4000000
/-! # Every statement that the checker takes is run as the evaluator says -/
namespace PyE
open PySem PySem.Spec PyProof.Rows L2
section
variable {ba : Addr} {Φ : Fns} {Γ : Gam} {S : Sc} {m : Nat} {W : WX} {X : Cx}
theorem p_kv (C : Sok Φ Γ S m W X) {e : IE} {x : Expr} (hc : chkKV Γ S e x = true) (a : Addr) (pn : List (Addr × Obj)) : ∃ te : TE, PE (X.suite a pn) x te ∧ ∀ σ H Q, (match e with
    | .k d => ∀ v, (∀ F, Dp X.K F v d) → Q v H
    | .v j => ∃ v, σ[j]? = some (some v) ∧ Q v H
    | _ => False) → te σ H Q := by
  cases e <;> first | (cases hc; done) | skip
  · rename_i d
    have hc : chkE Γ S (.k d) x = true := hc
    unfold chkE at hc
    split at hc
    · rename_i c j pos
      unfold constOk at hc
      split at hc
      · exact ⟨_, pe_non, fun σ H Q h => h _ fun F => .non⟩
      · have := eq_of_beq hc; subst this; exact ⟨_, pe_bl, fun σ H Q h => h _ fun F => .bl _⟩
      · have := eq_of_beq hc; subst this; exact ⟨_, pe_int, fun σ H Q h => h _ fun F => .int _⟩
      · have := eq_of_beq hc; subst this; exact ⟨_, pe_str, fun σ H Q h => h _ fun F => .str _⟩
      · cases hc
    · cases hc
  · rename_i i
    have hc : chkE Γ S (.v i) x = true := hc
    unfold chkE at hc
    split at hc
    · rename_i n pos
      simp only [Bool.and_eq_true, decide_eq_true_eq] at hc
      obtain ⟨o1, o2, o3⟩ := okName_of hc.2
      exact ⟨_, pe_var (X := X.suite a pn) (i := i) (C.ix hc.1.1) (C.vis hc.1.2) o1 o2, fun σ H Q h => h⟩
    · cases hc
theorem s_try (C : Sok Φ Γ S m W X) {b : ISs} {i : Nat} {e : IE} {k : Nat} {y : List Stmt} {n : Str} {x : Expr} {p1 p2 p3 p4 p5 p6 pos : Pos} (hg : glB S.sc "BadValue" = true) (hi : Γ.N[i]? = some n) (hn : S.sc.names.lookup n = some .local) (ho : okName n = true) (hs : notSet x = true) (he : chkKV Γ S e x = true)
    (hb : ∀ (W' : WX) (pn : List (Addr × Obj)) (xe : Value → Shared → Prop), Sok Φ Γ S m W' (X.tr pn xe) → PSs (X.tr pn xe) y (TS' ba X W' (evSs Φ k b))) :
    PS X (.Try y [.ExceptHandler (some (.Name "BadValue" p1)) (some n) [.Return (some (.Compare (.Attribute (.Name n p2) "at" p3) [.Eq] [x] p4)) p5] p6] [] [] pos) (TS' ba X W (evS Φ k (.tryAt b "BadValue" i e))) := by
  obtain ⟨Cl, fI, T⟩ := C.bad
  obtain ⟨o1, o2, o3⟩ := okName_of ho
  have hk : X.env.kindOf n = some .local := by show X.env.scope.names.lookup n = _; rw [C.hsc]; exact hn
  have te : ∀ (a : Addr) (pn : List (Addr × Obj)), ∃ te : TE, PE (X.suite a pn) x te ∧ ∀ σ H Q, (match e with
    | .k d => ∀ v, (∀ F, Dp X.K F v d) → Q v H
    | .v j => ∃ v, σ[j]? = some (some v) ∧ Q v H
    | _ => False) → te σ H Q := fun a pn => p_kv C he a pn
  let ts : Addr → Value → Option Addr → TS := fun a cls d => fun Z σ H => tAtBad Cl a cls d (tVar i) σ H fun v1 H1 => (match e with
    | .k d => ∀ v, (∀ F, Dp X.K F v d) → rCmp X.K .Eq v1 v H1 Z.rt
    | .v j => ∃ v, σ[j]? = some (some v) ∧ rCmp X.K .Eq v1 v H1 Z.rt
    | _ => False)
  refine ps_imp (ps_try_as (i := i) (c := .ref Cl) (tb := fun W' => TS' ba X W' (evSs Φ k b)) (ts := ts) (Wout := W) C.stk C.fr C.nd' (C.ix hi) hk ⟨C.gl hg, by decide, .inl T.gC⟩ C.tk (fun W' pn xe tk po => hb W' pn xe (C.tr W' pn xe tk po)) ?_) ?_
  · intro a oe cls d pn hz hf
    obtain ⟨te, h1, h2⟩ := te a ((a, oe) :: pn)
    refine pss_imp (pss_one (ps_ret (pe_cmpR (opCmp (X := X.suite a ((a, oe) :: pn)) C.hu .Eq) (pe_atBad T hz hf (pe_var (X := X.suite a ((a, oe) :: pn)) (C.ix hi) (.inl hk) o1 o2)) h1 (marks_of .Eq hs)))) ?_
    rintro Z σ H ⟨v, e1, z1, z2, dd, v2, z3, z4, q⟩
    refine ⟨v, e1, z1, z2, dd, v2, z3, z4, ?_⟩
    exact h2 σ H _ q
  · rintro Z σ H ⟨F, env, M, s, o, p⟩
    refine ⟨F, env, M, s, o, ?_⟩
    unfold evS at p
    cases e1 : evSs Φ k b env with
    | nxt e' => rw [e1] at p; exact p
    | cnt e' => rw [e1] at p; exact p
    | brk e' => rw [e1] at p; exact p
    | ret d e' => rw [e1] at p; exact p
    | stuck => rw [e1] at p; exact p.elim
    | exc c' xx env2 =>
      rw [e1] at p
      have pq : FPost ba X.K X.mg W M F H Z (if (("BadValue" : Str) == c' && decide (i < env2.length)) = true then (match e with
        | .k d => (match cmpD .Eq xx d with | some b => FR.ret (.bool b) env2 | none => .stuck)
        | .v j => (match env2[j]? with
          | some (.sh d) => if i == j then .stuck else (match cmpD .Eq xx d with | some b => FR.ret (.bool b) env2 | none => .stuck)
          | _ => .stuck)
        | _ => .stuck) else .stuck) := p
      clear p
      cases hc : (("BadValue" : Str) == c' && decide (i < env2.length)) with
      | false => rw [hc] at pq; exact pq.elim
      | true =>
        rw [hc, if_pos rfl] at pq
        simp only [Bool.and_eq_true, beq_iff_eq, decide_eq_true_eq] at hc
        obtain ⟨rfl, hl⟩ := hc
        intro d' σ' F' H' g o' s' xa C' hC'
        have : C' = Cl := by
          rw [T.gC] at hC'
          injection hC' with z
          injection z with z
          exact z.symm
        subst this
        obtain ⟨x0, v, x1, x2⟩ := xa
        refine ⟨true, T.te, fun _ a ha => ?_, fun z => by cases z⟩
        have hl' : i < σ'.length := by rw [← s'.len]; exact hl
        have fin : ∀ {d : D} {v2 : V}, Dp X.K F' v2 d → FPost ba X.K X.mg W M F H Z (match cmpD .Eq xx d with | some b => FR.ret (.bool b) env2 | none => .stuck) → rCmp X.K .Eq v v2 H' Z.rt := by
          intro d v2 r p
          cases e2 : cmpD .Eq xx d with
          | none => rw [e2] at p; exact p.elim
          | some b =>
            rw [e2] at p
            exact ⟨F', xx, d, b, s'.sub, VR.of s'.sub x2, VR.of s'.sub r, e2, p (.bl b) σ' F' H' g o' s' (.bl b)⟩
        refine ⟨.ref a, List.getElem?_set_self hl', rfl, rfl, d', v, rfl, x1, ?_⟩
        cases e with
        | k d => exact fun v2 r => fin (r F') pq
        | v j =>
          have p : FPost ba X.K X.mg W M F H Z (match env2[j]? with
            | some (.sh d) => if (i == j) = true then .stuck else (match cmpD .Eq xx d with | some b => FR.ret (.bool b) env2 | none => .stuck)
            | _ => .stuck) := pq
          cases e3 : env2[j]? with
          | none => rw [e3] at p; exact p.elim
          | some sl =>
            rw [e3] at p
            cases sl with
            | sh d =>
              have p : FPost ba X.K X.mg W M F H Z (if (i == j) = true then .stuck else (match cmpD .Eq xx d with | some b => FR.ret (.bool b) env2 | none => .stuck)) := p
              cases hij : (i == j) with
              | true => rw [hij] at p; exact p.elim
              | false =>
                rw [hij] at p
                obtain ⟨v2, q1, q2⟩ := s'.sh j d e3
                have hne : i ≠ j := by simpa using hij
                exact ⟨v2, by rw [List.getElem?_set_ne hne]; exact q1, fin q2 p⟩
            | _ => exact p.elim
        | _ => exact pq.elim
mutual
theorem sndS : ∀ (s : IS) {W : WX} {X : Cx} (C : Sok Φ Γ S m W X) (n : Nat) (st : Stmt), chkS Γ S s st = true → PS X st (TS' ba X W (evS Φ n s))
  | .asg i e, W, X, C, n, st, hc => by
    unfold chkS at hc
    split at hc
    · rename_i y py x pos
      simp only [Bool.and_eq_true, decide_eq_true_eq] at hc
      obtain ⟨⟨⟨h1, h2⟩, h3⟩, h4⟩ := hc
      exact s_asg C h1 h2 h3 h4
    · cases hc
  | .asgT is e, W, X, C, n, st, hc => by
    unfold chkS at hc
    split at hc
    · rename_i ts k p x pos
      simp only [Bool.and_eq_true] at hc
      obtain ⟨⟨⟨h1, h2⟩, h3⟩, h4⟩ := hc
      exact ps_imp (ps_asg (sndE e C.toCok _ h2).1 (pg_T C.toCok (tg := .many is) h1) (sw0 h4) (ss_tup C.hsc h3)) fun Z σ H q => asgT_rd q
    · cases hc
  | .par is es, W, X, C, n, st, hc => by
    unfold chkS at hc
    split at hc
    · rename_i ts k p xs k2 p2 pos
      simp only [Bool.and_eq_true] at hc
      obtain ⟨⟨h1, h2⟩, h3⟩ := hc
      unfold parOk at h3
      split at h3
      · rename_i x px y py a b
        simp only [Bool.and_eq_true, beq_iff_eq, Bool.not_eq_true', decide_eq_true_eq] at h3
        obtain ⟨⟨⟨⟨⟨⟨⟨g1, g2⟩, g3⟩, g4⟩, g5⟩, g6⟩, g7⟩, g8⟩ := h3
        match is, h1 with
        | [i, j], h1 =>
          simp only [chkNm, Bool.and_eq_true, decide_eq_true_eq] at h1
          obtain ⟨⟨i1, i2⟩, ⟨j1, j2⟩, _⟩ := h1
          have hij : i ≠ j := fun z => g8 (by rw [z, j1] at i1; exact (Option.some.inj i1).symm)
          rw [← C.hsc] at g1 g2
          refine ps_imp (ps_par C.calm C.nd' (C.ix i1) (C.ix j1) hij g1 g2 (sndEs (ba := ba) es C.toCok _ h2) (swap2 C.kind g1 g2 (by rw [g3]; exact beq_self_eq_true _) g4 g5 g6 g7 g8)) fun Z σ H q => ?_
          have q' := par_rd q
          obtain ⟨F, env, s, q'⟩ := q'
          refine ⟨F, env, s, q'.imp ?_⟩
          rintro vs H1 ⟨v, r, rfl, w, r2, rfl, rfl, z⟩
          exact ⟨v, w, rfl, z⟩
        | [], h1 => cases h1
        | [i], h1 => simp [chkNm] at h1
        | i :: j :: l :: r, h1 => simp [chkNm] at h1
      · rename_i x px y py z pz a b c
        simp only [Bool.and_eq_true, beq_iff_eq, Bool.not_eq_true', decide_eq_true_eq] at h3
        obtain ⟨⟨⟨⟨⟨⟨⟨⟨⟨⟨g1, g2⟩, g2'⟩, g3⟩, g3'⟩, g4⟩, g5⟩, g5'⟩, g6⟩, g7⟩, g8⟩ := h3
        match is, h1 with
        | [i, j, l], h1 =>
          simp only [chkNm, Bool.and_eq_true, decide_eq_true_eq] at h1
          obtain ⟨⟨i1, i2⟩, ⟨j1, j2⟩, ⟨l1, l2⟩, _⟩ := h1
          have hij : i ≠ j := fun z => g8.1 (by rw [z, j1] at i1; exact (Option.some.inj i1).symm)
          have hil : i ≠ l := fun z => g8.2.1 (by rw [z, l1] at i1; exact (Option.some.inj i1).symm)
          have hjl : j ≠ l := fun z => g8.2.2 (by rw [z, l1] at j1; exact (Option.some.inj j1).symm)
          rw [← C.hsc] at g1 g2 g2'
          refine ps_imp (ps_par3 C.calm C.nd' (C.ix i1) (C.ix j1) (C.ix l1) hij hil hjl g1 g2 g2' (sndEs (ba := ba) es C.toCok _ h2) (swap3 C.kind g1 g2 g2' (by rw [g3]; exact beq_self_eq_true _) (by rw [g3']; exact beq_self_eq_true _) g4 g5 g5' g6 g7 g8)) fun Z σ H q => ?_
          have q' := par_rd q
          obtain ⟨F, env, s, q'⟩ := q'
          refine ⟨F, env, s, q'.imp ?_⟩
          rintro vs H1 ⟨v, r, rfl, w, r2, rfl, u, r3, rfl, rfl, z⟩
          exact ⟨v, w, u, rfl, z⟩
        | [], h1 => cases h1
        | [i], h1 => simp [chkNm] at h1
        | [i, j], h1 => simp [chkNm] at h1
        | i :: j :: l :: l2 :: r, h1 => simp [chkNm] at h1
      · cases h3
    · cases hc
  | .asg2 i j e, W, X, C, n, st, hc => by
    unfold chkS at hc
    split at hc
    · simp only [Bool.and_eq_true, decide_eq_true_eq] at hc
      obtain ⟨⟨⟨⟨h1, h2⟩, h3⟩, h4⟩, h5⟩ := hc
      obtain ⟨l1, l2⟩ := C.loc h2
      obtain ⟨k1, k2⟩ := C.loc h4
      exact ps_imp (ps_asg2 (sndE e C.toCok _ h5).1 (pg_name C.nd' (C.ix h1) l1 l2) (pg_name C.nd' (C.ix h3) k1 k2)) fun Z σ H q => asg2_rd q
    · cases hc
  | .aug i op e, W, X, C, n, st, hc => by
    unfold chkS at hc
    split at hc
    · simp only [Bool.and_eq_true, decide_eq_true_eq, Bool.or_eq_true] at hc
      obtain ⟨⟨⟨⟨h1, h2⟩, rfl⟩, h3⟩, h4⟩ := hc
      obtain ⟨l1, l2⟩ := C.loc h2
      rcases h3 with rfl | rfl
      · exact ps_imp (ps_aug C.nd' (C.ix h1) l1 (sndE e C.toCok _ h4).1 ip_add l2) fun Z σ H q => aug_rd (fun _ _ => rfl) q
      · exact ps_imp (ps_aug C.nd' (C.ix h1) l1 (sndE e C.toCok _ h4).1 ip_sub l2) fun Z σ H q => aug_rd (fun _ _ => rfl) q
    · cases hc
  | .app i e, W, X, C, n, st, hc => by
    unfold chkS at hc
    split at hc
    · rename_i y py mm ap x cp pos
      simp only [Bool.and_eq_true, decide_eq_true_eq, beq_iff_eq] at hc
      obtain ⟨⟨⟨⟨⟨⟨h1, h2⟩, h3⟩, rfl⟩, h5⟩, h6⟩, h7⟩ := hc
      obtain ⟨o1, o2, o3⟩ := okName_of h3
      refine ps_imp (ps_expr (pe_bm PySem.F.plainAttrs_list PySem.F.slot_list_append PySem.F.type_list_append mt_append (pe_var (C.ix h1) (C.vis h2) o1 o2) (pa_cons (sndE e C.toCok _ h7).1 pa_nil (star_of h6)) rfl (by rw [star_of h6]; rfl) (by rw [h5]; exact beq_self_eq_true _) (star_of h6) rfl) rfl) fun Z σ H q => app_rd q
    · cases hc
  | .set i a e, W, X, C, n, st, hc => by
    unfold chkS at hc
    split at hc
    · rename_i y py z tp x pos
      simp only [Bool.and_eq_true, decide_eq_true_eq, Bool.not_eq_true'] at hc
      obtain ⟨⟨⟨⟨⟨⟨h1, h2⟩, h3⟩, h4⟩, h5⟩, h7⟩, h8⟩ := hc
      obtain ⟨o1, o2, o3⟩ := okName_of h3
      have ha : ∀ v, assign (.Subscript (.Name y py) z tp) X.env v = (do
          let ov ← holding [v] (eval (.Name y py) X.env)
          let iv ← holding [v, ov] (eval z X.env)
          standAt tp
          holding [v, ov, iv] (setItem ov iv v)
          release [v, ov, iv] []) := fun v => by
        cases z <;> first | rfl | (exact absurd h4 (by simp [notSlice]))
      refine ps_imp (ps_asg (sndE e C.toCok _ h8).1 (pg_sub (pe_var (C.ix h1) (C.vis h2) o1 o2) (sndE a C.toCok _ h7).1 set_list ha) (sw0 h5) (ss_one (fun _ _ _ q => by cases q) fun _ _ q => by cases q)) fun Z σ H q => set_rd q
    · cases hc
  | .ex e, W, X, C, n, st, hc => by
    unfold chkS at hc
    split at hc
    · simp only [Bool.and_eq_true] at hc
      exact ps_imp (ps_expr (sndE e C.toCok _ hc.2).1 (swaps_of hc.1)) fun Z σ H q => ex_rd q
    · cases hc
  | .ret e, W, X, C, n, st, hc => by
    unfold chkS at hc
    split at hc
    · exact ps_imp (ps_ret (sndE e C.toCok _ hc).1) fun Z σ H q => ret_rd q
    · cases hc
  | .retN, W, X, C, n, st, hc => by
    unfold chkS at hc
    split at hc
    · exact ps_imp ps_retN fun Z σ H q => retN_rd q
    · cases hc
  | .ite t a b, W, X, C, n, st, hc => by
    unfold chkS at hc
    split at hc
    · simp only [Bool.and_eq_true] at hc
      exact ps_imp (ps_if (sndE t C.toCok _ hc.1.1).2.1 (sndSs a C n _ hc.1.2) (sndSs b C n _ hc.2)) fun Z σ H q => ite_rd q
    · cases hc
  | .for_ tg it b, W, X, C, n, st, hc => by
    unfold chkS at hc
    split at hc
    · simp only [Bool.and_eq_true] at hc
      obtain ⟨⟨⟨h1, h2⟩, h3⟩, h4⟩ := hc
      exact ps_imp (ps_for C.po C.calm (sndI it C.toCok _ _ h2) (pg_T C.toCok h3) (sndSs b C n _ h4) (folded_of h1)) fun Z σ H q => for_rd q
    · cases hc
  | .whl t b, W, X, C, n, st, hc => by
    unfold chkS at hc
    split at hc
    · simp only [Bool.and_eq_true] at hc
      exact ps_imp (ps_while C.po (sndE t C.toCok _ hc.1).2.1 (sndSs b C n _ hc.2)) fun Z σ H q => whl_rd q
    · cases hc
  | .pop i, W, X, C, n, st, hc => by
    unfold chkS at hc
    split at hc
    · simp only [Bool.and_eq_true, decide_eq_true_eq, beq_iff_eq] at hc
      obtain ⟨⟨⟨⟨h1, h2⟩, h3⟩, rfl⟩, h5⟩ := hc
      obtain ⟨o1, o2, o3⟩ := okName_of h3
      exact ps_imp (ps_expr (pe_bm0 PySem.F.plainAttrs_list PySem.F.slot_list_pop PySem.F.type_list_pop mt_pop (pe_var (C.ix h1) (C.vis h2) o1 o2) rfl (by rw [h5]; exact beq_self_eq_true _)) rfl) fun Z σ H q => pop_rd q
    · cases hc
  | .raise0, W, X, C, n, st, hc => ps_false fun Z σ H q => by
    obtain ⟨F, env, M, s, o, p⟩ := q
    exact p.elim
  | .brk, W, X, C, n, st, hc => by
    unfold chkS at hc
    split at hc
    · exact ps_imp ps_break fun Z σ H q => brk_rd q
    · cases hc
  | .cnt, W, X, C, n, st, hc => by
    unfold chkS at hc
    split at hc
    · exact ps_imp ps_continue fun Z σ H q => cnt_rd q
    · cases hc
  | .pass, W, X, C, n, st, hc => by
    unfold chkS at hc
    split at hc
    · exact ps_imp ps_pass fun Z σ H q => nx_rd q
    · cases hc
  | .raise c e, W, X, C, n, st, hc => by
    unfold chkS at hc
    split at hc
    · rename_i g p x p2 p3
      simp only [Bool.and_eq_true, beq_iff_eq] at hc
      obtain ⟨⟨⟨⟨rfl, rfl⟩, h1⟩, h2⟩, h3⟩ := hc
      obtain ⟨Cl, fI, T⟩ := C.bad
      exact ps_imp (ps_raiseBad C.calm T C.room C.tk (pa_cons (sndE e C.toCok _ h3).1 pa_nil (star_of h2)) (C.gl h1) (star_of h2) rfl) fun Z σ H q => raise_rd T q
    · cases hc
  | .tryAt b c i e, W, X, C, n, st, hc => by
    unfold chkS at hc
    split at hc
    · rename_i y g p1 nn n' p2 f p3 x p4 p5 p6 pos
      simp only [Bool.and_eq_true, beq_iff_eq, decide_eq_true_eq] at hc
      obtain ⟨⟨⟨⟨⟨⟨⟨⟨⟨⟨rfl, rfl⟩, h1⟩, h2⟩, h3⟩, rfl⟩, h4⟩, rfl⟩, h5⟩, h6⟩, h7⟩ := hc
      exact s_try C h1 h2 h3 h4 h5 h6 fun W' pn xe C' => sndSs b C' n _ h7
    · cases hc
theorem sndSs : ∀ (b : ISs) {W : WX} {X : Cx} (C : Sok Φ Γ S m W X) (n : Nat) (sts : List Stmt), chkSs Γ S b sts = true → PSs X sts (TS' ba X W (evSs Φ n b))
  | .nil, W, X, C, n, sts, hc => by
    unfold chkSs at hc
    split at hc
    · exact pss_imp pss_nil fun Z σ H q => nx_rd q
    · cases hc
  | .cons s r, W, X, C, n, sts, hc => by
    unfold chkSs at hc
    split at hc
    · simp only [Bool.and_eq_true] at hc
      exact pss_imp (pss_cons (sndS s C n _ hc.1) (sndSs r C n _ hc.2)) fun Z σ H q => seq_rd q
    · cases hc
end
end
end PyE

set_option Elab.async false
set_option linter.all false
set_option autoImplicit false
set_option maxRecDepth 100000
set_option maxHeartbeats 4000000
/-! # Defs: a table of them, what they promise -/
namespace PyE
open PySem PySem.Spec PyProof.Rows L2
structure Df where
  name : Str
  N : List Str
  ar : Nat
  fuel : Nat
  body : ISs
  bor : Bool := false
def env0 (N : List Str) (ds : List D) : SEnv := ds.map Sl.sh ++ List.replicate (N.length - ds.length) .no
def frR : FR → FRes
  | .ret x _ => .ret x []
  | .nxt _ => .ret .none []
  | .exc c x _ => .exc c x []
  | _ => .stuck
/-- the first argument is a list that is lent -/
def env0B (N : List Str) (bs : List D) (ds : List D) : SEnv := .bor bs :: env0 (N.drop 1) ds
def lentB (e : List Sl) (f : List D → FRes) : FRes := match e[0]? with
  | some (Sl.bor b) => f b
  | _ => .stuck
def frB : FR → FRes
  | .ret x e => lentB e fun b => .ret x b
  | .nxt e => lentB e fun b => .ret .none b
  | .exc c x e => lentB e fun b => .exc c x b
  | _ => .stuck
def runB (Φ : Fns) (d : Df) : List D → FRes
  | .list bs :: ds => frB (evSs Φ d.fuel d.body (env0B d.N bs ds))
  | _ => .stuck
def runDf (Φ : Fns) (d : Df) : FnSem := match d.bor with
  | false => { arity := d.ar, bor := false, run := fun ds => frR (evSs Φ d.fuel d.body (env0 d.N ds)) }
  | true => { arity := d.ar, bor := true, run := runB Φ d }
def Phi (T : List Df) : Nat → Fns
  | 0 => fun _ => none
  | n + 1 => fun f => (T.find? fun d => d.name == f).map (runDf (Phi T n))
/-- what the top says of a def -/
structure DfOk (K : Frag) (mg : Str → Option Value) (con : List (Str × D)) (mb : List Str) (d : Df) : Prop where
  ex : ∃ fa fd st, L2.Fun K d.name d.name st fa fd ∧ mg d.name = some (.ref fa) ∧ PySem.W.keepIn K (.ref fa) = true ∧ (∀ us : List Value, us.length = (d.N.take d.ar).length → bindArgs fd ⟨us, []⟩ = pure ((d.N.take d.ar).zip us)) ∧ FnScope d.N (d.N.take d.ar) (defScope st) ∧
    chkSs ⟨d.N, con, mb⟩ ⟨defScope st, fun _ => true⟩ d.body (defBody st) = true ∧ d.ar ≤ d.N.length
structure TopOk (K : Frag) (mg : Str → Option Value) (con : List (Str × D)) (mb : List Str) (T : List Df) : Prop where
  df : ∀ d ∈ T, DfOk K mg con mb d
  con : ∀ x d, con.lookup x = some d → ∃ u v, mg x = some u ∧ RelV v u ∧ Dp K (fun _ => none) v d
  blt : ∀ x ∈ blts, mg x = none
  mbo : ∀ f : Mf, mb.contains (mfName f) = true → mg (mfName f) = some (.builtin (mfId f))
  bad : ∃ C fI, PySem.BadX.BadTxt K mg C fI
theorem sim0 {ba : Addr} {K : Frag} {F H : Hp} {N : List Str} {vs : List V} {ds : List D} (ex : Ex F H) (dp : DpAll K F vs ds) : Sim ba K F H (L2.start N vs) (env0 N ds) := by
  have hl := dpa_len dp
  have noM : ∀ {i : Nat} {es : List D}, ¬ Mine (env0 N ds) i es := by
    intro i es m
    have key : ∀ {sl : Sl}, (env0 N ds)[i]? = some sl → (∃ d, sl = .sh d) ∨ sl = .no := by
      intro sl e
      unfold env0 at e
      by_cases hi : i < (ds.map Sl.sh).length
      · rw [List.getElem?_append_left hi, List.getElem?_map] at e
        cases q : ds[i]? with
        | none => rw [q] at e; cases e
        | some d => rw [q] at e; exact .inl ⟨d, (Option.some.inj e).symm⟩
      · rw [List.getElem?_append_right (by omega)] at e
        exact .inr (List.eq_of_mem_replicate (List.mem_of_getElem? e))
    rcases m with m | m
    · rcases key m with ⟨_, z⟩ | z <;> cases z
    · rcases key m with ⟨_, z⟩ | z <;> cases z
  refine ⟨ex, ?_, fun i d e => ?_, fun i es m => absurd m noM, fun i es e => absurd (show Mine (env0 N ds) i es from .inr e) noM, fun i j a es fs m => absurd m noM⟩
  · unfold env0 L2.start
    rw [List.length_append, List.length_append, List.length_map, List.length_map, List.length_replicate, List.length_replicate, hl]
  · unfold env0 at e
    unfold L2.start
    by_cases hi : i < (ds.map Sl.sh).length
    · rw [List.getElem?_append_left hi, List.getElem?_map] at e
      cases q : ds[i]? with
      | none => rw [q] at e; cases e
      | some d' =>
        rw [q] at e
        cases e
        obtain ⟨v, h1, h2⟩ := dpa_get dp q
        refine ⟨v, ?_, h2⟩
        rw [List.getElem?_append_left (by rw [List.length_map]; rw [List.length_map] at hi; omega), List.getElem?_map, h1]
        rfl
    · rw [List.getElem?_append_right (by omega)] at e
      have := List.eq_of_mem_replicate (List.mem_of_getElem? e)
      cases this
theorem noO {N : List Str} {ds : List D} {σ : L2.St} {a : Addr} : ¬ O σ (env0 N ds) a := by
  rintro ⟨i, es, m, _⟩
  have key : ∀ {sl : Sl}, (env0 N ds)[i]? = some sl → (∃ d, sl = .sh d) ∨ sl = .no := by
    intro sl e
    unfold env0 at e
    by_cases hi : i < (ds.map Sl.sh).length
    · rw [List.getElem?_append_left hi, List.getElem?_map] at e
      cases q : ds[i]? with
      | none => rw [q] at e; cases e
      | some d => rw [q] at e; exact .inl ⟨d, (Option.some.inj e).symm⟩
    · rw [List.getElem?_append_right (by omega)] at e
      exact .inr (List.eq_of_mem_replicate (List.mem_of_getElem? e))
  rcases m with m | m
  · rcases key m with ⟨_, z⟩ | z <;> cases z
  · rcases key m with ⟨_, z⟩ | z <;> cases z
theorem noMine {N : List Str} {ds : List D} {i : Nat} {es : List D} : ¬ Mine (env0 N ds) i es := by
  intro m
  have key : ∀ {sl : Sl}, (env0 N ds)[i]? = some sl → (∃ d, sl = .sh d) ∨ sl = .no := by
    intro sl e
    unfold env0 at e
    by_cases hi : i < (ds.map Sl.sh).length
    · rw [List.getElem?_append_left hi, List.getElem?_map] at e
      cases q : ds[i]? with
      | none => rw [q] at e; cases e
      | some d => rw [q] at e; exact .inl ⟨d, (Option.some.inj e).symm⟩
    · rw [List.getElem?_append_right (by omega)] at e
      exact .inr (List.eq_of_mem_replicate (List.mem_of_getElem? e))
  rcases m with m | m
  · rcases key m with ⟨_, z⟩ | z <;> cases z
  · rcases key m with ⟨_, z⟩ | z <;> cases z
theorem start_cons {N : List Str} {x : V} {vr : List V} : L2.start N (x :: vr) = some x :: L2.start (N.drop 1) vr := by
  unfold L2.start
  rw [List.map_cons, List.cons_append, List.length_cons, List.length_drop]
  congr 3
  omega
theorem sim0B {K : Frag} {F H : Hp} {N : List Str} {a : Addr} {vr ws : List V} {bs ds : List D} (ex : Ex F H) (h1 : H a = some (.lst ws)) (h2 : F a = none) (al : DpAll K F ws bs) (dp : DpAll K F vr ds) : Sim a K F H (L2.start N (.ref a :: vr)) (env0B N bs ds) := by
  have s : Sim a K F H (L2.start (N.drop 1) vr) (env0 (N.drop 1) ds) := sim0 ex dp
  rw [start_cons]
  unfold env0B
  refine ⟨ex, by rw [List.length_cons, List.length_cons, s.len], fun i d e => ?_, fun i es m => ?_, fun i es e => ?_, fun i j b es fs m m' e1 e2 => ?_⟩
  · cases i with
    | zero => cases e
    | succ i => exact s.sh i d e
  · cases i with
    | zero =>
      rcases m with m | m
      · cases m
      · cases m
        exact ⟨a, ws, rfl, h1, h2, al⟩
    | succ i => exact absurd m noMine
  · cases i with
    | zero => rfl
    | succ i => exact absurd (show Mine (env0 (N.drop 1) ds) i es from .inr e) noMine
  · cases i with
    | zero =>
      cases j with
      | zero => rfl
      | succ j => exact absurd m' noMine
    | succ i => exact absurd m noMine
theorem onlyO {N : List Str} {bs ds : List D} {vr : List V} {a b : Addr} (h : O (L2.start N (.ref a :: vr)) (env0B N bs ds) b) : b = a := by
  obtain ⟨i, es, m, e⟩ := h
  rw [start_cons] at e
  cases i with
  | zero => cases e; rfl
  | succ i => exact absurd m noMine
section
variable {ba : Addr} {P : Program} {w : World} {K : Frag} {mg : Str → Option Value} {con : List (Str × D)} {mb : List Str} {T : List Df}
theorem fn_step (t : TopOk K mg con mb T) {n : Nat} (ih : ∀ (f : Str) (fs : FnSem), Phi T n f = some fs → ∃ fa fd ps, mg f = some (.ref fa) ∧ PySem.W.keepIn K (.ref fa) = true ∧ Binds K fd ps [] ∧ ∀ base : Heap, FnOk P w K mg base (L2.CX P w) (n + 1) fa fd ps (spF K mg fs)) {d : Df} (hd : d ∈ T) :
    ∃ fa fd, mg d.name = some (.ref fa) ∧ PySem.W.keepIn K (.ref fa) = true ∧ (∀ us : List Value, us.length = (d.N.take d.ar).length → bindArgs fd ⟨us, []⟩ = pure ((d.N.take d.ar).zip us)) ∧ ∀ base : Heap, FnOk P w K mg base (L2.CX P w) (n + 2) fa fd (d.N.take d.ar) (spF K mg (runDf (Phi T n) d)) := by
  obtain ⟨fa, fd, st, F, g, k, b, S, c, hl⟩ := (t.df d hd).ex
  have hps : (d.N.take d.ar).length = d.ar := by rw [List.length_take]; omega
  refine ⟨fa, fd, g, k, b, fun base => ?_⟩
  refine F.okX S (fun vs H Q E h => h.1.trans ((show (runDf (Phi T n) d).arity = d.ar by unfold runDf; cases d.bor <;> rfl).trans hps.symm)) fun cdv A outer s H vs Q E hr h => ?_
  let X := cxOf (L2.CX P w) P w K mg base d.N d.name (defScope st) fa cdv A outer s H E
  have ck : Sok (Phi T n) ⟨d.N, con, mb⟩ ⟨defScope st, fun _ => true⟩ (n + 1) (fun cls d _ H => E cls d H) X :=
    ⟨⟨rfl, S.nd, rfl, rfl, rfl, hr, takes_of rfl rfl rfl rfl, t.con, fun f fs e => by
      obtain ⟨fa', fd', ps', q1, q2, q3, q4⟩ := ih f fs e
      exact ⟨fa', fd', ps', q1, q2, q3, q4 base⟩, t.blt, t.mbo⟩, passes_of rfl, S.kind, rfl, rfl, Nat.le_add_left _ _, t.bad⟩
  cases hbo : d.bor with
  | false =>
    have hrd : runDf (Phi T n) d = { arity := d.ar, bor := false, run := fun ds => frR (evSs (Phi T n) d.fuel d.body (env0 d.N ds)) } := by unfold runDf; rw [hbo]
    rw [hrd] at h
    refine ⟨_, sndSs (ba := 0) d.body ck d.fuel _ c, ?_⟩
    obtain ⟨_, ⟨_, F0, ds, ex, dp, hrun⟩ | ⟨z, _⟩⟩ := h
    · refine ⟨F0, env0 d.N ds, fun _ => False, sim0 ex dp, fun a z => noO z, ?_⟩
      have hrun : match frR (evSs (Phi T n) d.fuel d.body (env0 d.N ds)) with
        | .ret d _ => ∀ v F' H', Go (fun _ => False) F0 H F' H' → Ex F' H' → Dp K F' v d → Q v H'
        | .exc c x _ => ∀ dd F' H', Go (fun _ => False) F0 H F' H' → Ex F' H' → XAt K F' H' dd x → ∀ C, mg c = some (.ref C) → E (.ref C) (some dd) H'
        | .stuck => False := hrun
      cases e1 : evSs (Phi T n) d.fuel d.body (env0 d.N ds) with
      | ret x e => rw [e1] at hrun; exact fun v σ' F' H' g o s dp => hrun v F' H' g s.sub dp
      | nxt e => rw [e1] at hrun; exact fun σ' F' H' g o s => hrun .non F' H' g s.sub .non
      | exc c x e => rw [e1] at hrun; exact fun dd σ' F' H' g o s xa => hrun dd F' H' g s.sub xa
      | brk e => rw [e1] at hrun; exact hrun.elim
      | cnt e => rw [e1] at hrun; exact hrun.elim
      | stuck => rw [e1] at hrun; exact hrun.elim
    · cases z
  | true =>
    have hrd : runDf (Phi T n) d = { arity := d.ar, bor := true, run := runB (Phi T n) d } := by unfold runDf; rw [hbo]
    rw [hrd] at h
    obtain ⟨_, ⟨z, _⟩ | ⟨_, F0, a, vr, ws, bs, ds, ev, ex, ha, fa', al, dp, hrun⟩⟩ := h
    · cases z
    · subst ev
      refine ⟨_, sndSs (ba := a) d.body ck d.fuel _ c, ?_⟩
      refine ⟨F0, env0B d.N bs ds, fun x => x = a, sim0B ex ha fa' al dp, fun b z => onlyO z, ?_⟩
      have hrun : match frB (evSs (Phi T n) d.fuel d.body (env0B d.N bs ds)) with
        | .ret d b' => ∀ v F' H' ws', Go (fun x => x = a) F0 H F' H' → Ex F' H' → H' a = some (.lst ws') → F' a = none → DpAll K F' ws' b' → Dp K F' v d → Q v H'
        | .exc c x b' => ∀ dd F' H' ws', Go (fun x => x = a) F0 H F' H' → Ex F' H' → H' a = some (.lst ws') → F' a = none → DpAll K F' ws' b' → XAt K F' H' dd x → ∀ C, mg c = some (.ref C) → E (.ref C) (some dd) H'
        | .stuck => False := hrun
      have at_ : ∀ {F' H' : Hp} {σ' : L2.St} {e : SEnv} {b' : List D}, Sim a K F' H' σ' e → e[0]? = some (.bor b') → ∃ ws', H' a = some (.lst ws') ∧ F' a = none ∧ DpAll K F' ws' b' := by
        intro F' H' σ' e b' s e0
        obtain ⟨a', ws', q1, q2, q3, q4⟩ := s.own 0 b' (.inr e0)
        have q5 := s.lent 0 b' e0
        rw [q5] at q1
        cases q1
        exact ⟨ws', q2, q3, q4⟩
      cases e1 : evSs (Phi T n) d.fuel d.body (env0B d.N bs ds) with
      | ret x e =>
        rw [e1] at hrun
        cases e0 : e[0]? with
        | none => simp only [frB, lentB, e0] at hrun
        | some sl =>
          simp only [frB, lentB, e0] at hrun
          cases sl with
          | bor b' =>
            intro v σ' F' H' g o s dp
            obtain ⟨ws', q2, q3, q4⟩ := at_ s e0
            exact hrun v F' H' ws' g s.sub q2 q3 q4 dp
          | _ => exact hrun.elim
      | nxt e =>
        rw [e1] at hrun
        cases e0 : e[0]? with
        | none => simp only [frB, lentB, e0] at hrun
        | some sl =>
          simp only [frB, lentB, e0] at hrun
          cases sl with
          | bor b' =>
            intro σ' F' H' g o s
            obtain ⟨ws', q2, q3, q4⟩ := at_ s e0
            exact hrun .non F' H' ws' g s.sub q2 q3 q4 .non
          | _ => exact hrun.elim
      | exc c x e =>
        rw [e1] at hrun
        cases e0 : e[0]? with
        | none => simp only [frB, lentB, e0] at hrun
        | some sl =>
          simp only [frB, lentB, e0] at hrun
          cases sl with
          | bor b' =>
            intro dd σ' F' H' g o s xa
            obtain ⟨ws', q2, q3, q4⟩ := at_ s e0
            exact hrun dd F' H' ws' g s.sub q2 q3 q4 xa
          | _ => exact hrun.elim
      | brk e => rw [e1] at hrun; exact hrun.elim
      | cnt e => rw [e1] at hrun; exact hrun.elim
      | stuck => rw [e1] at hrun; exact hrun.elim
theorem phi_ok (t : TopOk K mg con mb T) : ∀ (n : Nat) (f : Str) (fs : FnSem), Phi T n f = some fs → ∃ fa fd ps, mg f = some (.ref fa) ∧ PySem.W.keepIn K (.ref fa) = true ∧ Binds K fd ps [] ∧ ∀ base : Heap, FnOk P w K mg base (L2.CX P w) (n + 1) fa fd ps (spF K mg fs)
  | 0, _, _, h => by cases h
  | n + 1, f, fs, h => by
    unfold Phi at h
    cases e : T.find? (fun d => d.name == f) with
    | none => rw [e] at h; cases h
    | some d =>
      rw [e] at h
      have h : some (runDf (Phi T n) d) = some fs := h
      have h := Option.some.inj h
      subst h
      have hf : d.name = f := by simpa using List.find?_some e
      subst hf
      obtain ⟨fa, fd, g, k, b, F⟩ := fn_step (P := P) (w := w) t (phi_ok t n) (List.mem_of_find?_eq_some e)
      exact ⟨fa, fd, _, g, k, .all b, F⟩
end
end PyE

set_option Elab.async false
set_option linter.all false
set_option autoImplicit false
set_option maxRecDepth 100000
set_option maxHeartbeats 4000000
/-! # What the top has written; the law's end -/
namespace PyE
open PySem PySem.Spec PyProof.Rows L2
section
variable {ba : Addr} {P : Program} {w : World} {K : Frag} {mg : Str → Option Value} {h : Heap} {con : List (Str × D)} {mb : List Str}
theorem df_ok {d : Df} {st : Stmt} {x : Str} {fa : Addr} {oc kV dc pm cd ct : Value} {od an : Option Addr} {sl : Array (Option Value)} (X : K.In h) (G : h.Ns mainGlobals mg) (hx : d.name = x)
    (a : PySem.W.nsIn K mainGlobals x = some (some (.ref fa)))
    (l : K.lookup fa = some ⟨oc, od, .func (PySem.W.fnOf x x (defArgs st) (defBody st) (defScope st) .none kV dc pm an cd ct), sl⟩)
    (c : PySem.W.codeIn K cd x = true) (k : PySem.W.keepIn K (.ref fa) = true)
    (hb : ∀ (kV doc pm : Value) (an : Option Addr) (cdv ct : Value) (us : List Value), us.length = (d.N.take d.ar).length → bindArgs (PySem.W.fnOf x x (defArgs st) (defBody st) (defScope st) .none kV doc pm an cdv ct) ⟨us, []⟩ = pure ((d.N.take d.ar).zip us))
    (S : FnScope d.N (d.N.take d.ar) (defScope st)) (ch : chkSs ⟨d.N, con, mb⟩ ⟨defScope st, fun _ => true⟩ d.body (defBody st) = true) (hl : d.ar ≤ d.N.length) : DfOk K mg con mb d := by
  subst hx
  exact ⟨fa, _, st, fun_mk (st := st) l c k, PySem.W.mg_of X G a, k, hb _ _ _ _ _ _, S, ch, hl⟩
/-- a constant of the module: a tuple that the top has laid -/
theorem con_tup {F : Hp} {a : Addr} {od : Option Addr} {its : Array Value} {n : Nat} {sl : Array (Option Value)} {vs : List V} {ds : List D} (l : K.lookup a = some ⟨.type "tuple", od, .seq its n, sl⟩) (hz : its.size ≤ 1000) (r : Vals vs its.toList) (dp : DpAll K F vs ds) : Dp K F (.ref a) (.tuple ds) :=
  .tup (.inr ⟨_, its, n, l, rfl, rfl, Nat.le_trans hz (by decide), r⟩) dp
/-- the same of a list that nobody writes -/
theorem con_lst {F : Hp} {a : Addr} {its : Array Value} {n : Nat} {sl : Array (Option Value)} {vs : List V} {ds : List D} (l : K.lookup a = some ⟨.type "list", none, .seq its n, sl⟩) (hz : its.size ≤ 1000) (r : Vals vs its.toList) (dp : DpAll K F vs ds) : Dp K F (.ref a) (.list ds) :=
  .lst (.inr ⟨_, its, n, l, rfl, rfl, rfl, Nat.le_trans hz (by decide), r⟩) dp
theorem con1 {x : Str} {u : Value} {v : V} {d : D} (X : K.In h) (G : h.Ns mainGlobals mg) (a : PySem.W.nsIn K mainGlobals x = some (some u)) (r : RelV v u) (p : Dp K (fun _ => none) v d) : ∃ u v, mg x = some u ∧ RelV v u ∧ Dp K (fun _ => none) v d := ⟨u, v, PySem.W.mg_of X G a, r, p⟩
/-- law's promise -/
def spLaw (K : Frag) (n : Nat) : Sp := fun vs H Q _ => ∃ (a : Addr) (ns : List Int), vs = [.ref a] ∧ SqL K H a (ns.map V.int) ∧ ns.length ≤ n ∧ ∀ H', Q (.bl true) H'
/-- with the size of the numbers told -/
def spLawB (K : Frag) (n : Nat) : Sp := fun vs H Q _ => ∃ (a : Addr) (ns : List Int), vs = [.ref a] ∧ SqL K H a (ns.map V.int) ∧ ns.length ≤ n ∧ (∀ z ∈ ns, Builtin.Int.intBits z ≤ 1048576) ∧ ∀ H', Q (.bl true) H'
theorem law_sp {n m : Nat} {base : Heap} {fa : Addr} {fd : FuncData} {ps : List Str} {CX : CXT} {fs : FnSem} (har : fs.arity = 1) (hb : fs.bor = false) (pl : ∀ ns : List Int, ns.length ≤ n → ∃ b, fs.run [.list (ns.map .int)] = .ret (.bool true) b)
    (F : FnOk P w K mg base CX m fa fd ps (spF K mg fs)) : FnOk P w K mg base CX m fa fd ps (spLaw K n) := by
  refine F.imp fun vs H Q E ⟨a, ns, e, s, hl, q⟩ => ?_
  subst e
  refine ⟨har.symm, .inl ⟨hb, H, [.list (ns.map .int)], Ex.refl _, .cons (.lst s (dpa_ofInts ns)) .nil, ?_⟩⟩
  obtain ⟨b, e⟩ := pl ns hl
  rw [e]
  intro v F' H' g x dp
  cases dp
  exact q H'
theorem law_spB {n m : Nat} {base : Heap} {fa : Addr} {fd : FuncData} {ps : List Str} {CX : CXT} {fs : FnSem} (har : fs.arity = 1) (hb : fs.bor = false) (pl : ∀ ns : List Int, ns.length ≤ n → (∀ z ∈ ns, Builtin.Int.intBits z ≤ 1048576) → ∃ b, fs.run [.list (ns.map .int)] = .ret (.bool true) b)
    (F : FnOk P w K mg base CX m fa fd ps (spF K mg fs)) : FnOk P w K mg base CX m fa fd ps (spLawB K n) := by
  refine F.imp fun vs H Q E ⟨a, ns, e, s, hl, hbt, q⟩ => ?_
  subst e
  refine ⟨har.symm, .inl ⟨hb, H, [.list (ns.map .int)], Ex.refl _, .cons (.lst s (dpa_ofInts ns)) .nil, ?_⟩⟩
  obtain ⟨b, e⟩ := pl ns hl hbt
  rw [e]
  intro v F' H' g x dp
  cases dp
  exact q H'
/-- the facts of the top, the plain law, together -/
theorem law_fn {T : List Df} {m n : Nat} {d : Df} {fa : Addr} {x : Str} (t : TopOk K mg con mb T) (hd : d ∈ T) (har : d.ar = 1) (hfa : mg d.name = some (.ref fa)) (hx : d.N.take d.ar = [x])
    (pl : ∀ ns : List Int, ns.length ≤ n → ∃ b, (runDf (Phi T m) d).run [.list (ns.map .int)] = .ret (.bool true) b) (h1 : (runDf (Phi T m) d).arity = 1 := by rfl) (h2 : (runDf (Phi T m) d).bor = false := by rfl) :
    ∃ fd : FuncData, (∀ (s : Shared) (u : Value), BindsTo s fd ⟨[u], []⟩ [(x, u)]) ∧ ∀ base : Heap, FnOk P w K mg base (L2.CX P w) (m + 2) fa fd [x] (spLaw K n) := by
  obtain ⟨fa', fd, g, k, b, F⟩ := fn_step (P := P) (w := w) t (phi_ok t m) hd
  rw [hfa] at g
  cases g
  rw [hx] at b F
  exact ⟨fd, fun s u => .of_eq (b [u] rfl), fun base => law_sp h1 h2 pl (F base)⟩
theorem law_fnB {T : List Df} {m n : Nat} {d : Df} {fa : Addr} {x : Str} (t : TopOk K mg con mb T) (hd : d ∈ T) (har : d.ar = 1) (hfa : mg d.name = some (.ref fa)) (hx : d.N.take d.ar = [x])
    (pl : ∀ ns : List Int, ns.length ≤ n → (∀ z ∈ ns, Builtin.Int.intBits z ≤ 1048576) → ∃ b, (runDf (Phi T m) d).run [.list (ns.map .int)] = .ret (.bool true) b) (h1 : (runDf (Phi T m) d).arity = 1 := by rfl) (h2 : (runDf (Phi T m) d).bor = false := by rfl) :
    ∃ fd : FuncData, (∀ (s : Shared) (u : Value), BindsTo s fd ⟨[u], []⟩ [(x, u)]) ∧ ∀ base : Heap, FnOk P w K mg base (L2.CX P w) (m + 2) fa fd [x] (spLawB K n) := by
  obtain ⟨fa', fd, g, k, b, F⟩ := fn_step (P := P) (w := w) t (phi_ok t m) hd
  rw [hfa] at g
  cases g
  rw [hx] at b F
  exact ⟨fd, fun s u => .of_eq (b [u] rfl), fun base => law_spB h1 h2 pl (F base)⟩
theorem no_out {P : Program} {w : World} (H : Hp) (s : Shared) (e : Value) (s' : Shared) (h : L2.CX P w [] H s (fun _ _ _ => False) e s') : False := by
  obtain ⟨_, _, _, _, _, _, _, _, _, _, _, _, z⟩ := h
  exact z
end
end PyE
namespace PyE
open PySem PySem.Spec PyProof.Rows L2
section
variable {ba : Addr} {K : Frag} {mg : Str → Option Value} {h : Heap}
theorem bad_mk {C f1 S N : Addr} {nm q : Str} {bs : List Value} {sn : List Str} {sub : List Value} {ab : Bool} {col : Option Bool} {dd : Option Addr} {m0 m1 m2 m3 m5 : Option Value} {od1 an1 : Option Addr} {sl1 : Array (Option Value)} {oc1 dc1 pm1 cd1 ct1 : Value} {p1 p2 q1 q2 q3 q4 : Pos}
    (X : K.In h) (G : h.Ns mainGlobals mg)
    (aC : PySem.W.nsIn K mainGlobals "BadValue" = some (some (.ref C)))
    (xL : K.lookup C = some (excClassObj nm q C N bs [.ref S, .type "Exception", .type "BaseException", .type "object"] true sn sub ab col dd m0 m1 m2 m3 m5 "Exception.__new__"))
    (sa : PySem.W.findIn K (.ref C) "__setattr__" = some (some (.builtin "object.__setattr__"))) (ga : PySem.W.findIn K (.ref C) "__getattribute__" = some (some (.builtin "BaseException.__getattribute__")))
    (gg : PySem.W.findIn K (.ref C) "__getattr__" = some none) (nb : PySem.W.findIn K (.ref C) "at" = some none)
    (a1 : PySem.W.findIn K (.ref C) "__init__" = some (some (.ref f1))) (t1 : PySem.W.typeIn K (.ref f1) = some (.type "function"))
    (l1 : K.lookup f1 = some ⟨oc1, od1, .func (PySem.W.fnOf "__init__" "BadValue.__init__" (PySem.BadX.iA p1 p2) (PySem.BadX.iB q1 q2 q3 q4) PySem.BadX.iS .none .none dc1 pm1 an1 cd1 ct1), sl1⟩) (c1 : PySem.W.codeIn K cd1 "BadValue.__init__" = true)
    (kC : PySem.W.keepIn K (.ref C) = true) (eC : PySem.W.subIn K (.ref C) (.type "BaseException") = some true) (tC : PySem.W.typeIn K (.ref C) = some (.type "type")) (hC : PySem.W.hasDictIn K C = true) (iC : PySem.W.isClsIn K C = true) (sC : PySem.W.subIn K (.ref C) (.ref C) = some true) :
    ∃ C fI, PySem.BadX.BadTxt K mg C fI := by
  have te : PySem.W.exmOne K (.ref C) (.ref C) = some true := by
    have e1 : (PySem.W.subIn K (.ref C) (.type "BaseException") == some true) = true := by rw [eC]; rfl
    have e2 : ((PySem.W.clsIn K C).isSome && PySem.W.typeIn K (.ref C) == some (.type "type")) = true := by
      have h2 : (PySem.W.clsIn K C).isSome = true := iC
      rw [h2, tC]
      rfl
    show (if (PySem.W.subIn K (.ref C) (.type "BaseException") == some true) = true then (if ((PySem.W.clsIn K C).isSome && PySem.W.typeIn K (.ref C) == some (.type "type")) = true then PySem.W.subIn K (.ref C) (.ref C) else none) else none) = some true
    rw [if_pos e1, if_pos e2]
    exact sC
  have bm : PySem.HandSPX.refsEX [.ref S, .type "Exception", .type "BaseException", .type "object"] = true := by
    show PySem.HandSPX.refsEX PySem.HandSPX.exTl = true
    decide +kernel
  exact ⟨C, f1, { gC := PySem.W.mg_of X G aC, cls := ⟨nm, q, N, bs, _, sn, sub, ab, col, dd, m0, m1, m2, m3, m5, xL, bm⟩, sa := sa, ga := ga, gg := gg, noN := nb, iC := a1, tC := t1, kC := kC, exC := eC, tyC := tC, hdC := hC, te := te, fn := ⟨_, _, _, _, _, _, _, _, _, _, _, _, _, _, l1, c1⟩ }⟩
theorem all_nil {α : Type} {p : α → Prop} : ∀ x ∈ ([] : List α), p x := fun _ h => by cases h
theorem all_cons {α : Type} {p : α → Prop} {a : α} {l : List α} (h1 : p a) (h2 : ∀ x ∈ l, p x) : ∀ x ∈ a :: l, p x := fun x hx => by
  rcases List.mem_cons.mp hx with e | e
  · exact e ▸ h1
  · exact h2 x e
theorem con_nil {p : Str → D → Prop} : ∀ x d, ([] : List (Str × D)).lookup x = some d → p x d := fun _ _ h => by cases h
theorem con_cons {p : Str → D → Prop} {n : Str} {d0 : D} {l : List (Str × D)} (h1 : p n d0) (h2 : ∀ x d, l.lookup x = some d → p x d) : ∀ x d, ((n, d0) :: l).lookup x = some d → p x d := fun x d e => by
  rw [List.lookup_cons] at e
  cases q : (x == n) with
  | true =>
    rw [q] at e
    cases e
    exact (eq_of_beq q) ▸ h1
  | false => rw [q] at e; exact h2 x d e
theorem walk {l : PySem.W.OpenLaw} {m : Nat} {q : Program} {loose : List Str} {XP : (Str → Option Value) → Heap → Prop} {YP : World → Heap → Prop} {d : DefRec} {K : Params → PySem.W.Frag} (hn : l.most = some 63) (hdf : d.params.defaults = []) (hr : Room (m + 2) callerA)
    (hY : ∀ (w : World) (h : Heap), YP w h → (K w.params).In h)
    (F : ∀ (w : World) (mg : Str → Option Value) (fa : Addr) (h : Heap), (K w.params).In h → h.Ns mainGlobals mg → mg d.name = some (.ref fa) →
      ∃ fd : FuncData, (∀ (s : Shared) (u : Value), BindsTo s fd ⟨[u], []⟩ [("script", u)]) ∧ ∀ base : Heap, FnOk l.prog w (K w.params) mg base (L2.CX l.prog w) (m + 2) fa fd ["script"] (spLaw (K w.params) 63)) :
    PySem.W.WalkO q loose XP YP l.row.toRowW d [] (fun f vs => PySem.call f vs) :=
  L2.walk_of (n := 63) (k := m + 2) (x := "script") (CX := fun w => L2.CX l.prog w) (sp := fun w => spLaw (K w.params) 63) hn (by decide) hdf hr hY
    (fun w mg fa h X G e => let ⟨fd, b, f⟩ := F w mg fa h X G e; ⟨fd, b, fun base _ _ => f base⟩) (fun _ _ a ns hl _ hS => ⟨a, ns, rfl, hS, hl, fun _ => rfl⟩) fun w H s e s' h => no_out H s e s' h
theorem walkB {l : PySem.W.OpenLaw} {m : Nat} {q : Program} {loose : List Str} {XP : (Str → Option Value) → Heap → Prop} {YP : World → Heap → Prop} {d : DefRec} {K : Params → PySem.W.Frag} (hn : l.most = some 63) (hdf : d.params.defaults = []) (hr : Room (m + 2) callerA)
    (hY : ∀ (w : World) (h : Heap), YP w h → (K w.params).In h)
    (F : ∀ (w : World) (mg : Str → Option Value) (fa : Addr) (h : Heap), (K w.params).In h → h.Ns mainGlobals mg → mg d.name = some (.ref fa) →
      ∃ fd : FuncData, (∀ (s : Shared) (u : Value), BindsTo s fd ⟨[u], []⟩ [("script", u)]) ∧ ∀ base : Heap, FnOk l.prog w (K w.params) mg base (L2.CX l.prog w) (m + 2) fa fd ["script"] (spLawB (K w.params) 63)) :
    PySem.W.WalkO q loose XP YP l.row.toRowW d [] (fun f vs => PySem.call f vs) :=
  L2.walk_ofB (n := 63) (k := m + 2) (x := "script") (CX := fun w => L2.CX l.prog w) (sp := fun w => spLawB (K w.params) 63) hn (by decide) hdf hr hY
    (fun w mg fa h X G e => let ⟨fd, b, f⟩ := F w mg fa h X G e; ⟨fd, b, fun base _ _ => f base⟩) (fun _ _ a ns hl hb _ hS => ⟨a, ns, rfl, hS, hl, hb, fun _ => rfl⟩) fun w H s e s' h => no_out H s e s' h
end
end PyE

set_option Elab.async false
set_option linter.all false
set_option autoImplicit false
set_option maxRecDepth 100000
set_option maxHeartbeats 4000000
/-! # Facts for the evaluator's laws -/
namespace PyE
open PySem L2
theorem divOk9 : divOk 1000000000 = true := by decide +kernel
theorem log9 : Nat.log2 1000000000 = 29 := by decide +kernel
theorem at_ints {ns : List Int} {i : Nat} (h : i < ns.length) : L2.atI (ns.map PyData.int) (i : Int) = some (.int ns[i]) := by
  unfold L2.atI L2.ixN
  rw [List.length_map, if_pos (by omega), if_pos (by omega)]
  simp [h]
theorem at_nat {α : Type} {xs : List α} {i : Nat} (h : i < xs.length) : L2.atI xs (i : Int) = some xs[i] := by
  unfold L2.atI L2.ixN
  rw [if_pos (by omega), if_pos (by omega)]
  simp [h]
end PyE
namespace PyE
open PySem L2
/-- not a lent list's slot -/
def nb : Sl → Bool
  | .bor _ => false
  | _ => true
theorem putS_nb {env : SEnv} {i : Nat} {x s : Sl} (h : env[i]? = some x) (hb : nb x = true) : putS env i s = some (env.set i s) := by
  unfold putS
  rw [h]
  cases x <;> first | rfl | cases hb
theorem lcL_map {f : D → SEnv → Rs (List D)} {env : SEnv} {g : D → List D} : ∀ {xs : List D}, (∀ x ∈ xs, f x env = .ok (g x) env) → lcL f xs env = .ok (xs.flatMap g) env
  | [], _ => rfl
  | x :: xs, h => by
    unfold lcL
    rw [h x List.mem_cons_self]
    show (lcL f xs env).bind _ = _
    rw [lcL_map fun y hy => h y (List.mem_cons_of_mem _ hy)]
    rfl
/-- a loop that ends at the first find -/
theorem forL_find {f : D → SEnv → FR} {P : SEnv → Prop} {g : D → Option D} : ∀ {xs : List D} {env : SEnv}, P env → (∀ x ∈ xs, ∀ env, P env → (∃ d, g x = some d ∧ ∃ e, f x env = .ret d e) ∨ (g x = none ∧ ∃ e, f x env = .nxt e ∧ P e)) →
    (∃ d, xs.findSome? g = some d ∧ ∃ e, forL f xs env = .ret d e) ∨ (xs.findSome? g = none ∧ ∃ e, forL f xs env = .nxt e ∧ P e)
  | [], env, p, _ => .inr ⟨rfl, env, rfl, p⟩
  | x :: xs, env, p, h => by
    rcases h x List.mem_cons_self env p with ⟨d, h1, e, h2⟩ | ⟨h1, e, h2, p2⟩
    · refine .inl ⟨d, by rw [List.findSome?_cons, h1], e, ?_⟩
      unfold forL
      rw [h2]
    · have ih := forL_find (xs := xs) p2 fun y hy => h y (List.mem_cons_of_mem _ hy)
      rw [List.findSome?_cons, h1]
      unfold forL
      rw [h2]
      exact ih
theorem bools_map {α : Type} (p : α → Bool) : ∀ xs : List α, boolsD (xs.map fun x => .bool (p x)) = some (xs.map p)
  | [] => rfl
  | x :: xs => by
    show (boolsD (xs.map fun x => .bool (p x))).map _ = _
    rw [bools_map p xs]
    rfl
end PyE
namespace PyE
open PySem L2
theorem lc_eq {Φ : Fns} {e : IE} {tg : Tg} {it : II} {c : IO} {own : List Nat} {env : SEnv} {ds : List D} {g : D → List D} (h1 : evI Φ it env = .ok ds env) (hw : wipeE env own = env) (hb : backE env env own = env)
    (h2 : ∀ x ∈ ds, lcStep (evC Φ c) (evE Φ e) tg own x env = .ok (g x) env) (hz : szOk (ds.flatMap g).length = true) : evE Φ (.lc e tg it c own) env = .ok (.tmp (ds.flatMap g)) env := by
  show (evI Φ it env).bind _ = _
  rw [h1]
  show lcEnd env own (lcL _ ds (wipeE env own)) = _
  rw [hw, lcL_map h2]
  show (if szOk _ then _ else _) = _
  rw [hz, if_pos rfl, hb]
theorem asg_tmp {Φ : Fns} {n i : Nat} {e : IE} {env : SEnv} {ds : List D} {x : Sl} (h : evE Φ e env = .ok (.tmp ds) env) (hx : env[i]? = some x) (hb : nb x = true) : evS Φ n (.asg i e) env = .nxt (env.set i (.own ds)) := by
  unfold evS
  rw [h]
  show (match putS env i (.own ds) with
    | some e2 => FR.nxt e2
    | none => .stuck) = _
  rw [putS_nb hx hb]
theorem seq_nxt {Φ : Fns} {n : Nat} {s : IS} {r : ISs} {env e1 : SEnv} (h : evS Φ n s env = .nxt e1) : evSs Φ n (.cons s r) env = evSs Φ n r e1 := by
  show (evS Φ n s env).bind _ = _
  rw [h]
theorem seq_ret {Φ : Fns} {n : Nat} {s : IS} {r : ISs} {env e1 : SEnv} {d : D} (h : evS Φ n s env = .ret d e1) : evSs Φ n (.cons s r) env = .ret d e1 := by
  show (evS Φ n s env).bind _ = _
  rw [h]
theorem for_eq {Φ : Fns} {n : Nat} {tg : Tg} {it : II} {b : ISs} {env : SEnv} {ds : List D} (h : evI Φ it env = .ok ds env) : evS Φ n (.for_ tg it b) env = forL (fun x e => match putT e tg x with
      | some e2 => evSs Φ n b e2
      | none => .stuck) ds env := by
  show (evI Φ it env).toF _ = _
  rw [h] <;> rfl
theorem rgD_mem {n : Nat} {x : D} (h : x ∈ rgD 0 n) : ∃ i, i < n ∧ x = .int (i : Nat) := by
  unfold rgD at h
  obtain ⟨i, h1, h2⟩ := List.mem_map.mp h
  exact ⟨i, List.mem_range.mp h1, by rw [← h2, Int.zero_add]⟩
theorem at_map {α : Type} {n : Nat} (f : Nat → α) {i : Nat} (h : i < n) : L2.atI ((List.range n).map f) (i : Int) = some (f i) := by
  rw [at_nat (by simpa using h)]
  simp
theorem flat_if {α β : Type} (p : α → Bool) (g : α → β) : ∀ xs : List α, xs.flatMap (fun x => if p x = true then [g x] else []) = (xs.filter p).map g
  | [] => rfl
  | x :: xs => by
    rw [List.flatMap_cons, flat_if p g xs, List.filter_cons]
    cases p x <;> rfl
theorem flat_one {α β : Type} (g : α → β) : ∀ xs : List α, xs.flatMap (fun x => [g x]) = xs.map g
  | [] => rfl
  | x :: xs => by
    rw [List.flatMap_cons, flat_one g xs]
    rfl
end PyE
namespace PyE
open PySem L2
theorem rOk_nat {n : Nat} (h : n ≤ 1000000) : rOk (n : Int) = true := by
  exact Nat.ble_eq_true_of_le (Nat.le_trans h (by decide))
theorem rOk3 : rOk 3 = true := by decide +kernel
theorem range3 : List.range 3 = [0, 1, 2] := rfl
theorem szOk_k {n : Nat} (h : n ≤ 1000) : szOk n = true := decide_eq_true (Nat.le_trans h (by decide))
end PyE
namespace PyE
open PySem L2
/-- a comprehension; what is walked may be frozen on the way -/
theorem lc_eqF {Φ : Fns} {e : IE} {tg : Tg} {it : II} {c : IO} {own : List Nat} {env e1 : SEnv} {ds : List D} {g : D → List D} (h1 : evI Φ it env = .ok ds e1) (hw : wipeE e1 own = e1) (hb : backE e1 e1 own = e1)
    (h2 : ∀ x ∈ ds, lcStep (evC Φ c) (evE Φ e) tg own x e1 = .ok (g x) e1) (hz : szOk (ds.flatMap g).length = true) : evE Φ (.lc e tg it c own) env = .ok (.tmp (ds.flatMap g)) e1 := by
  show (evI Φ it env).bind _ = _
  rw [h1]
  show lcEnd e1 own (lcL _ ds (wipeE e1 own)) = _
  rw [hw, lcL_map h2]
  show (if szOk _ then _ else _) = _
  rw [hz, if_pos rfl, hb]
theorem any_bools {α : Type} (f : α → Bool) (xs : List α) : bfD .any [.list (xs.map fun x => .bool (f x))] = some (.now (.bool (xs.any f))) := by
  show (boolsD _).map _ = _
  rw [bools_map]
  show some (Vw.now (.bool ((xs.map f).any id))) = _
  rw [List.any_map]
  rfl
theorem all_bools {α : Type} (f : α → Bool) (xs : List α) : bfD .all [.list (xs.map fun x => .bool (f x))] = some (.now (.bool (xs.all f))) := by
  show (boolsD _).map _ = _
  rw [bools_map]
  show some (Vw.now (.bool ((xs.map f).all id))) = _
  rw [List.all_map]
  rfl
theorem bfT {Φ : Fns} {f : Bf} {e : IE} {env e1 : SEnv} {ds : List D} {b : Bool} (h : evE Φ e env = .ok (.tmp ds) e1) (hb : bfD f [.list ds] = some (.now (.bool b))) : evT Φ (.bf f (.cons e .nil)) env = .ok b e1 := by
  unfold evT evE
  show Rs.bind (Rs.bind ((evE Φ e env).bind _) _) _ = _
  rw [h]
  show Rs.bind (match looks e1 [.tmp ds] with
    | some ds => Rs.opt (bfD f ds) e1
    | none => .stuck) _ = _
  show Rs.bind (Rs.opt (bfD f [.list ds]) e1) _ = _
  rw [hb]
  rfl
theorem ite_nxt {Φ : Fns} {n : Nat} {t : IE} {a b : ISs} {env e1 : SEnv} {c : Bool} (h : evT Φ t env = .ok c e1) : evS Φ n (.ite t a b) env = if c then evSs Φ n a e1 else evSs Φ n b e1 := by
  show (evT Φ t env).toF _ = _
  rw [h]
end PyE
namespace PyE
open PySem L2
theorem call2 {Φ : Fns} {f : Str} {fs : FnSem} {e1 e2 : IE} {env : SEnv} {d1 d2 d : D} (hf : Φ f = some fs) (ha : fs.arity = 2) (hb : fs.bor = false) (h1 : evE Φ e1 env = .ok (.now d1) env) (h2 : evE Φ e2 env = .ok (.now d2) env) (hr : fs.run [d1, d2] = .ret d []) :
    evE Φ (.call f (.cons e1 (.cons e2 .nil))) env = .ok (.now d) env := by
  unfold evE
  rw [hf]
  show Rs.bind (evEs Φ _ env) _ = _
  have : evEs Φ (.cons e1 (.cons e2 .nil)) env = .ok [.now d1, .now d2] env := by
    unfold evEs
    rw [h1]
    show Rs.bind (evEs Φ (.cons e2 .nil) env) _ = _
    unfold evEs
    rw [h2]
    rfl
  rw [this]
  show callK fs [d1, d2] env = _
  unfold callK
  rw [ha, hb, hr]
  rfl
theorem find_if {α β : Type} (p : α → Bool) (b : β) : ∀ xs : List α, xs.findSome? (fun x => if p x = true then some b else none) = if xs.any p = true then some b else none
  | [] => rfl
  | x :: xs => by
    rw [List.findSome?_cons, List.any_cons]
    cases p x with
    | true => rfl
    | false =>
      show xs.findSome? _ = _
      rw [find_if p b xs, Bool.false_or]
end PyE
namespace PyE
open PySem L2
theorem asg_tmpF {Φ : Fns} {n i : Nat} {e : IE} {env e1 : SEnv} {ds : List D} {x : Sl} (h : evE Φ e env = .ok (.tmp ds) e1) (hx : e1[i]? = some x) (hb : nb x = true) : evS Φ n (.asg i e) env = .nxt (e1.set i (.own ds)) := by
  unfold evS
  rw [h]
  show (match putS e1 i (.own ds) with
    | some e2 => FR.nxt e2
    | none => .stuck) = _
  rw [putS_nb hx hb]
theorem asg_now {Φ : Fns} {n i : Nat} {e : IE} {env e1 : SEnv} {d : D} {x : Sl} (h : evE Φ e env = .ok (.now d) e1) (hx : e1[i]? = some x) (hb : nb x = true) : evS Φ n (.asg i e) env = .nxt (e1.set i (.sh d)) := by
  unfold evS
  rw [h]
  show (match putS e1 i (.sh d) with
    | some e2 => FR.nxt e2
    | none => .stuck) = _
  rw [putS_nb hx hb]
end PyE
namespace PyE
open PySem L2
theorem callN {Φ : Fns} {f : Str} {fs : FnSem} {es : IEs} {env e1 e2 : SEnv} {ws : List Vw} {ds : List D} {d : D} {b : List D} (hf : Φ f = some fs) (hes : evEs Φ es env = .ok ws e1) (hk : keepN e1 ws = some (ds, e2)) (ha : ds.length = fs.arity) (hb : fs.bor = false) (hr : fs.run ds = .ret d b) :
    evE Φ (.call f es) env = .ok (.now d) e2 := by
  unfold evE
  rw [hf]
  show Rs.bind (evEs Φ es env) _ = _
  rw [hes]
  show (match keepN e1 ws with
    | some (ds, e2) => callK fs ds e2
    | none => .stuck) = _
  rw [hk]
  show callK fs ds e2 = _
  unfold callK
  rw [ha, hb, hr]
  simp
theorem ret_now {Φ : Fns} {n : Nat} {e : IE} {env e1 : SEnv} {d : D} (h : evE Φ e env = .ok (.now d) e1) : evS Φ n (.ret e) env = .ret d e1 := by
  unfold evS
  rw [h]
  rfl
theorem app_own {Φ : Fns} {n i : Nat} {e : IE} {env e1 : SEnv} {d : D} {ds : List D} (hm : isMine env i = true) (h : evE Φ e env = .ok (.now d) e1) (hx : e1[i]? = some (.own ds)) (hl : ds.length < 1000) : evS Φ n (.app i e) env = .nxt (e1.set i (.own (ds ++ [d]))) := by
  unfold evS
  rw [hm, if_pos rfl, h]
  show appK e1 i d = _
  unfold appK
  rw [hx]
  show (if szOk (ds.length + 1) = true then _ else _) = _
  rw [if_pos (szOk_k (by omega))]
end PyE
namespace PyE
open PySem L2
theorem rg_find {β : Type} (g : D → Option β) (n : Nat) : (rgD 0 n).findSome? g = (List.range n).findSome? fun k => g (.int (k : Nat)) := by
  unfold rgD
  rw [List.findSome?_map]
  have : (g ∘ fun i : Nat => PyData.int (0 + (i : Int))) = fun k : Nat => g (.int (k : Int)) := by
    funext i
    simp [Function.comp]
  rw [this]
end PyE

set_option Elab.async false
set_option linter.all false
set_option autoImplicit false
set_option maxRecDepth 100000
set_option maxHeartbeats 4000000
/-! # Facts for the evaluator's laws, continued: tests -/
namespace PyE
open PySem L2
section
variable {ba : Addr} {Φ : Fns} {n : Nat} {a b e : IE} {env e1 e2 : SEnv} {x y : Bool} {d : D}
theorem nt_now (h : evE Φ e env = .ok (.now (.bool x)) e1) : evE Φ (.nt e) env = .ok (.now (.bool (!x))) e1 := by
  unfold evE
  rw [h]
  rfl
theorem or_f (h : evE Φ a env = .ok (.now (.bool false)) e1) : evE Φ (.or a b) env = evE Φ b e1 := by
  show (evE Φ a env).bind _ = _
  rw [h]
  rfl
theorem and_t (h : evE Φ a env = .ok (.now (.bool true)) e1) : evE Φ (.and a b) env = evE Φ b e1 := by
  show (evE Φ a env).bind _ = _
  rw [h]
  rfl
theorem tst (h : evE Φ e env = .ok (.now (.bool x)) e1) : evT Φ e env = .ok x e1 := by
  unfold evT
  rw [h]
  rfl
theorem isN_true (h : evE Φ e env = .ok (.now (.bool true)) e1) : evE Φ (.cmp .IsNot e (.k (.bool true))) env = .ok (.now (.bool false)) e1 := by
  show (evE Φ e env).bind _ = _
  rw [h]
  rfl
theorem is_true (h : evE Φ e env = .ok (.now (.bool true)) e1) : evE Φ (.cmp .Is e (.k (.bool true))) env = .ok (.now (.bool true)) e1 := by
  show (evE Φ e env).bind _ = _
  rw [h]
  rfl
def isNone : D → Bool
  | .none => true
  | _ => false
theorem is_none (h : evE Φ e env = .ok (.now d) e1) : evE Φ (.cmp .Is e (.k .none)) env = .ok (.now (.bool (isNone d))) e1 := by
  show (evE Φ e env).bind _ = _
  rw [h]
  cases d <;> rfl
theorem es_cons {es : IEs} {w : Vw} {ws : List Vw} (h1 : evE Φ e env = .ok w e1) (h2 : evEs Φ es e1 = .ok ws e2) : evEs Φ (.cons e es) env = .ok (w :: ws) e2 := by
  unfold evEs
  rw [h1]
  show Rs.bind (evEs Φ es e1) _ = _
  rw [h2]
theorem ite_f {p q : ISs} (h : evT Φ e env = .ok false e1) : evS Φ n (.ite e p q) env = evSs Φ n q e1 := by
  rw [ite_nxt h]
  rfl
theorem ex_nxt {w : Vw} (h : evE Φ e env = .ok w e1) : evS Φ n (.ex e) env = .nxt e1 := by
  unfold evS
  rw [h]
end
end PyE
namespace PyE
open PySem L2
theorem mulOk_r {i j : Int} (h : smallI j = true) : mulOk i j = true := by
  unfold mulOk
  rw [h, Bool.or_true, Bool.true_or]
theorem mulOk_l {i j : Int} (h : smallI i = true) : mulOk i j = true := by
  unfold mulOk
  rw [h, Bool.true_or, Bool.true_or]
/-- the figures of the laws' draws -/
theorem mulDraw : (∀ i, mulOk i 69069 = true) ∧ (∀ i, mulOk i 39916801 = true) ∧ (∀ i, mulOk i 7919 = true) ∧ (∀ i, mulOk i 48271 = true) ∧ (∀ i, mulOk i 16807 = true) ∧ (∀ i, mulOk 7 i = true) :=
  ⟨fun _ => mulOk_r (by decide +kernel), fun _ => mulOk_r (by decide +kernel), fun _ => mulOk_r (by decide +kernel), fun _ => mulOk_r (by decide +kernel), fun _ => mulOk_r (by decide +kernel), fun _ => mulOk_l (by decide +kernel)⟩
end PyE

set_option Elab.async false
set_option linter.all false
set_option autoImplicit false
set_option maxRecDepth 100000
set_option maxHeartbeats 4000000
/-! # Defs that many laws share: what they come to -/
namespace PyV
open PySem PyE L2
local macro_rules | `(tactic| walk_at "ev") => `(tactic| simp [evSs, evS, evE, evEs, evO, evC, evI, evT, putW, putS, putT, putN, keepF, keepN, binD, cmpD, truD, truR, look, looks, bfD, ixD, slD, Rs.toF, Rs.bind, FR.bind, Rs.opt, szOk, isMine, appK, setK, rgD, forL, powOk, divOk, log9, frR, isTy, callK, lcStep, wipeE, *])
def N_too_deep : List Str := ["value", "left", "part"]
def b_too_deep : ISs := (.cons (.ite (.nt (.isi (.v 0) [.list, .tuple] true)) (.cons (.ret (.k (.bool false))) .nil) .nil) (.cons (.ite (.cmp .Eq (.v 1) (.k (.int 0))) (.cons (.ret (.k (.bool true))) .nil) .nil) (.cons (.for_ (.one 2) (.seq (.v 0)) (.cons (.ite (.call "too_deep" (.cons (.v 2) (.cons (.bin .Sub (.v 1) (.k (.int 1))) .nil))) (.cons (.ret (.k (.bool true))) .nil) .nil) .nil)) (.cons (.ret (.k (.bool false))) .nil))))
def d_too_deep : Df := { name := "too_deep", N := N_too_deep, ar := 2, fuel := 100, body := b_too_deep }

def N_as_tuples : List Str := ["value", "part"]
def b_as_tuples : ISs := (.cons (.ite (.nt (.isi (.v 0) [.list, .tuple] true)) (.cons (.ret (.v 0)) .nil) .nil) (.cons (.ret (.bf .tuple (.cons (.lc (.call "as_tuples" (.cons (.v 1) .nil)) (.one 1) (.seq (.v 0)) .none [1]) .nil))) .nil))
def d_as_tuples : Df := { name := "as_tuples", N := N_as_tuples, ar := 1, fuel := 100, body := b_as_tuples }

def N_plain : List Str := ["value"]
def b_plain : ISs := (.cons (.ite (.call "too_deep" (.cons (.v 0) (.cons (.g "DEEPEST" (.int 40)) .nil))) (.cons (.ret (.k .none)) .nil) .nil) (.cons (.ret (.call "as_tuples" (.cons (.v 0) .nil))) .nil))
def d_plain : Df := { name := "plain", N := N_plain, ar := 1, fuel := 100, body := b_plain }

def N_is_int : List Str := ["value"]
def b_is_int : ISs := (.cons (.ret (.and (.isi (.v 0) [.int] false) (.nt (.isi (.v 0) [.bool] false)))) .nil)
def d_is_int : Df := { name := "is_int", N := N_is_int, ar := 1, fuel := 100, body := b_is_int }

def N_in_range : List Str := ["value", "low", "high"]
def b_in_range : ISs := (.cons (.ret (.and (.call "is_int" (.cons (.v 0) .nil)) (.and (.cmp .LtE (.v 1) (.v 0)) (.or (.cmp .Is (.v 2) (.k .none)) (.cmp .LtE (.v 0) (.v 2)))))) .nil)
def d_in_range : Df := { name := "in_range", N := N_in_range, ar := 3, fuel := 100, body := b_in_range }

def N_is_tuple : List Str := ["value", "long"]
def b_is_tuple : ISs := (.cons (.ret (.and (.isi (.v 0) [.tuple] false) (.or (.cmp .Is (.v 1) (.k .none)) (.cmp .Eq (.bf .len (.cons (.v 0) .nil)) (.v 1))))) .nil)
def d_is_tuple : Df := { name := "is_tuple", N := N_is_tuple, ar := 2, fuel := 100, body := b_is_tuple }

def N_need : List Str := ["good", "at"]
def b_need : ISs := (.cons (.ite (.nt (.v 0)) (.cons (.raise "BadValue" (.v 1)) .nil) .nil) .nil)
def d_need : Df := { name := "need", N := N_need, ar := 2, fuel := 100, body := b_need }

def N__law_same : List Str := ["actual", "due", "k"]
def b__law_same : ISs := (.cons (.ite (.and (.isi (.v 1) [.tuple] false) (.and (.isi (.v 0) [.tuple] false) (.cmp .Eq (.bf .len (.cons (.v 0) .nil)) (.bf .len (.cons (.v 1) .nil))))) (.cons (.ret (.bf .all (.cons (.lc (.call "_law_same" (.cons (.ix (.v 0) (.v 2)) (.cons (.ix (.v 1) (.v 2)) .nil))) (.one 2) (.r1 (.bf .len (.cons (.v 1) .nil))) .none [2]) .nil))) .nil) .nil) (.cons (.ite (.cmp .Is (.v 1) (.k .none)) (.cons (.ret (.cmp .Is (.v 0) (.k .none))) .nil) .nil) (.cons (.ite (.or (.cmp .NotEq (.isi (.v 0) [.bool] false) (.isi (.v 1) [.bool] false)) (.cmp .NotEq (.isi (.v 0) [.str] false) (.isi (.v 1) [.str] false))) (.cons (.ret (.k (.bool false))) .nil) .nil) (.cons (.ret (.and (.isi (.v 0) [.int, .str] true) (.cmp .Eq (.v 0) (.v 1)))) .nil))))
def d__law_same : Df := { name := "_law_same", N := N__law_same, ar := 2, fuel := 100, body := b__law_same }

def N__law_draws : List Str := ["script", "place", "many", "cell", "numbers", "rest_o", "k", "first_o"]
def b__law_draws : ISs := (.cons (.asg 3 (.ife (.cmp .Lt (.v 1) (.bf .len (.cons (.v 0) .nil))) (.ix (.v 0) (.v 1)) (.bin .Add (.bin .Mult (.k (.int 7)) (.v 1)) (.k (.int 3))))) (.cons (.asg 4 (.lst .nil)) (.cons (.asg 5 (.v 3)) (.cons (.for_ (.one 6) (.r1 (.v 2)) (.cons (.ite (.cmp .GtE (.v 3) (.bin .Pow (.k (.int 10)) (.k (.int 18)))) (.cons (.app 4 (.bin .Mod (.bf .int (.cons (.v 5) .nil)) (.bin .Pow (.k (.int 10)) (.k (.int 9))))) (.cons (.asg 5 (.bin .FloorDiv (.v 5) (.bin .Pow (.k (.int 10)) (.k (.int 9))))) .nil)) (.cons (.asg 7 (.bin .Mod (.bf .int (.cons (.bin .Add (.bin .Add (.bin .Mult (.bf .abs (.cons (.v 3) .nil)) (.k (.int 69069))) (.bin .Mult (.bin .Add (.v 6) (.k (.int 1))) (.k (.int 39916801)))) (.bin .Mult (.v 1) (.k (.int 7919)))) .nil)) (.k (.int 2147483647)))) (.cons (.app 4 (.bin .Mod (.bin .Mod (.bf .int (.cons (.bin .Add (.bin .Mult (.v 7) (.k (.int 48271))) (.bin .Mult (.bin .Add (.v 6) (.k (.int 5))) (.k (.int 16807)))) .nil)) (.k (.int 2147483629))) (.bin .Pow (.k (.int 10)) (.k (.int 9))))) .nil))) .nil)) (.cons (.ret (.v 4)) .nil)))))
def d__law_draws : Df := { name := "_law_draws", N := N__law_draws, ar := 3, fuel := 100, body := b__law_draws }

def N_is_ascending : List Str := ["row", "at"]
def b_is_ascending : ISs := (.cons (.ret (.bf .all (.cons (.lc (.cmp .Lt (.ix (.v 0) (.v 1)) (.ix (.v 0) (.bin .Add (.v 1) (.k (.int 1))))) (.one 1) (.r1 (.bin .Sub (.bf .len (.cons (.v 0) .nil)) (.k (.int 1)))) .none [1]) .nil))) .nil)
def d_is_ascending : Df := { name := "is_ascending", N := N_is_ascending, ar := 1, fuel := 100, body := b_is_ascending }

def N__law_numbers : List Str := ["script", "place", "many", "cell", "numbers", "rest_o", "k", "mixed"]
def b__law_numbers : ISs := (.cons (.asg 3 (.ife (.cmp .Lt (.v 1) (.bf .len (.cons (.v 0) .nil))) (.ix (.v 0) (.v 1)) (.k (.int 0)))) (.cons (.asg 4 (.lst .nil)) (.cons (.asg 5 (.v 3)) (.cons (.for_ (.one 6) (.r1 (.v 2)) (.cons (.ite (.cmp .GtE (.v 3) (.bin .Pow (.k (.int 10)) (.k (.int 18)))) (.cons (.app 4 (.bin .Mod (.bf .int (.cons (.v 5) .nil)) (.bin .Pow (.k (.int 10)) (.k (.int 9))))) (.cons (.asg 5 (.bin .FloorDiv (.v 5) (.bin .Pow (.k (.int 10)) (.k (.int 9))))) .nil)) (.cons (.asg 7 (.bin .Mod (.bf .int (.cons (.bin .Add (.bin .Add (.bin .Mult (.v 3) (.k (.int 48271))) (.bin .Mult (.bin .Add (.v 6) (.k (.int 1))) (.k (.int 69621)))) (.v 1)) .nil)) (.k (.int 2147483647)))) (.cons (.app 4 (.bin .Mod (.bin .Mod (.bf .int (.cons (.bin .Add (.bin .Mult (.v 7) (.k (.int 16807))) (.bin .Mult (.bin .Add (.v 6) (.k (.int 3))) (.k (.int 40692)))) .nil)) (.k (.int 2147483399))) (.bin .Pow (.k (.int 10)) (.k (.int 9))))) .nil))) .nil)) (.cons (.ret (.v 4)) .nil)))))
def d__law_numbers : Df := { name := "_law_numbers", N := N__law_numbers, ar := 3, fuel := 100, body := b__law_numbers }

def N__law_draw : List Str := ["state", "many"]
def b__law_draw : ISs := (.cons (.set 0 (.k (.int 0)) (.bin .Mod (.bf .int (.cons (.bin .Add (.bin .Mult (.ix (.v 0) (.k (.int 0))) (.k (.int 48271))) (.k (.int 12345))) .nil)) (.k (.int 2147483647)))) (.cons (.ret (.bin .Mod (.bf .int (.cons (.bin .FloorDiv (.ix (.v 0) (.k (.int 0))) (.k (.int 11))) .nil)) (.v 1))) .nil))
def d__law_draw : Df := { name := "_law_draw", N := N__law_draw, ar := 2, fuel := 100, body := b__law_draw, bor := true }

theorem phi {T : List Df} {m : Nat} {f : Str} {d : Df} (h : T.find? (fun d => d.name == f) = some d) : Phi T (m + 1) f = some (runDf (Phi T m) d) := by
  show (T.find? fun d => d.name == f).map (runDf (Phi T m)) = _
  rw [h]
  rfl
/-! ### loops -/
theorem forL_inv {f : D → SEnv → FR} {P : SEnv → Prop} : ∀ {xs : List D} {env : SEnv}, P env → (∀ x ∈ xs, ∀ env, P env → ∃ e, f x env = .nxt e ∧ P e) → ∃ e, forL f xs env = .nxt e ∧ P e
  | [], env, p, _ => ⟨env, rfl, p⟩
  | x :: xs, env, p, h => by
    obtain ⟨e, h1, h2⟩ := h x List.mem_cons_self env p
    obtain ⟨e2, h3, h4⟩ := forL_inv (xs := xs) h2 fun y hy => h y (List.mem_cons_of_mem _ hy)
    refine ⟨e2, ?_, h4⟩
    unfold forL
    rw [h1]
    exact h3
theorem forL_fold {α σ : Type} {f : D → SEnv → FR} {R : σ → SEnv → Prop} {step : σ → α → σ} {enc : α → D} : ∀ (xs : List α) (s : σ) (env : SEnv), R s env → (∀ x ∈ xs, ∀ s env, R s env → ∃ e, f (enc x) env = .nxt e ∧ R (step s x) e) → ∃ e, forL f (xs.map enc) env = .nxt e ∧ R (xs.foldl step s) e
  | [], s, env, p, _ => ⟨env, rfl, p⟩
  | x :: xs, s, env, p, h => by
    obtain ⟨e, h1, h2⟩ := h x List.mem_cons_self s env p
    obtain ⟨e2, h3, h4⟩ := forL_fold xs (step s x) e h2 fun y hy => h y (List.mem_cons_of_mem _ hy)
    refine ⟨e2, ?_, h4⟩
    rw [List.map_cons]
    unfold forL
    rw [h1]
    exact h3
/-- .. with a state that a statement about it goes with -/
theorem forL_foldI {α σ : Type} {f : D → SEnv → FR} {R : σ → SEnv → Prop} {I : σ → Prop} {step : σ → α → σ} {enc : α → D} : ∀ (xs : List α) (s : σ) (env : SEnv), R s env → I s → (∀ x ∈ xs, ∀ s env, R s env → I s → I (step s x) ∧ ∃ e, f (enc x) env = .nxt e ∧ R (step s x) e) → ∃ e, forL f (xs.map enc) env = .nxt e ∧ R (xs.foldl step s) e ∧ I (xs.foldl step s)
  | [], s, env, p, i, _ => ⟨env, rfl, p, i⟩
  | x :: xs, s, env, p, i, h => by
    obtain ⟨i1, e, h1, h2⟩ := h x List.mem_cons_self s env p i
    obtain ⟨e2, h3, h4⟩ := forL_foldI xs (step s x) e h2 i1 fun y hy => h y (List.mem_cons_of_mem _ hy)
    refine ⟨e2, ?_, h4⟩
    rw [List.map_cons]
    unfold forL
    rw [h1]
    exact h3
/-! ### data without dicts -/
mutual
def nd : D → Bool
  | .list xs => ndL xs
  | .tuple xs => ndL xs
  | .dict _ => false
  | _ => true
def ndL : List D → Bool
  | [] => true
  | x :: xs => nd x && ndL xs
end
mutual
/-- tuples for lists -/
def tupD : D → D
  | .list xs => .tuple (tupL xs)
  | .tuple xs => .tuple (tupL xs)
  | d => d
def tupL : List D → List D
  | [] => []
  | x :: xs => tupD x :: tupL xs
end
theorem tupL_map : ∀ xs : List D, tupL xs = xs.map tupD
  | [] => rfl
  | x :: xs => by rw [tupL, tupL_map xs]; rfl
theorem ndL_mem : ∀ {xs : List D}, ndL xs = true → ∀ x ∈ xs, nd x = true
  | y :: ys, h, x, hx => by
    rw [ndL, Bool.and_eq_true] at h
    rcases List.mem_cons.mp hx with e | e
    · rw [e]; exact h.1
    · exact ndL_mem h.2 x e
def isSeq : D → Bool
  | .list _ => true
  | .tuple _ => true
  | _ => false
def seqOf : D → List D
  | .list xs => xs
  | .tuple xs => xs
  | _ => []
theorem isi_seq {d : D} (h : nd d = true) {Φ : Fns} {env : SEnv} {i : Nat} (e : env[i]? = some (.sh d)) : evE Φ (.isi (.v i) [.list, .tuple] true) env = .ok (.now (.bool (isSeq d))) env := by
  unfold evE
  have : evE Φ (.v i) env = .ok (.now d) env := by unfold evE; rw [e]
  rw [this]
  cases d <;> first | rfl | cases h
theorem seq_of {d : D} (h : isSeq d = true) : seqD d = some (seqOf d) := by cases d <;> first | rfl | cases h
theorem depth_seq {d : D} (h : isSeq d = true) : d.depth = PyData.depthAll (seqOf d) + 1 := by
  cases d <;> first | cases h | skip
  · simp [PyData.depth, seqOf]
  · simp [PyData.depth, seqOf]
theorem nd_seq {d : D} (h : nd d = true) (hs : isSeq d = true) : ndL (seqOf d) = true := by
  cases d <;> first | cases hs | skip
  · exact h
  · exact h
theorem tup_seq {d : D} (hs : isSeq d = true) : tupD d = .tuple (tupL (seqOf d)) := by
  cases d <;> first | cases hs | skip
  · rw [tupD]; rfl
  · rw [tupD]; rfl
theorem tup_atom {d : D} (hs : isSeq d = false) : tupD d = d := by
  cases d <;> first | (cases hs; done) | (unfold tupD; rfl)

mutual
/-- no list or tuple of it is too long -/
def sz : D → Bool
  | .list xs => szOk xs.length && szL xs
  | .tuple xs => szOk xs.length && szL xs
  | _ => true
def szL : List D → Bool
  | [] => true
  | x :: xs => sz x && szL xs
end
theorem szL_mem : ∀ {xs : List D}, szL xs = true → ∀ x ∈ xs, sz x = true
  | y :: ys, h, x, hx => by
    rw [szL, Bool.and_eq_true] at h
    rcases List.mem_cons.mp hx with e | e
    · rw [e]; exact h.1
    · exact szL_mem h.2 x e
theorem sz_seq {d : D} (h : sz d = true) (hs : isSeq d = true) : (seqOf d).length ≤ 16777216 ∧ ∀ y ∈ seqOf d, sz y = true := by
  cases d <;> first | cases hs | skip
  · rw [sz, Bool.and_eq_true] at h
    exact ⟨of_decide_eq_true h.1, szL_mem h.2⟩
  · rw [sz, Bool.and_eq_true] at h
    exact ⟨of_decide_eq_true h.1, szL_mem h.2⟩
/-! ### the values' module -/
section
variable {T : List Df} {m : Nat}
theorem too_deep_run (hT : T.find? (fun d : Df => d.name == ("too_deep" : Str)) = some d_too_deep) : ∀ (h : Nat) (d : D), nd d = true → d.depth ≤ h → ∀ (l : Nat) (m : Nat), h ≤ l → (runDf (Phi T (m + h)) d_too_deep).run [d, .int l] = .ret (.bool false) []
  | h, d, hn, hd, l, m, hl => by
    show frR (evSs (Phi T (m + h)) 100 b_too_deep [.sh d, .sh (.int l), .no]) = _
    have e1 : evT (Phi T (m + h)) (.nt (.isi (.v 0) [.list, .tuple] true)) [.sh d, .sh (.int l), .no] = .ok (!isSeq d) [.sh d, .sh (.int l), .no] := tst (nt_now (isi_seq hn rfl))
    unfold b_too_deep
    cases hs : isSeq d with
    | false =>
      rw [hs] at e1
      rw [show evSs (Phi T (m + h)) 100 (.cons (.ite (.nt (.isi (.v 0) [.list, .tuple] true)) (.cons (.ret (.k (.bool false))) .nil) .nil) _) [.sh d, .sh (.int l), .no] = _ from seq_ret (d := .bool false) (e1 := [.sh d, .sh (.int l), .no]) (by rw [ite_nxt e1]; rfl)]
      rfl
    | true =>
      rw [hs] at e1
      rw [seq_nxt ((ite_nxt e1).trans rfl)]
      have hd1 := depth_seq hs
      cases h with
      | zero => omega
      | succ h =>
      have hl0 : ((l : Int) == 0) = false := by simp; omega
      have hq := phi (m := m + h) hT
      have e2 : evT (Phi T (m + (h + 1))) (.cmp .Eq (.v 1) (.k (.int 0))) [.sh d, .sh (.int l), .no] = .ok false [.sh d, .sh (.int l), .no] := by
        have : cmpD .Eq (.int (l : Int)) (.int 0) = some false := by
          show (if SeqAt.shaped (.int (l : Int)) && SeqAt.shaped (.int 0) then some (PyData.eqv (.int (l : Int)) (.int 0)) else none) = _
          rw [show (SeqAt.shaped (.int (l : Int)) && SeqAt.shaped (.int 0)) = true from rfl]
          simp [PyData.eqv]
          omega
        refine tst ?_
        show Rs.opt ((cmpD .Eq (.int (l : Int)) (.int 0)).map fun b => Vw.now (.bool b)) _ = _
        rw [this]
        rfl
      rw [seq_nxt ((ite_nxt e2).trans rfl)]
      have hI : evI (Phi T (m + (h + 1))) (.seq (.v 0)) [.sh d, .sh (.int l), .no] = .ok (seqOf d) [.sh d, .sh (.int l), .no] := by
        show Rs.opt (seqD d) _ = _
        rw [seq_of hs]
      obtain ⟨e, q1, x, hx, q2⟩ := forL_inv (f := fun x e => match putT e (.one 2) x with
        | some e2 => evSs (Phi T (m + (h + 1))) 100 (.cons (.ite (.call "too_deep" (.cons (.v 2) (.cons (.bin .Sub (.v 1) (.k (.int 1))) .nil))) (.cons (.ret (.k (.bool true))) .nil) .nil) .nil) e2
        | none => .stuck) (P := fun e => ∃ x, nb x = true ∧ e = [.sh d, .sh (.int l), x]) (xs := seqOf d) (env := [.sh d, .sh (.int l), .no]) ⟨.no, rfl, rfl⟩ (fun y hy env ⟨x, hx, he⟩ => by
          subst he
          have hy1 : y.depth ≤ h := by have := depth_le hy; omega
          have hy2 := ndL_mem (nd_seq hn hs) y hy
          have ih := too_deep_run hT h y hy2 hy1 (l - 1) m (by omega)
          have hc : evE (Phi T (m + (h + 1))) (.call "too_deep" (.cons (.v 2) (.cons (.bin .Sub (.v 1) (.k (.int 1))) .nil))) [.sh d, .sh (.int l), .sh y] = .ok (.now (.bool false)) [.sh d, .sh (.int l), .sh y] := by
            refine callN (ws := [.now y, .now (.int ((l : Int) - 1))]) hq rfl rfl rfl rfl (b := []) ?_
            have : ((l - 1 : Nat) : Int) = (l : Int) - 1 := by omega
            rw [← this]
            exact ih
          refine ⟨[.sh d, .sh (.int l), .sh y], ?_, _, rfl, rfl⟩
          have hp : putT [.sh d, .sh (.int l), x] (.one 2) y = some [.sh d, .sh (.int l), .sh y] := putS_nb (x := x) rfl hx
          show (match putT [.sh d, .sh (.int l), x] (.one 2) y with
            | some e2 => evSs _ 100 _ e2
            | none => FR.stuck) = _
          rw [hp]
          show evSs _ 100 _ [.sh d, .sh (.int l), .sh y] = _
          rw [seq_nxt ((ite_nxt (tst hc)).trans rfl)]
          rfl)
      subst q2
      rw [seq_nxt ((for_eq hI).trans q1)]
      rfl
theorem as_tuples_run (hT : T.find? (fun d : Df => d.name == ("as_tuples" : Str)) = some d_as_tuples) : ∀ (h : Nat) (d : D), nd d = true → d.depth ≤ h → sz d = true → ∀ m : Nat, (runDf (Phi T (m + h)) d_as_tuples).run [d] = .ret (tupD d) []
  | h, d, hn, hd, hz, m => by
    show frR (evSs (Phi T (m + h)) 100 b_as_tuples [.sh d, .no]) = _
    have e1 : evT (Phi T (m + h)) (.nt (.isi (.v 0) [.list, .tuple] true)) [.sh d, .no] = .ok (!isSeq d) [.sh d, .no] := tst (nt_now (isi_seq hn rfl))
    unfold b_as_tuples
    cases hs : isSeq d with
    | false =>
      rw [hs] at e1
      rw [show evSs (Phi T (m + h)) 100 (.cons (.ite (.nt (.isi (.v 0) [.list, .tuple] true)) (.cons (.ret (.v 0)) .nil) .nil) _) [.sh d, .no] = _ from seq_ret (d := d) (e1 := [.sh d, .no]) (by rw [ite_nxt e1]; rfl), tup_atom hs]
      rfl
    | true =>
      rw [hs] at e1
      rw [seq_nxt ((ite_nxt e1).trans rfl)]
      have hd1 := depth_seq hs
      cases h with
      | zero => omega
      | succ h =>
      have hq := phi (m := m + h) hT
      have hzl : (seqOf d).length ≤ 16777216 ∧ ∀ y ∈ seqOf d, sz y = true := sz_seq hz hs
      have hI : evI (Phi T (m + (h + 1))) (.seq (.v 0)) [.sh d, .no] = .ok (seqOf d) [.sh d, .no] := by
        show Rs.opt (seqD d) _ = _
        rw [seq_of hs]
      have hl := lc_eq (Φ := Phi T (m + (h + 1))) (e := .call "as_tuples" (.cons (.v 1) .nil)) (tg := .one 1) (it := .seq (.v 0)) (c := .none) (own := [1]) (env := [.sh d, .no]) (ds := seqOf d) (g := fun y => [tupD y]) hI rfl rfl (fun y hy => by
          have hy1 : y.depth ≤ h := by have := depth_le hy; omega
          have hy2 := ndL_mem (nd_seq hn hs) y hy
          have ih := as_tuples_run hT h y hy2 hy1 (hzl.2 y hy) m
          have hc : evE (Phi T (m + (h + 1))) (.call "as_tuples" (.cons (.v 1) .nil)) [.sh d, .sh y] = .ok (.now (tupD y)) [.sh d, .sh y] := callN (ws := [.now y]) hq rfl rfl rfl rfl (b := []) ih
          show (evE (Phi T (m + (h + 1))) (.call "as_tuples" (.cons (.v 1) .nil)) [.sh d, .sh y]).bind _ = _
          rw [hc]
          rfl) (by rw [flat_one, List.length_map]; exact decide_eq_true hzl.1)
      rw [flat_one, ← tupL_map] at hl
      have hb : evE (Phi T (m + (h + 1))) (.bf .tuple (.cons (.lc (.call "as_tuples" (.cons (.v 1) .nil)) (.one 1) (.seq (.v 0)) .none [1]) .nil)) [.sh d, .no] = .ok (.now (.tuple (tupL (seqOf d)))) [.sh d, .no] := by
        unfold evE
        show Rs.bind (Rs.bind (evE (Phi T (m + (h + 1))) (.lc (.call "as_tuples" (.cons (.v 1) .nil)) (.one 1) (.seq (.v 0)) .none [1]) [.sh d, .no]) _) _ = _
        rw [hl]
        rfl
      rw [seq_ret (ret_now hb), tup_seq hs]
      rfl
end
end PyV

set_option Elab.async false
set_option linter.all false
set_option autoImplicit false
set_option maxRecDepth 100000
set_option maxHeartbeats 4000000
/-! # Defs that many laws share, continued -/
namespace PyV
open PySem PyE L2
local macro_rules | `(tactic| walk_at "ev") => `(tactic| simp [evSs, evS, evE, evEs, evO, evC, evI, evT, putW, putS, putT, putN, keepF, keepN, binD, cmpD, truD, truR, look, looks, bfD, ixD, slD, Rs.toF, Rs.bind, FR.bind, Rs.opt, szOk, isMine, appK, setK, rgD, forL, powOk, divOk, log9, frR, isTy, callK, lcStep, wipeE, *])
/-- a def's name in the table -/
abbrev Has (T : List Df) (f : Str) (d : Df) : Prop := T.find? (fun d : Df => d.name == f) = some d
section
variable {Φ : Fns} {n : Nat} {a b e : IE} {env e1 e2 : SEnv} {x y : Bool}
theorem and_f (h : evE Φ a env = .ok (.now (.bool false)) e1) : evE Φ (.and a b) env = .ok (.now (.bool false)) e1 := by
  show (evE Φ a env).bind _ = _
  rw [h]
  rfl
theorem or_t (h : evE Φ a env = .ok (.now (.bool true)) e1) : evE Φ (.or a b) env = .ok (.now (.bool true)) e1 := by
  show (evE Φ a env).bind _ = _
  rw [h]
  rfl
theorem and_b (h1 : evE Φ a env = .ok (.now (.bool x)) e1) (h2 : evE Φ b e1 = .ok (.now (.bool y)) e1) : evE Φ (.and a b) env = .ok (.now (.bool (x && y))) e1 := by
  cases x
  · exact and_f h1
  · rw [and_t h1, h2, Bool.true_and]
theorem or_b (h1 : evE Φ a env = .ok (.now (.bool x)) e1) (h2 : evE Φ b e1 = .ok (.now (.bool y)) e1) : evE Φ (.or a b) env = .ok (.now (.bool (x || y))) e1 := by
  cases x
  · rw [or_f h1, h2, Bool.false_or]
  · exact or_t h1
theorem ite_t {p q : ISs} (h : evT Φ e env = .ok true e1) : evS Φ n (.ite e p q) env = evSs Φ n p e1 := by
  rw [ite_nxt h]
  rfl
/-- a test that does nothing where it fails -/
theorem ite_0 {p : ISs} {r : ISs} (h : evT Φ e env = .ok false e1) : evSs Φ n (.cons (.ite e p .nil) r) env = evSs Φ n r e1 := seq_nxt ((ite_f h).trans rfl)
theorem ite_1 {p : ISs} {q r : ISs} {d : D} (h : evT Φ e env = .ok true e1) (h2 : evSs Φ n p e1 = .ret d e2) : evSs Φ n (.cons (.ite e p q) r) env = .ret d e2 := seq_ret ((ite_t h).trans h2)
theorem eq_int {i j : Int} (h1 : evE Φ a env = .ok (.now (.int i)) env) (h2 : evE Φ b env = .ok (.now (.int j)) env) : evE Φ (.cmp .Eq a b) env = .ok (.now (.bool (i == j))) env := by
  unfold evE
  rw [h1, bind_ok, h2, bind_ok]
  rfl
theorem cmp_now {op : CmpOp} {d d' : D} {x : Bool} (h1 : evE Φ a env = .ok (.now d) env) (h2 : evE Φ b env = .ok (.now d') env) (h : cmpD op d d' = some x) : evE Φ (.cmp op a b) env = .ok (.now (.bool x)) env := by
  unfold evE
  rw [h1, bind_ok, h2, bind_ok]
  show Rs.opt ((cmpD op d d').map fun b => Vw.now (.bool b)) env = _
  rw [h]
  rfl
theorem ret_end (h : evSs Φ n (.cons (.ret e) .nil) env = evSs Φ n (.cons (.ret e) .nil) env) : True := trivial
end
section
variable {T : List Df} {m : Nat} {Φ : Fns}
theorem plain_run (h1 : Has T "too_deep" d_too_deep) (h2 : Has T "as_tuples" d_as_tuples) {h : Nat} {d : D} (hn : nd d = true) (hd : d.depth ≤ h) (hh : h ≤ 40) (hz : sz d = true) (m : Nat) : (runDf (Phi T (m + h + 1)) d_plain).run [d] = .ret (tupD d) [] := by
  show frR (evSs (Phi T (m + h + 1)) 100 b_plain [.sh d]) = _
  have q1 := phi (m := m + h) h1
  have q2 := phi (m := m + h) h2
  have e1 : evE (Phi T (m + h + 1)) (.call "too_deep" (.cons (.v 0) (.cons (.g "DEEPEST" (.int 40)) .nil))) [.sh d] = .ok (.now (.bool false)) [.sh d] :=
    callN (ws := [.now d, .now (.int 40)]) q1 rfl rfl rfl rfl (b := []) (too_deep_run h1 h d hn hd 40 m hh)
  have e2 : evE (Phi T (m + h + 1)) (.call "as_tuples" (.cons (.v 0) .nil)) [.sh d] = .ok (.now (tupD d)) [.sh d] :=
    callN (ws := [.now d]) q2 rfl rfl rfl rfl (b := []) (as_tuples_run h2 h d hn hd hz m)
  unfold b_plain
  rw [seq_nxt ((ite_nxt (tst e1)).trans rfl), seq_ret (ret_now e2)]
  rfl
def isI : D → Bool
  | .int _ => true
  | _ => false
theorem is_int_run {d : D} (h : nd d = true) : (runDf Φ d_is_int).run [d] = .ret (.bool (isI d)) [] := by
  cases d <;> first | rfl | cases h
theorem in_range_int (h1 : Has T "is_int" d_is_int) (i lo hi : Int) (m : Nat) : (runDf (Phi T (m + 1)) d_in_range).run [.int i, .int lo, .int hi] = .ret (.bool (decide (lo ≤ i) && decide (i ≤ hi))) [] := by
  have q := phi (m := m) h1
  have r : (runDf (Phi T m) d_is_int).run [.int i] = .ret (.bool true) [] := rfl
  have e : evE (Phi T (m + 1)) (.call "is_int" (.cons (.v 0) .nil)) [.sh (.int i), .sh (.int lo), .sh (.int hi)] = .ok (.now (.bool true)) [.sh (.int i), .sh (.int lo), .sh (.int hi)] := callN (ws := [.now (.int i)]) q rfl rfl rfl rfl (b := []) r
  show frR (evSs (Phi T (m + 1)) 100 b_in_range [.sh (.int i), .sh (.int lo), .sh (.int hi)]) = _
  unfold b_in_range
  have e2 : evE (Phi T (m + 1)) (.and (.call "is_int" (.cons (.v 0) .nil)) (.and (.cmp .LtE (.v 1) (.v 0)) (.or (.cmp .Is (.v 2) (.k .none)) (.cmp .LtE (.v 0) (.v 2))))) [.sh (.int i), .sh (.int lo), .sh (.int hi)] = .ok (.now (.bool (decide (lo ≤ i) && decide (i ≤ hi)))) [.sh (.int i), .sh (.int lo), .sh (.int hi)] := by
    rw [and_t e]
    by_cases c : lo ≤ i
    · rw [decide_eq_true c]
      have : evE (Phi T (m + 1)) (.cmp .LtE (.v 1) (.v 0)) [.sh (.int i), .sh (.int lo), .sh (.int hi)] = .ok (.now (.bool true)) [.sh (.int i), .sh (.int lo), .sh (.int hi)] := by
        show Rs.ok (Vw.now (.bool (decide (lo ≤ i)))) _ = _
        rw [decide_eq_true c]
      rw [and_t this]
      rfl
    · rw [decide_eq_false c]
      refine and_f ?_
      show Rs.ok (Vw.now (.bool (decide (lo ≤ i)))) _ = _
      rw [decide_eq_false c]
  rw [seq_ret (ret_now e2)]
  rfl
theorem in_range_not (h1 : Has T "is_int" d_is_int) {d : D} (hn : nd d = true) (hi : isI d = false) (lo hg : D) (m : Nat) : (runDf (Phi T (m + 1)) d_in_range).run [d, lo, hg] = .ret (.bool false) [] := by
  have q := phi (m := m) h1
  have r : (runDf (Phi T m) d_is_int).run [d] = .ret (.bool false) [] := by rw [is_int_run hn, hi]
  have e : evE (Phi T (m + 1)) (.call "is_int" (.cons (.v 0) .nil)) [.sh d, .sh lo, .sh hg] = .ok (.now (.bool false)) [.sh d, .sh lo, .sh hg] := callN (ws := [.now d]) q rfl rfl rfl rfl (b := []) r
  show frR (evSs (Phi T (m + 1)) 100 b_in_range [.sh d, .sh lo, .sh hg]) = _
  unfold b_in_range
  have e2 : evE (Phi T (m + 1)) (.and (.call "is_int" (.cons (.v 0) .nil)) (.and (.cmp .LtE (.v 1) (.v 0)) (.or (.cmp .Is (.v 2) (.k .none)) (.cmp .LtE (.v 0) (.v 2))))) [.sh d, .sh lo, .sh hg] = .ok (.now (.bool false)) [.sh d, .sh lo, .sh hg] := by
    exact and_f e
  rw [seq_ret (ret_now e2)]
  rfl
theorem is_tuple_any (Φ : Fns) (xs : List D) : (runDf Φ d_is_tuple).run [.tuple xs, .none] = .ret (.bool true) [] := rfl
theorem is_tuple_len (Φ : Fns) (xs : List D) (n : Int) : (runDf Φ d_is_tuple).run [.tuple xs, .int n] = .ret (.bool ((xs.length : Int) == n)) [] := rfl
theorem is_tuple_not (Φ : Fns) {d : D} (hn : nd d = true) (h : ∀ xs, d ≠ .tuple xs) (n : D) : (runDf Φ d_is_tuple).run [d, n] = .ret (.bool false) [] := by
  cases d <;> first | rfl | cases hn | exact absurd rfl (h _)
theorem need_true (Φ : Fns) (d : D) : (runDf Φ d_need).run [.bool true, d] = .ret .none [] := rfl
theorem need_false (Φ : Fns) (d : D) : (runDf Φ d_need).run [.bool false, d] = .exc "BadValue" d [] := rfl
/-! ### the laws' own == -/
mutual
def sane : D → Bool
  | .tuple xs => decide (xs.length ≤ 100000) && saneL xs
  | .none => true
  | .bool _ => true
  | .int _ => true
  | .str x => (PyData.str x).canLay0
  | _ => false
def saneL : List D → Bool
  | [] => true
  | x :: xs => sane x && saneL xs
end
theorem saneL_mem : ∀ {xs : List D}, saneL xs = true → ∀ x ∈ xs, sane x = true
  | y :: ys, h, x, hx => by
    rw [saneL, Bool.and_eq_true] at h
    rcases List.mem_cons.mp hx with e | e
    · rw [e]; exact h.1
    · exact saneL_mem h.2 x e
theorem all_true {α : Type} : ∀ (xs : List α), bfD .all [.list (xs.map fun _ => PyData.bool true)] = some (.now (.bool true)) := fun xs => by
  have := all_bools (fun _ : α => true) xs
  rw [this]
  simp
theorem eqv_int (i : Int) : PyData.eqv (.int i) (.int i) = true := by simp [PyData.eqv]
theorem eqv_str (i : Str) : PyData.eqv (.str i) (.str i) = true := by simp [PyData.eqv]
theorem ceq_int (i j : Int) : cmpD .Eq (.int i) (.int j) = some (i == j) := rfl
theorem cne_int (i j : Int) : cmpD .NotEq (.int i) (.int j) = some (!(i == j)) := rfl
theorem ceq_self (i : Int) : cmpD .Eq (.int i) (.int i) = some true := by
  rw [ceq_int, beq_self_eq_true]
theorem same_atom {Φ : Fns} {d : D} (h1 : isTy d .tuple = false) (h2 : d ≠ .none) (h3 : nd d = true) (h4 : (isTy d .int || isTy d .str) = true) (h5 : cmpD .Eq d d = some true) : (runDf Φ d__law_same).run [d, d] = .ret (.bool true) [] := by
  show frR (evSs Φ 100 b__law_same [.sh d, .sh d, .no]) = _
  unfold b__law_same
  have i1 : ∀ (i : Nat), i < 2 → ∀ t : List Ty, evE Φ (.isi (.v i) t true) [.sh d, .sh d, .no] = .ok (.now (.bool (t.any (isTy d)))) [.sh d, .sh d, .no] := by
    intro i hi t
    have : evE Φ (.v i) [.sh d, .sh d, .no] = .ok (.now d) [.sh d, .sh d, .no] := by
      rcases i with _ | _ | i <;> first | rfl | omega
    unfold evE
    rw [this]
    cases d <;> first | rfl | cases h3
  have i2 : ∀ (i : Nat), i < 2 → ∀ t : Ty, evE Φ (.isi (.v i) [t] false) [.sh d, .sh d, .no] = .ok (.now (.bool (isTy d t))) [.sh d, .sh d, .no] := by
    intro i hi t
    have : evE Φ (.v i) [.sh d, .sh d, .no] = .ok (.now d) [.sh d, .sh d, .no] := by
      rcases i with _ | _ | i <;> first | rfl | omega
    unfold evE
    rw [this]
    have e : [t].any (isTy d) = isTy d t := by simp
    cases d <;> first | (cases h3; done) | (rw [← e]; rfl)
  have n1 : evE Φ (.cmp .Is (.v 1) (.k .none)) [.sh d, .sh d, .no] = .ok (.now (.bool false)) [.sh d, .sh d, .no] := by
    rw [is_none (d := d) rfl]
    cases d <;> first | rfl | exact absurd rfl h2
  have ne : ∀ t : Ty, evE Φ (.cmp .NotEq (.isi (.v 0) [t] false) (.isi (.v 1) [t] false)) [.sh d, .sh d, .no] = .ok (.now (.bool false)) [.sh d, .sh d, .no] := fun t => by
    refine cmp_now (i2 0 (by decide) t) (i2 1 (by decide) t) ?_
    cases isTy d t <;> rfl
  have f1 := i2 1 (by decide) .tuple
  rw [h1] at f1
  rw [ite_0 (tst (and_f f1)), ite_0 (tst n1), ite_0 (tst ((or_f (ne .bool)).trans (ne .str)))]
  have e1 := i1 0 (by decide) [.int, .str]
  have e4 : [Ty.int, Ty.str].any (isTy d) = true := by
    rw [List.any_cons, List.any_cons, List.any_nil, Bool.or_false]
    exact h4
  rw [e4] at e1
  rw [seq_ret (ret_now ((and_t e1).trans (cmp_now rfl rfl h5)))]
  rfl
theorem same_run (h1 : Has T "_law_same" d__law_same) : ∀ (h : Nat) (d : D), sane d = true → d.depth ≤ h → ∀ m : Nat, (runDf (Phi T (m + h)) d__law_same).run [d, d] = .ret (.bool true) []
  | h, .none, _, _, m => rfl
  | h, .bool b, _, _, m => by cases b <;> rfl
  | h, .int i, _, _, m => same_atom rfl (by simp) rfl rfl (by
      show (if (SeqAt.shaped (.int i) && SeqAt.shaped (.int i)) = true then some (PyData.eqv (.int i) (.int i)) else none) = _
      rw [eqv_int]
      rfl)
  | h, .str x, hs, _, m => same_atom rfl (by simp) rfl rfl (by
      have : SeqAt.shaped (.str x) = true := by
        unfold SeqAt.shaped
        rw [show (PyData.str x).canLay0 = true from hs]
        rfl
      show (if (SeqAt.shaped (.str x) && SeqAt.shaped (.str x)) = true then some (PyData.eqv (.str x) (.str x)) else none) = _
      rw [eqv_str, this]
      rfl)
  | h, .list _, hs, _, _ => by simp [sane] at hs
  | h, .dict _, hs, _, _ => by simp [sane] at hs
  | 0, .tuple xs, hs, hd, m => by
    rw [PyData.depth] at hd
    omega
  | h + 1, .tuple xs, hs, hd, m => by
    rw [sane, Bool.and_eq_true, decide_eq_true_eq] at hs
    rw [PyData.depth] at hd
    obtain ⟨hl, hs⟩ := hs
    show frR (evSs (Phi T (m + (h + 1))) 100 b__law_same [.sh (.tuple xs), .sh (.tuple xs), .no]) = _
    unfold b__law_same
    have hq := phi (m := m + h) h1
    have r1 : rOk (xs.length : Int) = true := rOk_nat (by omega)
    have hI : evI (Phi T (m + (h + 1))) (.r1 (.bf .len (.cons (.v 1) .nil))) [.sh (.tuple xs), .sh (.tuple xs), .no] = .ok (rgD 0 xs.length) [.sh (.tuple xs), .sh (.tuple xs), .no] := by
      show (if rOk (xs.length : Int) = true then Rs.ok (rgD 0 ((xs.length : Int)).toNat) _ else .stuck) = _
      rw [if_pos r1]
      rfl
    have hlc := lc_eq (Φ := Phi T (m + (h + 1))) (e := .call "_law_same" (.cons (.ix (.v 0) (.v 2)) (.cons (.ix (.v 1) (.v 2)) .nil))) (tg := .one 2) (c := .none) (own := [2]) (env := [.sh (.tuple xs), .sh (.tuple xs), .no]) (g := fun _ => [.bool true]) hI rfl rfl (fun y hy => by
        obtain ⟨i, hi, rfl⟩ := rgD_mem hy
        have ha : ixD (.tuple xs) (.int (i : Nat)) = some xs[i] := at_nat hi
        have hm : xs[i] ∈ xs := List.getElem_mem hi
        have ih := same_run h1 h xs[i] (saneL_mem hs _ hm) (by have := depth_le hm; omega) m
        have e1 : ∀ j, j < 2 → evE (Phi T (m + (h + 1))) (.ix (.v j) (.v 2)) [.sh (.tuple xs), .sh (.tuple xs), .sh (.int (i : Nat))] = .ok (.now xs[i]) [.sh (.tuple xs), .sh (.tuple xs), .sh (.int (i : Nat))] := by
          intro j hj
          have : evE (Phi T (m + (h + 1))) (.v j) [.sh (.tuple xs), .sh (.tuple xs), .sh (.int (i : Nat))] = .ok (.now (.tuple xs)) [.sh (.tuple xs), .sh (.tuple xs), .sh (.int (i : Nat))] := by
            rcases j with _ | _ | j <;> first | rfl | omega
          unfold evE
          rw [this, bind_ok]
          show Rs.opt ((ixD (.tuple xs) (.int (i : Nat))).map Vw.now) _ = _
          rw [ha]
          rfl
        have hc : evE (Phi T (m + (h + 1))) (.call "_law_same" (.cons (.ix (.v 0) (.v 2)) (.cons (.ix (.v 1) (.v 2)) .nil))) [.sh (.tuple xs), .sh (.tuple xs), .sh (.int (i : Nat))] = .ok (.now (.bool true)) [.sh (.tuple xs), .sh (.tuple xs), .sh (.int (i : Nat))] :=
          callN hq (es_cons (e1 0 (by decide)) (es_cons (e1 1 (by decide)) rfl)) rfl rfl rfl (b := []) ih
        show (evE (Phi T (m + (h + 1))) (.call "_law_same" (.cons (.ix (.v 0) (.v 2)) (.cons (.ix (.v 1) (.v 2)) .nil))) [.sh (.tuple xs), .sh (.tuple xs), .sh (.int (i : Nat))]).bind _ = _
        rw [hc]
        rfl) (by rw [flat_one, List.length_map]; simp [rgD]; exact decide_eq_true (by omega))
    rw [flat_one] at hlc
    have hb : evE (Phi T (m + (h + 1))) (.bf .all (.cons (.lc (.call "_law_same" (.cons (.ix (.v 0) (.v 2)) (.cons (.ix (.v 1) (.v 2)) .nil))) (.one 2) (.r1 (.bf .len (.cons (.v 1) .nil))) .none [2]) .nil)) [.sh (.tuple xs), .sh (.tuple xs), .no] = .ok (.now (.bool true)) [.sh (.tuple xs), .sh (.tuple xs), .no] := by
      unfold evE
      show Rs.bind (Rs.bind (evE (Phi T (m + (h + 1))) (.lc _ _ _ _ _) [.sh (.tuple xs), .sh (.tuple xs), .no]) _) _ = _
      rw [hlc]
      show Rs.opt (bfD .all [.list _]) _ = _
      rw [all_true] <;> rfl
    have t1 : evE (Phi T (m + (h + 1))) (.and (.isi (.v 1) [.tuple] false) (.and (.isi (.v 0) [.tuple] false) (.cmp .Eq (.bf .len (.cons (.v 0) .nil)) (.bf .len (.cons (.v 1) .nil))))) [.sh (.tuple xs), .sh (.tuple xs), .no] = .ok (.now (.bool true)) [.sh (.tuple xs), .sh (.tuple xs), .no] := by
      refine (and_t rfl).trans ((and_t rfl).trans (cmp_now (d := .int (xs.length : Nat)) (d' := .int (xs.length : Nat)) rfl rfl (ceq_self _)))
    rw [ite_1 (tst t1) (seq_ret (ret_now hb))]
    rfl
end
end PyV

set_option Elab.async false
set_option linter.all false
set_option autoImplicit false
set_option maxRecDepth 100000
set_option maxHeartbeats 4000000
/-! # The laws' draws -/
namespace PyV
open PySem PyE L2
local macro_rules | `(tactic| walk_at "ev") => `(tactic| simp [evSs, evS, evE, evEs, evO, evC, evI, evT, putW, putS, putT, putN, keepF, keepN, binD, cmpD, truD, truR, look, looks, bfD, ixD, slD, Rs.toF, Rs.bind, FR.bind, Rs.opt, szOk, isMine, appK, setK, rgD, forL, powOk, divOk, log9, frR, isTy, callK, lcStep, wipeE, *])
theorem forL_rg' {f : D → SEnv → FR} {R : Nat → SEnv → Prop} : ∀ (k s : Nat) {env : SEnv}, R s env → (∀ i, s ≤ i → i < s + k → ∀ env, R i env → ∃ e, f (.int (i : Nat)) env = .nxt e ∧ R (i + 1) e) → ∃ e, forL f ((List.range' s k).map fun i => .int (i : Nat)) env = .nxt e ∧ R (s + k) e
  | 0, s, env, p, _ => ⟨env, rfl, p⟩
  | k + 1, s, env, p, h => by
    obtain ⟨e, h1, h2⟩ := h s (Nat.le_refl _) (by omega) env p
    obtain ⟨e2, h3, h4⟩ := forL_rg' k (s + 1) h2 fun i h5 h6 => h i (by omega) (by omega)
    refine ⟨e2, ?_, by rw [show s + (k + 1) = s + 1 + k from by omega]; exact h4⟩
    rw [List.range'_succ, List.map_cons]
    unfold forL
    rw [h1]
    exact h3
theorem rgD_range' (n : Nat) : rgD 0 n = (List.range' 0 n).map fun i => .int (i : Nat) := by
  unfold rgD
  rw [List.range_eq_range']
  simp
/-- for i in range(n) -/
theorem forL_range {f : D → SEnv → FR} {R : Nat → SEnv → Prop} (n : Nat) {env : SEnv} (p : R 0 env) (h : ∀ i, i < n → ∀ env, R i env → ∃ e, f (.int (i : Nat)) env = .nxt e ∧ R (i + 1) e) : ∃ e, forL f (rgD 0 n) env = .nxt e ∧ R n e := by
  rw [rgD_range']
  have := forL_rg' (f := f) (R := R) n 0 p fun i _ hi => h i (by omega)
  rw [Nat.zero_add] at this
  exact this
def In9 (x : Int) : Prop := 0 ≤ x ∧ x < 1000000000
theorem in9_mod (x : Int) : In9 (x % 1000000000) := ⟨Int.emod_nonneg _ (by decide), Int.emod_lt_of_pos _ (by decide)⟩
def RD (s : D) (p n cell : Int) (c : Nat) (env : SEnv) : Prop := ∃ (ns : List Int) (rest : Int) (x6 x7 : Sl), ns.length = c ∧ (∀ x ∈ ns, In9 x) ∧ nb x6 = true ∧ nb x7 = true ∧ env = [.sh s, .sh (.int p), .sh (.int n), .sh (.int cell), .own (ns.map .int), .sh (.int rest), x6, x7]
theorem RD.next {s : D} {p n cell : Int} {c : Nat} {ns : List Int} {x rest : Int} {x6 x7 : Sl} (h1 : ns.length = c) (h2 : ∀ x ∈ ns, In9 x) (hx : In9 x) (h6 : nb x6 = true) (h7 : nb x7 = true) {env : SEnv} (e : env = [.sh s, .sh (.int p), .sh (.int n), .sh (.int cell), .own (ns.map .int ++ [.int x]), .sh (.int rest), x6, x7]) : RD s p n cell (c + 1) env := by
  refine ⟨ns ++ [x], rest, x6, x7, by rw [List.length_append, h1]; rfl, fun y hy => ?_, h6, h7, by rw [e, List.map_append]; rfl⟩
  rcases List.mem_append.mp hy with z | z
  · exact h2 y z
  · rw [List.mem_singleton.mp z]; exact hx
def numB : ISs := (.cons (.ite (.cmp .GtE (.v 3) (.bin .Pow (.k (.int 10)) (.k (.int 18)))) (.cons (.app 4 (.bin .Mod (.bf .int (.cons (.v 5) .nil)) (.bin .Pow (.k (.int 10)) (.k (.int 9))))) (.cons (.asg 5 (.bin .FloorDiv (.v 5) (.bin .Pow (.k (.int 10)) (.k (.int 9))))) .nil)) (.cons (.asg 7 (.bin .Mod (.bf .int (.cons (.bin .Add (.bin .Add (.bin .Mult (.v 3) (.k (.int 48271))) (.bin .Mult (.bin .Add (.v 6) (.k (.int 1))) (.k (.int 69621)))) (.v 1)) .nil)) (.k (.int 2147483647)))) (.cons (.app 4 (.bin .Mod (.bin .Mod (.bf .int (.cons (.bin .Add (.bin .Mult (.v 7) (.k (.int 16807))) (.bin .Mult (.bin .Add (.v 6) (.k (.int 3))) (.k (.int 40692)))) .nil)) (.k (.int 2147483399))) (.bin .Pow (.k (.int 10)) (.k (.int 9))))) .nil))) .nil)
theorem numDraw : (∀ i, mulOk i 48271 = true) ∧ (∀ i, mulOk i 69621 = true) ∧ (∀ i, mulOk i 16807 = true) ∧ (∀ i, mulOk i 40692 = true) :=
  ⟨fun _ => mulOk_r (by decide +kernel), fun _ => mulOk_r (by decide +kernel), fun _ => mulOk_r (by decide +kernel), fun _ => mulOk_r (by decide +kernel)⟩
theorem num_turn (Φ : Fns) {s : D} {p n cell : Int} {c i : Nat} (hc : c < 1000) {env : SEnv} (h : RD s p n cell c env) : ∃ e, (match putT env (.one 6) (.int (i : Nat)) with
    | some e2 => evSs Φ 100 numB e2
    | none => .stuck) = .nxt e ∧ RD s p n cell (c + 1) e := by
  obtain ⟨ns, rest, x6, x7, h1, h2, h6, h7, rfl⟩ := h
  obtain ⟨m1, m2, m3, m4⟩ := numDraw
  have hp : putT [.sh s, .sh (.int p), .sh (.int n), .sh (.int cell), .own (ns.map .int), .sh (.int rest), x6, x7] (.one 6) (.int (i : Nat)) = some [.sh s, .sh (.int p), .sh (.int n), .sh (.int cell), .own (ns.map .int), .sh (.int rest), .sh (.int (i : Nat)), x7] := putS_nb (x := x6) rfl h6
  rw [hp]
  have hz : c ≤ 16777215 := by omega
  by_cases hb : (1000000000000000000 : Int) ≤ cell
  · refine ⟨_, ?_, RD.next (rest := rest / 1000000000) h1 h2 (in9_mod rest) (x6 := .sh (.int (i : Nat))) (x7 := x7) rfl h7 rfl⟩
    unfold numB
    walk_at "ev"
  · refine ⟨_, ?_, RD.next (rest := rest) h1 h2 (in9_mod ((((cell * 48271 + ((i : Int) + 1) * 69621 + p) % 2147483647) * 16807 + ((i : Int) + 3) * 40692) % 2147483399)) (x6 := .sh (.int (i : Nat))) (x7 := .sh (.int ((cell * 48271 + ((i : Int) + 1) * 69621 + p) % 2147483647))) rfl rfl rfl⟩
    cases x7 <;> first | (cases h7; done) | (unfold numB; walk_at "ev")
theorem numbers_run (Φ : Fns) (ns : List Int) (k n : Nat) (hn : n ≤ 1000) : ∃ xs : List Int, xs.length = n ∧ (∀ x ∈ xs, In9 x) ∧ (runDf Φ d__law_numbers).run [.list (ns.map .int), .int k, .int n] = .ret (.list (xs.map .int)) [] := by
  have hcell : ∃ cell : Int, evE Φ (.ife (.cmp .Lt (.v 1) (.bf .len (.cons (.v 0) .nil))) (.ix (.v 0) (.v 1)) (.k (.int 0))) [.sh (.list (ns.map .int)), .sh (.int k), .sh (.int n), .no, .no, .no, .no, .no] = .ok (.now (.int cell)) [.sh (.list (ns.map .int)), .sh (.int k), .sh (.int n), .no, .no, .no, .no, .no] := by
    by_cases h : k < ns.length
    · have q := at_ints h
      refine ⟨ns[k], ?_⟩
      walk_at "ev"
    · refine ⟨0, ?_⟩
      walk_at "ev"
  obtain ⟨cell, hc⟩ := hcell
  have hI : evI Φ (.r1 (.v 2)) [.sh (.list (ns.map .int)), .sh (.int k), .sh (.int n), .sh (.int cell), .own [], .sh (.int cell), .no, .no] = .ok (rgD 0 n) [.sh (.list (ns.map .int)), .sh (.int k), .sh (.int n), .sh (.int cell), .own [], .sh (.int cell), .no, .no] := by
    show (if rOk (n : Int) = true then Rs.ok (rgD 0 ((n : Int)).toNat) _ else .stuck) = _
    rw [if_pos (rOk_nat (by omega))]
    rfl
  obtain ⟨e, q1, xs, rest, x6, x7, h1, h2, h6, h7, rfl⟩ := forL_range (f := fun x e => match putT e (.one 6) x with
      | some e2 => evSs Φ 100 numB e2
      | none => .stuck) (R := RD (.list (ns.map .int)) k n cell) n (env := [.sh (.list (ns.map .int)), .sh (.int k), .sh (.int n), .sh (.int cell), .own [], .sh (.int cell), .no, .no]) ⟨[], cell, .no, .no, rfl, (fun x hx => by cases hx), rfl, rfl, rfl⟩ fun i hi env h => num_turn Φ (by omega) h
  refine ⟨xs, h1, h2, ?_⟩
  show frR (evSs Φ 100 b__law_numbers [.sh (.list (ns.map .int)), .sh (.int k), .sh (.int n), .no, .no, .no, .no, .no]) = _
  unfold b__law_numbers
  rw [seq_nxt (asg_now hc (x := .no) rfl rfl)]
  rw [seq_nxt (asg_tmp (ds := []) (x := .no) rfl rfl rfl)]
  rw [seq_nxt (asg_now (d := .int cell) (x := .no) rfl rfl rfl)]
  show frR (evSs Φ 100 (.cons (.for_ (.one 6) (.r1 (.v 2)) numB) (.cons (.ret (.v 4)) .nil)) [.sh (.list (ns.map .int)), .sh (.int k), .sh (.int n), .sh (.int cell), .own [], .sh (.int cell), .no, .no]) = _
  rw [seq_nxt ((for_eq hI).trans q1)]
  rfl
/-! ### .. of the other laws -/
def drwB : ISs := (.cons (.ite (.cmp .GtE (.v 3) (.bin .Pow (.k (.int 10)) (.k (.int 18)))) (.cons (.app 4 (.bin .Mod (.bf .int (.cons (.v 5) .nil)) (.bin .Pow (.k (.int 10)) (.k (.int 9))))) (.cons (.asg 5 (.bin .FloorDiv (.v 5) (.bin .Pow (.k (.int 10)) (.k (.int 9))))) .nil)) (.cons (.asg 7 (.bin .Mod (.bf .int (.cons (.bin .Add (.bin .Add (.bin .Mult (.bf .abs (.cons (.v 3) .nil)) (.k (.int 69069))) (.bin .Mult (.bin .Add (.v 6) (.k (.int 1))) (.k (.int 39916801)))) (.bin .Mult (.v 1) (.k (.int 7919)))) .nil)) (.k (.int 2147483647)))) (.cons (.app 4 (.bin .Mod (.bin .Mod (.bf .int (.cons (.bin .Add (.bin .Mult (.v 7) (.k (.int 48271))) (.bin .Mult (.bin .Add (.v 6) (.k (.int 5))) (.k (.int 16807)))) .nil)) (.k (.int 2147483629))) (.bin .Pow (.k (.int 10)) (.k (.int 9))))) .nil))) .nil)
def absI (i : Int) : Int := if i < 0 then -i else i
theorem drw_turn (Φ : Fns) {s : D} {p n cell : Int} {c i : Nat} (hc : c < 1000) {env : SEnv} (h : RD s p n cell c env) : ∃ e, (match putT env (.one 6) (.int (i : Nat)) with
    | some e2 => evSs Φ 100 drwB e2
    | none => .stuck) = .nxt e ∧ RD s p n cell (c + 1) e := by
  obtain ⟨ns, rest, x6, x7, h1, h2, h6, h7, rfl⟩ := h
  obtain ⟨m1, m2, m3, m4, m5, m6⟩ := mulDraw
  have hp : putT [.sh s, .sh (.int p), .sh (.int n), .sh (.int cell), .own (ns.map .int), .sh (.int rest), x6, x7] (.one 6) (.int (i : Nat)) = some [.sh s, .sh (.int p), .sh (.int n), .sh (.int cell), .own (ns.map .int), .sh (.int rest), .sh (.int (i : Nat)), x7] := putS_nb (x := x6) rfl h6
  rw [hp]
  have hz : c ≤ 16777215 := by omega
  by_cases hb : (1000000000000000000 : Int) ≤ cell
  · refine ⟨_, ?_, RD.next (rest := rest / 1000000000) h1 h2 (in9_mod rest) (x6 := .sh (.int (i : Nat))) (x7 := x7) rfl h7 rfl⟩
    unfold drwB
    walk_at "ev"
  · refine ⟨_, ?_, RD.next (rest := rest) h1 h2 (in9_mod (((((if cell < 0 then -cell else cell) * 69069 + ((i : Int) + 1) * 39916801 + p * 7919) % 2147483647) * 48271 + ((i : Int) + 5) * 16807) % 2147483629)) (x6 := .sh (.int (i : Nat))) (x7 := .sh (.int (((if cell < 0 then -cell else cell) * 69069 + ((i : Int) + 1) * 39916801 + p * 7919) % 2147483647))) rfl rfl rfl⟩
    cases x7 <;> first | (cases h7; done) | (unfold drwB; walk_at "ev")
theorem draws_run (Φ : Fns) (ns : List Int) (k n : Nat) (hn : n ≤ 1000) : ∃ xs : List Int, xs.length = n ∧ (∀ x ∈ xs, In9 x) ∧ (runDf Φ d__law_draws).run [.list (ns.map .int), .int k, .int n] = .ret (.list (xs.map .int)) [] := by
  obtain ⟨m1, m2, m3, m4, m5, m6⟩ := mulDraw
  have hcell : ∃ cell : Int, evE Φ (.ife (.cmp .Lt (.v 1) (.bf .len (.cons (.v 0) .nil))) (.ix (.v 0) (.v 1)) (.bin .Add (.bin .Mult (.k (.int 7)) (.v 1)) (.k (.int 3)))) [.sh (.list (ns.map .int)), .sh (.int k), .sh (.int n), .no, .no, .no, .no, .no] = .ok (.now (.int cell)) [.sh (.list (ns.map .int)), .sh (.int k), .sh (.int n), .no, .no, .no, .no, .no] := by
    by_cases h : k < ns.length
    · have q := at_ints h
      refine ⟨ns[k], ?_⟩
      walk_at "ev"
    · refine ⟨7 * k + 3, ?_⟩
      walk_at "ev"
  obtain ⟨cell, hc⟩ := hcell
  have hI : evI Φ (.r1 (.v 2)) [.sh (.list (ns.map .int)), .sh (.int k), .sh (.int n), .sh (.int cell), .own [], .sh (.int cell), .no, .no] = .ok (rgD 0 n) [.sh (.list (ns.map .int)), .sh (.int k), .sh (.int n), .sh (.int cell), .own [], .sh (.int cell), .no, .no] := by
    show (if rOk (n : Int) = true then Rs.ok (rgD 0 ((n : Int)).toNat) _ else .stuck) = _
    rw [if_pos (rOk_nat (by omega))]
    rfl
  obtain ⟨e, q1, xs, rest, x6, x7, h1, h2, h6, h7, rfl⟩ := forL_range (f := fun x e => match putT e (.one 6) x with
      | some e2 => evSs Φ 100 drwB e2
      | none => .stuck) (R := RD (.list (ns.map .int)) k n cell) n (env := [.sh (.list (ns.map .int)), .sh (.int k), .sh (.int n), .sh (.int cell), .own [], .sh (.int cell), .no, .no]) ⟨[], cell, .no, .no, rfl, (fun x hx => by cases hx), rfl, rfl, rfl⟩ fun i hi env h => drw_turn Φ (by omega) h
  refine ⟨xs, h1, h2, ?_⟩
  show frR (evSs Φ 100 b__law_draws [.sh (.list (ns.map .int)), .sh (.int k), .sh (.int n), .no, .no, .no, .no, .no]) = _
  unfold b__law_draws
  rw [seq_nxt (asg_now hc (x := .no) rfl rfl)]
  rw [seq_nxt (asg_tmp (ds := []) (x := .no) rfl rfl rfl)]
  rw [seq_nxt (asg_now (d := .int cell) (x := .no) rfl rfl rfl)]
  show frR (evSs Φ 100 (.cons (.for_ (.one 6) (.r1 (.v 2)) drwB) (.cons (.ret (.v 4)) .nil)) [.sh (.list (ns.map .int)), .sh (.int k), .sh (.int n), .sh (.int cell), .own [], .sh (.int cell), .no, .no]) = _
  rw [seq_nxt ((for_eq hI).trans q1)]
  rfl
/-! ### one draw of a state -/
def nxtS (s : Int) : Int := (s * 48271 + 12345) % 2147483647
def valS (s many : Int) : Int := nxtS s / 11 % many
theorem draw_run (Φ : Fns) (s many : Int) (h : 0 < many) : (runDf Φ d__law_draw).run [.list [.int s], .int many] = .ret (.int (valS s many)) [.int (nxtS s)] := by
  show frB (evSs Φ 100 b__law_draw [.bor [.int s], .sh (.int many)]) = _
  have m1 := numDraw.1 s
  have d1 : divOk 11 = true := by decide +kernel
  unfold b__law_draw valS nxtS
  simp [evSs, evS, evE, evEs, putW, putS, keepF, binD, look, looks, bfD, ixD, atI, ixN, Rs.toF, Rs.bind, FR.bind, Rs.opt, isMine, setK, m1, d1, h, frB, lentB]
end PyV

set_option Elab.async false
set_option linter.all false
set_option autoImplicit false
set_option maxRecDepth 100000
set_option maxHeartbeats 4000000
/-! # Order of tuples, least ones -/
namespace PyV
open PySem PyE L2 PySem.W
abbrev iT (a : List Int) : D := .tuple (a.map PyData.int)
abbrev iL (a : List Int) : D := .list (a.map PyData.int)
theorem ltT_cons {x y : D} {xs ys : List D} (h : alike x y = true) : dataLt (.tuple (x :: xs)) (.tuple (y :: ys)) = if PyData.eqv x y = true then dataLt (.tuple xs) (.tuple ys) else dataLt x y := by
  rw [dataLt_tuple, dataLt_tuple]
  cases e : PyData.eqv x y with
  | true => exact dataLt_all_yes h e
  | false => exact dataLt_all_no h e
theorem ltT_nc (y : D) (ys : List D) : dataLt (.tuple []) (.tuple (y :: ys)) = true := by
  rw [dataLt_tuple, toks_all_cons]
  rfl
theorem ltT_cn (y : D) (ys : List D) : dataLt (.tuple (y :: ys)) (.tuple []) = false := by
  rw [dataLt_tuple, toks_all_cons]
  rfl
theorem ltT_nn : dataLt (.tuple []) (.tuple []) = false := rfl
/-- the lists' order -/
def llt : List Int → List Int → Bool
  | [], [] => false
  | [], _ :: _ => true
  | _ :: _, [] => false
  | x :: xs, y :: ys => if x = y then llt xs ys else decide (x < y)
theorem eqv_ii (x y : Int) : PyData.eqv (.int x) (.int y) = (x == y) := by simp [PyData.eqv]
theorem ltT_ints : ∀ (a b : List Int), dataLt (iT a) (iT b) = llt a b
  | [], [] => rfl
  | [], _ :: _ => ltT_nc _ _
  | _ :: _, [] => ltT_cn _ _
  | x :: xs, y :: ys => by
    show dataLt (.tuple (.int x :: xs.map .int)) (.tuple (.int y :: ys.map .int)) = _
    rw [ltT_cons rfl, eqv_ii, dataLt_int, llt]
    by_cases h : x = y
    · rw [if_pos h, if_pos (by rw [h]; exact beq_self_eq_true _)]
      exact ltT_ints xs ys
    · rw [if_neg h, if_neg (by simpa using h)]
theorem alike_ints : ∀ (a b : List Int), alikeAll (a.map PyData.int) (b.map PyData.int) = true
  | [], b => by cases b <;> rfl
  | x :: a, [] => rfl
  | x :: a, y :: b => by
    show (alike (.int x) (.int y) && alikeAll (a.map .int) (b.map .int)) = true
    rw [alike_ints a b]
    rfl
theorem alike_iT (a b : List Int) : alike (iT a) (iT b) = true := alike_ints a b
theorem depth_ints : ∀ (a : List Int), PyData.depthAll (a.map PyData.int) = 0
  | [] => rfl
  | x :: a => by
    show max 0 (PyData.depthAll (a.map .int)) = 0
    rw [depth_ints a]
    rfl
theorem depth_iT (a : List Int) : (iT a).depth = 1 := by
  show PyData.depthAll (a.map .int) + 1 = 1
  rw [depth_ints]
theorem lay_ints : ∀ (a : List Int), PyData.canLayAll0 (a.map PyData.int) = true
  | [] => rfl
  | x :: a => by
    show (true && PyData.canLayAll0 (a.map .int)) = true
    rw [lay_ints a]
    rfl
theorem lay_iT (a : List Int) : (iT a).canLay0 = true := lay_ints a
theorem shaped_iT (a : List Int) : SeqAt.shaped (iT a) = true := by
  unfold SeqAt.shaped
  rw [lay_iT, depth_iT]
  rfl
theorem ordOk_iT (a b : List Int) : ordOk (iT a) (iT b) = true := by
  unfold ordOk
  rw [alike_iT, depth_iT]
  rfl
theorem clt_iT (a b : List Int) : cmpD .Lt (iT a) (iT b) = some (llt a b) := by
  show (if ordOk (iT a) (iT b) = true then some (dataLt (iT a) (iT b)) else none) = _
  rw [ordOk_iT, ltT_ints]
  rfl
theorem alikeL_mk {xs : List D} (h1 : ∀ x ∈ xs, ∀ y ∈ xs, alike x y = true) (h2 : ∀ x ∈ xs, x ≠ .none) (h3 : ∀ x ∈ xs, x.depth ≤ 40) (h4 : ∀ x ∈ xs, x.canLay0 = true) : alikeL xs = true := by
  have hd : PyData.depthAll xs ≤ 40 := by
    have key : ∀ ys : List D, (∀ y ∈ ys, y.depth ≤ 40) → PyData.depthAll ys ≤ 40 := by
      intro ys
      induction ys with
      | nil => intro _; exact Nat.zero_le _
      | cons y ys ih =>
        intro h
        rw [PyData.depthAll]
        exact Nat.max_le.mpr ⟨h y List.mem_cons_self, ih fun z hz => h z (List.mem_cons_of_mem _ hz)⟩
    exact key xs h3
  unfold alikeL
  simp only [Bool.and_eq_true, List.all_eq_true, decide_eq_true_eq]
  refine ⟨⟨⟨fun x hx y hy => h1 x hx y hy, fun x hx => ?_⟩, hd⟩, fun x hx => h4 x hx⟩
  have := h2 x hx
  cases x <;> first | rfl | exact absurd rfl this
/-- the first one with the least key, of 0 to n -/
def amin {κ : Type} (lt : κ → κ → Bool) (key : Nat → κ) : Nat → Nat
  | 0 => 0
  | n + 1 => if lt (key (n + 1)) (key (amin lt key n)) then n + 1 else amin lt key n
theorem amin_le {κ : Type} (lt : κ → κ → Bool) (key : Nat → κ) : ∀ n, amin lt key n ≤ n
  | 0 => Nat.le_refl _
  | n + 1 => by
    unfold amin
    split
    · exact Nat.le_refl _
    · exact Nat.le_succ_of_le (amin_le lt key n)
theorem amin_congr {κ κ' : Type} (lt : κ → κ → Bool) (lt' : κ' → κ' → Bool) (key : Nat → κ) (key' : Nat → κ') : ∀ n, (∀ i j, i ≤ n → j ≤ n → lt (key i) (key j) = lt' (key' i) (key' j)) → amin lt key n = amin lt' key' n
  | 0, _ => rfl
  | n + 1, h => by
    have ih := amin_congr lt lt' key key' n fun i j hi hj => h i j (Nat.le_succ_of_le hi) (Nat.le_succ_of_le hj)
    unfold amin
    rw [ih, h (n + 1) _ (Nat.le_refl _) (Nat.le_succ_of_le (amin_le lt' key' n))]
theorem minD_snoc (x : D) (xs : List D) (y : D) : minD x (xs ++ [y]) = if dataLt y (minD x xs) = true then y else minD x xs := by
  unfold minD
  rw [List.foldl_append]
  rfl
/-- min([(key, k) for k in range(n + 1)]) -/
theorem minD_keys (key : Nat → List Int) : ∀ n, minD (.tuple [iT (key 0), .int 0]) ((List.range' 1 n).map fun k => .tuple [iT (key k), .int (k : Nat)]) = .tuple [iT (key (amin llt key n)), .int (amin llt key n : Nat)]
  | 0 => rfl
  | n + 1 => by
    have e : List.range' 1 (n + 1) = List.range' 1 n ++ [n + 1] := by
      rw [List.range'_concat]
      congr 2
      omega
    rw [e, List.map_append, List.map_cons, List.map_nil, minD_snoc, minD_keys key n]
    have h1 : dataLt (.tuple [iT (key (n + 1)), .int ((n + 1 : Nat) : Int)]) (.tuple [iT (key (amin llt key n)), .int (amin llt key n : Nat)]) = llt (key (n + 1)) (key (amin llt key n)) := by
      rw [ltT_cons (alike_iT _ _)]
      have hle := amin_le llt key n
      cases e : PyData.eqv (iT (key (n + 1))) (iT (key (amin llt key n))) with
      | true =>
        rw [if_pos rfl, ltT_cons rfl, eqv_ii, dataLt_int]
        have hne : ¬ (((n + 1 : Nat) : Int) == (amin llt key n : Nat)) = true := by
          rw [beq_iff_eq]
          omega
        rw [if_neg hne]
        have hk : key (n + 1) = key (amin llt key n) := by
          have : ∀ a b : List Int, PyData.eqvAll (a.map .int) (b.map .int) = true → a = b := by
            intro a
            induction a with
            | nil => intro b h; cases b <;> first | rfl | (simp [PyData.eqvAll] at h)
            | cons x a ih =>
              intro b h
              cases b with
              | nil => simp [PyData.eqvAll] at h
              | cons y b =>
                rw [List.map_cons, List.map_cons, PyData.eqvAll, Bool.and_eq_true, eqv_ii, beq_iff_eq] at h
                rw [h.1, ih b h.2]
          exact this _ _ (by rw [← e]; simp [PyData.eqv])
        rw [hk]
        have hz : ∀ a : List Int, llt a a = false := by
          intro a
          induction a with
          | nil => rfl
          | cons x a ih => rw [llt, if_pos rfl]; exact ih
        rw [hz]
        exact decide_eq_false (by omega)
      | false =>
        rw [if_neg (by decide), ltT_ints]
    rw [h1, amin]
    cases llt (key (n + 1)) (key (amin llt key n)) <;> rfl
theorem llt_irrefl : ∀ a : List Int, llt a a = false
  | [] => rfl
  | x :: a => by rw [llt, if_pos rfl]; exact llt_irrefl a
theorem llt_trans : ∀ {a b c : List Int}, llt a b = true → llt b c = true → llt a c = true
  | [], [], _, h, _ => by cases h
  | [], _ :: _, [], _, h => by cases h
  | [], _ :: _, _ :: _, _, _ => rfl
  | _ :: _, [], _, h, _ => by cases h
  | _ :: _, _ :: _, [], _, h => by cases h
  | x :: a, y :: b, z :: c, h1, h2 => by
    rw [llt] at h1 h2 ⊢
    split at h1
    · rename_i e1
      split at h2
      · rename_i e2
        rw [if_pos (e1.trans e2)]
        exact llt_trans h1 h2
      · rename_i e2
        rw [e1, if_neg e2]
        exact h2
    · rename_i e1
      have h1 := of_decide_eq_true h1
      split at h2
      · rename_i e2
        rw [← e2, if_neg e1]
        exact decide_eq_true h1
      · have h2 := of_decide_eq_true h2
        rw [if_neg (by omega)]
        exact decide_eq_true (by omega)
/-- of two keys that do not come one behind the other -/
theorem llt_total : ∀ {a b : List Int}, llt a b = false → llt b a = false → a = b
  | [], [], _, _ => rfl
  | [], _ :: _, h, _ => by cases h
  | _ :: _, [], _, h => by cases h
  | x :: a, y :: b, h1, h2 => by
    rw [llt] at h1 h2
    split at h1
    · rename_i e
      rw [if_pos e.symm] at h2
      rw [e, llt_total h1 h2]
    · rename_i e
      rw [if_neg (fun z => e z.symm)] at h2
      have h1 := of_decide_eq_false h1
      have h2 := of_decide_eq_false h2
      omega
/-- no key is less than the least one -/
theorem amin_min (key : Nat → List Int) : ∀ n i, i ≤ n → llt (key i) (key (amin llt key n)) = false
  | 0, i, h => by
    have : i = 0 := by omega
    subst this
    exact llt_irrefl _
  | n + 1, i, h => by
    have ih := amin_min key n
    unfold amin
    cases e : llt (key (n + 1)) (key (amin llt key n)) with
    | true =>
      rw [if_pos rfl]
      rcases Nat.lt_or_ge n i with h1 | h1
      · have : i = n + 1 := by omega
        subst this
        exact llt_irrefl _
      · cases e2 : llt (key i) (key (n + 1)) with
        | false => rfl
        | true => rw [← ih i h1]; exact (llt_trans e2 e).symm
    | false =>
      rw [if_neg (by decide)]
      rcases Nat.lt_or_ge n i with h1 | h1
      · have : i = n + 1 := by omega
        subst this
        exact e
      · exact ih i h1
end PyV

set_option Elab.async false
set_option linter.all false
set_option autoImplicit false
set_option maxRecDepth 100000
set_option maxHeartbeats 4000000
/-! # Steps of the evaluator, as lemmas -/
namespace PyV
open PySem PyE L2 PySem.W
section
variable {Φ : Fns} {n : Nat} {a b e : IE} {env e1 e2 e3 : SEnv} {x y : Bool} {d d' : D} {w w' : Vw} {i j : Int}
theorem bf_1 {f : Bf} (h : evE Φ e env = .ok w e1) (hl : look e1 w = some d) (hb : bfD f [d] = some w') : evE Φ (.bf f (.cons e .nil)) env = .ok w' e1 := by
  unfold evE
  rw [show evEs Φ (.cons e .nil) env = .ok [w] e1 from es_cons h rfl, bind_ok]
  show (match looks e1 [w] with
    | some ds => Rs.opt (bfD f ds) e1
    | none => .stuck) = _
  have : looks e1 [w] = some [d] := by
    unfold looks
    rw [hl]
    rfl
  rw [this]
  show Rs.opt (bfD f [d]) e1 = _
  rw [hb]
theorem bf_now {f : Bf} (h : evE Φ e env = .ok (.now d) e1) (hb : bfD f [d] = some w') : evE Φ (.bf f (.cons e .nil)) env = .ok w' e1 := bf_1 h rfl hb
theorem bf_tmp {f : Bf} {ds : List D} (h : evE Φ e env = .ok (.tmp ds) e1) (hb : bfD f [.list ds] = some w') : evE Φ (.bf f (.cons e .nil)) env = .ok w' e1 := bf_1 h rfl hb
theorem bf_2 {f : Bf} (h : evE Φ a env = .ok (.now d) e1) (h2 : evE Φ b e1 = .ok (.now d') e2) (hb : bfD f [d, d'] = some w') : evE Φ (.bf f (.cons a (.cons b .nil))) env = .ok w' e2 := by
  unfold evE
  rw [show evEs Φ (.cons a (.cons b .nil)) env = .ok [.now d, .now d'] e2 from es_cons h (es_cons h2 rfl), bind_ok]
  show Rs.opt (bfD f [d, d']) e2 = _
  rw [hb]
theorem neg_now (h : evE Φ e env = .ok (.now (.int i)) e1) : evE Φ (.neg e) env = .ok (.now (.int (-i))) e1 := by
  unfold evE
  rw [h] <;> rfl
theorem tup_of {es : IEs} {ws : List Vw} {ds : List D} (h : evEs Φ es env = .ok ws e1) (hk : keepN e1 ws = some (ds, e2)) (hz : szOk ds.length = true) : evE Φ (.tup es) env = .ok (.now (.tuple ds)) e2 := by
  unfold evE
  rw [h, bind_ok]
  show (match keepN e1 ws with
    | some (ds, e2) => if szOk ds.length = true then Rs.ok (Vw.now (.tuple ds)) e2 else .stuck
    | none => .stuck) = _
  rw [hk]
  exact if_pos hz
theorem lst_of {es : IEs} {ws : List Vw} {ds : List D} (h : evEs Φ es env = .ok ws e1) (hk : keepN e1 ws = some (ds, e2)) (hz : szOk ds.length = true) : evE Φ (.lst es) env = .ok (.tmp ds) e2 := by
  unfold evE
  rw [h, bind_ok]
  show (match keepN e1 ws with
    | some (ds, e2) => if szOk ds.length = true then Rs.ok (Vw.tmp ds) e2 else .stuck
    | none => .stuck) = _
  rw [hk]
  exact if_pos hz
theorem ix_vw {w2 : Vw} {z : D} (h1 : evE Φ a env = .ok w e1) (h2 : evE Φ b e1 = .ok w2 e2) (l1 : look e2 w = some d) (l2 : look e2 w2 = some d') (h : ixD d d' = some z) : evE Φ (.ix a b) env = .ok (.now z) e2 := by
  unfold evE
  rw [h1, bind_ok, h2, bind_ok, l1, l2]
  show Rs.opt ((ixD d d').map Vw.now) e2 = _
  rw [h]
  rfl
theorem ix_now {z : D} (h1 : evE Φ a env = .ok (.now d) e1) (h2 : evE Φ b e1 = .ok (.now d') e2) (h : ixD d d' = some z) : evE Φ (.ix a b) env = .ok (.now z) e2 := ix_vw h1 h2 rfl rfl h
theorem bin_vw {op : Operator} {w2 : Vw} (h1 : evE Φ a env = .ok w e1) (h2 : evE Φ b e1 = .ok w2 e2) (l1 : look e2 w = some d) (l2 : look e2 w2 = some d') (h : binD op d d' = some w') : evE Φ (.bin op a b) env = .ok w' e2 := by
  unfold evE
  rw [h1, bind_ok, h2, bind_ok, l1, l2]
  show Rs.opt (binD op d d') e2 = _
  rw [h]
theorem bin_now {op : Operator} (h1 : evE Φ a env = .ok (.now d) e1) (h2 : evE Φ b e1 = .ok (.now d') e2) (h : binD op d d' = some w') : evE Φ (.bin op a b) env = .ok w' e2 := bin_vw h1 h2 rfl rfl h
theorem cmp_vw {op : CmpOp} {w2 : Vw} (h1 : evE Φ a env = .ok w e1) (h2 : evE Φ b e1 = .ok w2 e2) (l1 : look e2 w = some d) (l2 : look e2 w2 = some d') (h : cmpD op d d' = some x) : evE Φ (.cmp op a b) env = .ok (.now (.bool x)) e2 := by
  unfold evE
  rw [h1, bind_ok, h2, bind_ok, l1, l2]
  show Rs.opt ((cmpD op d d').map fun b => Vw.now (.bool b)) e2 = _
  rw [h]
  rfl
theorem cmp_nows {op : CmpOp} (h1 : evE Φ a env = .ok (.now d) e1) (h2 : evE Φ b e1 = .ok (.now d') e2) (h : cmpD op d d' = some x) : evE Φ (.cmp op a b) env = .ok (.now (.bool x)) e2 := cmp_vw h1 h2 rfl rfl h
theorem ife_t {t : IE} (h : evE Φ t env = .ok (.now (.bool true)) e1) : evE Φ (.ife t a b) env = evE Φ a e1 := by
  show (evE Φ t env).bind _ = _
  rw [h] <;> rfl
theorem ife_f {t : IE} (h : evE Φ t env = .ok (.now (.bool false)) e1) : evE Φ (.ife t a b) env = evE Φ b e1 := by
  show (evE Φ t env).bind _ = _
  rw [h] <;> rfl
theorem sl_vw {lo hi : IO} {l h : Option Int} (h1 : evE Φ a env = .ok w e1) (h2 : evO Φ lo e1 = .ok l e2) (h3 : evO Φ hi e2 = .ok h e3) (l1 : look e3 w = some d) (hs : slD d l h = some w') : evE Φ (.sl a lo hi) env = .ok w' e3 := by
  unfold evE
  rw [h1, bind_ok, h2, bind_ok, h3, bind_ok, l1]
  show Rs.opt (slD d l h) e3 = _
  rw [hs]
theorem o_int (h : evE Φ e env = .ok (.now (.int i)) e1) : evO Φ (.some e) env = .ok (some i) e1 := by
  unfold evO
  rw [h] <;> rfl
theorem cnt_ints {l : List Int} {k : Int} (h1 : evE Φ a env = .ok (.now (iL l)) e1) (h2 : evE Φ b e1 = .ok (.now (.int k)) e2) : evE Φ (.cnt a b) env = .ok (.now (.int (l.countP (· == k) : Nat))) e2 := by
  have hf : (l.map PyData.int).all flatD = true := by
    rw [List.all_map]
    exact List.all_eq_true.mpr fun x _ => rfl
  have hc : cntD (.int k) (l.map PyData.int) = l.countP (· == k) := by
    unfold cntD
    rw [List.countP_map]
    exact congrArg (fun p => List.countP p l) (funext fun z => eqv_ii z k)
  unfold evE
  rw [h1, bind_ok]
  show (evE Φ b e1).bind _ = _
  rw [h2, bind_ok]
  show (if (flatD (.int k) && (l.map PyData.int).all flatD) = true then Rs.ok (Vw.now (.int (cntD (.int k) (l.map PyData.int)))) e2 else .stuck) = _
  rw [hf, hc]
  rfl
theorem ints_some : ∀ l : List Int, intsD (l.map PyData.int) = some l
  | [] => rfl
  | x :: l => by
    show (intsD (l.map PyData.int)).map (x :: ·) = _
    rw [ints_some l]
    rfl
theorem sum_ints (l : List Int) : bfD .sum [iL l] = some (.now (.int l.sum)) := by
  show (intsD (l.map PyData.int)).map (fun ns => Vw.now (.int ns.sum)) = _
  rw [ints_some]
  rfl
def mnL : List Int → Int
  | [] => 0
  | x :: l => l.foldl (fun a b => if b < a then b else a) x
theorem minD_ints : ∀ (l : List Int) (x : Int), minD (.int x) (l.map PyData.int) = .int (l.foldl (fun a b => if b < a then b else a) x)
  | [], x => rfl
  | y :: l, x => by
    have ih := minD_ints l (if y < x then y else x)
    rw [List.foldl_cons, ← ih]
    unfold minD
    rw [List.map_cons, List.foldl_cons]
    congr 1
    rw [dataLt_int]
    by_cases h : y < x
    · rw [if_pos h, decide_eq_true h]
      rfl
    · rw [if_neg h, decide_eq_false h]
      rfl
theorem min_ints {l : List Int} (h : l ≠ []) : bfD .min [iL l] = some (.now (.int (mnL l))) := by
  cases l with
  | nil => exact absurd rfl h
  | cons x l =>
    have ha : alikeL (PyData.int x :: l.map PyData.int) = true := by
      have hm : ∀ y ∈ PyData.int x :: l.map PyData.int, ∃ i, y = .int i := fun y hy => by
        rcases List.mem_cons.mp hy with e | e
        · exact ⟨x, e⟩
        · obtain ⟨i, _, e⟩ := List.mem_map.mp e
          exact ⟨i, e.symm⟩
      refine alikeL_mk (fun y hy z hz => ?_) (fun y hy => ?_) (fun y hy => ?_) (fun y hy => ?_)
      · obtain ⟨i, rfl⟩ := hm y hy
        obtain ⟨j, rfl⟩ := hm z hz
        rfl
      · obtain ⟨i, rfl⟩ := hm y hy
        simp
      · obtain ⟨i, rfl⟩ := hm y hy
        exact Nat.zero_le _
      · obtain ⟨i, rfl⟩ := hm y hy
        rfl
    show (if alikeL (PyData.int x :: l.map PyData.int) = true then some (Vw.now (minD (.int x) (l.map PyData.int))) else none) = _
    rw [if_pos ha, minD_ints]
    rfl
/-- range(e) where e is a length or the like -/
theorem i_r1 {k : Nat} (h : evE Φ e env = .ok (.now (.int (k : Nat))) e1) (hk : k ≤ 1000000) : evI Φ (.r1 e) env = .ok (rgD 0 k) e1 := by
  unfold evI
  rw [h, bind_ok]
  show (if rOk (k : Int) = true then Rs.ok (rgD 0 ((k : Int)).toNat) e1 else .stuck) = _
  rw [if_pos (rOk_nat hk)]
  rfl
theorem lc_val {tg : Tg} {it : II} {c : IO} {own : List Nat} {ds : List D} {g : D → List D} {out : List D} (h1 : evI Φ it env = .ok ds e1) (hw : wipeE e1 own = e1) (hb : backE e1 e1 own = e1)
    (h2 : ∀ x ∈ ds, lcStep (evC Φ c) (evE Φ e) tg own x e1 = .ok (g x) e1) (ho : ds.flatMap g = out) (hz : out.length ≤ 16777216) : evE Φ (.lc e tg it c own) env = .ok (.tmp out) e1 := by
  rw [← ho] at hz ⊢
  exact lc_eqF h1 hw hb h2 (decide_eq_true hz)
/-- a comprehension without a test, one value a turn -/
theorem lc_map {α : Type} {tg : Tg} {it : II} {own : List Nat} {xs : List α} {enc f : α → D} (h1 : evI Φ it env = .ok (xs.map enc) e1) (hw : wipeE e1 own = e1) (hb : backE e1 e1 own = e1)
    (h2 : ∀ x ∈ xs, lcStep (evC Φ .none) (evE Φ e) tg own (enc x) e1 = .ok [f x] e1) (hz : xs.length ≤ 16777216) : evE Φ (.lc e tg it .none own) env = .ok (.tmp (xs.map f)) e1 := by
  have key : ∀ (ys : List α), (∀ x ∈ ys, x ∈ xs) → lcL (lcStep (evC Φ .none) (evE Φ e) tg own) (ys.map enc) e1 = .ok (ys.map f) e1 := by
    intro ys
    induction ys with
    | nil => intro _; rfl
    | cons y ys ih =>
      intro h
      rw [List.map_cons, lcL, h2 y (h y List.mem_cons_self), bind_ok, ih fun z hz => h z (List.mem_cons_of_mem _ hz), bind_ok]
      rfl
  show (evI Φ it env).bind _ = _
  rw [h1, bind_ok]
  show lcEnd e1 own (lcL _ (xs.map enc) (wipeE e1 own)) = _
  rw [hw, key xs fun _ h => h]
  show (if szOk (xs.map f).length = true then _ else _) = _
  rw [List.length_map, if_pos (show szOk xs.length = true from decide_eq_true hz), hb]
/-- .. with a test -/
theorem lc_filter {α : Type} {tg : Tg} {it : II} {c : IO} {own : List Nat} {xs : List α} {enc f : α → D} {p : α → Bool} (h1 : evI Φ it env = .ok (xs.map enc) e1) (hw : wipeE e1 own = e1) (hb : backE e1 e1 own = e1)
    (h2 : ∀ x ∈ xs, lcStep (evC Φ c) (evE Φ e) tg own (enc x) e1 = .ok (if p x then [f x] else []) e1) (hz : xs.length ≤ 16777216) : evE Φ (.lc e tg it c own) env = .ok (.tmp ((xs.filter p).map f)) e1 := by
  have key : ∀ (ys : List α), (∀ x ∈ ys, x ∈ xs) → lcL (lcStep (evC Φ c) (evE Φ e) tg own) (ys.map enc) e1 = .ok ((ys.filter p).map f) e1 := by
    intro ys
    induction ys with
    | nil => intro _; rfl
    | cons y ys ih =>
      intro h
      rw [List.map_cons, lcL, h2 y (h y List.mem_cons_self), bind_ok, ih fun z hz => h z (List.mem_cons_of_mem _ hz), bind_ok, List.filter_cons]
      cases p y <;> rfl
  show (evI Φ it env).bind _ = _
  rw [h1, bind_ok]
  show lcEnd e1 own (lcL _ (xs.map enc) (wipeE e1 own)) = _
  rw [hw, key xs fun _ h => h]
  show (if szOk ((xs.filter p).map f).length = true then _ else _) = _
  rw [List.length_map, if_pos (show szOk (xs.filter p).length = true from decide_eq_true (Nat.le_trans (List.length_filter_le _ _) hz)), hb]
/-- one turn of a comprehension: the name is set, the value found -/
theorem st_one {i : Nat} {own : List Nat} {z : D} (h1 : putS env i (.sh d) = some e1) (h2 : evE Φ e e1 = .ok (.now z) e1) (hw : wipeE e1 own = env) : lcStep (evC Φ .none) (evE Φ e) (.one i) own d env = .ok [z] env := by
  unfold lcStep
  rw [show putT env (.one i) d = some e1 from h1]
  show (evE Φ e e1).bind _ = _
  rw [h2, bind_ok]
  show Rs.ok [z] (wipeE e1 own) = _
  rw [hw]
theorem st_if {i : Nat} {own : List Nat} {z : D} {t : IE} (h1 : putS env i (.sh d) = some e1) (h2 : evT Φ t e1 = .ok x e1) (h3 : x = true → evE Φ e e1 = .ok (.now z) e1) (hw : wipeE e1 own = env) : lcStep (evC Φ (.some t)) (evE Φ e) (.one i) own d env = .ok (if x then [z] else []) env := by
  unfold lcStep
  rw [show putT env (.one i) d = some e1 from h1]
  show (evC Φ (.some t) e1).bind _ = _
  rw [show evC Φ (.some t) e1 = .ok x e1 from h2, bind_ok]
  cases x with
  | true =>
    show (evE Φ e e1).bind _ = _
    rw [h3 rfl, bind_ok]
    show Rs.ok [z] (wipeE e1 own) = _
    rw [hw]
    rfl
  | false =>
    show Rs.ok [] (wipeE e1 own) = _
    rw [hw]
    rfl
end
theorem rg_map (n : Nat) : rgD 0 n = (List.range n).map fun k => .int (k : Nat) := by
  unfold rgD
  congr 1
  funext i
  simp
end PyV

set_option Elab.async false
set_option linter.all false
set_option autoImplicit false
/-! # Rows of runs: sets of hours -/
namespace Sp
abbrev Runs := List (Int × Int)
def mem (rs : Runs) (h : Int) : Prop := ∃ r ∈ rs, r.1 ≤ h ∧ h < r.2
def Can : Int → Runs → Prop
  | _, [] => True
  | lo, r :: rs => lo < r.1 ∧ r.1 < r.2 ∧ Can r.2 rs
theorem mem_nil {h : Int} : ¬ mem [] h := fun ⟨_, z, _⟩ => by cases z
theorem mem_cons {r : Int × Int} {rs : Runs} {h : Int} : mem (r :: rs) h ↔ (r.1 ≤ h ∧ h < r.2) ∨ mem rs h := by
  constructor
  · rintro ⟨q, hq, z⟩
    rcases List.mem_cons.mp hq with e | e
    · rw [e] at z; exact .inl z
    · exact .inr ⟨q, e, z⟩
  · rintro (z | ⟨q, hq, z⟩)
    · exact ⟨r, List.mem_cons_self, z⟩
    · exact ⟨q, List.mem_cons_of_mem _ hq, z⟩
theorem mem_app {xs ys : Runs} {h : Int} : mem (xs ++ ys) h ↔ mem xs h ∨ mem ys h := by
  constructor
  · rintro ⟨q, hq, z⟩
    rcases List.mem_append.mp hq with e | e
    · exact .inl ⟨q, e, z⟩
    · exact .inr ⟨q, e, z⟩
  · rintro (⟨q, hq, z⟩ | ⟨q, hq, z⟩)
    · exact ⟨q, List.mem_append_left _ hq, z⟩
    · exact ⟨q, List.mem_append_right _ hq, z⟩
theorem Can.mono {lo lo' : Int} (h : lo' ≤ lo) : ∀ {rs : Runs}, Can lo rs → Can lo' rs
  | [], _ => trivial
  | _ :: _, ⟨a, b⟩ => ⟨Int.lt_of_le_of_lt h a, b⟩
theorem Can.gt : ∀ {lo : Int} {rs : Runs}, Can lo rs → ∀ r ∈ rs, lo < r.1 ∧ r.1 < r.2
  | _, [], _, r, h => by cases h
  | lo, q :: rs, ⟨a, b, c⟩, r, h => by
    rcases List.mem_cons.mp h with e | e
    · rw [e]; exact ⟨a, b⟩
    · have := Can.gt c r e
      exact ⟨by omega, this.2⟩
theorem Can.mem_gt {lo h : Int} {rs : Runs} (c : Can lo rs) (m : mem rs h) : lo < h := by
  obtain ⟨r, hr, z⟩ := m
  have := c.gt r hr
  omega
theorem uniq : ∀ {rs rs' : Runs} {lo lo' : Int}, Can lo rs → Can lo' rs' → (∀ h, mem rs h ↔ mem rs' h) → rs = rs'
  | [], [], _, _, _, _, _ => rfl
  | [], r' :: rs', _, _, _, c', h => absurd ((h r'.1).mpr (mem_cons.mpr (.inl ⟨Int.le_refl _, c'.2.1⟩))) mem_nil
  | r :: rs, [], _, _, c, _, h => absurd ((h r.1).mp (mem_cons.mpr (.inl ⟨Int.le_refl _, c.2.1⟩))) mem_nil
  | r :: rs, r' :: rs', lo, lo', c, c', h => by
    have a1 : r'.1 ≤ r.1 := by
      rcases mem_cons.mp ((h r.1).mp (mem_cons.mpr (.inl ⟨Int.le_refl _, c.2.1⟩))) with z | z
      · exact z.1
      · have := c'.2.2.mem_gt z
        have := c'.2.1
        omega
    have a2 : r.1 ≤ r'.1 := by
      rcases mem_cons.mp ((h r'.1).mpr (mem_cons.mpr (.inl ⟨Int.le_refl _, c'.2.1⟩))) with z | z
      · exact z.1
      · have := c.2.2.mem_gt z
        have := c.2.1
        omega
    have b1 : r.2 ≤ r'.2 := by
      rcases Int.lt_or_le r'.2 r.2 with z | z
      · have m : mem (r :: rs) r'.2 := mem_cons.mpr (.inl ⟨by have := c'.2.1; omega, z⟩)
        rcases mem_cons.mp ((h _).mp m) with y | y
        · omega
        · have := c'.2.2.mem_gt y
          omega
      · exact z
    have b2 : r'.2 ≤ r.2 := by
      rcases Int.lt_or_le r.2 r'.2 with z | z
      · have m : mem (r' :: rs') r.2 := mem_cons.mpr (.inl ⟨by have := c.2.1; omega, z⟩)
        rcases mem_cons.mp ((h _).mpr m) with y | y
        · omega
        · have := c.2.2.mem_gt y
          omega
      · exact z
    have e : r = r' := Prod.ext (by omega) (by omega)
    subst e
    rw [uniq c.2.2 c'.2.2 fun x => ?_]
    constructor
    · intro m
      have g := c.2.2.mem_gt m
      rcases mem_cons.mp ((h x).mp (mem_cons.mpr (.inr m))) with z | z
      · omega
      · exact z
    · intro m
      have g := c'.2.2.mem_gt m
      rcases mem_cons.mp ((h x).mpr (mem_cons.mpr (.inr m))) with z | z
      · omega
      · exact z
theorem can_snoc {l : Int × Int} : ∀ {lo : Int} {xs : Runs}, Can lo (xs ++ [l]) ↔ Can lo xs ∧ lo < l.1 ∧ l.1 < l.2 ∧ ∀ r ∈ xs, r.2 < l.1
  | lo, [] => by
    constructor
    · rintro ⟨a, b, _⟩
      exact ⟨trivial, a, b, fun r h => by cases h⟩
    · rintro ⟨_, a, b, _⟩
      exact ⟨a, b, trivial⟩
  | lo, r :: xs => by
    constructor
    · rintro ⟨a, b, c⟩
      obtain ⟨c1, c2, c3, c4⟩ := can_snoc.mp c
      refine ⟨⟨a, b, c1⟩, by omega, c3, fun q hq => ?_⟩
      rcases List.mem_cons.mp hq with e | e
      · rw [e]; exact c2
      · exact c4 q e
    · rintro ⟨⟨a, b, c1⟩, c2, c3, c4⟩
      exact ⟨a, b, can_snoc.mpr ⟨c1, c4 r List.mem_cons_self, c3, fun q hq => c4 q (List.mem_cons_of_mem _ hq)⟩⟩
/-- a run behind the others, joined to the last one -/
def addRun (rs : Runs) (b e : Int) : Runs :=
  if e ≤ b then rs else match rs.getLast? with
    | none => rs ++ [(b, e)]
    | some l => if b ≤ l.2 then (if l.2 < e then rs.dropLast ++ [(l.1, e)] else rs) else rs ++ [(b, e)]
theorem snoc_cases (rs : Runs) : rs = [] ∨ ∃ xs l, rs = xs ++ [l] := by
  rcases List.eq_nil_or_concat rs with e | ⟨xs, l, e⟩
  · exact .inl e
  · exact .inr ⟨xs, l, by rw [e, List.concat_eq_append]⟩
theorem add_spec {lo b e : Int} {rs : Runs} (c : Can lo rs) (hlo : lo < b) (hb : ∀ r ∈ rs, r.1 ≤ b) : Can lo (addRun rs b e) ∧ (∀ h, mem (addRun rs b e) h ↔ mem rs h ∨ (b ≤ h ∧ h < e)) ∧ ∀ r ∈ addRun rs b e, r.1 ≤ b := by
  unfold addRun
  by_cases h0 : e ≤ b
  · rw [if_pos h0]
    exact ⟨c, fun h => ⟨.inl, fun z => z.elim id fun z => by omega⟩, hb⟩
  rw [if_neg h0]
  rcases snoc_cases rs with rfl | ⟨xs, l, rfl⟩
  · refine ⟨⟨hlo, by omega, trivial⟩, fun h => ?_, fun r hr => ?_⟩
    · show mem [(b, e)] h ↔ _
      rw [mem_cons]
      constructor
      · rintro (z | z)
        · exact .inr z
        · exact absurd z mem_nil
      · rintro (z | z)
        · exact absurd z mem_nil
        · exact .inl z
    · have : r = (b, e) := by simpa using hr
      rw [this]
      exact Int.le_refl _
  · obtain ⟨c1, c2, c3, c4⟩ := can_snoc.mp c
    have hl : l.1 ≤ b := hb l (by simp)
    rw [List.getLast?_concat, List.dropLast_concat]
    show Can lo (if b ≤ l.2 then (if l.2 < e then xs ++ [(l.1, e)] else xs ++ [l]) else xs ++ [l] ++ [(b, e)]) ∧ _ ∧ _
    by_cases h1 : b ≤ l.2
    · simp only [if_pos h1]
      by_cases h2 : l.2 < e
      · simp only [if_pos h2]
        refine ⟨can_snoc.mpr ⟨c1, c2, by show l.1 < e; omega, c4⟩, fun h => ?_, fun r hr => ?_⟩
        · rw [mem_app, mem_app, mem_cons, mem_cons]
          constructor
          · rintro (z | z | z)
            · exact .inl (.inl z)
            · rcases Int.lt_or_le h l.2 with y | y
              · exact .inl (.inr (.inl ⟨z.1, y⟩))
              · exact .inr ⟨by omega, z.2⟩
            · exact absurd z mem_nil
          · rintro ((z | z | z) | z)
            · exact .inl z
            · exact .inr (.inl ⟨z.1, by show h < e; omega⟩)
            · exact absurd z mem_nil
            · exact .inr (.inl ⟨by show l.1 ≤ h; omega, z.2⟩)
        · rcases List.mem_append.mp hr with z | z
          · exact hb r (List.mem_append_left _ z)
          · rw [List.mem_singleton.mp z]; exact hl
      · simp only [if_neg h2]
        refine ⟨c, fun h => ⟨.inl, ?_⟩, hb⟩
        rintro (z | z)
        · exact z
        · exact mem_app.mpr (.inr (mem_cons.mpr (.inl ⟨by omega, by omega⟩)))
    · simp only [if_neg h1]
      refine ⟨can_snoc.mpr ⟨c, hlo, by show b < e; omega, fun r hr => ?_⟩, fun h => ?_, fun r hr => ?_⟩
      · show r.2 < b
        rcases List.mem_append.mp hr with z | z
        · have := c4 r z
          omega
        · rw [List.mem_singleton.mp z]
          omega
      · rw [mem_app (ys := [(b, e)]), mem_cons]
        constructor
        · rintro (z | z | z)
          · exact .inl z
          · exact .inr z
          · exact absurd z mem_nil
        · rintro (z | z)
          · exact .inl z
          · exact .inr (.inl z)
      · rcases List.mem_append.mp hr with z | z
        · exact hb r z
        · rw [List.mem_singleton.mp z]; exact Int.le_refl _
/-- the begins rise -/
def Asc : Int → Runs → Prop
  | _, [] => True
  | B, r :: rs => B ≤ r.1 ∧ Asc r.1 rs
def addAll (acc l : Runs) : Runs := l.foldl (fun a r => addRun a r.1 r.2) acc
theorem addAll_spec : ∀ {l acc : Runs} {lo B U : Int}, Can lo acc → lo < B → (∀ r ∈ acc, r.1 ≤ B) → Asc B l → (∀ r ∈ l, r.1 ≤ U) → B ≤ U → Can lo (addAll acc l) ∧ (∀ h, mem (addAll acc l) h ↔ mem acc h ∨ mem l h) ∧ ∀ r ∈ addAll acc l, r.1 ≤ U
  | [], acc, lo, B, U, c, _, hb, _, _, hU => ⟨c, fun h => ⟨.inl, fun z => z.elim id fun z => absurd z mem_nil⟩, fun r hr => by have := hb r hr; show r.1 ≤ U; omega⟩
  | r :: l, acc, lo, B, U, c, hlo, hb, ha, hu, hU => by
    obtain ⟨a1, a2⟩ := ha
    obtain ⟨s1, s2, s3⟩ := add_spec (e := r.2) c (show lo < r.1 by omega) fun q hq => by have := hb q hq; omega
    have hr := hu r List.mem_cons_self
    obtain ⟨t1, t2, t3⟩ := addAll_spec (l := l) (acc := addRun acc r.1 r.2) (B := r.1) (U := U) s1 (by omega) s3 a2 (fun q hq => hu q (List.mem_cons_of_mem _ hq)) hr
    refine ⟨t1, fun h => ?_, t3⟩
    show mem (addAll (addRun acc r.1 r.2) l) h ↔ _
    rw [t2, s2, mem_cons]
    constructor
    · rintro ((z | z) | z)
      · exact .inl z
      · exact .inr (.inl z)
      · exact .inr (.inr z)
    · rintro (z | z | z)
      · exact .inl (.inl z)
      · exact .inl (.inr z)
      · exact .inr z
theorem Asc.mono {B B' : Int} (h : B' ≤ B) : ∀ {l : Runs}, Asc B l → Asc B' l
  | [], _ => trivial
  | _ :: _, ⟨a, b⟩ => ⟨by omega, b⟩
theorem asc_app : ∀ {l l' : Runs} {B U : Int}, Asc B l → (∀ r ∈ l, r.1 ≤ U) → Asc U l' → B ≤ U → Asc B (l ++ l')
  | [], l', B, U, _, _, a, h => a.mono h
  | r :: l, l', B, U, ⟨a, b⟩, hu, a', h => ⟨a, asc_app b (fun q hq => hu q (List.mem_cons_of_mem _ hq)) a' (hu r List.mem_cons_self)⟩
theorem addAll_app (acc l l' : Runs) : addAll acc (l ++ l') = addAll (addAll acc l) l' := by
  unfold addAll
  rw [List.foldl_append]
/-- how many runs end at the hour or earlier -/
def eb (rs : Runs) (h : Int) : Nat := (rs.takeWhile fun r => decide (r.2 ≤ h)).length
theorem eb_le (rs : Runs) (h : Int) : eb rs h ≤ rs.length := by
  unfold eb
  exact (List.takeWhile_sublist _).length_le
/-- .. ends rise -/
theorem Can.ends : ∀ {lo : Int} {rs : Runs}, Can lo rs → ∀ (i j : Nat) (a b : Int × Int), i < j → rs[i]? = some a → rs[j]? = some b → a.2 < b.1 ∧ b.1 < b.2
  | _, [], _, i, j, a, b, _, h, _ => by simp at h
  | lo, r :: rs, ⟨_, _, c⟩, 0, j + 1, a, b, _, h1, h2 => by
    simp at h1 h2
    subst h1
    exact c.gt b (List.mem_of_getElem? h2)
  | lo, r :: rs, ⟨_, _, c⟩, i + 1, j + 1, a, b, h, h1, h2 => by
    simp at h1 h2
    exact c.ends i j a b (by omega) h1 h2
theorem eb_spec : ∀ {lo : Int} {rs : Runs} (h : Int), Can lo rs → ∀ (i : Nat) (a : Int × Int), rs[i]? = some a → (i < eb rs h ↔ a.2 ≤ h)
  | _, [], _, _, i, a, e => by simp at e
  | lo, r :: rs, h, c, i, a, e => by
    unfold eb
    rw [List.takeWhile_cons]
    by_cases z : r.2 ≤ h
    · rw [if_pos (decide_eq_true z), List.length_cons]
      cases i with
      | zero =>
        simp at e
        subst e
        exact ⟨fun _ => z, fun _ => Nat.succ_pos _⟩
      | succ i =>
        simp at e
        have := eb_spec h c.2.2 i a e
        unfold eb at this
        rw [← this]
        omega
    · rw [if_neg (by simpa using z)]
      refine ⟨fun y => (by cases y), fun y => ?_⟩
      cases i with
      | zero =>
        simp at e
        subst e
        omega
      | succ i =>
        have := Can.ends c 0 (i + 1) r a (by omega) rfl e
        omega
/-- whether the hour is in one of the runs -/
def inR (rs : Runs) (h : Int) : Bool := match rs[eb rs h]? with
  | some r => decide (r.1 ≤ h)
  | none => false
theorem inR_spec {lo h : Int} {rs : Runs} (c : Can lo rs) : inR rs h = true ↔ mem rs h := by
  unfold inR
  constructor
  · intro z
    cases e : rs[eb rs h]? with
    | none => rw [e] at z; cases z
    | some r =>
      rw [e] at z
      have z := of_decide_eq_true z
      have := eb_spec h c _ r e
      exact ⟨r, List.mem_of_getElem? e, z, by have := mt this.mpr (Nat.lt_irrefl _); omega⟩
  · rintro ⟨r, hr, z1, z2⟩
    obtain ⟨i, hi⟩ := List.mem_iff_getElem?.mp hr
    have h1 : ¬ i < eb rs h := fun y => by have := (eb_spec h c i r hi).mp y; omega
    have h2 : i = eb rs h := by
      rcases Nat.lt_or_ge (eb rs h) i with y | y
      · have hl : eb rs h < rs.length := Nat.lt_trans y (List.getElem?_eq_some_iff.mp hi).1
        have e := List.getElem?_eq_getElem hl
        have n := mt (eb_spec h c _ _ e).mpr (Nat.lt_irrefl _)
        have := Can.ends c _ i _ r y e hi
        omega
      · omega
    rw [← h2, hi]
    exact decide_eq_true z1
end Sp

set_option Elab.async false
set_option linter.all false
set_option autoImplicit false
/-! # Hours sets: the runs from one hour to another -/
namespace Sp
structure Q where
  hd : Runs
  st : Int
  pd : Int
  pc : Runs
  deriving DecidableEq
def S (q : Q) (h : Int) : Prop := if h < q.st then mem q.hd h else mem q.pc ((h - q.st) % q.pd)
structure V (q : Q) : Prop where
  st0 : 0 ≤ q.st
  pd0 : 0 < q.pd
  ch : Can (-1) q.hd
  he : ∀ r ∈ q.hd, r.2 ≤ q.st
  cp : Can (-1) q.pc
  pe : ∀ r ∈ q.pc, r.2 ≤ q.pd
theorem can_drop : ∀ {lo : Int} {rs : Runs} (n : Nat), Can lo rs → Can lo (rs.drop n)
  | _, _, 0, c => c
  | _, [], _ + 1, _ => trivial
  | lo, r :: rs, n + 1, c => can_drop n (c.2.2.mono (by have := c.1; have := c.2.1; omega))
theorem can_take (p : Int × Int → Bool) : ∀ {lo : Int} {rs : Runs}, Can lo rs → Can lo (rs.takeWhile p)
  | _, [], _ => trivial
  | lo, r :: rs, c => by
    rw [List.takeWhile_cons]
    split
    · exact ⟨c.1, c.2.1, can_take p c.2.2⟩
    · trivial
theorem take_mem {e off : Int} {r : Int × Int} : ∀ {lo : Int} {rs : Runs}, Can lo rs → r ∈ rs → off + r.1 < e → r ∈ rs.takeWhile fun x => decide (off + x.1 < e)
  | _, [], _, h, _ => by cases h
  | lo, q :: rs, c, h, hp => by
    rw [List.takeWhile_cons]
    rcases List.mem_cons.mp h with z | z
    · subst z
      rw [if_pos (decide_eq_true hp)]
      exact List.mem_cons_self
    · have := c.2.2.gt r z
      have := c.2.1
      rw [if_pos (decide_eq_true (by omega))]
      exact List.mem_cons_of_mem _ (take_mem c.2.2 z hp)
/-- the runs, off hours later, cut at b and at e -/
def seg (rs : Runs) (off b e : Int) : Runs := ((rs.drop (eb rs (b - off))).takeWhile fun r => decide (off + r.1 < e)).map fun r => (max b (off + r.1), min e (off + r.2))
theorem seg_spec {lo off b e : Int} {rs : Runs} (c : Can lo rs) (h : Int) : mem (seg rs off b e) h ↔ b ≤ h ∧ h < e ∧ mem rs (h - off) := by
  constructor
  · rintro ⟨r, hr, z⟩
    obtain ⟨q, hq, rfl⟩ := List.mem_map.mp hr
    have hq2 := (List.drop_sublist _ _).subset ((List.takeWhile_sublist _).subset hq)
    simp only at z
    exact ⟨by omega, by omega, q, hq2, by omega, by omega⟩
  · rintro ⟨h1, h2, r, hr, z1, z2⟩
    have hd : r ∈ rs.drop (eb rs (b - off)) := by
      obtain ⟨i, hi⟩ := List.mem_iff_getElem?.mp hr
      have n : ¬ i < eb rs (b - off) := fun y => by
        have := (eb_spec (b - off) c i r hi).mp y
        omega
      refine List.mem_of_getElem? (i := i - eb rs (b - off)) ?_
      rw [List.getElem?_drop, show eb rs (b - off) + (i - eb rs (b - off)) = i from by omega]
      exact hi
    have ht := take_mem (off := off) (e := e) (can_drop _ c) hd (by omega)
    refine ⟨(max b (off + r.1), min e (off + r.2)), List.mem_map.mpr ⟨r, ht, rfl⟩, ?_, ?_⟩
    · show max b (off + r.1) ≤ h
      omega
    · show h < min e (off + r.2)
      omega
theorem asc_map {off b e : Int} : ∀ {lo : Int} {l : Runs}, Can lo l → Asc (max b (off + lo)) (l.map fun r => (max b (off + r.1), min e (off + r.2)))
  | _, [], _ => trivial
  | lo, r :: l, c => by
    refine ⟨by have := c.1; show max b (off + lo) ≤ max b (off + r.1); omega, ?_⟩
    refine Asc.mono ?_ (asc_map (off := off) (b := b) (e := e) c.2.2)
    show max b (off + r.1) ≤ max b (off + r.2)
    have := c.2.1
    omega
theorem seg_asc {lo off b e : Int} {rs : Runs} (c : Can lo rs) : Asc b (seg rs off b e) :=
  Asc.mono (by omega) (asc_map (off := off) (b := b) (e := e) (can_take _ (can_drop _ c)))
theorem seg_asc2 {lo off b e : Int} {rs : Runs} (c : Can lo rs) : Asc (max b (off + lo)) (seg rs off b e) := asc_map (off := off) (b := b) (e := e) (can_take _ (can_drop _ c))
theorem seg_le {off b e U : Int} {rs : Runs} (hb : b ≤ U) (h : ∀ r ∈ rs, off + r.1 ≤ U) : ∀ r ∈ seg rs off b e, r.1 ≤ U := by
  intro r hr
  obtain ⟨q, hq, rfl⟩ := List.mem_map.mp hr
  have := h q ((List.drop_sublist _ _).subset ((List.takeWhile_sublist _).subset hq))
  show max b (off + q.1) ≤ U
  omega
/-- how many turns: base + k p < e -/
def kOf (base e p : Int) : Nat := ((e - base + p - 1) / p).toNat
theorem kOf_spec {base e p : Int} (hp : 0 < p) (k : Nat) : base + k * p < e ↔ k < kOf base e p := by
  unfold kOf
  have h1 : k < ((e - base + p - 1) / p).toNat ↔ ((k : Int) + 1) ≤ (e - base + p - 1) / p := by omega
  rw [h1, Int.le_ediv_iff_mul_le hp, Int.add_mul, Int.one_mul]
  omega
def partsR (pc : Runs) (p base b e : Int) (K : Nat) : Runs := (List.range K).flatMap fun k : Nat => seg pc (base + k * p) b e
theorem parts_succ (pc : Runs) (p base b e : Int) (K : Nat) : partsR pc p base b e (K + 1) = partsR pc p base b e K ++ seg pc (base + K * p) b e := by
  unfold partsR
  rw [List.range_succ, List.flatMap_append, List.flatMap_cons, List.flatMap_nil, List.append_nil]
theorem parts_spec {pc : Runs} {p base b e : Int} (hp : 0 < p) (c : Can (-1) pc) (he : ∀ r ∈ pc, r.2 ≤ p) : ∀ K : Nat, Asc (max b base) (partsR pc p base b e K) ∧ (∀ r ∈ partsR pc p base b e K, r.1 ≤ max b (base + K * p)) ∧ ∀ h, mem (partsR pc p base b e K) h ↔ ∃ k : Nat, k < K ∧ b ≤ h ∧ h < e ∧ mem pc (h - (base + k * p))
  | 0 => ⟨trivial, fun r hr => (by cases hr), fun h => ⟨fun z => absurd z mem_nil, fun ⟨k, hk, _⟩ => (by cases hk)⟩⟩
  | K + 1 => by
    obtain ⟨i1, i2, i3⟩ := parts_spec hp c he (b := b) (e := e) (base := base) K
    have hK : (0 : Int) ≤ K * p := Int.mul_nonneg (Int.natCast_nonneg K) (Int.le_of_lt hp)
    have e1 : ((K + 1 : Nat) : Int) * p = K * p + p := by
      rw [Int.natCast_add, Int.add_mul]
      simp
    rw [parts_succ]
    have c0 : Can 0 pc ∨ True := .inr trivial
    have a2 : Asc (max b (base + K * p)) (seg pc (base + K * p) b e) := by
      have := seg_asc2 (off := base + K * p) (b := b) (e := e) (rs := pc) (lo := -1) c
      unfold seg at this ⊢
      -- begins are from 0 on
      generalize hL : (pc.drop (eb pc (b - (base + K * p)))).takeWhile (fun r => decide (base + K * p + r.1 < e)) = L at this ⊢
      have cL : Can (-1) L := by rw [← hL]; exact can_take _ (can_drop _ c)
      cases L with
      | nil => trivial
      | cons r L =>
        refine ⟨?_, this.2⟩
        have := cL.1
        show max b (base + K * p) ≤ max b (base + K * p + r.1)
        omega
    refine ⟨asc_app i1 i2 a2 (by omega), fun r hr => ?_, fun h => ?_⟩
    · rcases List.mem_append.mp hr with z | z
      · have := i2 r z
        rw [e1]
        omega
      · refine seg_le (U := max b (base + ((K + 1 : Nat) : Int) * p)) (by omega) (fun q hq => ?_) r z
        have := c.gt q hq
        have := he q hq
        rw [e1]
        omega
    · rw [mem_app, i3, seg_spec c]
      constructor
      · rintro (⟨k, hk, z⟩ | z)
        · exact ⟨k, by omega, z⟩
        · exact ⟨K, by omega, z⟩
      · rintro ⟨k, hk, z⟩
        rcases Nat.lt_or_ge k K with y | y
        · exact .inl ⟨k, y, z⟩
        · have : k = K := by omega
          subst this
          exact .inr z
def full (pc : Runs) (p : Int) : Bool := match pc with
  | [r] => r.1 == 0 && r.2 == p
  | _ => false
theorem full_iff {pc : Runs} {p : Int} : full pc p = true ↔ pc = [(0, p)] := by
  unfold full
  split
  · rename_i r
    rw [Bool.and_eq_true, beq_iff_eq, beq_iff_eq]
    constructor
    · rintro ⟨a, b⟩
      rw [← a, ← b]
    · intro h
      have := List.cons.inj h
      rw [this.1]
      exact ⟨rfl, rfl⟩
  · rename_i h
    refine ⟨fun z => (by cases z), fun z => absurd z (h _)⟩
def baseOf (q : Q) (b : Int) : Int := q.st + max 0 ((b - q.st) / q.pd) * q.pd
def runsOf (q : Q) (b e : Int) : Runs :=
  if q.pc = [] then addAll [] (seg q.hd 0 b e)
  else if full q.pc q.pd = true then addRun (addAll [] (seg q.hd 0 b e)) (max b q.st) e
  else addAll (addAll [] (seg q.hd 0 b e)) (partsR q.pc q.pd (baseOf q b) b e (kOf (baseOf q b) e q.pd))
theorem mod_eq {x p : Int} {k : Int} (hp : 0 < p) (h0 : 0 ≤ x - k * p) (h1 : x - k * p < p) : x % p = x - k * p := by
  have e : x = (x - k * p) + p * k := by rw [Int.mul_comm p k]; omega
  conv => lhs; rw [e]
  rw [Int.add_mul_emod_self_left]
  exact Int.emod_eq_of_lt h0 h1
theorem hd_lt {q : Q} (v : V q) {h : Int} (m : mem q.hd h) : h < q.st := by
  obtain ⟨r, hr, z⟩ := m
  have := v.he r hr
  omega
theorem S_hd {q : Q} {h : Int} (hl : h < q.st) : S q h ↔ mem q.hd h := by
  unfold S
  rw [if_pos hl]
theorem S_pc {q : Q} {h : Int} (hl : q.st ≤ h) : S q h ↔ mem q.pc ((h - q.st) % q.pd) := by
  unfold S
  rw [if_neg (by omega)]
theorem runsOf_spec {q : Q} (v : V q) {b e : Int} (hb : 0 ≤ b) : Can (b - 1) (runsOf q b e) ∧ ∀ h, mem (runsOf q b e) h ↔ b ≤ h ∧ h < e ∧ S q h := by
  have hle : ∀ r ∈ q.hd, (0 : Int) + r.1 ≤ max b q.st := fun r hr => by
    have := v.he r hr
    have := v.ch.gt r hr
    omega
  obtain ⟨t1, t2, t3⟩ := addAll_spec (acc := []) (l := seg q.hd 0 b e) (lo := b - 1) (B := b) (U := max b q.st) trivial (by omega) (fun r hr => by cases hr) (seg_asc v.ch) (seg_le (by omega) hle) (by omega)
  have t2 : ∀ h, mem (addAll [] (seg q.hd 0 b e)) h ↔ b ≤ h ∧ h < e ∧ mem q.hd h := fun h => by
    rw [t2, seg_spec v.ch, Int.sub_zero]
    exact ⟨fun z => z.elim (fun z => absurd z mem_nil) id, .inr⟩
  unfold runsOf
  by_cases h0 : q.pc = []
  · rw [if_pos h0]
    refine ⟨t1, fun h => ?_⟩
    rw [t2]
    rcases Int.lt_or_le h q.st with y | y
    · rw [S_hd y]
    · rw [S_pc y, h0]
      constructor
      · rintro ⟨_, _, z⟩
        have := hd_lt v z
        omega
      · rintro ⟨_, _, z⟩
        exact absurd z mem_nil
  rw [if_neg h0]
  have pd := v.pd0
  by_cases h1 : full q.pc q.pd = true
  · rw [if_pos h1]
    have hf := full_iff.mp h1
    obtain ⟨s1, s2, _⟩ := add_spec (b := max b q.st) (e := e) t1 (by omega) t3
    refine ⟨s1, fun h => ?_⟩
    rw [s2, t2]
    rcases Int.lt_or_le h q.st with y | y
    · rw [S_hd y]
      constructor
      · rintro (z | z)
        · exact z
        · omega
      · exact .inl
    · rw [S_pc y, hf]
      have a1 := Int.emod_nonneg (h - q.st) (show q.pd ≠ 0 by omega)
      have a2 := Int.emod_lt_of_pos (h - q.st) pd
      constructor
      · rintro (⟨z1, z2, _⟩ | z)
        · exact ⟨z1, z2, mem_cons.mpr (.inl ⟨a1, a2⟩)⟩
        · exact ⟨by omega, z.2, mem_cons.mpr (.inl ⟨a1, a2⟩)⟩
      · rintro ⟨z1, z2, _⟩
        exact .inr ⟨by omega, z2⟩
  rw [if_neg h1]
  have hbase : q.st ≤ baseOf q b ∧ baseOf q b ≤ max b q.st ∧ ∃ k0 : Int, 0 ≤ k0 ∧ baseOf q b = q.st + k0 * q.pd := by
    unfold baseOf
    have hd := Int.ediv_mul_le (b - q.st) (show q.pd ≠ 0 by omega)
    have hk0 : (0 : Int) ≤ max 0 ((b - q.st) / q.pd) := by omega
    have hm := Int.mul_nonneg hk0 (Int.le_of_lt pd)
    refine ⟨by omega, ?_, max 0 ((b - q.st) / q.pd), hk0, rfl⟩
    rcases Int.le_total 0 ((b - q.st) / q.pd) with z | z
    · rw [Int.max_eq_right z]
      omega
    · rw [Int.max_eq_left z]
      omega
  obtain ⟨b1, b2, k0, k00, b3⟩ := hbase
  obtain ⟨p1, p2, p3⟩ := parts_spec (p := q.pd) (base := baseOf q b) (b := b) (e := e) pd v.cp v.pe (kOf (baseOf q b) e q.pd)
  obtain ⟨s1, s2, _⟩ := addAll_spec (acc := addAll [] (seg q.hd 0 b e)) (l := partsR q.pc q.pd (baseOf q b) b e (kOf (baseOf q b) e q.pd)) (B := max b q.st) (U := max (max b q.st) (max b (baseOf q b + (kOf (baseOf q b) e q.pd : Nat) * q.pd))) t1 (by omega) t3 (by
    have : max b (baseOf q b) = max b q.st := by omega
    rw [← this]
    exact p1) (fun r hr => by have := p2 r hr; omega) (by omega)
  refine ⟨s1, fun h => ?_⟩
  rw [s2, t2, p3]
  rcases Int.lt_or_le h q.st with y | y
  · rw [S_hd y]
    constructor
    · rintro (z | ⟨k, _, _, _, z⟩)
      · exact z
      · have hkp : (0 : Int) ≤ (k : Int) * q.pd := Int.mul_nonneg (Int.natCast_nonneg k) (Int.le_of_lt pd)
        have := v.cp.mem_gt z
        omega
    · exact .inl
  · rw [S_pc y]
    constructor
    · rintro (⟨_, _, z⟩ | ⟨k, _, z1, z2, z⟩)
      · have := hd_lt v z
        omega
      · refine ⟨z1, z2, ?_⟩
        have g1 := v.cp.mem_gt z
        obtain ⟨r, hr, g2⟩ := z
        have g3 := v.pe r hr
        have e1 : (h - q.st) % q.pd = h - (baseOf q b + k * q.pd) := by
          have e2 : h - (baseOf q b + k * q.pd) = (h - q.st) - (k0 + k) * q.pd := by
            rw [b3, Int.add_mul]
            omega
          rw [e2]
          refine mod_eq pd ?_ ?_ <;> rw [← e2] <;> omega
        rw [e1]
        exact ⟨r, hr, g2⟩
    · rintro ⟨z1, z2, z⟩
      right
      have hbh : baseOf q b ≤ h := by omega
      have a1 := Int.emod_nonneg (h - baseOf q b) (show q.pd ≠ 0 by omega)
      have a2 := Int.emod_lt_of_pos (h - baseOf q b) pd
      have a3 := Int.emod_add_mul_ediv (h - baseOf q b) q.pd
      have a4 : 0 ≤ (h - baseOf q b) / q.pd := Int.ediv_nonneg (by omega) (Int.le_of_lt pd)
      obtain ⟨k, hk⟩ : ∃ k : Nat, (k : Int) = (h - baseOf q b) / q.pd := ⟨((h - baseOf q b) / q.pd).toNat, by omega⟩
      have a5 : h - (baseOf q b + k * q.pd) = (h - baseOf q b) % q.pd := by
        rw [hk, Int.mul_comm]
        omega
      refine ⟨k, (kOf_spec pd k).mp (by omega), z1, z2, ?_⟩
      have e1 : (h - q.st) % q.pd = h - (baseOf q b + k * q.pd) := by
        have e2 : h - (baseOf q b + k * q.pd) = (h - q.st) - (k0 + k) * q.pd := by
          rw [b3, Int.add_mul]
          omega
        rw [e2]
        refine mod_eq pd ?_ ?_ <;> rw [← e2] <;> omega
      rw [← e1]
      exact z
end Sp

set_option Elab.async false
set_option linter.all false
set_option autoImplicit false
/-! # Hours sets: what is built of runs; sets of sets -/
namespace Sp
theorem S_neg {q : Q} (v : V q) {h : Int} (hn : h < 0) : ¬ S q h := fun z => by
  rw [S_hd (by have := v.st0; omega)] at z
  have := v.ch.mem_gt z
  omega
theorem S_shift {q : Q} (v : V q) {h h' : Int} (h1 : q.st ≤ h) (h2 : q.st ≤ h') (e : ∃ k : Int, h' = h + k * q.pd) : S q h ↔ S q h' := by
  obtain ⟨k, e⟩ := e
  rw [S_pc h1, S_pc h2]
  have : h' - q.st = (h - q.st) + q.pd * k := by rw [e, Int.mul_comm]; omega
  rw [this, Int.add_mul_emod_self_left]
def hdOf (l : Runs) (st : Int) : Runs := addAll [] (l.map fun r => (r.1, min r.2 st))
def pcOf (l : Runs) (st p : Int) : Runs := addAll [] (l.map fun r => (max r.1 st - st, min r.2 (st + p) - st))
def built (l : Runs) (st p : Int) : Q := ⟨hdOf l st, st, p, pcOf l st p⟩
theorem asc_mapf {f : Int × Int → Int × Int} {g : Int → Int} (hf : ∀ r, (f r).1 = g r.1) (hg : ∀ a b, a ≤ b → g a ≤ g b) : ∀ {B : Int} {l : Runs}, Asc B l → Asc (g B) (l.map f)
  | _, [], _ => trivial
  | B, r :: l, ⟨a, b⟩ => by
    refine ⟨by rw [hf]; exact hg _ _ a, ?_⟩
    rw [hf]
    exact asc_mapf hf hg b
theorem asc_ge : ∀ {B : Int} {l : Runs}, Asc B l → ∀ r ∈ l, B ≤ r.1
  | _, [], _, r, h => by cases h
  | B, q :: l, ⟨a, b⟩, r, h => by
    rcases List.mem_cons.mp h with e | e
    · rw [e]; exact a
    · have := asc_ge b r e
      omega
/-- a bound of the begins -/
theorem has_top : ∀ (l : Runs), ∃ U : Int, ∀ r ∈ l, r.1 ≤ U
  | [] => ⟨0, fun r h => by cases h⟩
  | q :: l => by
    obtain ⟨U, h⟩ := has_top l
    refine ⟨max U q.1, fun r hr => ?_⟩
    rcases List.mem_cons.mp hr with e | e
    · rw [e]; omega
    · have := h r e
      omega
theorem all_spec {l : Runs} {lo B : Int} (hlo : lo < B) (a : Asc B l) : Can lo (addAll [] l) ∧ ∀ h, mem (addAll [] l) h ↔ mem l h := by
  obtain ⟨U, hU⟩ := has_top l
  obtain ⟨s1, s2, _⟩ := addAll_spec (acc := []) (l := l) (lo := lo) (B := B) (U := max U B) trivial hlo (fun r hr => by cases hr) a (fun r hr => by have := hU r hr; omega) (by omega)
  refine ⟨s1, fun h => ?_⟩
  rw [s2]
  exact ⟨fun z => z.elim (fun z => absurd z mem_nil) id, .inr⟩
theorem ends_of {lo U : Int} {rs : Runs} (c : Can lo rs) (h : ∀ x, mem rs x → x < U) : ∀ r ∈ rs, r.2 ≤ U := fun r hr => by
  have := c.gt r hr
  have := h (r.2 - 1) ⟨r, hr, by omega, by omega⟩
  omega
theorem hdOf_spec {l : Runs} {st B : Int} (hB : 0 ≤ B) (a : Asc B l) : Can (-1) (hdOf l st) ∧ (∀ h, mem (hdOf l st) h ↔ mem l h ∧ h < st) ∧ ∀ r ∈ hdOf l st, r.2 ≤ st := by
  have a' : Asc B (l.map fun r => (r.1, min r.2 st)) := asc_mapf (f := fun r => (r.1, min r.2 st)) (g := fun x => x) (fun _ => rfl) (fun _ _ h => h) a
  obtain ⟨s1, s2⟩ := all_spec (lo := -1) (by omega) a'
  have key : ∀ h, mem (hdOf l st) h ↔ mem l h ∧ h < st := fun h => by
    unfold hdOf
    rw [s2]
    constructor
    · rintro ⟨r, hr, z⟩
      obtain ⟨q, hq, rfl⟩ := List.mem_map.mp hr
      simp only at z
      exact ⟨⟨q, hq, by omega, by omega⟩, by omega⟩
    · rintro ⟨⟨q, hq, z1, z2⟩, z⟩
      exact ⟨(q.1, min q.2 st), List.mem_map.mpr ⟨q, hq, rfl⟩, z1, by show h < min q.2 st; omega⟩
  exact ⟨s1, key, ends_of s1 fun x hx => ((key x).mp hx).2⟩
theorem pcOf_spec {l : Runs} {st p B : Int} (hst : 0 ≤ st) (a : Asc B l) : Can (-1) (pcOf l st p) ∧ (∀ h, mem (pcOf l st p) h ↔ 0 ≤ h ∧ h < p ∧ mem l (st + h)) ∧ ∀ r ∈ pcOf l st p, r.2 ≤ p := by
  have a' : Asc (max B st - st) (l.map fun r => (max r.1 st - st, min r.2 (st + p) - st)) := asc_mapf (f := fun r => (max r.1 st - st, min r.2 (st + p) - st)) (g := fun x => max x st - st) (fun _ => rfl) (fun a b h => by omega) a
  obtain ⟨s1, s2⟩ := all_spec (lo := -1) (by omega) a'
  have key : ∀ h, mem (pcOf l st p) h ↔ 0 ≤ h ∧ h < p ∧ mem l (st + h) := fun h => by
    unfold pcOf
    rw [s2]
    constructor
    · rintro ⟨r, hr, z⟩
      obtain ⟨q, hq, rfl⟩ := List.mem_map.mp hr
      simp only at z
      exact ⟨by omega, by omega, q, hq, by omega, by omega⟩
    · rintro ⟨z1, z2, q, hq, z3, z4⟩
      exact ⟨(max q.1 st - st, min q.2 (st + p) - st), List.mem_map.mpr ⟨q, hq, rfl⟩, by show max q.1 st - st ≤ h; omega, by show h < min q.2 (st + p) - st; omega⟩
  exact ⟨s1, key, ends_of s1 fun x hx => ((key x).mp hx).2.1⟩
/-- what is built of runs l: l below the start, and l's hours from it on, again and again -/
theorem built_spec {l : Runs} {st p B : Int} (hB : 0 ≤ B) (hst : 0 ≤ st) (hp : 0 < p) (a : Asc B l) : V (built l st p) ∧ (∀ h, h < st + p → (S (built l st p) h ↔ mem l h)) := by
  obtain ⟨a1, a2, a3⟩ := hdOf_spec (st := st) hB a
  obtain ⟨b1, b2, b3⟩ := pcOf_spec (p := p) hst a
  refine ⟨⟨hst, hp, a1, a3, b1, b3⟩, fun h hh => ?_⟩
  rcases Int.lt_or_le h st with y | y
  · rw [S_hd (q := built l st p) y]
    show mem (hdOf l st) h ↔ _
    rw [a2]
    exact ⟨fun z => z.1, fun z => ⟨z, y⟩⟩
  · rw [S_pc (q := built l st p) y]
    show mem (pcOf l st p) ((h - st) % p) ↔ _
    rw [Int.emod_eq_of_lt (by omega) (by omega), b2, show st + (h - st) = h from by omega]
    exact ⟨fun z => z.2.2, fun z => ⟨by omega, by omega, z⟩⟩
/-- two sets that are alike below a start and a period are alike -/
theorem built_is {l : Runs} {st p B : Int} {P : Int → Prop} (hB : 0 ≤ B) (hst : 0 ≤ st) (hp : 0 < p) (a : Asc B l) (h1 : ∀ h, 0 ≤ h → h < st + p → (mem l h ↔ P h)) (h2 : ∀ h, st ≤ h → (P (h + p) ↔ P h)) : ∀ h, 0 ≤ h → (S (built l st p) h ↔ P h) := by
  obtain ⟨v, s⟩ := built_spec hB hst hp a
  have per : ∀ (k : Nat) (h : Int), st ≤ h → (P (h + k * p) ↔ P h) := by
    intro k
    induction k with
    | zero => intro h _; simp
    | succ k ih =>
      intro h hh
      have hk : (0 : Int) ≤ k * p := Int.mul_nonneg (Int.natCast_nonneg k) (Int.le_of_lt hp)
      have e : h + ((k + 1 : Nat) : Int) * p = (h + k * p) + p := by
        rw [Int.natCast_add, Int.add_mul]
        simp
        omega
      rw [e, h2 _ (by omega), ih h hh]
  intro h h0
  rcases Int.lt_or_le h (st + p) with y | y
  · rw [s h y, h1 h h0 y]
  · have a1 := Int.emod_nonneg (h - st) (show p ≠ 0 by omega)
    have a2 := Int.emod_lt_of_pos (h - st) hp
    have a3 := Int.emod_add_mul_ediv (h - st) p
    have a4 : 0 ≤ (h - st) / p := Int.ediv_nonneg (by omega) (Int.le_of_lt hp)
    obtain ⟨k, hk⟩ : ∃ k : Nat, (k : Int) = (h - st) / p := ⟨((h - st) / p).toNat, by omega⟩
    have e : h = (st + (h - st) % p) + k * p := by rw [hk, Int.mul_comm]; omega
    rw [← S_shift (q := built l st p) v (h := st + (h - st) % p) (h' := h) (by show st ≤ _; omega) (by show st ≤ _; omega) ⟨k, e⟩]
    rw [s _ (by omega), h1 _ (by omega) (by omega)]
    conv => rhs; rw [e]
    exact (per k _ (by omega)).symm
/-! ### union -/
def mrg : Runs → Runs → Runs
  | [], ys => ys
  | a :: as, [] => a :: as
  | a :: as, b :: bs => if a.1 ≤ b.1 then a :: mrg as (b :: bs) else b :: mrg (a :: as) bs
termination_by xs ys => xs.length + ys.length
theorem mrg_mem : ∀ (xs ys : Runs) (h : Int), mem (mrg xs ys) h ↔ mem xs h ∨ mem ys h
  | [], ys, h => by
    rw [mrg]
    exact ⟨.inr, fun z => z.elim (fun z => absurd z mem_nil) id⟩
  | a :: as, [], h => by
    rw [mrg]
    exact ⟨.inl, fun z => z.elim id fun z => absurd z mem_nil⟩
  | a :: as, b :: bs, h => by
    rw [mrg]
    split
    · rw [mem_cons, mrg_mem as (b :: bs) h, mem_cons (r := a)]
      constructor
      · rintro (z | z | z)
        · exact .inl (.inl z)
        · exact .inl (.inr z)
        · exact .inr z
      · rintro ((z | z) | z)
        · exact .inl z
        · exact .inr (.inl z)
        · exact .inr (.inr z)
    · rw [mem_cons, mrg_mem (a :: as) bs h, mem_cons (r := b)]
      constructor
      · rintro (z | z | z)
        · exact .inr (.inl z)
        · exact .inl z
        · exact .inr (.inr z)
      · rintro (z | z | z)
        · exact .inr (.inl z)
        · exact .inl z
        · exact .inr (.inr z)
termination_by xs ys => xs.length + ys.length
theorem mrg_asc : ∀ (xs ys : Runs) (B : Int), Asc B xs → Asc B ys → Asc B (mrg xs ys)
  | [], ys, B, _, h => by rw [mrg]; exact h
  | a :: as, [], B, h, _ => by rw [mrg]; exact h
  | a :: as, b :: bs, B, h1, h2 => by
    rw [mrg]
    split
    · rename_i c
      exact ⟨h1.1, mrg_asc as (b :: bs) a.1 h1.2 ⟨c, h2.2⟩⟩
    · rename_i c
      exact ⟨h2.1, mrg_asc (a :: as) bs b.1 ⟨by omega, h1.2⟩ h2.2⟩
termination_by xs ys => xs.length + ys.length
theorem can_asc : ∀ {lo : Int} {rs : Runs}, Can lo rs → Asc (lo + 1) rs
  | _, [], _ => trivial
  | lo, r :: rs, ⟨a, b, c⟩ => ⟨by omega, (can_asc c).mono (by omega)⟩
/-! ### intersection -/
def crs : Runs → Runs → Runs
  | [], _ => []
  | _ :: _, [] => []
  | a :: as, b :: bs => (max a.1 b.1, min a.2 b.2) :: (if a.2 ≤ b.2 then crs as (b :: bs) else crs (a :: as) bs)
termination_by xs ys => xs.length + ys.length
theorem crs_mem : ∀ {xs ys : Runs} {lo lo' : Int}, Can lo xs → Can lo' ys → ∀ (h : Int), mem (crs xs ys) h ↔ mem xs h ∧ mem ys h
  | [], ys, _, _, _, _, h => by
    rw [crs]
    exact ⟨fun z => absurd z mem_nil, fun z => absurd z.1 mem_nil⟩
  | a :: as, [], _, _, _, _, h => by
    rw [crs]
    exact ⟨fun z => absurd z mem_nil, fun z => absurd z.2 mem_nil⟩
  | a :: as, b :: bs, lo, lo', c, c', h => by
    rw [crs, mem_cons]
    simp only
    split
    · rename_i e
      rw [crs_mem c.2.2 c' h, mem_cons (r := a), mem_cons (r := b)]
      constructor
      · rintro (z | ⟨z1, z2⟩)
        · exact ⟨.inl ⟨by omega, by omega⟩, .inl ⟨by omega, by omega⟩⟩
        · exact ⟨.inr z1, z2⟩
      · rintro ⟨z1 | z1, z2 | z2⟩
        · exact .inl ⟨by omega, by omega⟩
        · have := c'.2.2.mem_gt z2
          omega
        · exact .inr ⟨z1, .inl z2⟩
        · exact .inr ⟨z1, .inr z2⟩
    · rename_i e
      rw [crs_mem c c'.2.2 h, mem_cons (r := a), mem_cons (r := b)]
      constructor
      · rintro (z | ⟨z1, z2⟩)
        · exact ⟨.inl ⟨by omega, by omega⟩, .inl ⟨by omega, by omega⟩⟩
        · exact ⟨z1, .inr z2⟩
      · rintro ⟨z1 | z1, z2 | z2⟩
        · exact .inl ⟨by omega, by omega⟩
        · exact .inr ⟨.inl z1, z2⟩
        · have := c.2.2.mem_gt z1
          omega
        · exact .inr ⟨.inr z1, z2⟩
termination_by xs ys => xs.length + ys.length
theorem crs_asc : ∀ (xs ys : Runs) (B : Int) {lo lo' : Int}, Can lo xs → Can lo' ys → (∀ a ∈ xs.head?, ∀ b ∈ ys.head?, B ≤ max a.1 b.1) → Asc B (crs xs ys)
  | [], ys, B, _, _, _, _, _ => by rw [crs]; trivial
  | a :: as, [], B, _, _, _, _, _ => by rw [crs]; trivial
  | a :: as, b :: bs, B, lo, lo', c, c', hB => by
    rw [crs]
    have h0 := hB a rfl b rfl
    refine ⟨h0, ?_⟩
    show Asc (max a.1 b.1) _
    split
    · rename_i e
      refine crs_asc as (b :: bs) _ c.2.2 c' fun x hx y hy => ?_
      cases as with
      | nil => cases hx
      | cons q as =>
        cases hx
        cases hy
        have := c.2.2.1
        have := c.2.1
        omega
    · rename_i e
      refine crs_asc (a :: as) bs _ c c'.2.2 fun x hx y hy => ?_
      cases bs with
      | nil => cases hy
      | cons q bs =>
        cases hx
        cases hy
        have := c'.2.2.1
        have := c'.2.1
        omega
termination_by xs ys => xs.length + ys.length
/-! ### what is left out -/
def hol (free : Int) (e : Int) : Runs → Runs
  | [] => [(free, e)]
  | r :: rs => (free, r.1) :: hol r.2 e rs
theorem hol_asc : ∀ {lo free e : Int} {rs : Runs}, Can lo rs → free ≤ lo + 1 → Asc free (hol free e rs)
  | _, free, e, [], _, _ => ⟨Int.le_refl _, trivial⟩
  | lo, free, e, r :: rs, c, h => by
    refine ⟨Int.le_refl _, Asc.mono (B := r.2) ?_ (hol_asc c.2.2 (by omega))⟩
    have := c.1
    have := c.2.1
    show free ≤ r.2
    omega
theorem hol_mem : ∀ {lo free e : Int} {rs : Runs}, Can lo rs → free ≤ lo + 1 → (∀ r ∈ rs, r.2 ≤ e) → ∀ h, mem (hol free e rs) h ↔ free ≤ h ∧ h < e ∧ ¬ mem rs h
  | _, free, e, [], _, _, _, h => by
    show mem [(free, e)] h ↔ _
    rw [mem_cons]
    constructor
    · rintro (z | z)
      · exact ⟨z.1, z.2, mem_nil⟩
      · exact absurd z mem_nil
    · rintro ⟨z1, z2, _⟩
      exact .inl ⟨z1, z2⟩
  | lo, free, e, r :: rs, c, hf, he, h => by
    show mem ((free, r.1) :: hol r.2 e rs) h ↔ _
    have he' : ∀ q ∈ rs, q.2 ≤ e := fun q hq => he q (List.mem_cons_of_mem _ hq)
    have her := he r List.mem_cons_self
    have c1 := c.1
    have c2 := c.2.1
    rw [mem_cons, hol_mem c.2.2 (by omega) he' h, mem_cons]
    constructor
    · rintro (z | ⟨z1, z2, z3⟩)
      · refine ⟨z.1, by have := z.2; simp only at this; omega, ?_⟩
        rintro (y | y)
        · have := z.2
          simp only at this
          omega
        · have := c.2.2.mem_gt y
          have := z.2
          simp only at this
          omega
      · exact ⟨by omega, z2, fun y => y.elim (fun y => by omega) z3⟩
    · rintro ⟨z1, z2, z3⟩
      rcases Int.lt_or_le h r.1 with y | y
      · exact .inl ⟨z1, y⟩
      · rcases Int.lt_or_le h r.2 with x | x
        · exact absurd (.inl ⟨y, x⟩) z3
        · exact .inr ⟨x, z2, fun w => z3 (.inr w)⟩
/-! ### the sets -/
def restQ (q : Q) : Q := built (addAll [] (hol 0 (q.st + q.pd) (runsOf q 0 (q.st + q.pd)))) q.st q.pd
def lcmI (a b : Int) : Int := ((a.natAbs.lcm b.natAbs : Nat) : Int)
def joinQ (p q : Q) : Q := built (addAll [] (mrg (runsOf p 0 (max p.st q.st + lcmI p.pd q.pd)) (runsOf q 0 (max p.st q.st + lcmI p.pd q.pd)))) (max p.st q.st) (lcmI p.pd q.pd)
def commQ (p q : Q) : Q := built (addAll [] (crs (runsOf p 0 (max p.st q.st + lcmI p.pd q.pd)) (runsOf q 0 (max p.st q.st + lcmI p.pd q.pd)))) (max p.st q.st) (lcmI p.pd q.pd)
def minQ (p q : Q) : Q := commQ p (restQ q)
theorem run0 {q : Q} (v : V q) (e : Int) : Can (-1) (runsOf q 0 e) ∧ (∀ h, mem (runsOf q 0 e) h ↔ 0 ≤ h ∧ h < e ∧ S q h) ∧ ∀ r ∈ runsOf q 0 e, r.2 ≤ e := by
  obtain ⟨a, b⟩ := runsOf_spec v (b := 0) (e := e) (Int.le_refl _)
  have a' : Can (-1) (runsOf q 0 e) := a
  exact ⟨a', b, ends_of a' fun x hx => ((b x).mp hx).2.1⟩
theorem S_per {q : Q} (v : V q) {h : Int} (hh : q.st ≤ h) {k : Int} (hk : 0 ≤ k) (hd : q.pd ∣ k) : S q (h + k) ↔ S q h := by
  obtain ⟨c, e⟩ := hd
  exact (S_shift v (h := h) (h' := h + k) hh (by omega) ⟨c, by rw [e, Int.mul_comm]⟩).symm
theorem rest_spec {q : Q} (v : V q) : V (restQ q) ∧ ∀ h, 0 ≤ h → (S (restQ q) h ↔ ¬ S q h) := by
  obtain ⟨a, b, c⟩ := run0 v (q.st + q.pd)
  have ha := hol_asc (e := q.st + q.pd) a (free := 0) (by omega)
  obtain ⟨s1, s2⟩ := all_spec (lo := -1) (by omega) ha
  have hm := hol_mem (free := 0) a (by omega) c
  have a0 : Asc 0 (addAll [] (hol 0 (q.st + q.pd) (runsOf q 0 (q.st + q.pd)))) := can_asc s1
  refine ⟨(built_spec (Int.le_refl _) v.st0 v.pd0 a0).1, built_is (Int.le_refl _) v.st0 v.pd0 a0 (fun h h0 h1 => ?_) (fun h hh => ?_)⟩
  · rw [s2, hm, b]
    exact ⟨fun z y => z.2.2 ⟨h0, h1, y⟩, fun z => ⟨h0, h1, fun y => z y.2.2⟩⟩
  · rw [S_per v hh (Int.le_of_lt v.pd0) (Int.dvd_refl _)]
theorem lcm_pos {a b : Int} (ha : 0 < a) (hb : 0 < b) : 0 < lcmI a b := by
  unfold lcmI
  have := Nat.lcm_pos (m := a.natAbs) (n := b.natAbs) (by omega) (by omega)
  omega
theorem dvd_lcm_l {a b : Int} : a ∣ lcmI a b := Int.natAbs_dvd.mp (Int.natCast_dvd_natCast.mpr (Nat.dvd_lcm_left _ _))
theorem dvd_lcm_r {a b : Int} : b ∣ lcmI a b := Int.natAbs_dvd.mp (Int.natCast_dvd_natCast.mpr (Nat.dvd_lcm_right _ _))
theorem join_spec {p q : Q} (v : V p) (w : V q) : V (joinQ p q) ∧ ∀ h, 0 ≤ h → (S (joinQ p q) h ↔ S p h ∨ S q h) := by
  have hst : 0 ≤ max p.st q.st := by have := v.st0; omega
  have hL := lcm_pos v.pd0 w.pd0
  obtain ⟨a, b, c⟩ := run0 v (max p.st q.st + lcmI p.pd q.pd)
  obtain ⟨a', b', c'⟩ := run0 w (max p.st q.st + lcmI p.pd q.pd)
  have ha := mrg_asc _ _ 0 (can_asc a) (can_asc a')
  obtain ⟨s1, s2⟩ := all_spec (lo := -1) (by omega) ha
  have a0 := can_asc s1
  refine ⟨(built_spec (Int.le_refl _) hst hL a0).1, built_is (Int.le_refl _) hst hL a0 (fun h h0 h1 => ?_) (fun h hh => ?_)⟩
  · rw [s2, mrg_mem, b, b']
    exact ⟨fun z => z.elim (fun z => .inl z.2.2) fun z => .inr z.2.2, fun z => z.elim (fun z => .inl ⟨h0, h1, z⟩) fun z => .inr ⟨h0, h1, z⟩⟩
  · rw [S_per v (by omega) (Int.le_of_lt hL) dvd_lcm_l, S_per w (by omega) (Int.le_of_lt hL) dvd_lcm_r]
theorem comm_spec {p q : Q} (v : V p) (w : V q) : V (commQ p q) ∧ ∀ h, 0 ≤ h → (S (commQ p q) h ↔ S p h ∧ S q h) := by
  have hst : 0 ≤ max p.st q.st := by have := v.st0; omega
  have hL := lcm_pos v.pd0 w.pd0
  obtain ⟨a, b, c⟩ := run0 v (max p.st q.st + lcmI p.pd q.pd)
  obtain ⟨a', b', c'⟩ := run0 w (max p.st q.st + lcmI p.pd q.pd)
  have ha : Asc 0 (crs (runsOf p 0 (max p.st q.st + lcmI p.pd q.pd)) (runsOf q 0 (max p.st q.st + lcmI p.pd q.pd))) := crs_asc _ _ 0 a a' fun x hx y hy => by
    have := a.gt x (List.mem_of_mem_head? hx)
    omega
  obtain ⟨s1, s2⟩ := all_spec (lo := -1) (by omega) ha
  have a0 := can_asc s1
  refine ⟨(built_spec (Int.le_refl _) hst hL a0).1, built_is (Int.le_refl _) hst hL a0 (fun h h0 h1 => ?_) (fun h hh => ?_)⟩
  · rw [s2, crs_mem a a', b, b']
    exact ⟨fun z => ⟨z.1.2.2, z.2.2.2⟩, fun z => ⟨⟨h0, h1, z.1⟩, h0, h1, z.2⟩⟩
  · rw [S_per v (by omega) (Int.le_of_lt hL) dvd_lcm_l, S_per w (by omega) (Int.le_of_lt hL) dvd_lcm_r]
theorem min_spec {p q : Q} (v : V p) (w : V q) : V (minQ p q) ∧ ∀ h, 0 ≤ h → (S (minQ p q) h ↔ S p h ∧ ¬ S q h) := by
  obtain ⟨r1, r2⟩ := rest_spec w
  obtain ⟨c1, c2⟩ := comm_spec v r1
  exact ⟨c1, fun h h0 => by rw [show S (minQ p q) h ↔ S p h ∧ S (restQ q) h from c2 h h0, r2 h h0]⟩
/-! ### moved -/
def shft (rs : Runs) (by_ : Int) : Runs := rs.map fun r => (r.1 + by_, r.2 + by_)
theorem shft_mem {rs : Runs} {d h : Int} : mem (shft rs d) h ↔ mem rs (h - d) := by
  constructor
  · rintro ⟨r, hr, z⟩
    obtain ⟨q, hq, rfl⟩ := List.mem_map.mp hr
    simp only at z
    exact ⟨q, hq, by omega, by omega⟩
  · rintro ⟨q, hq, z1, z2⟩
    exact ⟨(q.1 + d, q.2 + d), List.mem_map.mpr ⟨q, hq, rfl⟩, by show q.1 + d ≤ h; omega, by show h < q.2 + d; omega⟩
theorem shft_can {d : Int} : ∀ {lo : Int} {rs : Runs}, Can lo rs → Can (lo + d) (shft rs d)
  | _, [], _ => trivial
  | lo, r :: rs, c => ⟨by have := c.1; show lo + d < r.1 + d; omega, by have := c.2.1; show r.1 + d < r.2 + d; omega, shft_can c.2.2⟩
def slidQ (q : Q) (d : Int) : Q :=
  if 0 ≤ d then ⟨shft q.hd d, q.st + d, q.pd, q.pc⟩
  else built (shft (runsOf q (-d) (max q.st (-d) + q.pd)) d) (max q.st (-d) + d) q.pd
theorem slid_spec {q : Q} (v : V q) (d : Int) : V (slidQ q d) ∧ ∀ h, 0 ≤ h → (S (slidQ q d) h ↔ S q (h - d)) := by
  unfold slidQ
  have st0 := v.st0
  by_cases hd : 0 ≤ d
  · rw [if_pos hd]
    refine ⟨⟨by show 0 ≤ q.st + d; omega, v.pd0, (shft_can v.ch).mono (by omega), fun r hr => ?_, v.cp, v.pe⟩, fun h h0 => ?_⟩
    · obtain ⟨p, hp, rfl⟩ := List.mem_map.mp hr
      have := v.he p hp
      show p.2 + d ≤ q.st + d
      omega
    · rcases Int.lt_or_le h (q.st + d) with y | y
      · rw [S_hd (q := ⟨shft q.hd d, q.st + d, q.pd, q.pc⟩) y, S_hd (q := q) (by omega)]
        exact shft_mem
      · rw [S_pc (q := ⟨shft q.hd d, q.st + d, q.pd, q.pc⟩) y, S_pc (q := q) (by omega)]
        show mem q.pc ((h - (q.st + d)) % q.pd) ↔ _
        rw [show h - (q.st + d) = h - d - q.st from by omega]
  · rw [if_neg hd]
    obtain ⟨a, b⟩ := runsOf_spec v (b := -d) (e := max q.st (-d) + q.pd) (by omega)
    have ha : Asc 0 (shft (runsOf q (-d) (max q.st (-d) + q.pd)) d) := (can_asc (shft_can (d := d) a)).mono (by omega)
    have hst : 0 ≤ max q.st (-d) + d := by omega
    refine ⟨(built_spec (Int.le_refl _) hst v.pd0 ha).1, built_is (Int.le_refl _) hst v.pd0 ha (fun h h0 h1 => ?_) (fun h hh => ?_)⟩
    · rw [shft_mem, b]
      exact ⟨fun z => z.2.2, fun z => ⟨by omega, by omega, z⟩⟩
    · rw [show h + q.pd - d = (h - d) + q.pd from by omega, S_per v (by omega) (Int.le_of_lt v.pd0) (Int.dvd_refl _)]
end Sp

set_option Elab.async false
set_option linter.all false
set_option autoImplicit false
/-! # The least period of runs that come again -/
namespace Sp
/-! ### rising numbers -/
def Up : Int → List Int → Prop
  | _, [] => True
  | lo, x :: xs => lo < x ∧ Up x xs
theorem Up.mono {lo lo' : Int} (h : lo' ≤ lo) : ∀ {xs : List Int}, Up lo xs → Up lo' xs
  | [], _ => trivial
  | _ :: _, ⟨a, b⟩ => ⟨by omega, b⟩
theorem Up.gt : ∀ {lo : Int} {xs : List Int}, Up lo xs → ∀ x ∈ xs, lo < x
  | _, [], _, x, h => by cases h
  | lo, y :: xs, ⟨a, b⟩, x, h => by
    rcases List.mem_cons.mp h with e | e
    · rw [e]; exact a
    · have := b.gt x e
      omega
theorem up_uniq : ∀ {xs ys : List Int} {lo lo' : Int}, Up lo xs → Up lo' ys → (∀ x, x ∈ xs ↔ x ∈ ys) → xs = ys
  | [], [], _, _, _, _, _ => rfl
  | [], y :: ys, _, _, _, _, h => absurd ((h y).mpr List.mem_cons_self) (by simp)
  | x :: xs, [], _, _, _, _, h => absurd ((h x).mp List.mem_cons_self) (by simp)
  | x :: xs, y :: ys, lo, lo', a, b, h => by
    have e : x = y := by
      rcases List.mem_cons.mp ((h x).mp List.mem_cons_self) with z | z
      · exact z
      · rcases List.mem_cons.mp ((h y).mpr List.mem_cons_self) with w | w
        · exact w.symm
        · have := a.2.gt y w
          have := b.2.gt x z
          omega
    subst e
    rw [up_uniq a.2 b.2 fun z => ?_]
    constructor
    · intro hz
      have := a.2.gt z hz
      rcases List.mem_cons.mp ((h z).mp (List.mem_cons_of_mem _ hz)) with w | w
      · omega
      · exact w
    · intro hz
      have := b.2.gt z hz
      rcases List.mem_cons.mp ((h z).mpr (List.mem_cons_of_mem _ hz)) with w | w
      · omega
      · exact w
theorem up_app : ∀ {xs ys : List Int} {lo U : Int}, Up lo xs → (∀ x ∈ xs, x ≤ U) → lo ≤ U → Up U ys → Up lo (xs ++ ys)
  | [], ys, lo, U, _, _, h, b => b.mono h
  | x :: xs, ys, lo, U, a, hu, h, b => ⟨a.1, up_app a.2 (fun y hy => hu y (List.mem_cons_of_mem _ hy)) (hu x List.mem_cons_self) b⟩
theorem up_map {d : Int} : ∀ {lo : Int} {xs : List Int}, Up lo xs → Up (lo + d) (xs.map (· + d))
  | _, [], _ => trivial
  | lo, x :: xs, ⟨a, b⟩ => ⟨by show lo + d < x + d; omega, up_map b⟩
theorem up_filter (p : Int → Bool) : ∀ {lo : Int} {xs : List Int}, Up lo xs → Up lo (xs.filter p)
  | _, [], _ => trivial
  | lo, x :: xs, ⟨a, b⟩ => by
    rw [List.filter_cons]
    split
    · exact ⟨a, up_filter p b⟩
    · exact (up_filter p b).mono (by omega)
/-! ### blocks -/
def blk (base : List Int) (y : Int) (j : Nat) : List Int := (List.range j).flatMap fun k : Nat => base.map (· + k * y)
theorem blk_succ (base : List Int) (y : Int) (j : Nat) : blk base y (j + 1) = blk base y j ++ base.map (· + (j : Nat) * y) := by
  unfold blk
  rw [List.range_succ, List.flatMap_append, List.flatMap_cons, List.flatMap_nil, List.append_nil]
theorem blk_front (base : List Int) (y : Int) : ∀ j : Nat, blk base y (j + 1) = base ++ (blk base y j).map (· + y)
  | 0 => by
    rw [blk_succ]
    show [] ++ base.map (· + ((0 : Nat) : Int) * y) = base ++ []
    simp
  | j + 1 => by
    have ih := blk_front base y j
    have e : base.map (· + ((j + 1 : Nat) : Int) * y) = (base.map (· + (j : Int) * y)).map (· + y) := by
      rw [List.map_map]
      refine List.map_congr_left fun x _ => ?_
      show x + ((j + 1 : Nat) : Int) * y = x + (j : Int) * y + y
      rw [Int.natCast_add, Int.add_mul]
      simp
      omega
    have l : blk base y (j + 1 + 1) = base ++ (blk base y j).map (· + y) ++ (base.map (· + (j : Int) * y)).map (· + y) := by
      rw [blk_succ base y (j + 1), e, ih]
    have r : (blk base y (j + 1)).map (· + y) = (blk base y j).map (· + y) ++ (base.map (· + (j : Int) * y)).map (· + y) := by
      rw [blk_succ base y j, List.map_append]
    rw [l, r, List.append_assoc]
theorem blk_len (base : List Int) (y : Int) : ∀ j : Nat, (blk base y j).length = j * base.length
  | 0 => by simp [blk]
  | j + 1 => by
    rw [blk_succ, List.length_append, blk_len base y j, List.length_map, Nat.add_mul]
    omega
theorem blk_mem (base : List Int) (y x : Int) (j : Nat) : x ∈ blk base y j ↔ ∃ k : Nat, k < j ∧ x - k * y ∈ base := by
  unfold blk
  rw [List.mem_flatMap]
  constructor
  · rintro ⟨k, hk, h⟩
    obtain ⟨z, hz, rfl⟩ := List.mem_map.mp h
    exact ⟨k, List.mem_range.mp hk, by rw [show z + (k : Int) * y - k * y = z from by omega]; exact hz⟩
  · rintro ⟨k, hk, h⟩
    exact ⟨k, List.mem_range.mpr hk, List.mem_map.mpr ⟨x - k * y, h, by omega⟩⟩
theorem blk_up {base : List Int} {y : Int} (h : Up (-1) base) (hy : ∀ x ∈ base, x < y) (hy0 : 0 < y) : ∀ j : Nat, Up (-1) (blk base y j) ∧ ∀ x ∈ blk base y j, x ≤ j * y - 1
  | 0 => ⟨trivial, fun x hx => by cases hx⟩
  | j + 1 => by
    obtain ⟨a, b⟩ := blk_up h hy hy0 j
    have hj : (0 : Int) ≤ (j : Int) * y := Int.mul_nonneg (Int.natCast_nonneg j) (Int.le_of_lt hy0)
    have e : ((j + 1 : Nat) : Int) * y = j * y + y := by
      rw [Int.natCast_add, Int.add_mul]
      simp
    rw [blk_succ]
    refine ⟨up_app a b (by omega) ?_, fun x hx => ?_⟩
    · have := up_map (d := (j : Nat) * y) h
      rw [show (j : Int) * y - 1 = -1 + (j : Int) * y from by omega]
      exact this
    · rw [e]
      rcases List.mem_append.mp hx with z | z
      · have := b x z
        omega
      · obtain ⟨w, hw, rfl⟩ := List.mem_map.mp z
        have := hy w hw
        show w + (j : Int) * y ≤ _
        omega
/-- whether the mark so many places later is always greater by so much -/
def rep (marks : List Int) (s : Nat) (y : Int) : Bool := marks.drop s == (marks.take (marks.length - s)).map (· + y)
/-- marks of a set of hours that comes again each p hours -/
structure Mk (R : Int → Prop) (p : Int) (marks : List Int) : Prop where
  up : Up (-1) marks
  is : ∀ x, x ∈ marks ↔ 0 ≤ x ∧ x < p ∧ R x
  per : ∀ x, R (x + p) ↔ R x
def Per (R : Int → Prop) (y : Int) : Prop := ∀ x, R (x + y) ↔ R x
theorem Per.nat {R : Int → Prop} {y : Int} (h : Per R y) : ∀ (k : Nat) (x : Int), R (x + k * y) ↔ R x
  | 0, x => by simp
  | k + 1, x => by
    have e : x + ((k + 1 : Nat) : Int) * y = (x + k * y) + y := by
      rw [Int.natCast_add, Int.add_mul]
      simp
      omega
    rw [e, h, h.nat k]
theorem Per.int {R : Int → Prop} {y : Int} (h : Per R y) (k x : Int) : R (x + k * y) ↔ R x := by
  rcases Int.le_total 0 k with z | z
  · obtain ⟨n, rfl⟩ := Int.eq_ofNat_of_zero_le z
    exact h.nat n x
  · obtain ⟨n, hn⟩ := Int.eq_ofNat_of_zero_le (show 0 ≤ -k by omega)
    have := h.nat n (x + k * y)
    rw [← this, ← hn, Int.neg_mul]
    rw [show x + k * y + -(k * y) = x from by omega]
theorem Per.mod {R : Int → Prop} {p : Int} (h : Per R p) (x : Int) : R (x % p) ↔ R x := by
  have := h.int (x / p) (x % p)
  rw [← this, Int.emod_add_ediv_mul]
/-- forward is enough -/
theorem per_fwd {R : Int → Prop} {p y : Int} (hp : Per R p) (parts : Nat) (e : p = (parts : Int) * y) (h0 : 0 < parts) (h : ∀ x, R x → R (x + y)) : Per R y := fun x => by
  refine ⟨fun z => ?_, h x⟩
  have it : ∀ (k : Nat) (x : Int), R x → R (x + k * y) := by
    intro k
    induction k with
    | zero => intro x z; simpa using z
    | succ k ih =>
      intro x z
      have e : x + ((k + 1 : Nat) : Int) * y = (x + k * y) + y := by
        rw [Int.natCast_add, Int.add_mul]
        simp
        omega
      rw [e]
      exact h _ (ih x z)
  obtain ⟨j, rfl⟩ : ∃ j, parts = j + 1 := ⟨parts - 1, by omega⟩
  have := it j (x + y) z
  have e2 : x + y + (j : Int) * y = x + p := by
    rw [e, Int.natCast_add, Int.add_mul]
    simp
    omega
  rw [e2, hp] at this
  exact this
theorem rep_get {marks : List Int} {s : Nat} {y : Int} (h : rep marks s y = true) {i : Nat} (hi : i + s < marks.length) : ∃ a, marks[i]? = some a ∧ marks[i + s]? = some (a + y) := by
  have h := eq_of_beq h
  have h1 : (marks.drop s)[i]? = marks[i + s]? := by rw [List.getElem?_drop, Nat.add_comm]
  have h2 : ((marks.take (marks.length - s)).map (· + y))[i]? = (marks[i]?).map (· + y) := by
    rw [List.getElem?_map, List.getElem?_take, if_pos (by omega)]
  rw [h, h2] at h1
  have hl : i < marks.length := by omega
  rw [List.getElem?_eq_getElem hl] at h1 ⊢
  exact ⟨_, rfl, h1.symm⟩
theorem rep_iter {marks : List Int} {s : Nat} {y : Int} (h : rep marks s y = true) {j : Nat} {a : Int} (ha : marks[j]? = some a) : ∀ k : Nat, j + k * s < marks.length → marks[j + k * s]? = some (a + k * y)
  | 0, _ => by simpa using ha
  | k + 1, hk => by
    have e : (k + 1) * s = k * s + s := by rw [Nat.add_mul, Nat.one_mul]
    have ih := rep_iter h ha k (by omega)
    obtain ⟨b, h1, h2⟩ := rep_get h (i := j + k * s) (by omega)
    rw [ih] at h1
    cases h1
    rw [e, ← Nat.add_assoc, h2, Int.natCast_add, Int.add_mul]
    congr 1
    simp
    omega
theorem rep_per {R : Int → Prop} {p y : Int} {marks : List Int} {parts s : Nat} (m : Mk R p marks) (h0 : 0 < parts) (hp : p = (parts : Int) * y) (hn : marks.length = parts * s) (hs : 0 < p) (h : rep marks s y = true) : Per R y := by
  have P : Per R p := m.per
  have hpy : 0 < y := by
    rcases Int.lt_or_le 0 y with z | z
    · exact z
    · have : (parts : Int) * y ≤ 0 := Int.mul_nonpos_of_nonneg_of_nonpos (Int.natCast_nonneg _) z
      omega
  refine per_fwd P parts hp h0 fun x hx => ?_
  have hx0 := (P.mod x).mpr hx
  have a1 := Int.emod_nonneg x (show p ≠ 0 by omega)
  have a2 := Int.emod_lt_of_pos x hs
  have hm := (m.is (x % p)).mpr ⟨a1, a2, hx0⟩
  obtain ⟨i, hi⟩ := List.mem_iff_getElem?.mp hm
  have hil : i < marks.length := (List.getElem?_eq_some_iff.mp hi).1
  -- enough for the rest
  have key : R (x % p + y) → R (x + y) := fun z => by
    have e : x + y = (x % p + y) + (x / p) * p := by
      have := Int.emod_add_ediv_mul x p
      omega
    rw [e, P.int]
    exact z
  refine key ?_
  by_cases c : i + s < marks.length
  · obtain ⟨b, h1, h2⟩ := rep_get h c
    rw [hi] at h1
    cases h1
    exact ((m.is _).mp (List.mem_of_getElem? h2)).2.2
  · obtain ⟨q, rfl⟩ : ∃ q, parts = q + 1 := ⟨parts - 1, by omega⟩
    have e1 : (q + 1) * s = q * s + s := by rw [Nat.add_mul, Nat.one_mul]
    have hj : i - q * s < marks.length := by omega
    obtain ⟨a, ha⟩ : ∃ a, marks[i - q * s]? = some a := ⟨_, List.getElem?_eq_getElem hj⟩
    have := rep_iter h ha q (by omega)
    rw [show i - q * s + q * s = i from by omega, hi] at this
    have e2 : x % p = a + q * y := Option.some.inj this
    have e3 : x % p + y = a + p := by
      rw [e2, hp, Int.natCast_add, Int.add_mul]
      simp
      omega
    rw [e3, m.per]
    exact ((m.is a).mp (List.mem_of_getElem? ha)).2.2
theorem per_rep {R : Int → Prop} {p y : Int} {marks : List Int} {parts : Nat} (m : Mk R p marks) (h0 : 0 < parts) (hp : p = (parts : Int) * y) (hs : 0 < p) (h : Per R y) : ∃ s, marks.length = parts * s ∧ rep marks s y = true := by
  have hpy : 0 < y := by
    rcases Int.lt_or_le 0 y with z | z
    · exact z
    · have : (parts : Int) * y ≤ 0 := Int.mul_nonpos_of_nonneg_of_nonpos (Int.natCast_nonneg _) z
      omega
  let base := marks.filter fun x => decide (x < y)
  have hb : ∀ x, x ∈ base ↔ 0 ≤ x ∧ x < y ∧ R x := fun x => by
    rw [List.mem_filter, m.is, decide_eq_true_eq]
    have hyp : y ≤ p := by
      obtain ⟨q, rfl⟩ : ∃ q, parts = q + 1 := ⟨parts - 1, by omega⟩
      rw [hp, Int.natCast_add, Int.add_mul]
      have : (0 : Int) ≤ (q : Int) * y := Int.mul_nonneg (Int.natCast_nonneg q) (Int.le_of_lt hpy)
      simp
      omega
    constructor
    · rintro ⟨⟨a, _, b⟩, c⟩
      exact ⟨a, c, b⟩
    · rintro ⟨a, b, c⟩
      exact ⟨⟨a, by omega, c⟩, b⟩
  have ub : Up (-1) base := up_filter _ m.up
  obtain ⟨u1, u2⟩ := blk_up ub (fun x hx => ((hb x).mp hx).2.1) hpy parts
  have e : marks = blk base y parts := by
    refine up_uniq m.up u1 fun x => ?_
    rw [m.is, blk_mem]
    constructor
    · rintro ⟨x0, x1, hx⟩
      have a1 := Int.emod_nonneg x (show y ≠ 0 by omega)
      have a2 := Int.emod_lt_of_pos x hpy
      have a3 := Int.emod_add_ediv_mul x y
      have a4 : 0 ≤ x / y := Int.ediv_nonneg x0 (Int.le_of_lt hpy)
      obtain ⟨k, hk⟩ := Int.eq_ofNat_of_zero_le a4
      refine ⟨k, ?_, ?_⟩
      · have : x / y < parts := by
          rw [Int.ediv_lt_iff_lt_mul hpy, ← hp]
          exact x1
        omega
      · have e : x - (k : Int) * y = x % y := by
          rw [← hk]
          omega
        rw [e]
        exact (hb _).mpr ⟨a1, a2, (h.mod x).mpr hx⟩
    · rintro ⟨k, hk, hx⟩
      obtain ⟨b1, b2, b3⟩ := (hb _).mp hx
      have k0 : (0 : Int) ≤ (k : Int) * y := Int.mul_nonneg (Int.natCast_nonneg k) (Int.le_of_lt hpy)
      have k1 : (k : Int) * y + y ≤ p := by
        rw [hp]
        have : ((k : Int) + 1) * y ≤ parts * y := Int.mul_le_mul_of_nonneg_right (by omega) (Int.le_of_lt hpy)
        rw [Int.add_mul, Int.one_mul] at this
        exact this
      refine ⟨by omega, by omega, ?_⟩
      have := h.nat k (x - k * y)
      rw [show x - (k : Int) * y + k * y = x from by omega] at this
      exact this.mpr b3
  refine ⟨base.length, by rw [e, blk_len], ?_⟩
  obtain ⟨q, rfl⟩ : ∃ q, parts = q + 1 := ⟨parts - 1, by omega⟩
  unfold rep
  rw [e, beq_iff_eq]
  have e1 : (blk base y (q + 1)).length - base.length = (blk base y q).length := by
    rw [blk_len, blk_len, Nat.add_mul]
    omega
  rw [e1]
  conv => lhs; rw [blk_front]
  conv => rhs; rw [blk_succ]
  rw [List.drop_left, List.take_left]
end Sp

set_option Elab.async false
set_option linter.all false
set_option autoImplicit false
/-! # The least period, found by rises and falls -/
namespace Sp
def E (pc : Runs) (p : Int) (h : Int) : Prop := mem pc (h % p)
def R (pc : Runs) (p : Int) (h : Int) : Prop := E pc p h ∧ ¬ E pc p (h - 1)
def Fa (pc : Runs) (p : Int) (h : Int) : Prop := ¬ E pc p h ∧ E pc p (h - 1)
theorem begins_iff : ∀ {lo : Int} {rs : Runs}, Can lo rs → ∀ x, x ∈ rs.map (·.1) ↔ mem rs x ∧ ¬ mem rs (x - 1)
  | _, [], _, x => ⟨fun z => (by cases z), fun z => absurd z.1 mem_nil⟩
  | lo, r :: rs, c, x => by
    rw [List.map_cons, List.mem_cons, begins_iff c.2.2 x, mem_cons, mem_cons]
    have c2 := c.2.1
    constructor
    · rintro (z | ⟨z1, z2⟩)
      · refine ⟨.inl ⟨by omega, by omega⟩, ?_⟩
        rintro (w | w)
        · omega
        · have := c.2.2.mem_gt w
          omega
      · refine ⟨.inr z1, ?_⟩
        have := c.2.2.mem_gt z1
        rintro (w | w)
        · omega
        · exact z2 w
    · rintro ⟨z1 | z1, z2⟩
      · left
        rcases Int.lt_or_le (x - 1) r.1 with w | w
        · omega
        · exact absurd (.inl ⟨w, by omega⟩) z2
      · exact .inr ⟨z1, fun w => z2 (.inr w)⟩
theorem ends_iff : ∀ {lo : Int} {rs : Runs}, Can lo rs → ∀ x, x ∈ rs.map (·.2) ↔ ¬ mem rs x ∧ mem rs (x - 1)
  | _, [], _, x => ⟨fun z => (by cases z), fun z => absurd z.2 mem_nil⟩
  | lo, r :: rs, c, x => by
    rw [List.map_cons, List.mem_cons, ends_iff c.2.2 x, mem_cons, mem_cons]
    have c2 := c.2.1
    constructor
    · rintro (z | ⟨z1, z2⟩)
      · refine ⟨?_, .inl ⟨by omega, by omega⟩⟩
        rintro (w | w)
        · omega
        · have := c.2.2.mem_gt w
          omega
      · refine ⟨?_, .inr z2⟩
        have := c.2.2.mem_gt z2
        rintro (w | w)
        · omega
        · exact z1 w
    · rintro ⟨z1, z2 | z2⟩
      · left
        rcases Int.lt_or_le x r.2 with w | w
        · exact absurd (.inl ⟨by omega, w⟩) z1
        · omega
      · exact .inr ⟨fun w => z1 (.inr w), z2⟩
theorem begins_up : ∀ {lo : Int} {rs : Runs}, Can lo rs → Up lo (rs.map (·.1))
  | _, [], _ => trivial
  | lo, r :: rs, c => ⟨c.1, (begins_up c.2.2).mono (Int.le_of_lt c.2.1)⟩
theorem ends_up : ∀ {lo : Int} {rs : Runs}, Can lo rs → Up lo (rs.map (·.2))
  | _, [], _ => trivial
  | lo, r :: rs, c => ⟨by have := c.1; have := c.2.1; show lo < r.2; omega, ends_up c.2.2⟩
/-- rises and falls of one period, where the pieces are neither none nor all -/
def rf (pc : Runs) (p : Int) : List Int × List Int :=
  if (pc.map (·.2)).getLast? = some p then
    (if (pc.map (·.1)).head? = some 0 then ((pc.map (·.1)).tail, (pc.map (·.2)).dropLast) else (pc.map (·.1), 0 :: (pc.map (·.2)).dropLast))
  else (pc.map (·.1), pc.map (·.2))
theorem up_snoc {l : Int} : ∀ {lo : Int} {xs : List Int}, Up lo (xs ++ [l]) → Up lo xs ∧ lo < l ∧ ∀ x ∈ xs, x < l
  | lo, [], h => ⟨trivial, h.1, fun x z => by cases z⟩
  | lo, y :: xs, h => by
    obtain ⟨a, b, c⟩ := up_snoc h.2
    refine ⟨⟨h.1, a⟩, by have := h.1; omega, fun x hx => ?_⟩
    rcases List.mem_cons.mp hx with e | e
    · rw [e]; exact b
    · exact c x e
structure Ok (pc : Runs) (p : Int) : Prop where
  p0 : 0 < p
  c : Can (-1) pc
  e : ∀ r ∈ pc, r.2 ≤ p
  ne : pc ≠ []
  nf : pc ≠ [(0, p)]
section
variable {pc : Runs} {p : Int}
theorem Ok.gap (o : Ok pc p) : ∃ z, 0 ≤ z ∧ z < p ∧ ¬ mem pc z := by
  have c := o.c
  have he := o.e
  have nf := o.nf
  have p0 := o.p0
  cases pc with
  | nil => exact absurd rfl o.ne
  | cons r rs =>
    have her := he r List.mem_cons_self
    by_cases h0 : r.1 = 0
    · have hlt : r.2 < p := by
        rcases Int.lt_or_le r.2 p with w | w
        · exact w
        · have hr : rs = [] := by
            cases rs with
            | nil => rfl
            | cons q rs =>
              have := c.2.2.1
              have := c.2.2.2.1
              have := he q (List.mem_cons_of_mem _ List.mem_cons_self)
              omega
          refine absurd ?_ nf
          rw [hr]
          have : r = (0, p) := Prod.ext h0 (by show r.2 = p; omega)
          rw [this]
      refine ⟨r.2, by have := c.2.1; omega, hlt, fun z => ?_⟩
      rcases mem_cons.mp z with w | w
      · omega
      · have := c.2.2.mem_gt w
        omega
    · refine ⟨0, Int.le_refl _, p0, fun z => ?_⟩
      have := c.1
      have := c.2.1
      rcases mem_cons.mp z with w | w
      · omega
      · have := c.2.2.mem_gt w
        omega
theorem E_in (o : Ok pc p) {h : Int} (h0 : 0 ≤ h) (h1 : h < p) : E pc p h ↔ mem pc h := by
  unfold E
  rw [Int.emod_eq_of_lt h0 h1]
theorem E_per : Per (E pc p) p := fun x => by
  unfold E
  rw [Int.add_emod_right]
theorem E_m1 (o : Ok pc p) : E pc p (-1) ↔ mem pc (p - 1) := by
  have := E_per (pc := pc) (p := p) (-1)
  rw [← this, E_in o (by have := o.p0; omega) (by omega)]
  rw [show -1 + p = p - 1 from by omega]
theorem E_pred (o : Ok pc p) {h : Int} (h0 : 0 < h) (h1 : h < p) : E pc p (h - 1) ↔ mem pc (h - 1) := E_in o (by omega) (by omega)
theorem R_per : Per (R pc p) p := fun x => by
  unfold R
  rw [E_per x, show x + p - 1 = (x - 1) + p from by omega, E_per (x - 1)]
theorem F_per : Per (Fa pc p) p := fun x => by
  unfold Fa
  rw [E_per x, show x + p - 1 = (x - 1) + p from by omega, E_per (x - 1)]
theorem last_p (o : Ok pc p) : (pc.map (·.2)).getLast? = some p ↔ mem pc (p - 1) := by
  have c := o.c
  have he := o.e
  have ne := o.ne
  rcases snoc_cases pc with rfl | ⟨xs, l, rfl⟩
  · exact absurd rfl ne
  · obtain ⟨c1, c2, c3, c4⟩ := can_snoc.mp c
    rw [List.map_append, List.map_cons, List.map_nil, List.getLast?_concat, mem_app, mem_cons]
    have hl := he l (by simp)
    constructor
    · intro z
      have z := Option.some.inj z
      exact .inr (.inl ⟨by omega, by omega⟩)
    · rintro (⟨r, hr, z⟩ | z | z)
      · have := c4 r hr
        omega
      · congr 1
        omega
      · exact absurd z mem_nil
theorem head_0 (o : Ok pc p) : (pc.map (·.1)).head? = some 0 ↔ mem pc 0 := by
  have c := o.c
  cases pc with
  | nil => exact absurd rfl o.ne
  | cons r rs =>
    rw [List.map_cons, List.head?_cons, mem_cons]
    have c1 := c.1
    have c2 := c.2.1
    constructor
    · intro z
      have z := Option.some.inj z
      exact .inl ⟨by omega, by omega⟩
    · rintro (z | z)
      · congr 1
        omega
      · have := c.2.2.mem_gt z
        omega
theorem mem_in (o : Ok pc p) {x : Int} (m : mem pc x) : 0 ≤ x ∧ x < p := by
  have := o.c.mem_gt m
  obtain ⟨r, hr, z⟩ := m
  have := o.e r hr
  omega
theorem rf_spec (o : Ok pc p) : Mk (R pc p) p (rf pc p).1 ∧ Mk (Fa pc p) p (rf pc p).2 ∧ (rf pc p).1.length = (rf pc p).2.length := by
  have hb := begins_iff o.c
  have he := ends_iff o.c
  have ub := begins_up o.c
  have ue := ends_up o.c
  have p0 := o.p0
  have n1 : ¬ mem pc (-1) := fun z => by have := (mem_in o z).1; omega
  have np : ¬ mem pc p := fun z => by have := (mem_in o z).2; omega
  have e1 := E_m1 o
  -- R and F at places of one period
  have rx : ∀ x, 0 < x → x < p → (R pc p x ↔ x ∈ pc.map (·.1)) := fun x h0 h1 => by
    unfold R
    rw [E_in o (by omega) h1, E_pred o h0 h1, hb]
  have fx : ∀ x, 0 < x → x < p → (Fa pc p x ↔ x ∈ pc.map (·.2)) := fun x h0 h1 => by
    unfold Fa
    rw [E_in o (by omega) h1, E_pred o h0 h1, he]
  have r0 : R pc p 0 ↔ mem pc 0 ∧ ¬ mem pc (p - 1) := by
    unfold R
    rw [E_in o (Int.le_refl _) p0, ← e1]
    rfl
  have f0 : Fa pc p 0 ↔ ¬ mem pc 0 ∧ mem pc (p - 1) := by
    unfold Fa
    rw [E_in o (Int.le_refl _) p0, ← e1]
    rfl
  have b0 : (0 : Int) ∈ pc.map (·.1) ↔ mem pc 0 := by
    rw [hb]
    exact ⟨fun z => z.1, fun z => ⟨z, n1⟩⟩
  have ep : p ∈ pc.map (·.2) ↔ mem pc (p - 1) := by
    rw [he]
    exact ⟨fun z => z.2, fun z => ⟨np, z⟩⟩
  have bin : ∀ x, x ∈ pc.map (·.1) → 0 ≤ x ∧ x < p := fun x hx => mem_in o ((hb x).mp hx).1
  have ein : ∀ x, x ∈ pc.map (·.2) → 0 < x ∧ x ≤ p := fun x hx => by
    have := mem_in o ((he x).mp hx).2
    omega
  unfold rf
  by_cases hl : (pc.map (·.2)).getLast? = some p
  · rw [if_pos hl]
    have hm := (last_p o).mp hl
    -- the falls but the last
    have hd : Up (-1) (pc.map (·.2)).dropLast ∧ (∀ x, x ∈ (pc.map (·.2)).dropLast ↔ x ∈ pc.map (·.2) ∧ x ≠ p) ∧ (pc.map (·.2)).dropLast.length + 1 = pc.length := by
      have hlen : (pc.map (·.2)).length = pc.length := List.length_map _
      rcases List.eq_nil_or_concat (pc.map (·.2)) with e | ⟨xs, l, e⟩
      · rw [e] at hl; cases hl
      · rw [List.concat_eq_append] at e
        rw [e] at hl ue hlen ⊢
        rw [List.getLast?_concat] at hl
        have hl := Option.some.inj hl
        subst hl
        obtain ⟨a, b, c⟩ := up_snoc ue
        rw [List.dropLast_concat]
        refine ⟨a, fun x => ⟨fun hx => ⟨List.mem_append_left _ hx, fun z => by have := c x hx; omega⟩, ?_⟩, by rw [List.length_append] at hlen; simpa using hlen⟩
        rintro ⟨hx, hne⟩
        rcases List.mem_append.mp hx with z | z
        · exact z
        · exact absurd (List.mem_singleton.mp z) hne
    obtain ⟨d1, d2, d3⟩ := hd
    by_cases hh : (pc.map (·.1)).head? = some 0
    · rw [if_pos hh]
      have hm0 := (head_0 o).mp hh
      have ht : Up (-1) (pc.map (·.1)).tail ∧ (∀ x, x ∈ (pc.map (·.1)).tail ↔ x ∈ pc.map (·.1) ∧ x ≠ 0) ∧ (pc.map (·.1)).tail.length + 1 = pc.length := by
        have hlen : (pc.map (·.1)).length = pc.length := List.length_map _
        cases e : pc.map (·.1) with
        | nil => rw [e] at hh; cases hh
        | cons y ys =>
          rw [e] at hh ub hlen
          have hh : y = 0 := Option.some.inj hh
          subst hh
          refine ⟨ub.2.mono (by omega), fun x => ⟨fun hx => ⟨List.mem_cons_of_mem _ hx, fun z => by have := ub.2.gt x hx; omega⟩, ?_⟩, hlen⟩
          rintro ⟨hx, hne⟩
          rcases List.mem_cons.mp hx with z | z
          · exact absurd z hne
          · exact z
      obtain ⟨t1, t2, t3⟩ := ht
      refine ⟨⟨t1, fun x => ?_, R_per⟩, ⟨d1, fun x => ?_, F_per⟩, by show (pc.map (·.1)).tail.length = (pc.map (·.2)).dropLast.length; omega⟩
      · show x ∈ (pc.map (·.1)).tail ↔ _
        rw [t2]
        constructor
        · rintro ⟨h1, h2⟩
          have := bin x h1
          exact ⟨this.1, this.2, (rx x (by omega) this.2).mpr h1⟩
        · rintro ⟨h1, h2, h3⟩
          by_cases hx : x = 0
          · subst hx
            exact absurd hm (r0.mp h3).2
          · exact ⟨(rx x (by omega) h2).mp h3, hx⟩
      · show x ∈ (pc.map (·.2)).dropLast ↔ _
        rw [d2]
        constructor
        · rintro ⟨h1, h2⟩
          have := ein x h1
          exact ⟨by omega, by omega, (fx x (by omega) (by omega)).mpr h1⟩
        · rintro ⟨h1, h2, h3⟩
          by_cases hx : x = 0
          · subst hx
            exact absurd hm0 (f0.mp h3).1
          · exact ⟨(fx x (by omega) h2).mp h3, by omega⟩
    · rw [if_neg hh]
      have hm0 : ¬ mem pc 0 := fun z => hh ((head_0 o).mpr z)
      refine ⟨⟨ub, fun x => ?_, R_per⟩, ⟨⟨by show (-1 : Int) < 0; omega, ?_⟩, fun x => ?_, F_per⟩, by show (pc.map (·.1)).length = (0 :: (pc.map (·.2)).dropLast).length; rw [List.length_cons, d3, List.length_map]⟩
      · show x ∈ pc.map (·.1) ↔ _
        constructor
        · intro h1
          have := bin x h1
          by_cases hx : x = 0
          · subst hx
            exact absurd (b0.mp h1) hm0
          · exact ⟨this.1, this.2, (rx x (by omega) this.2).mpr h1⟩
        · rintro ⟨h1, h2, h3⟩
          by_cases hx : x = 0
          · subst hx
            exact absurd (r0.mp h3).1 hm0
          · exact (rx x (by omega) h2).mp h3
      · have key : ∀ {lo : Int} {xs : List Int}, Up lo xs → (∀ x ∈ xs, 0 < x) → Up 0 xs := by
          intro lo xs
          cases xs with
          | nil => intro _ _; trivial
          | cons y ys => intro a b; exact ⟨b y List.mem_cons_self, a.2⟩
        exact key d1 fun x hx => (ein x ((d2 x).mp hx).1).1
      · show x ∈ 0 :: (pc.map (·.2)).dropLast ↔ _
        rw [List.mem_cons, d2]
        constructor
        · rintro (h1 | ⟨h1, h2⟩)
          · subst h1
            exact ⟨Int.le_refl _, p0, f0.mpr ⟨hm0, hm⟩⟩
          · have := ein x h1
            exact ⟨by omega, by omega, (fx x (by omega) (by omega)).mpr h1⟩
        · rintro ⟨h1, h2, h3⟩
          by_cases hx : x = 0
          · exact .inl hx
          · exact .inr ⟨(fx x (by omega) h2).mp h3, by omega⟩
  · rw [if_neg hl]
    have hm : ¬ mem pc (p - 1) := fun z => hl ((last_p o).mpr z)
    refine ⟨⟨ub, fun x => ?_, R_per⟩, ⟨ue, fun x => ?_, F_per⟩, by show (pc.map (·.1)).length = (pc.map (·.2)).length; rw [List.length_map, List.length_map]⟩
    · show x ∈ pc.map (·.1) ↔ _
      constructor
      · intro h1
        have := bin x h1
        by_cases hx : x = 0
        · subst hx
          exact ⟨this.1, this.2, r0.mpr ⟨b0.mp h1, hm⟩⟩
        · exact ⟨this.1, this.2, (rx x (by omega) this.2).mpr h1⟩
      · rintro ⟨h1, h2, h3⟩
        by_cases hx : x = 0
        · subst hx
          exact b0.mpr (r0.mp h3).1
        · exact (rx x (by omega) h2).mp h3
    · show x ∈ pc.map (·.2) ↔ _
      constructor
      · intro h1
        have := ein x h1
        have hne : x ≠ p := fun z => by
          subst z
          exact hm (ep.mp h1)
        exact ⟨by omega, by omega, (fx x (by omega) (by omega)).mpr h1⟩
      · rintro ⟨h1, h2, h3⟩
        by_cases hx : x = 0
        · subst hx
          exact absurd (f0.mp h3).2 hm
        · exact (fx x (by omega) h2).mp h3
/-! ### from the marks to the set -/
theorem back_to_rise {Es : Int → Prop} : ∀ (n : Nat) (x : Int), Es x → ¬ Es (x - n) → ∃ g, g ≤ x ∧ x - n < g ∧ (Es g ∧ ¬ Es (g - 1)) ∧ ∀ z, g ≤ z → z ≤ x → Es z
  | 0, x, h, h' => absurd h (by simpa using h')
  | n + 1, x, h, h' => by
    by_cases c : Es (x - 1)
    · obtain ⟨g, g1, g2, g3, g4⟩ := back_to_rise n (x - 1) c (by rw [show x - 1 - (n : Int) = x - ((n + 1 : Nat) : Int) from by omega]; exact h')
      refine ⟨g, by omega, by omega, g3, fun z z1 z2 => ?_⟩
      by_cases e : z = x
      · rw [e]; exact h
      · exact g4 z z1 (by omega)
    · exact ⟨x, Int.le_refl _, by omega, ⟨h, c⟩, fun z z1 z2 => by rw [show z = x from by omega]; exact h⟩
theorem marks_per (o : Ok pc p) {y : Int} {parts : Nat} (h0 : 0 < parts) (hp : p = (parts : Int) * y) (hr : Per (R pc p) y) (hf : Per (Fa pc p) y) : Per (E pc p) y := by
  refine per_fwd E_per parts hp h0 fun x hx => ?_
  obtain ⟨z, z0, z1, hz⟩ := o.gap
  have a1 := Int.emod_nonneg (x - z) (show p ≠ 0 by have := o.p0; omega)
  obtain ⟨n, hn⟩ := Int.eq_ofNat_of_zero_le a1
  have hne : ¬ E pc p (x - n) := by
    have e : x - (n : Int) = z + ((x - z) / p) * p := by
      have := Int.emod_add_ediv_mul (x - z) p
      omega
    rw [e, E_per.int, E_in o z0 z1]
    exact hz
  obtain ⟨g, g1, _, g3, g4⟩ := back_to_rise n x hx hne
  have hg : E pc p (g + y) := ((hr g).mpr g3).1
  have up : ∀ (k : Nat), g + k ≤ x → E pc p (g + k + y) := by
    intro k
    induction k with
    | zero => intro _; rw [show g + ((0 : Nat) : Int) + y = g + y from by omega]; exact hg
    | succ k ih =>
      intro hk
      have ih := ih (by omega)
      rcases Classical.em (E pc p (g + ((k + 1 : Nat) : Int) + y)) with c | c
      · exact c
      · have f : Fa pc p (g + ((k + 1 : Nat) : Int) + y) := ⟨c, by rw [show g + ((k + 1 : Nat) : Int) + y - 1 = g + k + y from by omega]; exact ih⟩
        have := ((hf _).mp f).1
        exact absurd (g4 _ (by omega) hk) this
  have := up (x - g).toNat (by omega)
  rw [show g + ((x - g).toNat : Int) + y = x + y from by omega] at this
  exact this
theorem per_marks {y : Int} (h : Per (E pc p) y) : Per (R pc p) y ∧ Per (Fa pc p) y := by
  refine ⟨fun x => ?_, fun x => ?_⟩
  · unfold R
    rw [h x, show x + y - 1 = (x - 1) + y from by omega, h (x - 1)]
  · unfold Fa
    rw [h x, show x + y - 1 = (x - 1) + y from by omega, h (x - 1)]
/-! ### the search -/
def cand : Nat → List Nat
  | 0 => []
  | 1 => []
  | n + 2 => (n + 2) :: cand (n + 1)
theorem cand_mem : ∀ (n b : Nat), b ∈ cand n ↔ 2 ≤ b ∧ b ≤ n
  | 0, b => ⟨fun z => (by cases z), fun z => by omega⟩
  | 1, b => ⟨fun z => (by cases z), fun z => by omega⟩
  | n + 2, b => by
    rw [cand, List.mem_cons, cand_mem (n + 1) b]
    omega
theorem cand_find (f : Nat → Bool) : ∀ (n a : Nat), (cand n).find? f = some a → ∀ b, 2 ≤ b → b ≤ n → f b = true → b ≤ a
  | 0, a, h, _, _, _, _ => by cases h
  | 1, a, h, _, _, _, _ => by cases h
  | n + 2, a, h, b, b1, b2, hb => by
    rw [cand, List.find?_cons] at h
    cases e : f (n + 2) with
    | true => rw [e] at h; cases h; exact b2
    | false =>
      rw [e] at h
      by_cases c : b = n + 2
      · rw [c, e] at hb; cases hb
      · exact cand_find f (n + 1) a h b b1 (by omega) hb
def okP (rs fs : List Int) (p : Int) (parts : Nat) : Bool := (rs.length % parts == 0) && (p % (parts : Int) == 0) && (rep rs (rs.length / parts) (p / parts) && rep fs (rs.length / parts) (p / parts))
def lp (pc : Runs) (p : Int) : Int :=
  if pc = [] ∨ pc = [(0, p)] then 1 else match (cand (rf pc p).1.length).find? (okP (rf pc p).1 (rf pc p).2 p) with
    | some parts => p / (parts : Int)
    | none => p
def Least (P : Int → Prop) (x : Int) : Prop := 0 < x ∧ Per P x ∧ ∀ y, 0 < y → Per P y → x ≤ y
theorem least_ex {P : Int → Prop} : ∀ (n : Nat) (y : Int), 0 < y → y ≤ n → Per P y → ∃ x, Least P x
  | 0, y, h, h', _ => by omega
  | n + 1, y, h, h', hp => by
    rcases Classical.em (∃ z, 0 < z ∧ z < y ∧ Per P z) with ⟨z, z1, z2, z3⟩ | c
    · exact least_ex n z z1 (by omega) z3
    · refine ⟨y, h, hp, fun z z1 z3 => ?_⟩
      rcases Int.lt_or_le z y with w | w
      · exact absurd ⟨z, z1, w, z3⟩ c
      · exact w
theorem least_dvd {P : Int → Prop} {x p : Int} (h : Least P x) (hp : Per P p) : x ∣ p := by
  obtain ⟨h0, h1, h2⟩ := h
  have a1 := Int.emod_nonneg p (show x ≠ 0 by omega)
  have a2 := Int.emod_lt_of_pos p h0
  have hm : Per P (p % x) := fun z => by
    have e : z + p % x = (z + p) + (-(p / x)) * x := by
      have := Int.emod_add_ediv_mul p x
      rw [Int.neg_mul]
      omega
    rw [e, h1.int, hp]
  rcases Int.lt_or_le 0 (p % x) with z | z
  · have := h2 _ z hm
    omega
  · exact Int.dvd_of_emod_eq_zero (by omega)
theorem lp_const (hE : ∀ x y, E pc p x ↔ E pc p y) : Least (E pc p) 1 := ⟨by omega, fun x => hE _ _, fun y h _ => by omega⟩
theorem lp_spec (p0 : 0 < p) (c : Can (-1) pc) (he : ∀ r ∈ pc, r.2 ≤ p) : Least (E pc p) (lp pc p) := by
  unfold lp
  by_cases h0 : pc = [] ∨ pc = [(0, p)]
  · rw [if_pos h0]
    refine lp_const fun x y => ?_
    rcases h0 with e | e
    · subst e
      exact ⟨fun z => absurd z mem_nil, fun z => absurd z mem_nil⟩
    · subst e
      have all : ∀ x, E [(0, p)] p x := fun x => mem_cons.mpr (.inl ⟨Int.emod_nonneg x (by omega), Int.emod_lt_of_pos x p0⟩)
      exact ⟨fun _ => all y, fun _ => all x⟩
  rw [if_neg h0]
  have o : Ok pc p := ⟨p0, c, he, fun z => h0 (.inl z), fun z => h0 (.inr z)⟩
  obtain ⟨mr, mf, hlen⟩ := rf_spec o
  obtain ⟨x0, hx⟩ := least_ex (P := E pc p) p.toNat p p0 (by omega) E_per
  have hx0 := hx.1
  -- what a success gives
  have succ : ∀ parts : Nat, 2 ≤ parts → okP (rf pc p).1 (rf pc p).2 p parts = true → Per (E pc p) (p / parts) ∧ p = (parts : Int) * (p / parts) := by
    intro parts h2 hk
    unfold okP at hk
    simp only [Bool.and_eq_true, beq_iff_eq] at hk
    obtain ⟨⟨k1, k2⟩, k3, k4⟩ := hk
    have ep : p = (parts : Int) * (p / parts) := by
      have := Int.mul_ediv_add_emod p parts
      omega
    have en : (rf pc p).1.length = parts * ((rf pc p).1.length / parts) := by
      have := Nat.div_add_mod (rf pc p).1.length parts
      omega
    exact ⟨marks_per o (by omega) ep (rep_per mr (by omega) ep en p0 k3) (rep_per mf (by omega) ep (by rw [← hlen]; exact en) p0 k4), ep⟩
  obtain ⟨q, hq⟩ := least_dvd hx (E_per (pc := pc) (p := p))
  have hq0 : 0 < q := by
    rcases Int.lt_or_le 0 q with w | w
    · exact w
    · have : x0 * q ≤ 0 := Int.mul_nonpos_of_nonneg_of_nonpos (by omega) w
      omega
  obtain ⟨parts0, rfl⟩ := Int.eq_ofNat_of_zero_le (Int.le_of_lt hq0)
  have hq : p = (parts0 : Int) * x0 := by rw [hq, Int.mul_comm] <;> rfl
  -- the least period passes
  have pass : 2 ≤ parts0 → okP (rf pc p).1 (rf pc p).2 p parts0 = true ∧ parts0 ≤ (rf pc p).1.length := by
    intro h2
    obtain ⟨pr, pf⟩ := per_marks hx.2.1
    obtain ⟨s, s1, s2⟩ := per_rep mr (by omega) hq p0 pr
    obtain ⟨s', s1', s2'⟩ := per_rep mf (by omega) hq p0 pf
    have hss : s' = s := by
      have : parts0 * s' = parts0 * s := by omega
      exact Nat.eq_of_mul_eq_mul_left (by omega) this
    subst hss
    have e1 : (rf pc p).1.length / parts0 = s' := by rw [s1, Nat.mul_div_cancel_left _ (by omega)]
    have e2 : p / (parts0 : Int) = x0 := by rw [hq]; exact Int.mul_ediv_cancel_left _ (by omega)
    refine ⟨?_, ?_⟩
    · unfold okP
      rw [e1, e2, s2, s2']
      simp only [Bool.and_eq_true, beq_iff_eq, and_true]
      refine ⟨by rw [s1]; exact Nat.mul_mod_right _ _, by rw [hq]; exact Int.mul_emod_right _ _⟩
    · -- some mark is there
      have hs : 0 < s' := by
        rcases Nat.eq_zero_or_pos s' with z | z
        · subst z
          have hn : (rf pc p).1 = [] := List.eq_nil_of_length_eq_zero (by omega)
          -- a rise
          obtain ⟨z, z0, z1, hz⟩ := o.gap
          have : ∃ w, 0 ≤ w ∧ w < p ∧ mem pc w := by
            cases e : pc with
            | nil => exact absurd e o.ne
            | cons r rs =>
              have c' := o.c
              have e' := o.e
              rw [e] at c' e'
              have := e' r List.mem_cons_self
              have := c'.1
              have := c'.2.1
              exact ⟨r.1, by omega, by omega, mem_cons.mpr (.inl ⟨Int.le_refl _, by omega⟩)⟩
          obtain ⟨w, w0, w1, hw⟩ := this
          have hE : E pc p (w + p) := (E_per w).mpr ((E_in o w0 w1).mpr hw)
          have hnE : ¬ E pc p (w + p - (w + p - z).toNat) := by
            rw [show w + p - ((w + p - z).toNat : Int) = z from by omega]
            exact fun y => hz ((E_in o z0 z1).mp y)
          obtain ⟨g, _, _, g3, _⟩ := back_to_rise _ _ hE hnE
          have hr : R pc p (g % p) := (R_per.mod g).mpr g3
          have := (mr.is (g % p)).mpr ⟨Int.emod_nonneg _ (by omega), Int.emod_lt_of_pos _ p0, hr⟩
          rw [hn] at this
          cases this
        · exact z
      rw [s1]
      exact Nat.le_mul_of_pos_right _ hs
  cases e : (cand (rf pc p).1.length).find? (okP (rf pc p).1 (rf pc p).2 p) with
  | none =>
    show Least (E pc p) p
    have : parts0 = 1 := by
      rcases Nat.lt_or_ge parts0 2 with w | w
      · omega
      · obtain ⟨q1, q2⟩ := pass w
        have := List.find?_eq_none.mp e parts0 ((cand_mem _ _).mpr ⟨w, q2⟩)
        rw [q1] at this
        exact absurd rfl this
    subst this
    have : p = x0 := by omega
    rw [this]
    rw [← this]
    rw [← this] at hx
    exact hx
  | some parts =>
    show Least (E pc p) (p / (parts : Int))
    have hm := List.mem_of_find?_eq_some e
    have hk := List.find?_some e
    obtain ⟨m1, m2⟩ := (cand_mem _ _).mp hm
    obtain ⟨s1, s2⟩ := succ parts m1 hk
    have pos : 0 < p / (parts : Int) := by
      rcases Int.lt_or_le 0 (p / (parts : Int)) with w | w
      · exact w
      · have : (parts : Int) * (p / parts) ≤ 0 := Int.mul_nonpos_of_nonneg_of_nonpos (Int.natCast_nonneg _) w
        omega
    have h1 := hx.2.2 _ pos s1
    have hge : parts0 ≤ parts := by
      rcases Nat.lt_or_ge parts0 2 with w | w
      · omega
      · obtain ⟨q1, q2⟩ := pass w
        exact cand_find _ _ _ e parts0 w q2 q1
    have h2 : p / (parts : Int) ≤ x0 := by
      rcases Int.lt_or_le x0 (p / (parts : Int)) with w | w
      · have a1 : (parts : Int) * x0 < parts * (p / parts) := Int.mul_lt_mul_of_pos_left w (by omega)
        have a2 : (parts0 : Int) * x0 ≤ parts * x0 := Int.mul_le_mul_of_nonneg_right (by omega) (by omega)
        omega
      · exact w
    have : p / (parts : Int) = x0 := by omega
    rw [this]
    exact hx
end
end Sp

set_option Elab.async false
set_option linter.all false
set_option autoImplicit false
/-! # The normal form -/
namespace Sp
/-- the last run that begins below the hour -/
def lastB (hd : Runs) (h : Int) : Option (Int × Int) := (hd.takeWhile fun r => decide (r.1 < h)).getLast?
theorem lastB_some : ∀ {lo : Int} {hd : Runs} {h : Int} {r : Int × Int}, Can lo hd → lastB hd h = some r → r ∈ hd ∧ r.1 < h ∧ ∀ q ∈ hd, q = r ∨ q.2 < r.1 ∨ h ≤ q.1
  | _, [], _, _, _, e => by cases e
  | lo, q :: hd, h, r, c, e => by
    unfold lastB at e
    rw [List.takeWhile_cons] at e
    by_cases hq : q.1 < h
    · rw [if_pos (decide_eq_true hq)] at e
      cases e2 : hd.takeWhile (fun r => decide (r.1 < h)) with
      | nil =>
        rw [e2] at e
        cases e
        refine ⟨List.mem_cons_self, hq, fun x hx => ?_⟩
        rcases List.mem_cons.mp hx with z | z
        · exact .inl z
        · right; right
          -- no run of the tail begins below
          cases hd with
          | nil => cases z
          | cons y ys =>
            rw [List.takeWhile_cons] at e2
            have hy : ¬ y.1 < h := fun w => by rw [if_pos (decide_eq_true w)] at e2; cases e2
            rcases List.mem_cons.mp z with w | w
            · rw [w]; omega
            · have := c.2.2.2.2.gt x w
              have := c.2.2.2.1
              omega
      | cons y ys =>
        have e3 : lastB hd h = some r := by
          unfold lastB
          rw [e2]
          rw [e2] at e
          rw [List.getLast?_cons_cons] at e
          exact e
        obtain ⟨a, b, d⟩ := lastB_some c.2.2 e3
        refine ⟨List.mem_cons_of_mem _ a, b, fun x hx => ?_⟩
        rcases List.mem_cons.mp hx with z | z
        · right; left
          rw [z]
          exact (c.2.2.gt r a).1
        · exact d x z
    · rw [if_neg (by simpa using hq)] at e
      cases e
theorem lastB_none : ∀ {lo : Int} {hd : Runs} {h : Int}, Can lo hd → lastB hd h = none → ∀ q ∈ hd, h ≤ q.1
  | _, [], _, _, _, q, z => by cases z
  | lo, r :: hd, h, c, e, q, z => by
    unfold lastB at e
    rw [List.takeWhile_cons] at e
    by_cases hq : r.1 < h
    · rw [if_pos (decide_eq_true hq)] at e
      rw [List.getLast?_eq_none_iff] at e
      cases e
    · rcases List.mem_cons.mp z with w | w
      · rw [w]; omega
      · have := c.2.2.gt q w
        have := c.2.1
        omega
def heldB (hd : Runs) (h : Int) : Bool := match lastB hd h with
  | some r => decide (h ≤ r.2)
  | none => false
def low0 (hd : Runs) (h : Int) : Int := match lastB hd h with
  | some r => if h ≤ r.2 then r.1 else r.2
  | none => 0
theorem held_spec {hd : Runs} {h : Int} (c : Can (-1) hd) (h0 : 0 < h) : (heldB hd h = true ↔ mem hd (h - 1)) ∧ 0 ≤ low0 hd h ∧ low0 hd h < h ∧ ∀ x, low0 hd h ≤ x → x < h → (mem hd x ↔ heldB hd h = true) := by
  unfold heldB low0
  cases e : lastB hd h with
  | none =>
    have n := lastB_none c e
    have nm : ∀ x, x < h → ¬ mem hd x := fun x hx ⟨r, hr, z⟩ => by
      have := n r hr
      omega
    refine ⟨⟨fun z => (by cases z), fun z => absurd z (nm _ (by omega))⟩, Int.le_refl _, h0, fun x _ hx => ⟨fun z => absurd z (nm x hx), fun z => (by cases z)⟩⟩
  | some r =>
    obtain ⟨a, b, d⟩ := lastB_some c e
    have hr := c.gt r a
    by_cases hh : h ≤ r.2
    · simp only [if_pos hh, decide_eq_true hh]
      have m : ∀ x, r.1 ≤ x → x < h → mem hd x := fun x h1 h2 => ⟨r, a, h1, by omega⟩
      exact ⟨⟨fun _ => m _ (by omega) (by omega), fun _ => trivial⟩, by omega, b, fun x h1 h2 => ⟨fun _ => trivial, fun _ => m x h1 h2⟩⟩
    · simp only [if_neg hh, decide_eq_false hh]
      have nm : ∀ x, r.2 ≤ x → x < h → ¬ mem hd x := fun x h1 h2 ⟨q, hq, z⟩ => by
        rcases d q hq with w | w | w
        · rw [w] at z; omega
        · omega
        · omega
      exact ⟨⟨fun z => (by cases z), fun z => absurd z (nm _ (by omega) (by omega))⟩, by omega, by omega, fun x h1 h2 => ⟨fun z => absurd z (nm x h1 h2), fun z => (by cases z)⟩⟩
/-- how far down the pieces stay as they are at the place -/
def floorP (pc : Runs) (place : Int) : Int := if inR pc place = true then ((pc[eb pc place]?).map (·.1)).getD 0 else if 0 < eb pc place then ((pc[eb pc place - 1]?).map (·.2)).getD 0 else 0
theorem floor_spec {pc : Runs} {place : Int} (c : Can (-1) pc) (h0 : 0 ≤ place) : 0 ≤ floorP pc place ∧ floorP pc place ≤ place ∧ ∀ x, floorP pc place ≤ x → x ≤ place → (mem pc x ↔ inR pc place = true) := by
  have sp := eb_spec place c
  unfold floorP
  by_cases hi : inR pc place = true
  · rw [if_pos hi]
    have hi' := hi
    unfold inR at hi'
    cases e : pc[eb pc place]? with
    | none => rw [e] at hi'; cases hi'
    | some r =>
      rw [e] at hi'
      have hi' := of_decide_eq_true hi'
      have hr := List.mem_of_getElem? e
      have g := c.gt r hr
      have n : ¬ r.2 ≤ place := fun z => by
        have := (sp _ r e).mpr z
        omega
      show 0 ≤ r.1 ∧ r.1 ≤ place ∧ ∀ x, r.1 ≤ x → x ≤ place → (mem pc x ↔ _)
      exact ⟨by omega, hi', fun x h1 h2 => ⟨fun _ => hi, fun _ => ⟨r, hr, h1, by omega⟩⟩⟩
  · rw [if_neg hi]
    have hnot : ∀ x, (∀ i r, i < eb pc place → pc[i]? = some r → r.2 ≤ x) → x ≤ place → ¬ mem pc x := fun x hx hp ⟨r, hr, z⟩ => by
      obtain ⟨i, hi'⟩ := List.mem_iff_getElem?.mp hr
      rcases Nat.lt_or_ge i (eb pc place) with w | w
      · have := hx i r w hi'
        omega
      · -- the run is at or behind the place's
        have hl : eb pc place < pc.length := Nat.lt_of_le_of_lt w (List.getElem?_eq_some_iff.mp hi').1
        have e := List.getElem?_eq_getElem hl
        have h1 : ¬ (pc[eb pc place]).1 ≤ place := fun y => hi (by unfold inR; rw [e]; exact decide_eq_true y)
        rcases Nat.lt_or_ge (eb pc place) i with v | v
        · have := Can.ends c _ i _ r v e hi'
          have := (c.gt _ (List.getElem_mem hl)).2
          omega
        · have : i = eb pc place := by omega
          subst this
          rw [e] at hi'
          cases hi'
          omega
    by_cases ht : 0 < eb pc place
    · rw [if_pos ht]
      have hl : eb pc place - 1 < pc.length := by have := eb_le pc place; omega
      have e := List.getElem?_eq_getElem hl
      rw [e]
      have g := c.gt _ (List.getElem_mem hl)
      have hle := (sp _ _ e).mp (by omega)
      show 0 ≤ (pc[eb pc place - 1]).2 ∧ (pc[eb pc place - 1]).2 ≤ place ∧ ∀ x, (pc[eb pc place - 1]).2 ≤ x → x ≤ place → (mem pc x ↔ _)
      refine ⟨by omega, hle, fun x h1 h2 => ⟨fun z => absurd z (hnot x (fun i r hi' hr => ?_) h2), fun z => absurd z hi⟩⟩
      rcases Nat.lt_or_ge i (eb pc place - 1) with w | w
      · have := Can.ends c i _ r _ w hr e
        omega
      · have : i = eb pc place - 1 := by omega
        subst this
        rw [e] at hr
        cases hr
        exact h1
    · rw [if_neg ht]
      exact ⟨Int.le_refl _, h0, fun x h1 h2 => ⟨fun z => absurd z (hnot x (fun i r hi' _ => absurd hi' (by omega)) h2), fun z => absurd z hi⟩⟩
def lowOf (hd : Runs) (st p : Int) (pc : Runs) (h : Int) : Int :=
  if pc = [] ∨ full pc p = true then low0 hd h else max (low0 hd h) (h - 1 - (h - 1 - st) % p + floorP pc ((h - 1 - st) % p))
theorem low_spec {hd pc : Runs} {st p h : Int} (ch : Can (-1) hd) (cp : Can (-1) pc) (he : ∀ r ∈ pc, r.2 ≤ p) (p0 : 0 < p) (h0 : 0 < h) :
    0 ≤ lowOf hd st p pc h ∧ lowOf hd st p pc h < h ∧ ∀ x, lowOf hd st p pc h ≤ x → x < h → ((mem hd x ↔ heldB hd h = true) ∧ (E pc p (x - st) ↔ inR pc ((h - 1 - st) % p) = true)) := by
  obtain ⟨a1, a2, a3, a4⟩ := held_spec ch h0
  have m0 := Int.emod_nonneg (h - 1 - st) (show p ≠ 0 by omega)
  have m1 := Int.emod_lt_of_pos (h - 1 - st) p0
  unfold lowOf
  by_cases hc : pc = [] ∨ full pc p = true
  · rw [if_pos hc]
    refine ⟨a2, a3, fun x h1 h2 => ⟨a4 x h1 h2, ?_⟩⟩
    rw [inR_spec cp]
    rcases hc with e | e
    · subst e
      exact ⟨fun z => absurd z mem_nil, fun z => absurd z mem_nil⟩
    · have e := full_iff.mp e
      subst e
      exact ⟨fun _ => mem_cons.mpr (.inl ⟨m0, m1⟩), fun _ => mem_cons.mpr (.inl ⟨Int.emod_nonneg _ (by omega), Int.emod_lt_of_pos _ p0⟩)⟩
  · rw [if_neg hc]
    obtain ⟨f1, f2, f3⟩ := floor_spec cp m0
    refine ⟨by omega, by omega, fun x h1 h2 => ⟨a4 x (by omega) h2, ?_⟩⟩
    have e : (x - st) % p = (h - 1 - st) % p - (h - 1 - x) := by
      have hk : (h - 1 - st) = (h - 1 - st) % p + (h - 1 - st) / p * p := (Int.emod_add_ediv_mul _ _).symm
      have : (x - st) - ((h - 1 - st) / p) * p = (h - 1 - st) % p - (h - 1 - x) := by omega
      rw [← this]
      exact mod_eq p0 (by omega) (by omega)
    unfold E
    rw [e]
    exact f3 _ (by omega) (by omega)
def lsF (hd : Runs) (st p : Int) (pc : Runs) : Nat → Int → Int
  | 0, h => h
  | n + 1, h => if h ≤ 0 then 0 else if heldB hd h != inR pc ((h - 1 - st) % p) then h else lsF hd st p pc n (lowOf hd st p pc h)
theorem ls_spec {hd pc : Runs} {st p : Int} (ch : Can (-1) hd) (cp : Can (-1) pc) (he : ∀ r ∈ pc, r.2 ≤ p) (p0 : 0 < p) : ∀ (n : Nat) (h : Int), 0 ≤ h → h < n → (∀ x, h ≤ x → x < st → (mem hd x ↔ E pc p (x - st))) →
    0 ≤ lsF hd st p pc n h ∧ lsF hd st p pc n h ≤ h ∧ (∀ x, lsF hd st p pc n h ≤ x → x < st → (mem hd x ↔ E pc p (x - st))) ∧ (lsF hd st p pc n h = 0 ∨ ¬ (mem hd (lsF hd st p pc n h - 1) ↔ E pc p (lsF hd st p pc n h - 1 - st)))
  | 0, h, h0, h1, _ => by omega
  | n + 1, h, h0, h1, inv => by
    unfold lsF
    by_cases hz : h ≤ 0
    · rw [if_pos hz]
      have : h = 0 := by omega
      subst this
      exact ⟨Int.le_refl _, Int.le_refl _, inv, .inl rfl⟩
    · rw [if_neg hz]
      obtain ⟨a1, a2⟩ := held_spec ch (show 0 < h by omega)
      have b1 := inR_spec (h := (h - 1 - st) % p) cp
      by_cases hs : (heldB hd h != inR pc ((h - 1 - st) % p)) = true
      · rw [if_pos hs]
        refine ⟨h0, Int.le_refl _, inv, .inr fun z => ?_⟩
        have z : mem hd (h - 1) ↔ mem pc ((h - 1 - st) % p) := z
        rw [← a1, ← b1] at z
        have : heldB hd h = inR pc ((h - 1 - st) % p) := by
          rw [Bool.eq_iff_iff]
          exact z
        rw [this] at hs
        simp at hs
      · rw [if_neg hs]
        have hs : heldB hd h = inR pc ((h - 1 - st) % p) := by simpa using hs
        obtain ⟨l1, l2, l3⟩ := low_spec (st := st) ch cp he p0 (show 0 < h by omega)
        obtain ⟨r1, r2, r3, r4⟩ := ls_spec ch cp he p0 n (lowOf hd st p pc h) l1 (by omega) fun x hx hx2 => by
          rcases Int.lt_or_le x h with w | w
          · obtain ⟨q1, q2⟩ := l3 x hx w
            rw [q1, q2, hs]
          · exact inv x w hx2
        exact ⟨r1, by omega, r3, r4⟩
/-! ### the pieces of a lesser period -/
def cutP (pc : Runs) (p : Int) : Runs := (pc.filter fun r => decide (r.1 < p)).map fun r => (r.1, min r.2 p)
theorem cut_spec {p : Int} : ∀ {lo : Int} {pc : Runs}, Can lo pc → Can lo (cutP pc p) ∧ ∀ x, mem (cutP pc p) x ↔ mem pc x ∧ x < p
  | _, [], _ => ⟨trivial, fun x => ⟨fun z => absurd z mem_nil, fun z => absurd z.1 mem_nil⟩⟩
  | lo, r :: pc, c => by
    obtain ⟨i1, i2⟩ := cut_spec (p := p) c.2.2
    unfold cutP at i1 i2 ⊢
    rw [List.filter_cons]
    by_cases h : r.1 < p
    · rw [if_pos (decide_eq_true h), List.map_cons]
      refine ⟨⟨c.1, by have := c.2.1; show r.1 < min r.2 p; omega, i1.mono (by show min r.2 p ≤ r.2; omega)⟩, fun x => ?_⟩
      rw [mem_cons, i2, mem_cons]
      constructor
      · rintro (z | z)
        · have z1 : r.1 ≤ x := z.1
          have z2 : x < min r.2 p := z.2
          exact ⟨.inl ⟨z1, by omega⟩, by omega⟩
        · exact ⟨.inr z.1, z.2⟩
      · rintro ⟨z | z, w⟩
        · exact .inl ⟨z.1, by show x < min r.2 p; omega⟩
        · exact .inr ⟨z, w⟩
    · rw [if_neg (by simpa using h)]
      refine ⟨i1.mono (by have := c.1; have := c.2.1; omega), fun x => ?_⟩
      rw [i2, mem_cons]
      constructor
      · rintro ⟨z, w⟩
        exact ⟨.inr z, w⟩
      · rintro ⟨z | z, w⟩
        · omega
        · exact ⟨z, w⟩
def lsQ (q : Q) : Int := lsF q.hd q.st (lp q.pc q.pd) (cutP q.pc (lp q.pc q.pd)) (q.st.toNat + 1) q.st
def redQ (q : Q) : Q :=
  if lsQ q = q.st then ⟨q.hd, q.st, lp q.pc q.pd, cutP q.pc (lp q.pc q.pd)⟩
  else built (runsOf ⟨q.hd, q.st, lp q.pc q.pd, cutP q.pc (lp q.pc q.pd)⟩ 0 (lsQ q + lp q.pc q.pd)) (lsQ q) (lp q.pc q.pd)
/-- from some hour on each hour is as that so much later -/
def TP (P : Int → Prop) (y : Int) : Prop := ∃ N : Int, ∀ h, N ≤ h → (P (h + y) ↔ P h)
structure Nf (q : Q) : Prop where
  v : V q
  lp : ∀ y, 0 < y → TP (S q) y → q.pd ≤ y
  ls : ∀ f, 0 ≤ f → (∀ h, f ≤ h → (S q (h + q.pd) ↔ S q h)) → q.st ≤ f
theorem S_E {q : Q} {h : Int} (hh : q.st ≤ h) : S q h ↔ E q.pc q.pd (h - q.st) := S_pc hh
theorem TP_per {q : Q} (v : V q) {y : Int} (hy : 0 < y) : TP (S q) y ↔ Per (E q.pc q.pd) y := by
  constructor
  · rintro ⟨N, hN⟩ x
    -- far enough
    have pd := v.pd0
    let k : Int := (N - q.st).natAbs + x.natAbs + 1
    have hk : 0 ≤ k := by omega
    have hkp : k ≤ k * q.pd := by
      have : k * 1 ≤ k * q.pd := Int.mul_le_mul_of_nonneg_left (by omega) hk
      omega
    have h1 : q.st ≤ q.st + x + k * q.pd := by omega
    have h2 := hN (q.st + x + k * q.pd) (by omega)
    rw [S_E h1, S_E (by omega)] at h2
    rw [show q.st + x + k * q.pd + y - q.st = (x + y) + k * q.pd from by omega, show q.st + x + k * q.pd - q.st = x + k * q.pd from by omega] at h2
    rw [E_per.int, E_per.int] at h2
    exact h2
  · intro hp
    refine ⟨q.st, fun h hh => ?_⟩
    rw [S_E hh, S_E (by omega), show h + y - q.st = (h - q.st) + y from by omega]
    exact hp _
theorem TP_congr {P P' : Int → Prop} (h : ∀ x, 0 ≤ x → (P x ↔ P' x)) {y : Int} (hy : 0 < y) (t : TP P y) : TP P' y := by
  obtain ⟨N, hN⟩ := t
  refine ⟨max N 0, fun x hx => ?_⟩
  rw [← h x (by omega), ← h (x + y) (by omega)]
  exact hN x (by omega)
theorem nf_uniq {q q' : Q} (n : Nf q) (n' : Nf q') (h : ∀ x, 0 ≤ x → (S q x ↔ S q' x)) : q = q' := by
  have hr : ∀ x, 0 ≤ x → (S q' x ↔ S q x) := fun x hx => (h x hx).symm
  have ep : q.pd = q'.pd := by
    have a := n.lp _ n'.v.pd0 (TP_congr hr n'.v.pd0 ((TP_per n'.v n'.v.pd0).mpr E_per))
    have b := n'.lp _ n.v.pd0 (TP_congr h n.v.pd0 ((TP_per n.v n.v.pd0).mpr E_per))
    omega
  have per : ∀ {q : Q}, V q → ∀ x, q.st ≤ x → (S q (x + q.pd) ↔ S q x) := fun v x hx => S_per v hx (Int.le_of_lt v.pd0) (Int.dvd_refl _)
  have es : q.st = q'.st := by
    have a := n.ls q'.st n'.v.st0 fun x hx => by
      have := n'.v.st0
      have := n.v.pd0
      rw [h x (by omega), h _ (by omega), ep]
      exact per n'.v x hx
    have b := n'.ls q.st n.v.st0 fun x hx => by
      have := n.v.st0
      have := n.v.pd0
      rw [hr x (by omega), hr _ (by omega), ← ep]
      exact per n.v x hx
    omega
  have eh : q.hd = q'.hd := by
    refine uniq n.v.ch n'.v.ch fun x => ?_
    have key : ∀ {q : Q}, V q → (mem q.hd x ↔ 0 ≤ x ∧ x < q.st ∧ S q x) := fun {q} v => by
      constructor
      · intro m
        have a := v.ch.mem_gt m
        have b := hd_lt v m
        exact ⟨by omega, b, (S_hd b).mpr m⟩
      · rintro ⟨_, b, c⟩
        exact (S_hd b).mp c
    rw [key n.v, key n'.v, es]
    constructor
    · rintro ⟨a, b, c⟩
      exact ⟨a, b, (h x a).mp c⟩
    · rintro ⟨a, b, c⟩
      exact ⟨a, b, (h x a).mpr c⟩
  have ec : q.pc = q'.pc := by
    refine uniq n.v.cp n'.v.cp fun x => ?_
    have key : ∀ {q : Q}, V q → (mem q.pc x ↔ 0 ≤ x ∧ x < q.pd ∧ S q (q.st + x)) := fun {q} v => by
      constructor
      · intro m
        have a := v.cp.mem_gt m
        obtain ⟨r, hr, z⟩ := m
        have b := v.pe r hr
        refine ⟨by omega, by omega, ?_⟩
        rw [S_pc (by omega), show q.st + x - q.st = x from by omega, Int.emod_eq_of_lt (by omega) (by omega)]
        exact ⟨r, hr, z⟩
      · rintro ⟨a, b, c⟩
        rw [S_pc (by omega), show q.st + x - q.st = x from by omega, Int.emod_eq_of_lt (by omega) (by omega)] at c
        exact c
    have st0 := n'.v.st0
    rw [key n.v, key n'.v, es, ep]
    constructor
    · rintro ⟨a, b, c⟩
      exact ⟨a, b, (h _ (by omega)).mp c⟩
    · rintro ⟨a, b, c⟩
      exact ⟨a, b, (h _ (by omega)).mpr c⟩
  cases q
  cases q'
  simp only at ep es eh ec
  subst ep es eh ec
  rfl
theorem nf_red {q : Q} (v : V q) : Nf (redQ q) ∧ ∀ h, 0 ≤ h → (S (redQ q) h ↔ S q h) := by
  have hl := lp_spec v.pd0 v.cp v.pe
  obtain ⟨l0, l1, l2⟩ := hl
  have lpd := l2 _ v.pd0 E_per
  obtain ⟨c1, c2⟩ := cut_spec (p := lp q.pc q.pd) v.cp
  have ce : ∀ r ∈ cutP q.pc (lp q.pc q.pd), r.2 ≤ lp q.pc q.pd := ends_of c1 fun x hx => ((c2 x).mp hx).2
  have v1 : V ⟨q.hd, q.st, lp q.pc q.pd, cutP q.pc (lp q.pc q.pd)⟩ := ⟨v.st0, l0, v.ch, v.he, c1, ce⟩
  have e1 : ∀ x, E (cutP q.pc (lp q.pc q.pd)) (lp q.pc q.pd) x ↔ E q.pc q.pd x := fun x => by
    have a1 := Int.emod_nonneg x (show lp q.pc q.pd ≠ 0 by omega)
    have a2 := Int.emod_lt_of_pos x l0
    rw [← l1.mod x]
    unfold E
    rw [c2, Int.emod_eq_of_lt a1 (show x % lp q.pc q.pd < q.pd by omega)]
    exact ⟨fun z => z.1, fun z => ⟨z, a2⟩⟩
  have s1 : ∀ h, S ⟨q.hd, q.st, lp q.pc q.pd, cutP q.pc (lp q.pc q.pd)⟩ h ↔ S q h := fun h => by
    rcases Int.lt_or_le h q.st with y | y
    · rw [S_hd (q := ⟨q.hd, q.st, lp q.pc q.pd, cutP q.pc (lp q.pc q.pd)⟩) y, S_hd y]
    · rw [S_E (q := ⟨q.hd, q.st, lp q.pc q.pd, cutP q.pc (lp q.pc q.pd)⟩) y, S_E y]
      exact e1 _
  obtain ⟨r1, r2, r3, r4⟩ := ls_spec (hd := q.hd) (st := q.st) v.ch c1 ce l0 (q.st.toNat + 1) q.st v.st0 (by have := v.st0; omega) fun x h1 h2 => by omega
  -- from the least start on the set repeats
  have rp : ∀ h, lsQ q ≤ h → (S q (h + lp q.pc q.pd) ↔ S q h) := by
    have ext : ∀ h, lsQ q ≤ h → (S q h ↔ E q.pc q.pd (h - q.st)) := fun h hh => by
      rcases Int.lt_or_le h q.st with y | y
      · rw [S_hd y, r3 h hh y, e1]
      · exact S_E y
    intro h hh
    rw [ext h hh, ext _ (by omega), show h + lp q.pc q.pd - q.st = (h - q.st) + lp q.pc q.pd from by omega]
    exact l1 _
  have lsm : ∀ f, 0 ≤ f → (∀ h, f ≤ h → (S q (h + lp q.pc q.pd) ↔ S q h)) → lsQ q ≤ f := fun f f0 hf => by
    rcases Int.lt_or_le f (lsQ q) with w | w
    · exfalso
      rcases r4 with z | z
      · have : lsQ q = 0 := z
        omega
      · refine z ?_
        have hlt : lsQ q - 1 < q.st := by have : lsQ q ≤ q.st := r2; omega
        have h1 : mem q.hd (lsQ q - 1) ↔ S q (lsQ q - 1) := (S_hd hlt).symm
        show mem q.hd (lsQ q - 1) ↔ E (cutP q.pc (lp q.pc q.pd)) (lp q.pc q.pd) (lsQ q - 1 - q.st)
        rw [h1, e1]
        -- go up by periods
        have up : ∀ (k : Nat), (S q (lsQ q - 1 + k * lp q.pc q.pd) ↔ S q (lsQ q - 1)) := by
          intro k
          induction k with
          | zero => rw [show lsQ q - 1 + ((0 : Nat) : Int) * lp q.pc q.pd = lsQ q - 1 from by simp]
          | succ k ih =>
            have hk : (0 : Int) ≤ (k : Int) * lp q.pc q.pd := Int.mul_nonneg (Int.natCast_nonneg k) (Int.le_of_lt l0)
            have e : lsQ q - 1 + ((k + 1 : Nat) : Int) * lp q.pc q.pd = (lsQ q - 1 + k * lp q.pc q.pd) + lp q.pc q.pd := by
              rw [Int.natCast_add, Int.add_mul]
              simp
              omega
            rw [e, hf _ (by omega), ih]
        have hk : q.st ≤ lsQ q - 1 + (q.st.toNat : Int) * lp q.pc q.pd := by
          have h1 : ((q.st.toNat : Nat) : Int) = q.st := by have := v.st0; omega
          have : q.st * 1 ≤ q.st * lp q.pc q.pd := Int.mul_le_mul_of_nonneg_left (by omega) v.st0
          rw [h1]
          omega
        rw [← up q.st.toNat, S_E hk, show lsQ q - 1 + (q.st.toNat : Int) * lp q.pc q.pd - q.st = (lsQ q - 1 - q.st) + (q.st.toNat : Int) * lp q.pc q.pd from by omega]
        exact l1.nat _ _
    · exact w
  have fin : ∀ q' : Q, V q' → (∀ h, 0 ≤ h → (S q' h ↔ S q h)) → q'.pd = lp q.pc q.pd → q'.st = lsQ q → Nf q' ∧ ∀ h, 0 ≤ h → (S q' h ↔ S q h) := fun q' v' s' p' t' => by
    refine ⟨⟨v', fun y hy ht => ?_, fun f f0 hf => ?_⟩, s'⟩
    · rw [p']
      exact l2 y hy ((TP_per v hy).mp (TP_congr s' hy ht))
    · rw [t']
      refine lsm f f0 fun h hh => ?_
      have := hf h hh
      rw [p', s' h (by omega), s' _ (by omega)] at this
      exact this
  unfold redQ
  by_cases hls : lsQ q = q.st
  · rw [if_pos hls]
    exact fin _ v1 (fun h _ => s1 h) rfl hls.symm
  · rw [if_neg hls]
    have ls0 : 0 ≤ lsQ q := r1
    obtain ⟨a, b, c⟩ := run0 v1 (lsQ q + lp q.pc q.pd)
    have a0 := can_asc a
    refine fin _ (built_spec (Int.le_refl _) ls0 l0 a0).1 (built_is (Int.le_refl _) ls0 l0 a0 (fun h h0 h1 => ?_) fun h hh => rp h hh) rfl rfl
    rw [b, s1]
    exact ⟨fun z => z.2.2, fun z => ⟨h0, h1, z⟩⟩
/-- two sets have one normal form just if they are one set -/
theorem red_eq {q q' : Q} (v : V q) (v' : V q') (h : ∀ x, 0 ≤ x → (S q x ↔ S q' x)) : redQ q = redQ q' := by
  obtain ⟨a, b⟩ := nf_red v
  obtain ⟨a', b'⟩ := nf_red v'
  exact nf_uniq a a' fun x hx => by rw [b x hx, b' x hx, h x hx]
end Sp

set_option Elab.async false
set_option linter.all false
set_option autoImplicit false
/-! # How many runs -/
namespace Sp
theorem can_len : ∀ {lo e : Int} {rs : Runs}, Can lo rs → (∀ r ∈ rs, r.2 ≤ e) → lo ≤ e → (rs.length : Int) ≤ e - lo
  | _, _, [], _, _, h => by simp; omega
  | lo, e, r :: rs, c, h, _ => by
    have h2 := h r List.mem_cons_self
    have := can_len c.2.2 (fun q hq => h q (List.mem_cons_of_mem _ hq)) h2
    have := c.1
    have := c.2.1
    simp only [List.length_cons]
    omega
theorem len_le {lo U : Int} {rs : Runs} (c : Can lo rs) (h : ∀ x, mem rs x → x < U) : (rs.length : Int) ≤ max 0 (U - lo) := by
  cases rs with
  | nil => simp; omega
  | cons r rs =>
    have h1 := h r.1 (mem_cons.mpr (.inl ⟨Int.le_refl _, c.2.1⟩))
    have := can_len c (ends_of c h) (by have := c.1; omega)
    omega
theorem toldH {q : Q} (v : V q) {b e : Int} (hb : 0 ≤ b) : Can (b - 1) (addAll [] (seg q.hd 0 b e)) ∧ (∀ h, mem (addAll [] (seg q.hd 0 b e)) h ↔ b ≤ h ∧ h < e ∧ mem q.hd h) ∧ ∀ r ∈ addAll [] (seg q.hd 0 b e), r.1 ≤ max b q.st := by
  have hle : ∀ r ∈ q.hd, (0 : Int) + r.1 ≤ max b q.st := fun r hr => by
    have := v.he r hr
    have := v.ch.gt r hr
    omega
  obtain ⟨t1, t2, t3⟩ := addAll_spec (acc := []) (l := seg q.hd 0 b e) (lo := b - 1) (B := b) (U := max b q.st) trivial (by omega) (fun r hr => by cases hr) (seg_asc v.ch) (seg_le (by omega) hle) (by omega)
  refine ⟨t1, fun h => ?_, t3⟩
  rw [t2, seg_spec v.ch, Int.sub_zero]
  exact ⟨fun z => z.elim (fun z => absurd z mem_nil) id, .inr⟩
theorem base_is {q : Q} (v : V q) (b : Int) : q.st ≤ baseOf q b ∧ baseOf q b ≤ max b q.st := by
  have pd := v.pd0
  unfold baseOf
  have hd := Int.ediv_mul_le (b - q.st) (show q.pd ≠ 0 by omega)
  have hk0 : (0 : Int) ≤ max 0 ((b - q.st) / q.pd) := by omega
  have hm := Int.mul_nonneg hk0 (Int.le_of_lt pd)
  refine ⟨by omega, ?_⟩
  rcases Int.le_total 0 ((b - q.st) / q.pd) with z | z
  · rw [Int.max_eq_right z]
    omega
  · rw [Int.max_eq_left z]
    omega
theorem toldK {q : Q} (v : V q) {b e : Int} (hb : 0 ≤ b) (K : Nat) : ((addAll (addAll [] (seg q.hd 0 b e)) (partsR q.pc q.pd (baseOf q b) b e K)).length : Int) ≤ max 0 (e - b + 1) := by
  obtain ⟨t1, t2, t3⟩ := toldH v (e := e) hb
  obtain ⟨b1, b2⟩ := base_is v b
  obtain ⟨p1, p2, p3⟩ := parts_spec (p := q.pd) (base := baseOf q b) (b := b) (e := e) v.pd0 v.cp v.pe K
  obtain ⟨s1, s2, _⟩ := addAll_spec (acc := addAll [] (seg q.hd 0 b e)) (l := partsR q.pc q.pd (baseOf q b) b e K) (B := max b q.st) (U := max (max b q.st) (max b (baseOf q b + (K : Nat) * q.pd))) t1 (by omega) t3 (by
    have : max b (baseOf q b) = max b q.st := by omega
    rw [← this]
    exact p1) (fun r hr => by have := p2 r hr; omega) (by omega)
  have := len_le (U := e) s1 (fun x hx => by
    rcases (s2 x).mp hx with z | z
    · exact ((t2 x).mp z).2.1
    · obtain ⟨k, _, _, hz, _⟩ := (p3 x).mp z
      exact hz)
  omega
theorem kOf_le {base e p : Int} (hp : 0 < p) : (kOf base e p : Int) ≤ max 0 (e - base) := by
  rcases Nat.eq_zero_or_pos (kOf base e p) with z | z
  · rw [z]; simp; omega
  · have h := (kOf_spec (base := base) (e := e) hp (kOf base e p - 1)).mpr (by omega)
    have h2 : ((kOf base e p - 1 : Nat) : Int) * 1 ≤ ((kOf base e p - 1 : Nat) : Int) * p := Int.mul_le_mul_of_nonneg_left (by omega) (Int.natCast_nonneg _)
    omega
end Sp

set_option Elab.async false
set_option linter.all false
set_option autoImplicit false
/-! # None, the least hour from one on, how many hours of a period -/
namespace Sp
theorem empty_iff {q : Q} (v : V q) : (q.hd = [] ∧ q.pc = []) ↔ ∀ h, 0 ≤ h → ¬ S q h := by
  constructor
  · rintro ⟨a, b⟩ h h0 s
    rcases Int.lt_or_le h q.st with y | y
    · rw [S_hd y, a] at s
      exact mem_nil s
    · rw [S_pc y, b] at s
      exact mem_nil s
  · intro hh
    have st0 := v.st0
    have pd0 := v.pd0
    constructor
    · cases e : q.hd with
      | nil => rfl
      | cons r rs =>
        have c := v.ch
        have he := v.he r (by rw [e]; exact List.mem_cons_self)
        rw [e] at c
        have c1 := c.1
        have c2 := c.2.1
        refine absurd ((S_hd (q := q) (h := r.1) (by omega)).mpr ?_) (hh r.1 (by omega))
        rw [e]
        exact mem_cons.mpr (.inl ⟨Int.le_refl _, c2⟩)
    · cases e : q.pc with
      | nil => rfl
      | cons r rs =>
        have c := v.cp
        have he := v.pe r (by rw [e]; exact List.mem_cons_self)
        rw [e] at c
        have c1 := c.1
        have c2 := c.2.1
        refine absurd ((S_pc (q := q) (h := q.st + r.1) (by omega)).mpr ?_) (hh (q.st + r.1) (by omega))
        rw [e, show q.st + r.1 - q.st = r.1 from by omega, Int.emod_eq_of_lt (by omega) (by omega)]
        exact mem_cons.mpr (.inl ⟨Int.le_refl _, c2⟩)
def lfP (q : Q) (h : Int) : Option Int := match q.pc.head? with
  | none => none
  | some r0 => some (match q.pc[eb q.pc ((h - q.st) % q.pd)]? with
    | some r => q.st + (h - q.st) / q.pd * q.pd + max ((h - q.st) % q.pd) r.1
    | none => q.st + (h - q.st) / q.pd * q.pd + q.pd + r0.1)
def lfQ (q : Q) (h : Int) : Option Int := if h < q.st then (match q.hd[eb q.hd h]? with
    | some r => some (max h r.1)
    | none => lfP q q.st) else lfP q h
/-- the next one of a row of runs -/
theorem eb_next {lo h : Int} {rs : Runs} {r : Int × Int} (c : Can lo rs) (e : rs[eb rs h]? = some r) : mem rs (max h r.1) ∧ ∀ x, h ≤ x → x < max h r.1 → ¬ mem rs x := by
  have hr := c.gt r (List.mem_of_getElem? e)
  have n := mt (eb_spec h c _ r e).mpr (Nat.lt_irrefl _)
  refine ⟨⟨r, List.mem_of_getElem? e, by omega, by omega⟩, fun x h1 h2 ⟨q, hq, z1, z2⟩ => ?_⟩
  obtain ⟨i, hi⟩ := List.mem_iff_getElem?.mp hq
  rcases Nat.lt_or_ge i (eb rs h) with w | w
  · have := (eb_spec h c i q hi).mp w
    omega
  · rcases Nat.lt_or_ge (eb rs h) i with u | u
    · have := Can.ends c _ i r q u e hi
      have := hr.2
      omega
    · have : i = eb rs h := by omega
      subst this
      rw [hi] at e
      cases e
      omega
theorem eb_end {lo h : Int} {rs : Runs} (c : Can lo rs) (e : rs[eb rs h]? = none) : ∀ x, h ≤ x → ¬ mem rs x := fun x hx ⟨q, hq, z1, z2⟩ => by
  obtain ⟨i, hi⟩ := List.mem_iff_getElem?.mp hq
  have hl := (List.getElem?_eq_some_iff.mp hi).1
  have := List.getElem?_eq_none_iff.mp e
  have := (eb_spec h c i q hi).mp (by omega)
  omega
def Lf (q : Q) (h : Int) (o : Option Int) : Prop := match o with
  | none => ∀ x, h ≤ x → ¬ S q x
  | some y => h ≤ y ∧ S q y ∧ ∀ x, h ≤ x → x < y → ¬ S q x
theorem lfP_spec {q : Q} (v : V q) {h : Int} (hh : q.st ≤ h) : Lf q h (lfP q h) := by
  have pd := v.pd0
  unfold lfP
  have dm := Int.emod_add_ediv_mul (h - q.st) q.pd
  have m0 := Int.emod_nonneg (h - q.st) (show q.pd ≠ 0 by omega)
  have m1 := Int.emod_lt_of_pos (h - q.st) pd
  generalize hP : (h - q.st) % q.pd = P at *
  generalize hU : (h - q.st) / q.pd = U at *
  have u0 : 0 ≤ U := by rw [← hU]; exact Int.ediv_nonneg (by omega) (Int.le_of_lt pd)
  have up0 : 0 ≤ U * q.pd := Int.mul_nonneg u0 (Int.le_of_lt pd)
  -- within this turn
  have turn : ∀ x, 0 ≤ x → x < q.pd → (S q (q.st + U * q.pd + x) ↔ mem q.pc x) := fun x x0 x1 => by
    rw [S_pc (by omega)]
    have : (q.st + U * q.pd + x - q.st) % q.pd = x := by
      rw [show q.st + U * q.pd + x - q.st = x + q.pd * U from by rw [Int.mul_comm q.pd U]; omega, Int.add_mul_emod_self_left]
      exact Int.emod_eq_of_lt x0 x1
    rw [this]
  have next : ∀ x, 0 ≤ x → x < q.pd → (S q (q.st + U * q.pd + q.pd + x) ↔ mem q.pc x) := fun x x0 x1 => by
    rw [S_pc (by omega)]
    have : (q.st + U * q.pd + q.pd + x - q.st) % q.pd = x := by
      rw [show q.st + U * q.pd + q.pd + x - q.st = x + q.pd * (U + 1) from by rw [Int.mul_add, Int.mul_one, Int.mul_comm q.pd U]; omega, Int.add_mul_emod_self_left]
      exact Int.emod_eq_of_lt x0 x1
    rw [this]
  cases e0 : q.pc.head? with
  | none =>
    intro x hx s
    rw [S_pc (by omega), List.head?_eq_none_iff.mp e0] at s
    exact mem_nil s
  | some r0 =>
    cases e : q.pc[eb q.pc P]? with
    | some r =>
      obtain ⟨n1, n2⟩ := eb_next v.cp e
      have hr := v.cp.gt r (List.mem_of_getElem? e)
      have he := v.pe r (List.mem_of_getElem? e)
      refine ⟨by show h ≤ q.st + U * q.pd + max P r.1; omega, (turn _ (by omega) (by omega)).mpr n1, fun x h1 h2 s => ?_⟩
      have h2 : x < q.st + U * q.pd + max P r.1 := h2
      refine n2 (x - (q.st + U * q.pd)) (by omega) (by omega) ((turn _ (by omega) (by omega)).mp ?_)
      rw [show q.st + U * q.pd + (x - (q.st + U * q.pd)) = x from by omega]
      exact s
    | none =>
      have n2 := eb_end v.cp e
      have hm : r0 ∈ q.pc := List.mem_of_mem_head? e0
      have hr := v.cp.gt r0 hm
      have he := v.pe r0 hm
      refine ⟨by show h ≤ q.st + U * q.pd + q.pd + r0.1; omega, (next _ (by omega) (by omega)).mpr ⟨r0, hm, Int.le_refl _, hr.2⟩, fun x h1 h2 s => ?_⟩
      have h2 : x < q.st + U * q.pd + q.pd + r0.1 := h2
      rcases Int.lt_or_le x (q.st + U * q.pd + q.pd) with w | w
      · refine n2 (x - (q.st + U * q.pd)) (by omega) ((turn _ (by omega) (by omega)).mp ?_)
        rw [show q.st + U * q.pd + (x - (q.st + U * q.pd)) = x from by omega]
        exact s
      · have s' := (next (x - (q.st + U * q.pd + q.pd)) (by omega) (by omega)).mp (by
          rw [show q.st + U * q.pd + q.pd + (x - (q.st + U * q.pd + q.pd)) = x from by omega]
          exact s)
        -- below the first run
        cases ec : q.pc with
        | nil => rw [ec] at e0; cases e0
        | cons z zs =>
          rw [ec] at e0
          cases e0
          have c := v.cp
          rw [ec] at c s'
          rcases mem_cons.mp s' with y | y
          · omega
          · have := c.2.2.mem_gt y
            omega
theorem lf_spec {q : Q} (v : V q) (h : Int) : Lf q h (lfQ q h) := by
  unfold lfQ
  by_cases c : h < q.st
  · rw [if_pos c]
    cases e : q.hd[eb q.hd h]? with
    | some r =>
      obtain ⟨n1, n2⟩ := eb_next v.ch e
      have hr := v.ch.gt r (List.mem_of_getElem? e)
      have he := v.he r (List.mem_of_getElem? e)
      refine ⟨by show h ≤ max h r.1; omega, (S_hd (by omega)).mpr n1, fun x h1 h2 s => ?_⟩
      have h2 : x < max h r.1 := h2
      exact n2 x h1 h2 ((S_hd (by omega)).mp s)
    | none =>
      have n := eb_end v.ch e
      have := lfP_spec v (Int.le_refl q.st)
      show Lf q h (lfP q q.st)
      unfold Lf at *
      cases e2 : lfP q q.st with
      | none =>
        rw [e2] at this
        intro x hx s
        rcases Int.lt_or_le x q.st with y | y
        · exact n x hx ((S_hd y).mp s)
        · exact this x y s
      | some y =>
        rw [e2] at this
        obtain ⟨a1, a2, a3⟩ := this
        refine ⟨by omega, a2, fun x h1 h2 s => ?_⟩
        rcases Int.lt_or_le x q.st with z | z
        · exact n x h1 ((S_hd z).mp s)
        · exact a3 x z h2 s
  · rw [if_neg c]
    exact lfP_spec v (by omega)
/-! ### how many -/
def cnt (f : Int → Bool) (a : Int) : Nat → Nat
  | 0 => 0
  | n + 1 => cnt f a n + (if f (a + (n : Nat)) then 1 else 0)
theorem cnt_congr {f g : Int → Bool} {a b : Int} : ∀ (n : Nat), (∀ k : Nat, k < n → f (a + (k : Nat)) = g (b + (k : Nat))) → cnt f a n = cnt g b n
  | 0, _ => rfl
  | n + 1, h => by
    unfold cnt
    rw [cnt_congr n (fun k hk => h k (by omega)), h n (by omega)]
theorem cnt_add (f : Int → Bool) (a : Int) (n : Nat) : ∀ m : Nat, cnt f a (n + m) = cnt f a n + cnt f (a + (n : Nat)) m
  | 0 => rfl
  | m + 1 => by
    show cnt f a (n + m) + (if f (a + ((n + m : Nat) : Int)) then 1 else 0) = cnt f a n + (cnt f (a + (n : Nat)) m + (if f (a + (n : Nat) + (m : Nat)) then 1 else 0))
    rw [cnt_add f a n m, Nat.add_assoc, show a + ((n + m : Nat) : Int) = a + (n : Nat) + (m : Nat) from by omega]
/-- a whole period, from any hour on -/
theorem cnt_shift {f : Int → Bool} {y : Nat} (h : ∀ x, f (x + (y : Nat)) = f x) (a : Int) : cnt f (a + 1) y = cnt f a y := by
  have h1 := cnt_add f a 1 y
  have h2 := cnt_add f a y 1
  rw [Nat.add_comm 1 y] at h1
  have e : cnt f a 1 = cnt f (a + (y : Nat)) 1 := by
    refine cnt_congr 1 fun k hk => ?_
    rw [show a + (y : Nat) + ((k : Nat) : Int) = (a + (k : Nat)) + (y : Nat) from by omega, h]
  have : cnt f (a + ((1 : Nat) : Int)) y = cnt f (a + 1) y := rfl
  omega
theorem cnt_any {f : Int → Bool} {y : Nat} (h : ∀ x, f (x + (y : Nat)) = f x) (a b : Int) : cnt f a y = cnt f b y := by
  have up : ∀ (n : Nat) (a : Int), cnt f (a + (n : Nat)) y = cnt f a y := by
    intro n
    induction n with
    | zero => intro a; simp
    | succ n ih =>
      intro a
      rw [show a + ((n + 1 : Nat) : Int) = (a + (n : Nat)) + 1 from by omega, cnt_shift h, ih]
  rcases Int.le_total a b with z | z
  · have := up (b - a).toNat a
    rw [show a + (((b - a).toNat : Nat) : Int) = b from by omega] at this
    exact this.symm
  · have := up (a - b).toNat b
    rw [show b + (((a - b).toNat : Nat) : Int) = a from by omega] at this
    exact this
theorem cnt_mul {f : Int → Bool} {y : Nat} (h : ∀ x, f (x + (y : Nat)) = f x) (a : Int) : ∀ j : Nat, cnt f a (j * y) = j * cnt f a y
  | 0 => by simp [cnt]
  | j + 1 => by
    rw [Nat.add_mul, Nat.one_mul, cnt_add, cnt_mul h a j, cnt_any h (a + ((j * y : Nat) : Int)) a, Nat.add_mul, Nat.one_mul]
/-- hours of runs -/
theorem cnt_runs : ∀ {lo : Int} {rs : Runs} {e : Int} (f : Int → Bool), Can lo rs → (∀ r ∈ rs, r.2 ≤ e) → lo + 1 ≤ e → (∀ x, f x = true ↔ mem rs x) → (cnt f (lo + 1) (e - (lo + 1)).toNat : Int) = (rs.map fun r => r.2 - r.1).sum
  | lo, [], e, f, _, _, _, h => by
    have : ∀ n : Nat, cnt f (lo + 1) n = 0 := by
      intro n
      induction n with
      | zero => rfl
      | succ n ih =>
        unfold cnt
        rw [ih, if_neg (fun z => mem_nil ((h _).mp z))]
    rw [this]
    rfl
  | lo, r :: rs, e, f, c, he, hle, h => by
    have c1 := c.1
    have c2 := c.2.1
    have h2 := he r List.mem_cons_self
    have zero : ∀ n : Nat, lo + 1 + (n : Nat) ≤ r.1 → cnt f (lo + 1) n = 0 := by
      intro n
      induction n with
      | zero => intro _; rfl
      | succ n ih =>
        intro hn
        unfold cnt
        rw [ih (by omega), if_neg]
        intro z
        rcases mem_cons.mp ((h _).mp z) with y | y
        · omega
        · have := c.2.2.mem_gt y
          omega
    have full : ∀ n : Nat, r.1 + (n : Nat) ≤ r.2 → cnt f r.1 n = n := by
      intro n
      induction n with
      | zero => intro _; rfl
      | succ n ih =>
        intro hn
        unfold cnt
        rw [ih (by omega), if_pos ((h _).mpr (mem_cons.mpr (.inl ⟨by omega, by omega⟩)))]
    by_cases hr2 : r.2 + 1 ≤ e
    · have ih := cnt_runs (fun x => f x && decide (r.2 < x)) c.2.2 (fun q hq => he q (List.mem_cons_of_mem _ hq)) hr2 (fun x => by
        rw [Bool.and_eq_true, decide_eq_true_eq, h]
        constructor
        · rintro ⟨z, w⟩
          rcases mem_cons.mp z with y | y
          · omega
          · exact y
        · intro y
          exact ⟨mem_cons.mpr (.inr y), c.2.2.mem_gt y⟩)
      have s1 := cnt_add f (lo + 1) (r.1 - (lo + 1)).toNat ((r.2 - r.1).toNat + (1 + (e - (r.2 + 1)).toNat))
      rw [zero (r.1 - (lo + 1)).toNat (by omega), show lo + 1 + (((r.1 - (lo + 1)).toNat : Nat) : Int) = r.1 from by omega] at s1
      have s2 := cnt_add f r.1 (r.2 - r.1).toNat (1 + (e - (r.2 + 1)).toNat)
      rw [full (r.2 - r.1).toNat (by omega), show r.1 + (((r.2 - r.1).toNat : Nat) : Int) = r.2 from by omega] at s2
      have s3 := cnt_add f r.2 1 (e - (r.2 + 1)).toNat
      have z : cnt f r.2 1 = 0 := by
        unfold cnt
        have : f (r.2 + ((0 : Nat) : Int)) = false := by
          rw [Bool.eq_false_iff]
          intro z
          rcases mem_cons.mp ((h _).mp z) with y | y
          · omega
          · have := c.2.2.mem_gt y
            omega
        rw [this]
        rfl
      have s4 : cnt f (r.2 + ((1 : Nat) : Int)) (e - (r.2 + 1)).toNat = cnt (fun x => f x && decide (r.2 < x)) (r.2 + 1) (e - (r.2 + 1)).toNat := by
        refine cnt_congr _ fun k hk => ?_
        show f (r.2 + 1 + (k : Nat)) = (f (r.2 + 1 + (k : Nat)) && decide (r.2 < r.2 + 1 + (k : Nat)))
        rw [decide_eq_true (by omega), Bool.and_true]
      rw [show (r.1 - (lo + 1)).toNat + ((r.2 - r.1).toNat + (1 + (e - (r.2 + 1)).toNat)) = (e - (lo + 1)).toNat from by omega] at s1
      rw [List.map_cons, List.sum_cons, ← ih]
      omega
    · have hrs : rs = [] := by
        cases rs with
        | nil => rfl
        | cons z zs =>
          have := c.2.2.1
          have := c.2.2.2.1
          have := he z (by simp)
          omega
      subst hrs
      have s1 := cnt_add f (lo + 1) (r.1 - (lo + 1)).toNat (r.2 - r.1).toNat
      rw [zero (r.1 - (lo + 1)).toNat (by omega), show lo + 1 + (((r.1 - (lo + 1)).toNat : Nat) : Int) = r.1 from by omega, full (r.2 - r.1).toNat (by omega)] at s1
      rw [show (r.1 - (lo + 1)).toNat + (r.2 - r.1).toNat = (e - (lo + 1)).toNat from by omega] at s1
      rw [s1]
      show _ = (r.2 - r.1) + 0
      omega
end Sp

set_option Elab.async false
set_option linter.all false
set_option autoImplicit false
/-! # Sets that are in their normal form -/
namespace Sp
def noneQ : Q := ⟨[], 0, 1, []⟩
def allQ : Q := ⟨[], 0, 1, [(0, 1)]⟩
def yrQ (b e : Int) : Q := ⟨[], 0, 8640, [(b, e)]⟩
theorem red_nf {q : Q} (n : Nf q) : redQ q = q := nf_uniq (nf_red n.v).1 n (nf_red n.v).2
theorem nf_none : Nf noneQ := ⟨⟨Int.le_refl _, by decide, trivial, fun r h => (by cases h), trivial, fun r h => (by cases h)⟩, fun y hy _ => hy, fun f hf _ => hf⟩
theorem nf_all : Nf allQ := ⟨⟨Int.le_refl _, by decide, trivial, fun r h => (by cases h), ⟨by decide, by decide, trivial⟩, fun r h => by rw [List.mem_singleton.mp h]; exact Int.le_refl _⟩, fun y hy _ => hy, fun f hf _ => hf⟩
theorem S_none (h : Int) : ¬ S noneQ h := fun s => by
  unfold S at s
  split at s <;> exact mem_nil s
theorem S_all {h : Int} (h0 : 0 ≤ h) : S allQ h := by
  rw [S_pc (q := allQ) h0]
  refine mem_cons.mpr (.inl ?_)
  show 0 ≤ (h - 0) % 1 ∧ (h - 0) % 1 < 1
  omega
theorem red_none {q : Q} (v : V q) (h : ∀ x, 0 ≤ x → ¬ S q x) : redQ q = noneQ := by
  obtain ⟨n, s⟩ := nf_red v
  exact nf_uniq n nf_none fun x hx => ⟨fun z => absurd ((s x hx).mp z) (h x hx), fun z => absurd z (S_none x)⟩
theorem red_all {q : Q} (v : V q) (h : ∀ x, 0 ≤ x → S q x) : redQ q = allQ := by
  obtain ⟨n, s⟩ := nf_red v
  exact nf_uniq n nf_all fun x hx => ⟨fun _ => S_all hx, fun _ => (s x hx).mpr (h x hx)⟩
theorem V_yr {b e : Int} (h0 : 0 ≤ b) (h1 : b < e) (h2 : e ≤ 8640) : V (yrQ b e) := ⟨Int.le_refl _, by show (0 : Int) < 8640; decide, trivial, fun r h => (by cases h), ⟨by omega, h1, trivial⟩, fun r h => by rw [List.mem_singleton.mp h]; exact h2⟩
theorem E_yr {b e x : Int} : E (yrQ b e).pc (yrQ b e).pd x ↔ b ≤ x % 8640 ∧ x % 8640 < e := by
  show mem [(b, e)] (x % 8640) ↔ _
  rw [mem_cons]
  exact ⟨fun z => z.elim id fun z => absurd z mem_nil, .inl⟩
theorem S_yr {b e h : Int} (h0 : 0 ≤ h) : S (yrQ b e) h ↔ b ≤ h % 8640 ∧ h % 8640 < e := by
  rw [S_E (q := yrQ b e) h0, E_yr]
  show b ≤ (h - 0) % 8640 ∧ (h - 0) % 8640 < e ↔ _
  rw [Int.sub_zero]
theorem nf_yr1 {b : Int} (h0 : 0 ≤ b) (h1 : b < 8640) : Nf (yrQ b (b + 1)) := by
  have v := V_yr h0 (show b < b + 1 by omega) (by omega)
  refine ⟨v, fun y hy t => ?_, fun f hf _ => hf⟩
  have p := (TP_per v hy).mp t b
  rw [E_yr, E_yr] at p
  show 8640 ≤ y
  omega
theorem nf_yr2 {e : Int} (h0 : 1 ≤ e) (h1 : e ≤ 8639) : Nf (yrQ (e - 1) (e + 1)) := by
  have v := V_yr (b := e - 1) (e := e + 1) (by omega) (by omega) (by omega)
  refine ⟨v, fun y hy t => ?_, fun f hf _ => hf⟩
  have p := (TP_per v hy).mp t (e - 1)
  have p2 := (TP_per v hy).mp t e
  rw [E_yr, E_yr] at p p2
  show 8640 ≤ y
  omega
end Sp

set_option Elab.async false
set_option linter.all false
set_option autoImplicit false
set_option maxRecDepth 100000
set_option maxHeartbeats 4000000
/-! # Runs as data; steps with lent lists and turns -/
namespace PyV
open PySem PyE L2 PySem.W
section
variable {Φ : Fns} {n : Nat} {t a b e : IE} {env e1 e2 e3 : SEnv} {x y : Bool} {d d' : D} {w w' : Vw} {i j : Nat} {c : Bool}
theorem callbN {f : Str} {fs : FnSem} {es : IEs} {ws : List Vw} {ds bs : List D} {bo : List D} (hf : Φ f = some fs) (hm : isMine env i = true) (hes : evEs Φ es env = .ok ws e1) (hk : keepN e1 ws = some (ds, e2)) (ha : ds.length + 1 = fs.arity) (hb : fs.bor = true) (hx : e2[i]? = some (.own bs)) (hr : fs.run (.list bs :: ds) = .ret d bo) :
    evE Φ (.callb f i es) env = .ok (.now d) (e2.set i (.own bo)) := by
  simp only [evE, hf, hm, hes, Rs.bind, hk]
  unfold callbK
  rw [if_pos (by rw [hb, ha]; simp), hx]
  simp only [hr]
theorem callbB {f : Str} {fs : FnSem} {es : IEs} {ws : List Vw} {ds bs : List D} {bo : List D} (hf : Φ f = some fs) (hm : isMine env i = true) (hes : evEs Φ es env = .ok ws e1) (hk : keepN e1 ws = some (ds, e2)) (ha : ds.length + 1 = fs.arity) (hb : fs.bor = true) (hx : e2[i]? = some (.bor bs)) (hr : fs.run (.list bs :: ds) = .ret d bo) :
    evE Φ (.callb f i es) env = .ok (.now d) (e2.set i (.bor bo)) := by
  simp only [evE, hf, hm, hes, Rs.bind, hk]
  unfold callbK
  rw [if_pos (by rw [hb, ha]; simp), hx]
  simp only [hr]
theorem seq_if {p q r : ISs} (h : evT Φ t env = .ok c e1) : evSs Φ n (.cons (.ite t p q) r) env = (if c then evSs Φ n p e1 else evSs Φ n q e1).bind fun e => evSs Φ n r e := by
  show (evS Φ n (.ite t p q) env).bind _ = _
  rw [ite_nxt h]
theorem if_nxt {p q r : ISs} (h : evT Φ t env = .ok c e1) (h2 : (if c then evSs Φ n p e1 else evSs Φ n q e1) = .nxt e2) : evSs Φ n (.cons (.ite t p q) r) env = evSs Φ n r e2 := by
  rw [seq_if h, h2]
theorem if_tn {p q r : ISs} (h : evT Φ t env = .ok true e1) (h2 : evSs Φ n p e1 = .nxt e2) : evSs Φ n (.cons (.ite t p q) r) env = evSs Φ n r e2 := if_nxt h h2
theorem if_fn {p q r : ISs} (h : evT Φ t env = .ok false e1) (h2 : evSs Φ n q e1 = .nxt e2) : evSs Φ n (.cons (.ite t p q) r) env = evSs Φ n r e2 := if_nxt h h2
theorem if_tb {p q r : ISs} (h : evT Φ t env = .ok true e1) (h2 : evSs Φ n p e1 = .brk e2) : evSs Φ n (.cons (.ite t p q) r) env = .brk e2 := by
  rw [seq_if h, if_pos rfl, h2]
theorem whl_t {tt : SEnv → Rs Bool} {f : SEnv → FR} (h : tt env = .ok true e1) (hf : f e1 = .nxt e2) : whlL tt f (n + 1) env = whlL tt f n e2 := by
  rw [whlL]
  simp only [h, Rs.toF, hf, if_true]
theorem whl_f {tt : SEnv → Rs Bool} {f : SEnv → FR} (h : tt env = .ok false e1) : whlL tt f (n + 1) env = .nxt e1 := by
  rw [whlL]
  simp only [h, Rs.toF]
  rfl
theorem whl_r {tt : SEnv → Rs Bool} {f : SEnv → FR} (h : tt env = .ok true e1) (hf : f e1 = .ret d e2) : whlL tt f (n + 1) env = .ret d e2 := by
  rw [whlL]
  simp only [h, Rs.toF, hf, if_true]
theorem whl_nxt {b : ISs} (h : whlL (evT Φ t) (evSs Φ n b) n env = .nxt e1) : evS Φ n (.whl t b) env = .nxt e1 := by
  simp only [evS]
  exact h
theorem whl_ret {b : ISs} (h : whlL (evT Φ t) (evSs Φ n b) n env = .ret d e1) : evS Φ n (.whl t b) env = .ret d e1 := by
  simp only [evS]
  exact h
theorem asgT_n {is : List Nat} {ds : List D} (h : evE Φ e env = .ok (.now (.tuple ds)) e1) (hp : putN e1 is ds = some e2) : evS Φ n (.asgT is e) env = .nxt e2 := by
  simp only [evS, h, Rs.toF, keepF, putT, hp]
theorem par_n {is : List Nat} {es : IEs} {ws : List Vw} {ds : List D} (h : evEs Φ es env = .ok ws e1) (hk : keepN e1 ws = some (ds, e2)) (hp : putN e2 is ds = some e3) : evS Φ n (.par is es) env = .nxt e3 := by
  simp only [evS, h, Rs.toF, hk, hp]
theorem ret_tmp {ds : List D} (h : evE Φ e env = .ok (.tmp ds) e1) : evS Φ n (.ret e) env = .ret (.list ds) e1 := by
  simp only [evS, h, Rs.toF, keepF]
theorem ret_late {ds : List D} (h : evE Φ e env = .ok (.late i) e1) (hx : e1[i]? = some (.own ds)) : evS Φ n (.ret e) env = .ret (.list ds) (e1.set i (.sh (.list ds))) := by
  simp only [evS, h, Rs.toF, keepF, hx]
theorem and_ff (h : evE Φ a env = .ok (.now (.bool false)) e1) : evE Φ (.and a b) env = .ok (.now (.bool false)) e1 := by
  simp only [evE, h, Rs.bind, truR, look, Option.bind, truD]
theorem or_tt (h : evE Φ a env = .ok (.now (.bool true)) e1) : evE Φ (.or a b) env = .ok (.now (.bool true)) e1 := by
  simp only [evE, h, Rs.bind, truR, look, Option.bind, truD]
theorem and_wt (h : evE Φ a env = .ok w e1) (ht : truR e1 w = some true) : evE Φ (.and a b) env = evE Φ b e1 := by
  simp only [evE, h, Rs.bind, ht]
theorem and_wf (h : evE Φ a env = .ok w e1) (ht : truR e1 w = some false) : evE Φ (.and a b) env = .ok w e1 := by
  simp only [evE, h, Rs.bind, ht]
theorem or_wt (h : evE Φ a env = .ok w e1) (ht : truR e1 w = some true) : evE Φ (.or a b) env = .ok w e1 := by
  simp only [evE, h, Rs.bind, ht]
theorem or_wf (h : evE Φ a env = .ok w e1) (ht : truR e1 w = some false) : evE Φ (.or a b) env = evE Φ b e1 := by
  simp only [evE, h, Rs.bind, ht]
theorem nt_w (h : evE Φ a env = .ok w e1) (ht : truR e1 w = some x) : evE Φ (.nt a) env = .ok (.now (.bool (!x))) e1 := by
  simp only [evE, h, Rs.bind, ht]
theorem tst_w (h : evE Φ a env = .ok w e1) (ht : truR e1 w = some x) : evT Φ a env = .ok x e1 := by
  unfold evT
  rw [h]
  show Rs.opt (truR e1 w) e1 = _
  rw [ht]
theorem cmp2_t {o o' : CmpOp} {ec : IE} {d'' : D} (h1 : evE Φ a env = .ok (.now d) e1) (h2 : evE Φ b e1 = .ok (.now d') e2) (h3 : evE Φ ec e2 = .ok (.now d'') e3) (k1 : cmpD o d d' = some true) (k2 : cmpD o' d' d'' = some x) : evE Φ (.cmp2 o o' a b ec) env = .ok (.now (.bool x)) e3 := by
  simp only [evE, h1, h2, h3, Rs.bind, look, k1, k2, Rs.opt, Option.map]
theorem cmp2_f {o o' : CmpOp} {ec : IE} (h1 : evE Φ a env = .ok (.now d) e1) (h2 : evE Φ b e1 = .ok (.now d') e2) (k1 : cmpD o d d' = some false) : evE Φ (.cmp2 o o' a b ec) env = .ok (.now (.bool false)) e2 := by
  simp only [evE, h1, h2, Rs.bind, look, k1]
theorem and_bb (h : evE Φ a env = .ok (.now (.bool x)) e1) (h2 : x = true → evE Φ b e1 = .ok (.now (.bool y)) e1) : evE Φ (.and a b) env = .ok (.now (.bool (x && y))) e1 := by
  cases x with
  | true => rw [and_t h, h2 rfl]; rfl
  | false => rw [and_ff h]; rfl
theorem or_bb (h : evE Φ a env = .ok (.now (.bool x)) e1) (h2 : x = false → evE Φ b e1 = .ok (.now (.bool y)) e1) : evE Φ (.or a b) env = .ok (.now (.bool (x || y))) e1 := by
  cases x with
  | false => rw [or_f h, h2 rfl]; rfl
  | true => rw [or_tt h]; rfl
theorem lc_raw {tg : Tg} {it : II} {ci : IO} {own : List Nat} {ds out : List D} (h1 : evI Φ it env = .ok ds e1) (h2 : lcL (lcStep (evC Φ ci) (evE Φ e) tg own) ds (wipeE e1 own) = .ok out e2) (hz : out.length ≤ 16777216) : evE Φ (.lc e tg it ci own) env = .ok (.tmp out) (backE e1 e2 own) := by
  have hu : evE Φ (.lc e tg it ci own) env = (evI Φ it env).bind fun ds e1 => lcEnd e1 own (lcL (lcStep (evC Φ ci) (evE Φ e) tg own) ds (wipeE e1 own)) := by simp only [evE]
  rw [hu, h1]
  show lcEnd e1 own (lcL (lcStep (evC Φ ci) (evE Φ e) tg own) ds (wipeE e1 own)) = _
  rw [h2]
  unfold lcEnd
  show (if szOk out.length then Rs.ok _ _ else .stuck) = _
  rw [show szOk out.length = true from decide_eq_true hz]
  rfl
end
/-! ### runs -/
open Sp
def rT (r : Int × Int) : D := .tuple [.int r.1, .int r.2]
abbrev rsT (rs : Runs) : D := .tuple (rs.map rT)
abbrev rsL (rs : Runs) : D := .list (rs.map rT)
def qT (q : Q) : D := .tuple [rsT q.hd, .int q.st, .int q.pd, rsT q.pc]
theorem at_rsT {rs : Runs} {k : Nat} {r : Int × Int} (h : rs[k]? = some r) : ixD (rsT rs) (.int (k : Nat)) = some (rT r) := by
  show atI (rs.map rT) (k : Nat) = _
  have hl : k < rs.length := (List.getElem?_eq_some_iff.mp h).1
  rw [at_nat (by rw [List.length_map]; exact hl)]
  have := (List.getElem?_eq_some_iff.mp h).2
  rw [List.getElem_map, this]
theorem at_rsL {rs : Runs} {k : Nat} {r : Int × Int} (h : rs[k]? = some r) : ixD (rsL rs) (.int (k : Nat)) = some (rT r) := at_rsT (rs := rs) h
theorem len_rsT (rs : Runs) : bfD .len [rsT rs] = some (.now (.int (rs.length : Nat))) := by
  show some (Vw.now (.int ((rs.map rT).length : Nat))) = _
  rw [List.length_map]
theorem len_rsL (rs : Runs) : bfD .len [rsL rs] = some (.now (.int (rs.length : Nat))) := len_rsT rs
theorem max_ii (i j : Int) : bfD .max [.int i, .int j] = some (.now (.int (max i j))) := by
  show some (Vw.now (.int (if j > i then j else i))) = _
  congr 3
  by_cases h : j > i
  · rw [if_pos h]; omega
  · rw [if_neg h]; omega
theorem min_ii (i j : Int) : bfD .min [.int i, .int j] = some (.now (.int (min i j))) := by
  show some (Vw.now (.int (if j < i then j else i))) = _
  congr 3
  by_cases h : j < i
  · rw [if_pos h]; omega
  · rw [if_neg h]; omega
theorem addRun_len (rs : Runs) (b e : Int) : (addRun rs b e).length ≤ rs.length + 1 := by
  unfold addRun
  split
  · omega
  · split
    · simp
    · split
      · split
        · rw [List.length_append, List.length_dropLast]
          simp only [List.length_cons, List.length_nil]
          omega
        · omega
      · simp
theorem addAll_len : ∀ (l acc : Runs), (addAll acc l).length ≤ acc.length + l.length
  | [], acc => by show acc.length ≤ _; simp
  | r :: l, acc => by
    have := addAll_len l (addRun acc r.1 r.2)
    have := addRun_len acc r.1 r.2
    show (addAll (addRun acc r.1 r.2) l).length ≤ _
    simp only [List.length_cons]
    omega
/-- turns with a break, over the places of a row of runs -/
theorem forL_suf {f : D → SEnv → FR} {R : Runs → SEnv → Prop} {rs : Runs} (g : Int × Int → Int × Int) (p : Int × Int → Bool)
    (h : ∀ (i : Nat) (r : Int × Int) (s : Runs) (env : SEnv), rs[i]? = some r → s.length < 16000000 → R s env → (p r = true → ∃ e, f (.int (i : Nat)) env = .nxt e ∧ R (addRun s (g r).1 (g r).2) e) ∧ (p r = false → ∃ e, f (.int (i : Nat)) env = .brk e ∧ R s e)) :
    ∀ (suf pre s : Runs) (env : SEnv), rs = pre ++ suf → s.length + suf.length ≤ 16000000 → R s env → ∃ e, forL f ((List.range' pre.length suf.length).map fun i => .int (i : Nat)) env = .nxt e ∧ R (addAll s ((suf.takeWhile p).map g)) e
  | [], pre, s, env, _, _, hR => ⟨env, rfl, hR⟩
  | r :: suf, pre, s, env, e0, hl, hR => by
    have hr : rs[pre.length]? = some r := by
      rw [e0, List.getElem?_append_right (Nat.le_refl _), Nat.sub_self]
      rfl
    simp only [List.length_cons] at hl
    obtain ⟨h1, h2⟩ := h pre.length r s env hr (by omega) hR
    rw [List.length_cons, List.range'_succ, List.map_cons, List.takeWhile_cons]
    cases hp : p r with
    | true =>
      obtain ⟨e, he, hR'⟩ := h1 hp
      have := addRun_len s (g r).1 (g r).2
      obtain ⟨e', q1, q2⟩ := forL_suf g p h suf (pre ++ [r]) (addRun s (g r).1 (g r).2) e (by rw [e0, List.append_assoc]; rfl) (by omega) hR'
      rw [List.length_append] at q1
      refine ⟨e', ?_, q2⟩
      unfold forL
      rw [he]
      exact q1
    | false =>
      obtain ⟨e, he, hR'⟩ := h2 hp
      refine ⟨e, ?_, hR'⟩
      unfold forL
      rw [he]
theorem rgD_from (k n : Nat) : rgD (k : Nat) n = (List.range' k n).map fun i => .int (i : Nat) := by
  unfold rgD
  rw [List.range'_eq_map_range, List.map_map]
  refine List.map_congr_left fun i _ => ?_
  show PyData.int ((k : Int) + (i : Nat)) = PyData.int ((k + i : Nat) : Int)
  rw [Int.natCast_add]
theorem i_r2 {Φ : Fns} {a b : IE} {env e1 e2 : SEnv} {i j : Nat} (h1 : evE Φ a env = .ok (.now (.int (i : Nat))) e1) (h2 : evE Φ b e1 = .ok (.now (.int (j : Nat))) e2) (hi : i ≤ 1000000000) (hj : j ≤ 1000000000) (hij : i ≤ j) : evI Φ (.r2 a b) env = .ok ((List.range' i (j - i)).map fun i => .int (i : Nat)) e2 := by
  have ri : rOk (i : Int) = true := by
    unfold rOk inB
    exact Nat.ble_eq_true_of_le (Nat.le_trans hi (by decide))
  have rj : rOk (j : Int) = true := by
    unfold rOk inB
    exact Nat.ble_eq_true_of_le (Nat.le_trans hj (by decide))
  simp only [evI, h1, Rs.bind, h2, look]
  rw [ri, rj, if_pos (by rfl)]
  rw [show ((j : Int) - (i : Int)).toNat = j - i from by omega, rgD_from]
end PyV

set_option Elab.async false
set_option linter.all false
set_option maxRecDepth 100000
set_option maxHeartbeats 0
namespace K03
open PySem PyE
set_option linter.all false
def c_ALWAYS : D := (.tuple [(.tuple []), (.int 0), (.int 1), (.tuple [(.tuple [(.int 0), (.int 1)])])])
def c_DEEPEST : D := (.int 40)
def c_EMPTY : D := (.tuple [(.tuple []), (.int 0), (.int 1), (.tuple [])])
def c_FAR : D := (.int 1000000000000)
def c_LONGEST_HEAD : D := (.int 1000000)
def c_MOST : D := (.int 1000000000)
def c_MOST_PARTS : D := (.int 20000)
def c_MOST_PIECES : D := (.int 20000)
def c_MOST_START : D := (.int 1000000)
def c_NONE : D := (.tuple [(.tuple []), (.int 0), (.int 1), (.tuple [])])
def c_WHOLE : D := (.int 60480)
def c_YEAR : D := (.int 8640)
def N_ends_by : List Str := ["runs", "hour", "low", "high", "middle"]
def b_ends_by : ISs := (.cons (.par [2, 3] (.cons (.k (.int 0)) (.cons (.bf .len (.cons (.v 0) .nil)) .nil))) (.cons (.whl (.cmp .Lt (.v 2) (.v 3)) (.cons (.asg 4 (.bin .FloorDiv (.bin .Add (.v 2) (.v 3)) (.k (.int 2)))) (.cons (.ite (.cmp .LtE (.ix (.ix (.v 0) (.v 4)) (.k (.int 1))) (.v 1)) (.cons (.asg 2 (.bin .Add (.v 4) (.k (.int 1)))) .nil) (.cons (.asg 3 (.v 4)) .nil)) .nil))) (.cons (.ret (.v 2)) .nil)))
def d_ends_by : Df := { name := "ends_by", N := N_ends_by, ar := 2, fuel := 1000000000, body := b_ends_by }

def N_in_runs : List Str := ["runs", "hour", "at"]
def b_in_runs : ISs := (.cons (.asg 2 (.call "ends_by" (.cons (.v 0) (.cons (.v 1) .nil)))) (.cons (.ret (.and (.cmp .Lt (.v 2) (.bf .len (.cons (.v 0) .nil))) (.cmp .LtE (.ix (.ix (.v 0) (.v 2)) (.k (.int 0))) (.v 1)))) .nil))
def d_in_runs : Df := { name := "in_runs", N := N_in_runs, ar := 2, fuel := 100, body := b_in_runs }

def N_has : List Str := ["one", "hour", "head", "start", "period", "pieces"]
def b_has : ISs := (.cons (.asgT [2, 3, 4, 5] (.v 0)) (.cons (.ite (.cmp .Lt (.v 1) (.v 3)) (.cons (.ret (.call "in_runs" (.cons (.v 2) (.cons (.v 1) .nil)))) .nil) .nil) (.cons (.ret (.call "in_runs" (.cons (.v 5) (.cons (.bin .Mod (.bin .Sub (.v 1) (.v 3)) (.v 4)) .nil)))) .nil)))
def d_has : Df := { name := "has", N := N_has, ar := 2, fuel := 100, body := b_has }

def N_is_empty : List Str := ["one"]
def b_is_empty : ISs := (.cons (.ret (.and (.cmp .Eq (.bf .len (.cons (.ix (.v 0) (.k (.int 0))) .nil)) (.k (.int 0))) (.cmp .Eq (.bf .len (.cons (.ix (.v 0) (.k (.int 3))) .nil)) (.k (.int 0))))) .nil)
def d_is_empty : Df := { name := "is_empty", N := N_is_empty, ar := 1, fuel := 100, body := b_is_empty }

def N_is_full : List Str := ["pieces", "period"]
def b_is_full : ISs := (.cons (.ret (.and (.cmp .Eq (.bf .len (.cons (.v 0) .nil)) (.k (.int 1))) (.and (.cmp .Eq (.ix (.ix (.v 0) (.k (.int 0))) (.k (.int 0))) (.k (.int 0))) (.cmp .Eq (.ix (.ix (.v 0) (.k (.int 0))) (.k (.int 1))) (.v 1))))) .nil)
def d_is_full : Df := { name := "is_full", N := N_is_full, ar := 2, fuel := 100, body := b_is_full }

def N_add_run : List Str := ["runs", "begin", "end"]
def b_add_run : ISs := (.cons (.ite (.cmp .GtE (.v 1) (.v 2)) (.cons (.retN) .nil) .nil) (.cons (.ite (.and (.v 0) (.cmp .GtE (.ix (.ix (.v 0) (.neg (.k (.int 1)))) (.k (.int 1))) (.v 1))) (.cons (.ite (.cmp .Gt (.v 2) (.ix (.ix (.v 0) (.neg (.k (.int 1)))) (.k (.int 1)))) (.cons (.set 0 (.neg (.k (.int 1))) (.tup (.cons (.ix (.ix (.v 0) (.neg (.k (.int 1)))) (.k (.int 0))) (.cons (.v 2) .nil)))) .nil) .nil) .nil) (.cons (.app 0 (.tup (.cons (.v 1) (.cons (.v 2) .nil)))) .nil)) .nil))
def d_add_run : Df := { name := "add_run", N := N_add_run, ar := 3, fuel := 100, body := b_add_run, bor := true }

def N_runs_of : List Str := ["one", "begin", "end", "head", "start", "period", "pieces", "told", "at", "base"]
def b_runs_of : ISs := (.cons (.asgT [3, 4, 5, 6] (.v 0)) (.cons (.asg 7 (.lst .nil)) (.cons (.for_ (.one 8) (.r2 (.call "ends_by" (.cons (.v 3) (.cons (.v 1) .nil))) (.bf .len (.cons (.v 3) .nil))) (.cons (.ite (.cmp .GtE (.ix (.ix (.v 3) (.v 8)) (.k (.int 0))) (.v 2)) (.cons (.brk) .nil) .nil) (.cons (.ex (.callb "add_run" 7 (.cons (.bf .max (.cons (.v 1) (.cons (.ix (.ix (.v 3) (.v 8)) (.k (.int 0))) .nil))) (.cons (.bf .min (.cons (.v 2) (.cons (.ix (.ix (.v 3) (.v 8)) (.k (.int 1))) .nil))) .nil)))) .nil))) (.cons (.ite (.nt (.v 6)) (.cons (.ret (.v 7)) .nil) .nil) (.cons (.ite (.call "is_full" (.cons (.v 6) (.cons (.v 5) .nil))) (.cons (.ex (.callb "add_run" 7 (.cons (.bf .max (.cons (.v 1) (.cons (.v 4) .nil))) (.cons (.v 2) .nil)))) (.cons (.ret (.v 7)) .nil)) .nil) (.cons (.asg 9 (.bin .Add (.v 4) (.bin .Mult (.bf .max (.cons (.k (.int 0)) (.cons (.bin .FloorDiv (.bin .Sub (.v 1) (.v 4)) (.v 5)) .nil))) (.v 5)))) (.cons (.whl (.cmp .Lt (.v 9) (.v 2)) (.cons (.for_ (.one 8) (.r2 (.call "ends_by" (.cons (.v 6) (.cons (.bin .Sub (.v 1) (.v 9)) .nil))) (.bf .len (.cons (.v 6) .nil))) (.cons (.ite (.cmp .GtE (.bin .Add (.v 9) (.ix (.ix (.v 6) (.v 8)) (.k (.int 0)))) (.v 2)) (.cons (.brk) .nil) .nil) (.cons (.ex (.callb "add_run" 7 (.cons (.bf .max (.cons (.v 1) (.cons (.bin .Add (.v 9) (.ix (.ix (.v 6) (.v 8)) (.k (.int 0)))) .nil))) (.cons (.bf .min (.cons (.v 2) (.cons (.bin .Add (.v 9) (.ix (.ix (.v 6) (.v 8)) (.k (.int 1)))) .nil))) .nil)))) .nil))) (.cons (.aug 9 .Add (.v 5)) .nil))) (.cons (.ret (.v 7)) .nil))))))))
def d_runs_of : Df := { name := "runs_of", N := N_runs_of, ar := 3, fuel := 1000000000, body := b_runs_of }

def N_built : List Str := ["runs", "start", "period", "head", "pieces", "begin", "end"]
def b_built : ISs := (.cons (.asg 3 (.lst .nil)) (.cons (.asg 4 (.lst .nil)) (.cons (.for_ (.many [5, 6]) (.seq (.v 0)) (.cons (.ex (.callb "add_run" 3 (.cons (.v 5) (.cons (.bf .min (.cons (.v 6) (.cons (.v 1) .nil))) .nil)))) (.cons (.ex (.callb "add_run" 4 (.cons (.bin .Sub (.bf .max (.cons (.v 5) (.cons (.v 1) .nil))) (.v 1)) (.cons (.bin .Sub (.bf .min (.cons (.v 6) (.cons (.bin .Add (.v 1) (.v 2)) .nil))) (.v 1)) .nil)))) .nil))) (.cons (.ret (.tup (.cons (.bf .tuple (.cons (.v 3) .nil)) (.cons (.v 1) (.cons (.v 2) (.cons (.bf .tuple (.cons (.v 4) .nil)) .nil)))))) .nil))))
def d_built : Df := { name := "built", N := N_built, ar := 3, fuel := 100, body := b_built }

def N_united : List Str := ["one", "other", "told", "at", "to"]
def b_united : ISs := (.cons (.asg 2 (.lst .nil)) (.cons (.asg2 3 4 (.k (.int 0))) (.cons (.whl (.or (.cmp .Lt (.v 3) (.bf .len (.cons (.v 0) .nil))) (.cmp .Lt (.v 4) (.bf .len (.cons (.v 1) .nil)))) (.cons (.ite (.or (.cmp .Eq (.v 4) (.bf .len (.cons (.v 1) .nil))) (.and (.cmp .Lt (.v 3) (.bf .len (.cons (.v 0) .nil))) (.cmp .LtE (.ix (.ix (.v 0) (.v 3)) (.k (.int 0))) (.ix (.ix (.v 1) (.v 4)) (.k (.int 0)))))) (.cons (.ex (.callb "add_run" 2 (.cons (.ix (.ix (.v 0) (.v 3)) (.k (.int 0))) (.cons (.ix (.ix (.v 0) (.v 3)) (.k (.int 1))) .nil)))) (.cons (.aug 3 .Add (.k (.int 1))) .nil)) (.cons (.ex (.callb "add_run" 2 (.cons (.ix (.ix (.v 1) (.v 4)) (.k (.int 0))) (.cons (.ix (.ix (.v 1) (.v 4)) (.k (.int 1))) .nil)))) (.cons (.aug 4 .Add (.k (.int 1))) .nil))) .nil)) (.cons (.ret (.v 2)) .nil))))
def d_united : Df := { name := "united", N := N_united, ar := 2, fuel := 1000000000, body := b_united }

def N_crossed : List Str := ["one", "other", "told", "at", "to"]
def b_crossed : ISs := (.cons (.asg 2 (.lst .nil)) (.cons (.asg2 3 4 (.k (.int 0))) (.cons (.whl (.and (.cmp .Lt (.v 3) (.bf .len (.cons (.v 0) .nil))) (.cmp .Lt (.v 4) (.bf .len (.cons (.v 1) .nil)))) (.cons (.ex (.callb "add_run" 2 (.cons (.bf .max (.cons (.ix (.ix (.v 0) (.v 3)) (.k (.int 0))) (.cons (.ix (.ix (.v 1) (.v 4)) (.k (.int 0))) .nil))) (.cons (.bf .min (.cons (.ix (.ix (.v 0) (.v 3)) (.k (.int 1))) (.cons (.ix (.ix (.v 1) (.v 4)) (.k (.int 1))) .nil))) .nil)))) (.cons (.ite (.cmp .LtE (.ix (.ix (.v 0) (.v 3)) (.k (.int 1))) (.ix (.ix (.v 1) (.v 4)) (.k (.int 1)))) (.cons (.aug 3 .Add (.k (.int 1))) .nil) (.cons (.aug 4 .Add (.k (.int 1))) .nil)) .nil))) (.cons (.ret (.v 2)) .nil))))
def d_crossed : Df := { name := "crossed", N := N_crossed, ar := 2, fuel := 1000000000, body := b_crossed }

def N_holes : List Str := ["runs", "end", "told", "free", "begin", "until"]
def b_holes : ISs := (.cons (.asg 2 (.lst .nil)) (.cons (.asg 3 (.k (.int 0))) (.cons (.for_ (.many [4, 5]) (.seq (.v 0)) (.cons (.ex (.callb "add_run" 2 (.cons (.v 3) (.cons (.v 4) .nil)))) (.cons (.asg 3 (.v 5)) .nil))) (.cons (.ex (.callb "add_run" 2 (.cons (.v 3) (.cons (.v 1) .nil)))) (.cons (.ret (.v 2)) .nil)))))
def d_holes : Df := { name := "holes", N := N_holes, ar := 2, fuel := 100, body := b_holes }

def N_joined : List Str := ["one", "other", "start", "period", "end"]
def b_joined : ISs := (.cons (.asg 2 (.bf .max (.cons (.ix (.v 0) (.k (.int 1))) (.cons (.ix (.v 1) (.k (.int 1))) .nil)))) (.cons (.asg 3 (.mth .lcm (.ix (.v 0) (.k (.int 2))) (.ix (.v 1) (.k (.int 2))))) (.cons (.asg 4 (.bin .Add (.v 2) (.v 3))) (.cons (.ret (.call "built" (.cons (.call "united" (.cons (.call "runs_of" (.cons (.v 0) (.cons (.k (.int 0)) (.cons (.v 4) .nil)))) (.cons (.call "runs_of" (.cons (.v 1) (.cons (.k (.int 0)) (.cons (.v 4) .nil)))) .nil))) (.cons (.v 2) (.cons (.v 3) .nil))))) .nil))))
def d_joined : Df := { name := "joined", N := N_joined, ar := 2, fuel := 100, body := b_joined }

def N_common : List Str := ["one", "other", "start", "period", "end"]
def b_common : ISs := (.cons (.asg 2 (.bf .max (.cons (.ix (.v 0) (.k (.int 1))) (.cons (.ix (.v 1) (.k (.int 1))) .nil)))) (.cons (.asg 3 (.mth .lcm (.ix (.v 0) (.k (.int 2))) (.ix (.v 1) (.k (.int 2))))) (.cons (.asg 4 (.bin .Add (.v 2) (.v 3))) (.cons (.ret (.call "built" (.cons (.call "crossed" (.cons (.call "runs_of" (.cons (.v 0) (.cons (.k (.int 0)) (.cons (.v 4) .nil)))) (.cons (.call "runs_of" (.cons (.v 1) (.cons (.k (.int 0)) (.cons (.v 4) .nil)))) .nil))) (.cons (.v 2) (.cons (.v 3) .nil))))) .nil))))
def d_common : Df := { name := "common", N := N_common, ar := 2, fuel := 100, body := b_common }

def N_rest : List Str := ["one", "end"]
def b_rest : ISs := (.cons (.asg 1 (.bin .Add (.ix (.v 0) (.k (.int 1))) (.ix (.v 0) (.k (.int 2))))) (.cons (.ret (.call "built" (.cons (.call "holes" (.cons (.call "runs_of" (.cons (.v 0) (.cons (.k (.int 0)) (.cons (.v 1) .nil)))) (.cons (.v 1) .nil))) (.cons (.ix (.v 0) (.k (.int 1))) (.cons (.ix (.v 0) (.k (.int 2))) .nil))))) .nil))
def d_rest : Df := { name := "rest", N := N_rest, ar := 1, fuel := 100, body := b_rest }

def N_minus : List Str := ["one", "other"]
def b_minus : ISs := (.cons (.ret (.call "common" (.cons (.v 0) (.cons (.call "rest" (.cons (.v 1) .nil)) .nil)))) .nil)
def d_minus : Df := { name := "minus", N := N_minus, ar := 2, fuel := 100, body := b_minus }

def N_repeats : List Str := ["marks", "step", "by", "at"]
def b_repeats : ISs := (.cons (.for_ (.one 3) (.r1 (.bin .Sub (.bf .len (.cons (.v 0) .nil)) (.v 1))) (.cons (.ite (.cmp .NotEq (.ix (.v 0) (.bin .Add (.v 3) (.v 1))) (.bin .Add (.ix (.v 0) (.v 3)) (.v 2))) (.cons (.ret (.k (.bool false))) .nil) .nil) .nil)) (.cons (.ret (.k (.bool true))) .nil))
def d_repeats : Df := { name := "repeats", N := N_repeats, ar := 3, fuel := 100, body := b_repeats }

def N_least_period : List Str := ["pieces", "period", "rises", "begin", "end", "falls", "parts", "step", "by"]
def b_least_period : ISs := (.cons (.ite (.or (.nt (.v 0)) (.call "is_full" (.cons (.v 0) (.cons (.v 1) .nil)))) (.cons (.ret (.k (.int 1))) .nil) .nil) (.cons (.asg 2 (.lc (.v 3) (.many [3, 4]) (.seq (.v 0)) .none [3, 4])) (.cons (.asg 5 (.lc (.v 4) (.many [3, 4]) (.seq (.v 0)) .none [3, 4])) (.cons (.ite (.cmp .Eq (.ix (.v 5) (.neg (.k (.int 1)))) (.v 1)) (.cons (.pop 5) (.cons (.ite (.cmp .Eq (.ix (.v 2) (.k (.int 0))) (.k (.int 0))) (.cons (.asg 2 (.sl (.v 2) (.some (.k (.int 1))) .none)) .nil) (.cons (.asg 5 (.bin .Add (.lst (.cons (.k (.int 0)) .nil)) (.v 5))) .nil)) .nil)) .nil) (.cons (.for_ (.one 6) (.r3 (.bf .len (.cons (.v 2) .nil)) (.k (.int 1)) (.neg (.k (.int 1)))) (.cons (.ite (.and (.cmp .Eq (.bin .Mod (.bf .len (.cons (.v 2) .nil)) (.v 6)) (.k (.int 0))) (.cmp .Eq (.bin .Mod (.v 1) (.v 6)) (.k (.int 0)))) (.cons (.asg 7 (.bin .FloorDiv (.bf .len (.cons (.v 2) .nil)) (.v 6))) (.cons (.asg 8 (.bin .FloorDiv (.v 1) (.v 6))) (.cons (.ite (.and (.call "repeats" (.cons (.v 2) (.cons (.v 7) (.cons (.v 8) .nil)))) (.call "repeats" (.cons (.v 5) (.cons (.v 7) (.cons (.v 8) .nil))))) (.cons (.ret (.v 8)) .nil) .nil) .nil))) .nil) .nil)) (.cons (.ret (.v 1)) .nil))))))
def d_least_period : Df := { name := "least_period", N := N_least_period, ar := 2, fuel := 100, body := b_least_period }

def N_least_start : List Str := ["head", "start", "period", "pieces", "hour", "at", "held", "low", "place", "to", "due", "floor"]
def b_least_start : ISs := (.cons (.asg 4 (.v 1)) (.cons (.asg 5 (.bin .Sub (.bf .len (.cons (.v 0) .nil)) (.k (.int 1)))) (.cons (.whl (.cmp .Gt (.v 4) (.k (.int 0))) (.cons (.whl (.and (.cmp .GtE (.v 5) (.k (.int 0))) (.cmp .GtE (.ix (.ix (.v 0) (.v 5)) (.k (.int 0))) (.v 4))) (.cons (.aug 5 .Sub (.k (.int 1))) .nil)) (.cons (.asg 6 (.and (.cmp .GtE (.v 5) (.k (.int 0))) (.cmp .GtE (.ix (.ix (.v 0) (.v 5)) (.k (.int 1))) (.v 4)))) (.cons (.asg 7 (.k (.int 0))) (.cons (.ite (.cmp .GtE (.v 5) (.k (.int 0))) (.cons (.asg 7 (.ife (.v 6) (.ix (.ix (.v 0) (.v 5)) (.k (.int 0))) (.ix (.ix (.v 0) (.v 5)) (.k (.int 1))))) .nil) .nil) (.cons (.asg 8 (.bin .Mod (.bin .Sub (.bin .Sub (.v 4) (.k (.int 1))) (.v 1)) (.v 2))) (.cons (.asg 9 (.call "ends_by" (.cons (.v 3) (.cons (.v 8) .nil)))) (.cons (.asg 10 (.and (.cmp .Lt (.v 9) (.bf .len (.cons (.v 3) .nil))) (.cmp .LtE (.ix (.ix (.v 3) (.v 9)) (.k (.int 0))) (.v 8)))) (.cons (.ite (.cmp .NotEq (.v 6) (.v 10)) (.cons (.ret (.v 4)) .nil) .nil) (.cons (.ite (.and (.v 3) (.nt (.call "is_full" (.cons (.v 3) (.cons (.v 2) .nil))))) (.cons (.asg 11 (.ife (.v 10) (.ix (.ix (.v 3) (.v 9)) (.k (.int 0))) (.k (.int 0)))) (.cons (.ite (.and (.nt (.v 10)) (.cmp .Gt (.v 9) (.k (.int 0)))) (.cons (.asg 11 (.ix (.ix (.v 3) (.bin .Sub (.v 9) (.k (.int 1)))) (.k (.int 1)))) .nil) .nil) (.cons (.asg 7 (.bf .max (.cons (.v 7) (.cons (.bin .Add (.bin .Sub (.bin .Sub (.v 4) (.k (.int 1))) (.v 8)) (.v 11)) .nil)))) .nil))) .nil) (.cons (.asg 4 (.v 7)) .nil))))))))))) (.cons (.ret (.k (.int 0))) .nil))))
def d_least_start : Df := { name := "least_start", N := N_least_start, ar := 4, fuel := 1000000000, body := b_least_start }

def N_reduced : List Str := ["one", "head", "start", "long", "parts", "period", "pieces", "begin", "end", "low"]
def b_reduced : ISs := (.cons (.asgT [1, 2, 3, 4] (.v 0)) (.cons (.asg 5 (.call "least_period" (.cons (.v 4) (.cons (.v 3) .nil)))) (.cons (.asg 6 (.bf .tuple (.cons (.lc (.tup (.cons (.v 7) (.cons (.bf .min (.cons (.v 8) (.cons (.v 5) .nil))) .nil))) (.many [7, 8]) (.seq (.v 4)) (.some (.cmp .Lt (.v 7) (.v 5))) [7, 8]) .nil))) (.cons (.asg 9 (.call "least_start" (.cons (.v 1) (.cons (.v 2) (.cons (.v 5) (.cons (.v 6) .nil)))))) (.cons (.ite (.cmp .Eq (.v 9) (.v 2)) (.cons (.ret (.tup (.cons (.v 1) (.cons (.v 2) (.cons (.v 5) (.cons (.v 6) .nil)))))) .nil) .nil) (.cons (.ret (.call "built" (.cons (.call "runs_of" (.cons (.tup (.cons (.v 1) (.cons (.v 2) (.cons (.v 5) (.cons (.v 6) .nil))))) (.cons (.k (.int 0)) (.cons (.bin .Add (.v 9) (.v 5)) .nil)))) (.cons (.v 9) (.cons (.v 5) .nil))))) .nil))))))
def d_reduced : Df := { name := "reduced", N := N_reduced, ar := 1, fuel := 100, body := b_reduced }

def N_tell : List Str := ["one", "told"]
def b_tell : ISs := (.cons (.asg 1 (.call "reduced" (.cons (.v 0) .nil))) (.cons (.ite (.or (.cmp .Gt (.ix (.v 1) (.k (.int 1))) (.g "MOST_START" c_MOST_START)) (.cmp .Gt (.bin .Add (.bf .len (.cons (.ix (.v 1) (.k (.int 0))) .nil)) (.bf .len (.cons (.ix (.v 1) (.k (.int 3))) .nil))) (.g "MOST_PIECES" c_MOST_PIECES))) (.cons (.raise0) .nil) .nil) (.cons (.ret (.v 1)) .nil)))
def d_tell : Df := { name := "tell", N := N_tell, ar := 1, fuel := 100, body := b_tell }

def N_too_deep : List Str := ["value", "left", "part"]
def b_too_deep : ISs := (.cons (.ite (.nt (.isi (.v 0) [.list, .tuple] true)) (.cons (.ret (.k (.bool false))) .nil) .nil) (.cons (.ite (.cmp .Eq (.v 1) (.k (.int 0))) (.cons (.ret (.k (.bool true))) .nil) .nil) (.cons (.for_ (.one 2) (.seq (.v 0)) (.cons (.ite (.call "too_deep" (.cons (.v 2) (.cons (.bin .Sub (.v 1) (.k (.int 1))) .nil))) (.cons (.ret (.k (.bool true))) .nil) .nil) .nil)) (.cons (.ret (.k (.bool false))) .nil))))
def d_too_deep : Df := { name := "too_deep", N := N_too_deep, ar := 2, fuel := 100, body := b_too_deep }

def N_as_tuples : List Str := ["value", "part"]
def b_as_tuples : ISs := (.cons (.ite (.nt (.isi (.v 0) [.list, .tuple] true)) (.cons (.ret (.v 0)) .nil) .nil) (.cons (.ret (.bf .tuple (.cons (.lc (.call "as_tuples" (.cons (.v 1) .nil)) (.one 1) (.seq (.v 0)) .none [1]) .nil))) .nil))
def d_as_tuples : Df := { name := "as_tuples", N := N_as_tuples, ar := 1, fuel := 100, body := b_as_tuples }

def N_plain : List Str := ["value"]
def b_plain : ISs := (.cons (.ite (.call "too_deep" (.cons (.v 0) (.cons (.g "DEEPEST" c_DEEPEST) .nil))) (.cons (.ret (.k .none)) .nil) .nil) (.cons (.ret (.call "as_tuples" (.cons (.v 0) .nil))) .nil))
def d_plain : Df := { name := "plain", N := N_plain, ar := 1, fuel := 100, body := b_plain }

def N_is_int : List Str := ["value"]
def b_is_int : ISs := (.cons (.ret (.and (.isi (.v 0) [.int] false) (.nt (.isi (.v 0) [.bool] false)))) .nil)
def d_is_int : Df := { name := "is_int", N := N_is_int, ar := 1, fuel := 100, body := b_is_int }

def N_in_range : List Str := ["value", "low", "high"]
def b_in_range : ISs := (.cons (.ret (.and (.call "is_int" (.cons (.v 0) .nil)) (.and (.cmp .LtE (.v 1) (.v 0)) (.or (.cmp .Is (.v 2) (.k .none)) (.cmp .LtE (.v 0) (.v 2)))))) .nil)
def d_in_range : Df := { name := "in_range", N := N_in_range, ar := 3, fuel := 100, body := b_in_range }

def N_is_tuple : List Str := ["value", "long"]
def b_is_tuple : ISs := (.cons (.ret (.and (.isi (.v 0) [.tuple] false) (.or (.cmp .Is (.v 1) (.k .none)) (.cmp .Eq (.bf .len (.cons (.v 0) .nil)) (.v 1))))) .nil)
def d_is_tuple : Df := { name := "is_tuple", N := N_is_tuple, ar := 2, fuel := 100, body := b_is_tuple }

def N_need : List Str := ["good", "at"]
def b_need : ISs := (.cons (.ite (.nt (.v 0)) (.cons (.raise "BadValue" (.v 1)) .nil) .nil) .nil)
def d_need : Df := { name := "need", N := N_need, ar := 2, fuel := 100, body := b_need }

def N_clock_form : List Str := ["value", "turn"]
def b_clock_form : ISs := (.cons (.ite (.or (.nt (.call "is_tuple" (.cons (.v 0) (.cons (.k (.int 2)) .nil)))) (.nt (.call "in_range" (.cons (.ix (.v 0) (.k (.int 0))) (.cons (.neg (.k (.int 12))) (.cons (.k (.int 14)) .nil)))))) (.cons (.ret (.k (.bool false))) .nil) .nil) (.cons (.asg 1 (.ix (.v 0) (.k (.int 1)))) (.cons (.ite (.cmp .Is (.v 1) (.k .none)) (.cons (.ret (.k (.bool true))) .nil) .nil) (.cons (.ite (.or (.nt (.call "is_tuple" (.cons (.v 1) (.cons (.k (.int 2)) .nil)))) (.nt (.call "in_range" (.cons (.ix (.v 1) (.k (.int 0))) (.cons (.k (.int 1)) (.cons (.bin .Sub (.g "YEAR" c_YEAR) (.k (.int 1))) .nil)))))) (.cons (.ret (.k (.bool false))) .nil) .nil) (.cons (.ret (.call "in_range" (.cons (.ix (.v 1) (.k (.int 1))) (.cons (.bin .Add (.ix (.v 1) (.k (.int 0))) (.k (.int 1))) (.cons (.bin .Sub (.g "YEAR" c_YEAR) (.k (.int 1))) .nil))))) .nil)))))
def d_clock_form : Df := { name := "clock_form", N := N_clock_form, ar := 1, fuel := 100, body := b_clock_form }

def N_is_clock : List Str := ["value"]
def b_is_clock : ISs := (.cons (.ret (.call "clock_form" (.cons (.call "plain" (.cons (.v 0) .nil)) .nil))) .nil)
def d_is_clock : Df := { name := "is_clock", N := N_is_clock, ar := 1, fuel := 100, body := b_is_clock }

def N_shown_at : List Str := ["clock", "hour", "ahead", "turn"]
def b_shown_at : ISs := (.cons (.asgT [2, 3] (.v 0)) (.cons (.ite (.and (.cmp .IsNot (.v 3) (.k .none)) (.cmp2 .LtE .Lt (.ix (.v 3) (.k (.int 0))) (.bin .Mod (.v 1) (.g "YEAR" c_YEAR)) (.ix (.v 3) (.k (.int 1))))) (.cons (.ret (.bin .Add (.bin .Add (.v 1) (.v 2)) (.k (.int 1)))) .nil) .nil) (.cons (.ret (.bin .Add (.v 1) (.v 2))) .nil)))
def d_shown_at : Df := { name := "shown_at", N := N_shown_at, ar := 2, fuel := 100, body := b_shown_at }

def N_reached_by : List Str := ["clock", "sight", "hour"]
def b_reached_by : ISs := (.cons (.asg 2 (.bf .max (.cons (.k (.int 0)) (.cons (.bin .Sub (.bin .Sub (.v 1) (.ix (.v 0) (.k (.int 0)))) (.k (.int 1))) .nil)))) (.cons (.ite (.cmp .GtE (.call "shown_at" (.cons (.v 0) (.cons (.v 2) .nil))) (.v 1)) (.cons (.ret (.v 2)) .nil) .nil) (.cons (.ret (.bin .Add (.v 2) (.k (.int 1)))) .nil)))
def d_reached_by : Df := { name := "reached_by", N := N_reached_by, ar := 2, fuel := 100, body := b_reached_by }

def N_shows : List Str := ["clock", "hour"]
def b_shows : ISs := (.cons (.asg 0 (.call "plain" (.cons (.v 0) .nil))) (.cons (.ex (.call "need" (.cons (.call "clock_form" (.cons (.v 0) .nil)) (.cons (.k (.int 1)) .nil)))) (.cons (.ex (.call "need" (.cons (.call "in_range" (.cons (.v 1) (.cons (.k (.int 0)) (.cons (.g "MOST" c_MOST) .nil)))) (.cons (.k (.int 2)) .nil)))) (.cons (.ret (.call "shown_at" (.cons (.v 0) (.cons (.v 1) .nil)))) .nil))))
def d_shows : Df := { name := "shows", N := N_shows, ar := 2, fuel := 100, body := b_shows }

def N_hours_at : List Str := ["clock", "shown", "latest", "hour"]
def b_hours_at : ISs := (.cons (.asg 0 (.call "plain" (.cons (.v 0) .nil))) (.cons (.ex (.call "need" (.cons (.call "clock_form" (.cons (.v 0) .nil)) (.cons (.k (.int 1)) .nil)))) (.cons (.ex (.call "need" (.cons (.call "in_range" (.cons (.v 1) (.cons (.neg (.k (.int 100))) (.cons (.g "MOST" c_MOST) .nil)))) (.cons (.k (.int 2)) .nil)))) (.cons (.asg 2 (.bin .Sub (.v 1) (.ix (.v 0) (.k (.int 0))))) (.cons (.ret (.bf .tuple (.cons (.lc (.v 3) (.one 3) (.seq (.tup (.cons (.bin .Sub (.v 2) (.k (.int 1))) (.cons (.v 2) .nil)))) (.some (.and (.cmp .GtE (.v 3) (.k (.int 0))) (.cmp .Eq (.call "shown_at" (.cons (.v 0) (.cons (.v 3) .nil))) (.v 1)))) [3]) .nil))) .nil)))))
def d_hours_at : Df := { name := "hours_at", N := N_hours_at, ar := 2, fuel := 100, body := b_hours_at }

def N_reached : List Str := ["clock", "shown"]
def b_reached : ISs := (.cons (.asg 0 (.call "plain" (.cons (.v 0) .nil))) (.cons (.ex (.call "need" (.cons (.call "clock_form" (.cons (.v 0) .nil)) (.cons (.k (.int 1)) .nil)))) (.cons (.ex (.call "need" (.cons (.call "in_range" (.cons (.v 1) (.cons (.neg (.k (.int 100))) (.cons (.g "MOST" c_MOST) .nil)))) (.cons (.k (.int 2)) .nil)))) (.cons (.ret (.call "reached_by" (.cons (.v 0) (.cons (.v 1) .nil)))) .nil))))
def d_reached : Df := { name := "reached", N := N_reached, ar := 2, fuel := 100, body := b_reached }

def N_yearly : List Str := ["begin", "end"]
def b_yearly : ISs := (.cons (.ret (.tup (.cons (.tup .nil) (.cons (.k (.int 0)) (.cons (.g "YEAR" c_YEAR) (.cons (.tup (.cons (.tup (.cons (.v 0) (.cons (.v 1) .nil))) .nil)) .nil)))))) .nil)
def d_yearly : Df := { name := "yearly", N := N_yearly, ar := 2, fuel := 100, body := b_yearly }

def N_put_on_hours : List Str := ["clock"]
def b_put_on_hours : ISs := (.cons (.ite (.cmp .Is (.ix (.v 0) (.k (.int 1))) (.k .none)) (.cons (.ret (.g "NONE" c_NONE)) .nil) .nil) (.cons (.ret (.call "yearly" (.cons (.ix (.ix (.v 0) (.k (.int 1))) (.k (.int 0))) (.cons (.ix (.ix (.v 0) (.k (.int 1))) (.k (.int 1))) .nil)))) .nil))
def d_put_on_hours : Df := { name := "put_on_hours", N := N_put_on_hours, ar := 1, fuel := 100, body := b_put_on_hours }

def N_never : List Str := ["clock"]
def b_never : ISs := (.cons (.asg 0 (.call "plain" (.cons (.v 0) .nil))) (.cons (.ex (.call "need" (.cons (.call "clock_form" (.cons (.v 0) .nil)) (.cons (.k (.int 1)) .nil)))) (.cons (.ite (.cmp .Is (.ix (.v 0) (.k (.int 1))) (.k .none)) (.cons (.ret (.call "tell" (.cons (.g "NONE" c_NONE) .nil))) .nil) .nil) (.cons (.ret (.call "tell" (.cons (.call "yearly" (.cons (.ix (.ix (.v 0) (.k (.int 1))) (.k (.int 0))) (.cons (.bin .Add (.ix (.ix (.v 0) (.k (.int 1))) (.k (.int 0))) (.k (.int 1))) .nil))) .nil))) .nil))))
def d_never : Df := { name := "never", N := N_never, ar := 1, fuel := 100, body := b_never }

def N_twice : List Str := ["clock"]
def b_twice : ISs := (.cons (.asg 0 (.call "plain" (.cons (.v 0) .nil))) (.cons (.ex (.call "need" (.cons (.call "clock_form" (.cons (.v 0) .nil)) (.cons (.k (.int 1)) .nil)))) (.cons (.ite (.cmp .Is (.ix (.v 0) (.k (.int 1))) (.k .none)) (.cons (.ret (.call "tell" (.cons (.g "NONE" c_NONE) .nil))) .nil) .nil) (.cons (.ret (.call "tell" (.cons (.call "yearly" (.cons (.bin .Sub (.ix (.ix (.v 0) (.k (.int 1))) (.k (.int 1))) (.k (.int 1))) (.cons (.bin .Add (.ix (.ix (.v 0) (.k (.int 1))) (.k (.int 1))) (.k (.int 1))) .nil))) .nil))) .nil))))
def d_twice : Df := { name := "twice", N := N_twice, ar := 1, fuel := 100, body := b_twice }

def N_apart : List Str := ["one", "other", "base", "on_one", "on_other", "less", "more", "rows", "gap", "hours"]
def b_apart : ISs := (.cons (.par [0, 1] (.cons (.call "plain" (.cons (.v 0) .nil)) (.cons (.call "plain" (.cons (.v 1) .nil)) .nil))) (.cons (.ex (.call "need" (.cons (.call "clock_form" (.cons (.v 0) .nil)) (.cons (.k (.int 1)) .nil)))) (.cons (.ex (.call "need" (.cons (.call "clock_form" (.cons (.v 1) .nil)) (.cons (.k (.int 2)) .nil)))) (.cons (.asg 2 (.bin .Sub (.ix (.v 1) (.k (.int 0))) (.ix (.v 0) (.k (.int 0))))) (.cons (.par [3, 4] (.cons (.call "put_on_hours" (.cons (.v 0) .nil)) (.cons (.call "put_on_hours" (.cons (.v 1) .nil)) .nil))) (.cons (.par [5, 6] (.cons (.call "minus" (.cons (.v 3) (.cons (.v 4) .nil))) (.cons (.call "minus" (.cons (.v 4) (.cons (.v 3) .nil))) .nil))) (.cons (.asg 7 (.tup (.cons (.tup (.cons (.bin .Sub (.v 2) (.k (.int 1))) (.cons (.v 5) .nil))) (.cons (.tup (.cons (.v 2) (.cons (.call "rest" (.cons (.call "joined" (.cons (.v 5) (.cons (.v 6) .nil))) .nil)) .nil))) (.cons (.tup (.cons (.bin .Add (.v 2) (.k (.int 1))) (.cons (.v 6) .nil))) .nil))))) (.cons (.ret (.bf .tuple (.cons (.lc (.tup (.cons (.v 8) (.cons (.call "tell" (.cons (.v 9) .nil)) .nil))) (.many [8, 9]) (.seq (.v 7)) (.some (.nt (.call "is_empty" (.cons (.v 9) .nil)))) [8, 9]) .nil))) .nil))))))))
def d_apart : Df := { name := "apart", N := N_apart, ar := 2, fuel := 100, body := b_apart }

def N_pieces_form : List Str := ["value", "high", "free", "piece"]
def b_pieces_form : ISs := (.cons (.ite (.nt (.call "is_tuple" (.cons (.v 0) (.cons (.k .none) .nil)))) (.cons (.ret (.k (.bool false))) .nil) .nil) (.cons (.asg 2 (.neg (.k (.int 1)))) (.cons (.for_ (.one 3) (.seq (.v 0)) (.cons (.ite (.or (.nt (.call "is_tuple" (.cons (.v 3) (.cons (.k (.int 2)) .nil)))) (.or (.nt (.call "is_int" (.cons (.ix (.v 3) (.k (.int 0))) .nil))) (.nt (.call "is_int" (.cons (.ix (.v 3) (.k (.int 1))) .nil))))) (.cons (.ret (.k (.bool false))) .nil) .nil) (.cons (.ite (.nt (.cmp2 .Lt .Lt (.v 2) (.ix (.v 3) (.k (.int 0))) (.ix (.v 3) (.k (.int 1))))) (.cons (.ret (.k (.bool false))) .nil) .nil) (.cons (.asg 2 (.ix (.v 3) (.k (.int 1)))) .nil)))) (.cons (.ret (.cmp .LtE (.v 2) (.v 1))) .nil))))
def d_pieces_form : Df := { name := "pieces_form", N := N_pieces_form, ar := 2, fuel := 100, body := b_pieces_form }

def N_times_form : List Str := ["value"]
def b_times_form : ISs := (.cons (.ite (.or (.nt (.call "is_tuple" (.cons (.v 0) (.cons (.k (.int 4)) .nil)))) (.nt (.call "in_range" (.cons (.ix (.v 0) (.k (.int 1))) (.cons (.k (.int 0)) (.cons (.g "LONGEST_HEAD" c_LONGEST_HEAD) .nil)))))) (.cons (.ret (.k (.bool false))) .nil) .nil) (.cons (.ite (.or (.nt (.call "in_range" (.cons (.ix (.v 0) (.k (.int 2))) (.cons (.k (.int 1)) (.cons (.g "WHOLE" c_WHOLE) .nil))))) (.cmp .NotEq (.bin .Mod (.g "WHOLE" c_WHOLE) (.ix (.v 0) (.k (.int 2)))) (.k (.int 0)))) (.cons (.ret (.k (.bool false))) .nil) .nil) (.cons (.ite (.or (.nt (.call "pieces_form" (.cons (.ix (.v 0) (.k (.int 0))) (.cons (.ix (.v 0) (.k (.int 1))) .nil)))) (.nt (.call "pieces_form" (.cons (.ix (.v 0) (.k (.int 3))) (.cons (.ix (.v 0) (.k (.int 2))) .nil))))) (.cons (.ret (.k (.bool false))) .nil) .nil) (.cons (.ret (.cmp .LtE (.bin .Add (.bf .len (.cons (.ix (.v 0) (.k (.int 0))) .nil)) (.bf .len (.cons (.ix (.v 0) (.k (.int 3))) .nil))) (.g "MOST_PARTS" c_MOST_PARTS))) .nil))))
def d_times_form : Df := { name := "times_form", N := N_times_form, ar := 1, fuel := 100, body := b_times_form }

def N_checked : List Str := ["value", "at", "told"]
def b_checked : ISs := (.cons (.asg 2 (.call "plain" (.cons (.v 0) .nil))) (.cons (.ex (.call "need" (.cons (.call "times_form" (.cons (.v 2) .nil)) (.cons (.v 1) .nil)))) (.cons (.ret (.v 2)) .nil)))
def d_checked : Df := { name := "checked", N := N_checked, ar := 2, fuel := 100, body := b_checked }

def N_two_checked : List Str := ["one", "other"]
def b_two_checked : ISs := (.cons (.ret (.tup (.cons (.call "checked" (.cons (.v 0) (.cons (.k (.int 1)) .nil))) (.cons (.call "checked" (.cons (.v 1) (.cons (.k (.int 2)) .nil))) .nil)))) .nil)
def d_two_checked : Df := { name := "two_checked", N := N_two_checked, ar := 2, fuel := 100, body := b_two_checked }

def N_among : List Str := ["times", "hour", "told"]
def b_among : ISs := (.cons (.asg 2 (.call "checked" (.cons (.v 0) (.cons (.k (.int 1)) .nil)))) (.cons (.ex (.call "need" (.cons (.call "in_range" (.cons (.v 1) (.cons (.k (.int 0)) (.cons (.g "FAR" c_FAR) .nil)))) (.cons (.k (.int 2)) .nil)))) (.cons (.ret (.call "has" (.cons (.v 2) (.cons (.v 1) .nil)))) .nil)))
def d_among : Df := { name := "among", N := N_among, ar := 2, fuel := 100, body := b_among }

def N_either : List Str := ["one", "other", "left", "right"]
def b_either : ISs := (.cons (.asgT [2, 3] (.call "two_checked" (.cons (.v 0) (.cons (.v 1) .nil)))) (.cons (.ret (.call "tell" (.cons (.call "joined" (.cons (.v 2) (.cons (.v 3) .nil))) .nil))) .nil))
def d_either : Df := { name := "either", N := N_either, ar := 2, fuel := 100, body := b_either }

def N_both : List Str := ["one", "other", "left", "right"]
def b_both : ISs := (.cons (.asgT [2, 3] (.call "two_checked" (.cons (.v 0) (.cons (.v 1) .nil)))) (.cons (.ret (.call "tell" (.cons (.call "common" (.cons (.v 2) (.cons (.v 3) .nil))) .nil))) .nil))
def d_both : Df := { name := "both", N := N_both, ar := 2, fuel := 100, body := b_both }

def N__law_numbers : List Str := ["script", "place", "many", "cell", "numbers", "rest_o", "k", "mixed"]
def b__law_numbers : ISs := (.cons (.asg 3 (.ife (.cmp .Lt (.v 1) (.bf .len (.cons (.v 0) .nil))) (.ix (.v 0) (.v 1)) (.k (.int 0)))) (.cons (.asg 4 (.lst .nil)) (.cons (.asg 5 (.v 3)) (.cons (.for_ (.one 6) (.r1 (.v 2)) (.cons (.ite (.cmp .GtE (.v 3) (.bin .Pow (.k (.int 10)) (.k (.int 18)))) (.cons (.app 4 (.bin .Mod (.bf .int (.cons (.v 5) .nil)) (.bin .Pow (.k (.int 10)) (.k (.int 9))))) (.cons (.asg 5 (.bin .FloorDiv (.v 5) (.bin .Pow (.k (.int 10)) (.k (.int 9))))) .nil)) (.cons (.asg 7 (.bin .Mod (.bf .int (.cons (.bin .Add (.bin .Add (.bin .Mult (.v 3) (.k (.int 48271))) (.bin .Mult (.bin .Add (.v 6) (.k (.int 1))) (.k (.int 69621)))) (.v 1)) .nil)) (.k (.int 2147483647)))) (.cons (.app 4 (.bin .Mod (.bin .Mod (.bf .int (.cons (.bin .Add (.bin .Mult (.v 7) (.k (.int 16807))) (.bin .Mult (.bin .Add (.v 6) (.k (.int 3))) (.k (.int 40692)))) .nil)) (.k (.int 2147483399))) (.bin .Pow (.k (.int 10)) (.k (.int 9))))) .nil))) .nil)) (.cons (.ret (.v 4)) .nil)))))
def d__law_numbers : Df := { name := "_law_numbers", N := N__law_numbers, ar := 3, fuel := 100, body := b__law_numbers }

def N__law_draw : List Str := ["state", "many"]
def b__law_draw : ISs := (.cons (.set 0 (.k (.int 0)) (.bin .Mod (.bf .int (.cons (.bin .Add (.bin .Mult (.ix (.v 0) (.k (.int 0))) (.k (.int 48271))) (.k (.int 12345))) .nil)) (.k (.int 2147483647)))) (.cons (.ret (.bin .Mod (.bf .int (.cons (.bin .FloorDiv (.ix (.v 0) (.k (.int 0))) (.k (.int 11))) .nil)) (.v 1))) .nil))
def d__law_draw : Df := { name := "_law_draw", N := N__law_draw, ar := 2, fuel := 100, body := b__law_draw, bor := true }

def N__law_clock : List Str := ["state", "ahead", "first_o"]
def b__law_clock : ISs := (.cons (.asg 1 (.bin .Sub (.callb "_law_draw" 0 (.cons (.k (.int 27)) .nil)) (.k (.int 12)))) (.cons (.ite (.cmp .Eq (.callb "_law_draw" 0 (.cons (.k (.int 4)) .nil)) (.k (.int 0))) (.cons (.ret (.tup (.cons (.v 1) (.cons (.k .none) .nil)))) .nil) .nil) (.cons (.asg 2 (.bin .Add (.k (.int 1)) (.callb "_law_draw" 0 (.cons (.k (.int 8000)) .nil)))) (.cons (.ret (.tup (.cons (.v 1) (.cons (.tup (.cons (.v 2) (.cons (.bin .Add (.bin .Add (.v 2) (.k (.int 1))) (.callb "_law_draw" 0 (.cons (.bin .Sub (.k (.int 8639)) (.v 2)) .nil))) .nil))) .nil)))) .nil))))
def d__law_clock : Df := { name := "_law_clock", N := N__law_clock, ar := 1, fuel := 100, body := b__law_clock, bor := true }

def N__law_shows : List Str := ["clock", "hour", "on"]
def b__law_shows : ISs := (.cons (.asg 2 (.and (.cmp .IsNot (.ix (.v 0) (.k (.int 1))) (.k .none)) (.cmp2 .LtE .Lt (.ix (.ix (.v 0) (.k (.int 1))) (.k (.int 0))) (.bin .Mod (.v 1) (.k (.int 8640))) (.ix (.ix (.v 0) (.k (.int 1))) (.k (.int 1)))))) (.cons (.ret (.bin .Add (.bin .Add (.v 1) (.ix (.v 0) (.k (.int 0)))) (.ife (.v 2) (.k (.int 1)) (.k (.int 0))))) .nil))
def d__law_shows : Df := { name := "_law_shows", N := N__law_shows, ar := 2, fuel := 100, body := b__law_shows }

def N__law_about : List Str := ["clock", "hour", "told_o", "near", "other", "shown", "low", "due"]
def b__law_about : ISs := (.cons (.asg 2 (.call "_law_shows" (.cons (.v 0) (.cons (.v 1) .nil)))) (.cons (.asg 3 (.lc (.v 4) (.one 4) (.r2 (.bf .max (.cons (.k (.int 0)) (.cons (.bin .Sub (.v 1) (.k (.int 3))) .nil))) (.bin .Add (.v 1) (.k (.int 4)))) (.some (.cmp .Eq (.call "_law_shows" (.cons (.v 0) (.cons (.v 4) .nil))) (.v 2))) [4])) (.cons (.ite (.or (.cmp .NotEq (.call "shows" (.cons (.v 0) (.cons (.v 1) .nil))) (.v 2)) (.cmp .NotEq (.call "hours_at" (.cons (.v 0) (.cons (.v 2) .nil))) (.bf .tuple (.cons (.v 3) .nil)))) (.cons (.ret (.k (.bool false))) .nil) .nil) (.cons (.for_ (.one 5) (.seq (.tup (.cons (.bin .Sub (.v 2) (.k (.int 1))) (.cons (.v 2) (.cons (.bin .Add (.v 2) (.k (.int 1))) .nil))))) (.cons (.asg 6 (.bf .max (.cons (.k (.int 0)) (.cons (.bin .Sub (.bin .Sub (.v 5) (.ix (.v 0) (.k (.int 0)))) (.k (.int 4))) .nil)))) (.cons (.asg 7 (.lc (.v 4) (.one 4) (.r2 (.v 6) (.bin .Add (.v 6) (.k (.int 9)))) (.some (.cmp .GtE (.call "_law_shows" (.cons (.v 0) (.cons (.v 4) .nil))) (.v 5))) [4])) (.cons (.ite (.cmp .NotEq (.call "reached" (.cons (.v 0) (.cons (.v 5) .nil))) (.ix (.v 7) (.k (.int 0)))) (.cons (.ret (.k (.bool false))) .nil) .nil) .nil)))) (.cons (.ret (.k (.bool true))) .nil)))))
def d__law_about : Df := { name := "_law_about", N := N__law_about, ar := 2, fuel := 100, body := b__law_about }

def N__law_turns : List Str := ["clock", "first_o", "end"]
def b__law_turns : ISs := (.cons (.ite (.cmp .Is (.ix (.v 0) (.k (.int 1))) (.k .none)) (.cons (.ret (.and (.cmp .Eq (.call "never" (.cons (.v 0) .nil)) (.g "EMPTY" c_EMPTY)) (.cmp .Eq (.call "twice" (.cons (.v 0) .nil)) (.g "EMPTY" c_EMPTY)))) .nil) .nil) (.cons (.asgT [1, 2] (.ix (.v 0) (.k (.int 1)))) (.cons (.ret (.and (.cmp .Eq (.call "never" (.cons (.v 0) .nil)) (.tup (.cons (.tup .nil) (.cons (.k (.int 0)) (.cons (.k (.int 8640)) (.cons (.tup (.cons (.tup (.cons (.v 1) (.cons (.bin .Add (.v 1) (.k (.int 1))) .nil))) .nil)) .nil)))))) (.cmp .Eq (.call "twice" (.cons (.v 0) .nil)) (.tup (.cons (.tup .nil) (.cons (.k (.int 0)) (.cons (.k (.int 8640)) (.cons (.tup (.cons (.tup (.cons (.bin .Sub (.v 2) (.k (.int 1))) (.cons (.bin .Add (.v 2) (.k (.int 1))) .nil))) .nil)) .nil)))))))) .nil)))
def d__law_turns : Df := { name := "_law_turns", N := N__law_turns, ar := 1, fuel := 100, body := b__law_turns }

def N_law : List Str := ["script", "run", "state", "one", "other", "about", "hour", "together", "clock", "difference", "times", "rows", "row"]
def b_law : ISs := (.cons (.for_ (.one 1) (.r1 (.k (.int 8))) (.cons (.asg 2 (.lst (.cons (.ix (.call "_law_numbers" (.cons (.v 0) (.cons (.v 1) (.cons (.k (.int 1)) .nil)))) (.k (.int 0))) .nil))) (.cons (.par [3, 4] (.cons (.callb "_law_clock" 2 .nil) (.cons (.callb "_law_clock" 2 .nil) .nil))) (.cons (.ite (.or (.nt (.call "is_clock" (.cons (.v 3) .nil))) (.or (.call "is_clock" (.cons (.tup (.cons (.k (.int 15)) (.cons (.k .none) .nil))) .nil)) (.or (.call "is_clock" (.cons (.tup (.cons (.k (.int 0)) (.cons (.tup (.cons (.k (.int 5)) (.cons (.k (.int 5)) .nil))) .nil))) .nil)) (.or (.call "is_clock" (.cons (.tup (.cons (.k (.int 0)) (.cons (.tup (.cons (.k (.int 0)) (.cons (.k (.int 5)) .nil))) .nil))) .nil)) (.call "is_clock" (.cons (.tup (.cons (.ix (.v 3) (.k (.int 0))) .nil)) .nil)))))) (.cons (.ret (.k (.bool false))) .nil) .nil) (.cons (.asg 5 (.lst (.cons (.k (.int 30)) (.cons (.callb "_law_draw" 2 (.cons (.k (.int 30000)) .nil)) .nil)))) (.cons (.ite (.cmp .IsNot (.ix (.v 3) (.k (.int 1))) (.k .none)) (.cons (.asg 5 (.bin .Add (.v 5) (.lst (.cons (.bin .Sub (.ix (.ix (.v 3) (.k (.int 1))) (.k (.int 0))) (.k (.int 1))) (.cons (.ix (.ix (.v 3) (.k (.int 1))) (.k (.int 0))) (.cons (.bin .Sub (.ix (.ix (.v 3) (.k (.int 1))) (.k (.int 1))) (.k (.int 1))) (.cons (.ix (.ix (.v 3) (.k (.int 1))) (.k (.int 1))) (.cons (.bin .Add (.ix (.ix (.v 3) (.k (.int 1))) (.k (.int 1))) (.k (.int 8640))) .nil)))))))) .nil) .nil) (.cons (.for_ (.one 6) (.seq (.v 5)) (.cons (.ite (.nt (.call "_law_about" (.cons (.v 3) (.cons (.v 6) .nil)))) (.cons (.ret (.k (.bool false))) .nil) .nil) .nil)) (.cons (.ite (.nt (.call "_law_turns" (.cons (.v 3) .nil))) (.cons (.ret (.k (.bool false))) .nil) .nil) (.cons (.asg 7 (.g "EMPTY" c_EMPTY)) (.cons (.for_ (.one 8) (.seq (.tup (.cons (.v 3) (.cons (.v 4) .nil)))) (.cons (.ite (.cmp .IsNot (.ix (.v 8) (.k (.int 1))) (.k .none)) (.cons (.asg 5 (.bin .Add (.v 5) (.lst (.cons (.bin .Sub (.ix (.ix (.v 8) (.k (.int 1))) (.k (.int 0))) (.k (.int 1))) (.cons (.ix (.ix (.v 8) (.k (.int 1))) (.k (.int 0))) (.cons (.bin .Sub (.ix (.ix (.v 8) (.k (.int 1))) (.k (.int 1))) (.k (.int 1))) (.cons (.ix (.ix (.v 8) (.k (.int 1))) (.k (.int 1))) .nil))))))) .nil) .nil) .nil)) (.cons (.for_ (.many [9, 10]) (.seq (.call "apart" (.cons (.v 3) (.cons (.v 4) .nil)))) (.cons (.ite (.or (.cmp .NotEq (.call "both" (.cons (.v 7) (.cons (.v 10) .nil))) (.g "EMPTY" c_EMPTY)) (.cmp .Eq (.v 10) (.g "EMPTY" c_EMPTY))) (.cons (.ret (.k (.bool false))) .nil) .nil) (.cons (.asg 7 (.call "either" (.cons (.v 7) (.cons (.v 10) .nil)))) (.cons (.for_ (.one 6) (.seq (.v 5)) (.cons (.ite (.cmp .NotEq (.call "among" (.cons (.v 10) (.cons (.v 6) .nil))) (.cmp .Eq (.bin .Sub (.call "_law_shows" (.cons (.v 4) (.cons (.v 6) .nil))) (.call "_law_shows" (.cons (.v 3) (.cons (.v 6) .nil)))) (.v 9))) (.cons (.ret (.k (.bool false))) .nil) .nil) .nil)) .nil)))) (.cons (.asg 11 (.lc (.ix (.v 12) (.k (.int 0))) (.one 12) (.seq (.call "apart" (.cons (.v 3) (.cons (.v 4) .nil)))) .none [12])) (.cons (.ite (.or (.cmp .NotEq (.v 7) (.g "ALWAYS" c_ALWAYS)) (.or (.cmp .NotEq (.v 11) (.sset (.v 11))) (.cmp .NotEq (.call "apart" (.cons (.v 3) (.cons (.v 3) .nil))) (.tup (.cons (.tup (.cons (.k (.int 0)) (.cons (.g "ALWAYS" c_ALWAYS) .nil))) .nil))))) (.cons (.ret (.k (.bool false))) .nil) .nil) .nil))))))))))))) (.cons (.ret (.k (.bool true))) .nil))
def d_law : Df := { name := "law", N := N_law, ar := 1, fuel := 100, body := b_law }

def T : List Df := [d_ends_by, d_in_runs, d_has, d_is_empty, d_is_full, d_add_run, d_runs_of, d_built, d_united, d_crossed, d_holes, d_joined, d_common, d_rest, d_minus, d_repeats, d_least_period, d_least_start, d_reduced, d_tell, d_too_deep, d_as_tuples, d_plain, d_is_int, d_in_range, d_is_tuple, d_need, d_clock_form, d_is_clock, d_shown_at, d_reached_by, d_shows, d_hours_at, d_reached, d_yearly, d_put_on_hours, d_never, d_twice, d_apart, d_pieces_form, d_times_form, d_checked, d_two_checked, d_among, d_either, d_both, d__law_numbers, d__law_draw, d__law_clock, d__law_shows, d__law_about, d__law_turns, d_law]
def con : List (Str × D) := [("ALWAYS", c_ALWAYS), ("DEEPEST", c_DEEPEST), ("EMPTY", c_EMPTY), ("FAR", c_FAR), ("LONGEST_HEAD", c_LONGEST_HEAD), ("MOST", c_MOST), ("MOST_PARTS", c_MOST_PARTS), ("MOST_PIECES", c_MOST_PIECES), ("MOST_START", c_MOST_START), ("NONE", c_NONE), ("WHOLE", c_WHOLE), ("YEAR", c_YEAR)]
def mb : List Str := ["lcm"]
end K03
namespace K03
open PySem PySem.Spec PyProof.Rows L2 PyE
def top (i : Nat) : Stmt := PySem.Challenge.pw_suitday_k03_clocks_that_turn.main.body.getD i (.Pass ⟨0, 0, 0, 0⟩)
theorem chk_ends_by : chkSs ⟨N_ends_by, con, mb⟩ ⟨defScope (top 9), fun _ => true⟩ b_ends_by (defBody (top 9)) = true := by decide +kernel
theorem scp_ends_by : FnScope N_ends_by (N_ends_by.take 2) (defScope (top 9)) := ⟨rfl, rfl, rfl, by decide +kernel, rfl, by decide +kernel, by decide +kernel⟩
theorem bnd_ends_by : ∀ (kV doc pm : Value) (an : Option Addr) (cdv ct : Value) (us : List Value), us.length = (N_ends_by.take 2).length → bindArgs (PySem.W.fnOf "ends_by" "ends_by" (defArgs (top 9)) (defBody (top 9)) (defScope (top 9)) .none kV doc pm an cdv ct) ⟨us, []⟩ = pure ((N_ends_by.take 2).zip us) := fun _ _ _ _ _ _ us hl => match us, hl with | [_, _], _ => rfl
theorem chk_in_runs : chkSs ⟨N_in_runs, con, mb⟩ ⟨defScope (top 10), fun _ => true⟩ b_in_runs (defBody (top 10)) = true := by decide +kernel
theorem scp_in_runs : FnScope N_in_runs (N_in_runs.take 2) (defScope (top 10)) := ⟨rfl, rfl, rfl, by decide +kernel, rfl, by decide +kernel, by decide +kernel⟩
theorem bnd_in_runs : ∀ (kV doc pm : Value) (an : Option Addr) (cdv ct : Value) (us : List Value), us.length = (N_in_runs.take 2).length → bindArgs (PySem.W.fnOf "in_runs" "in_runs" (defArgs (top 10)) (defBody (top 10)) (defScope (top 10)) .none kV doc pm an cdv ct) ⟨us, []⟩ = pure ((N_in_runs.take 2).zip us) := fun _ _ _ _ _ _ us hl => match us, hl with | [_, _], _ => rfl
theorem chk_has : chkSs ⟨N_has, con, mb⟩ ⟨defScope (top 11), fun _ => true⟩ b_has (defBody (top 11)) = true := by decide +kernel
theorem scp_has : FnScope N_has (N_has.take 2) (defScope (top 11)) := ⟨rfl, rfl, rfl, by decide +kernel, rfl, by decide +kernel, by decide +kernel⟩
theorem bnd_has : ∀ (kV doc pm : Value) (an : Option Addr) (cdv ct : Value) (us : List Value), us.length = (N_has.take 2).length → bindArgs (PySem.W.fnOf "has" "has" (defArgs (top 11)) (defBody (top 11)) (defScope (top 11)) .none kV doc pm an cdv ct) ⟨us, []⟩ = pure ((N_has.take 2).zip us) := fun _ _ _ _ _ _ us hl => match us, hl with | [_, _], _ => rfl
theorem chk_is_empty : chkSs ⟨N_is_empty, con, mb⟩ ⟨defScope (top 12), fun _ => true⟩ b_is_empty (defBody (top 12)) = true := by decide +kernel
theorem scp_is_empty : FnScope N_is_empty (N_is_empty.take 1) (defScope (top 12)) := ⟨rfl, rfl, rfl, by decide +kernel, rfl, by decide +kernel, by decide +kernel⟩
theorem bnd_is_empty : ∀ (kV doc pm : Value) (an : Option Addr) (cdv ct : Value) (us : List Value), us.length = (N_is_empty.take 1).length → bindArgs (PySem.W.fnOf "is_empty" "is_empty" (defArgs (top 12)) (defBody (top 12)) (defScope (top 12)) .none kV doc pm an cdv ct) ⟨us, []⟩ = pure ((N_is_empty.take 1).zip us) := fun _ _ _ _ _ _ us hl => match us, hl with | [_], _ => rfl
theorem chk_is_full : chkSs ⟨N_is_full, con, mb⟩ ⟨defScope (top 13), fun _ => true⟩ b_is_full (defBody (top 13)) = true := by decide +kernel
theorem scp_is_full : FnScope N_is_full (N_is_full.take 2) (defScope (top 13)) := ⟨rfl, rfl, rfl, by decide +kernel, rfl, by decide +kernel, by decide +kernel⟩
theorem bnd_is_full : ∀ (kV doc pm : Value) (an : Option Addr) (cdv ct : Value) (us : List Value), us.length = (N_is_full.take 2).length → bindArgs (PySem.W.fnOf "is_full" "is_full" (defArgs (top 13)) (defBody (top 13)) (defScope (top 13)) .none kV doc pm an cdv ct) ⟨us, []⟩ = pure ((N_is_full.take 2).zip us) := fun _ _ _ _ _ _ us hl => match us, hl with | [_, _], _ => rfl
theorem chk_add_run : chkSs ⟨N_add_run, con, mb⟩ ⟨defScope (top 14), fun _ => true⟩ b_add_run (defBody (top 14)) = true := by decide +kernel
theorem scp_add_run : FnScope N_add_run (N_add_run.take 3) (defScope (top 14)) := ⟨rfl, rfl, rfl, by decide +kernel, rfl, by decide +kernel, by decide +kernel⟩
theorem bnd_add_run : ∀ (kV doc pm : Value) (an : Option Addr) (cdv ct : Value) (us : List Value), us.length = (N_add_run.take 3).length → bindArgs (PySem.W.fnOf "add_run" "add_run" (defArgs (top 14)) (defBody (top 14)) (defScope (top 14)) .none kV doc pm an cdv ct) ⟨us, []⟩ = pure ((N_add_run.take 3).zip us) := fun _ _ _ _ _ _ us hl => match us, hl with | [_, _, _], _ => rfl
theorem chk_runs_of : chkSs ⟨N_runs_of, con, mb⟩ ⟨defScope (top 15), fun _ => true⟩ b_runs_of (defBody (top 15)) = true := by decide +kernel
theorem scp_runs_of : FnScope N_runs_of (N_runs_of.take 3) (defScope (top 15)) := ⟨rfl, rfl, rfl, by decide +kernel, rfl, by decide +kernel, by decide +kernel⟩
theorem bnd_runs_of : ∀ (kV doc pm : Value) (an : Option Addr) (cdv ct : Value) (us : List Value), us.length = (N_runs_of.take 3).length → bindArgs (PySem.W.fnOf "runs_of" "runs_of" (defArgs (top 15)) (defBody (top 15)) (defScope (top 15)) .none kV doc pm an cdv ct) ⟨us, []⟩ = pure ((N_runs_of.take 3).zip us) := fun _ _ _ _ _ _ us hl => match us, hl with | [_, _, _], _ => rfl
theorem chk_built : chkSs ⟨N_built, con, mb⟩ ⟨defScope (top 16), fun _ => true⟩ b_built (defBody (top 16)) = true := by decide +kernel
theorem scp_built : FnScope N_built (N_built.take 3) (defScope (top 16)) := ⟨rfl, rfl, rfl, by decide +kernel, rfl, by decide +kernel, by decide +kernel⟩
theorem bnd_built : ∀ (kV doc pm : Value) (an : Option Addr) (cdv ct : Value) (us : List Value), us.length = (N_built.take 3).length → bindArgs (PySem.W.fnOf "built" "built" (defArgs (top 16)) (defBody (top 16)) (defScope (top 16)) .none kV doc pm an cdv ct) ⟨us, []⟩ = pure ((N_built.take 3).zip us) := fun _ _ _ _ _ _ us hl => match us, hl with | [_, _, _], _ => rfl
theorem chk_united : chkSs ⟨N_united, con, mb⟩ ⟨defScope (top 17), fun _ => true⟩ b_united (defBody (top 17)) = true := by decide +kernel
theorem scp_united : FnScope N_united (N_united.take 2) (defScope (top 17)) := ⟨rfl, rfl, rfl, by decide +kernel, rfl, by decide +kernel, by decide +kernel⟩
theorem bnd_united : ∀ (kV doc pm : Value) (an : Option Addr) (cdv ct : Value) (us : List Value), us.length = (N_united.take 2).length → bindArgs (PySem.W.fnOf "united" "united" (defArgs (top 17)) (defBody (top 17)) (defScope (top 17)) .none kV doc pm an cdv ct) ⟨us, []⟩ = pure ((N_united.take 2).zip us) := fun _ _ _ _ _ _ us hl => match us, hl with | [_, _], _ => rfl
theorem chk_crossed : chkSs ⟨N_crossed, con, mb⟩ ⟨defScope (top 18), fun _ => true⟩ b_crossed (defBody (top 18)) = true := by decide +kernel
theorem scp_crossed : FnScope N_crossed (N_crossed.take 2) (defScope (top 18)) := ⟨rfl, rfl, rfl, by decide +kernel, rfl, by decide +kernel, by decide +kernel⟩
theorem bnd_crossed : ∀ (kV doc pm : Value) (an : Option Addr) (cdv ct : Value) (us : List Value), us.length = (N_crossed.take 2).length → bindArgs (PySem.W.fnOf "crossed" "crossed" (defArgs (top 18)) (defBody (top 18)) (defScope (top 18)) .none kV doc pm an cdv ct) ⟨us, []⟩ = pure ((N_crossed.take 2).zip us) := fun _ _ _ _ _ _ us hl => match us, hl with | [_, _], _ => rfl
theorem chk_holes : chkSs ⟨N_holes, con, mb⟩ ⟨defScope (top 19), fun _ => true⟩ b_holes (defBody (top 19)) = true := by decide +kernel
theorem scp_holes : FnScope N_holes (N_holes.take 2) (defScope (top 19)) := ⟨rfl, rfl, rfl, by decide +kernel, rfl, by decide +kernel, by decide +kernel⟩
theorem bnd_holes : ∀ (kV doc pm : Value) (an : Option Addr) (cdv ct : Value) (us : List Value), us.length = (N_holes.take 2).length → bindArgs (PySem.W.fnOf "holes" "holes" (defArgs (top 19)) (defBody (top 19)) (defScope (top 19)) .none kV doc pm an cdv ct) ⟨us, []⟩ = pure ((N_holes.take 2).zip us) := fun _ _ _ _ _ _ us hl => match us, hl with | [_, _], _ => rfl
theorem chk_joined : chkSs ⟨N_joined, con, mb⟩ ⟨defScope (top 20), fun _ => true⟩ b_joined (defBody (top 20)) = true := by decide +kernel
theorem scp_joined : FnScope N_joined (N_joined.take 2) (defScope (top 20)) := ⟨rfl, rfl, rfl, by decide +kernel, rfl, by decide +kernel, by decide +kernel⟩
theorem bnd_joined : ∀ (kV doc pm : Value) (an : Option Addr) (cdv ct : Value) (us : List Value), us.length = (N_joined.take 2).length → bindArgs (PySem.W.fnOf "joined" "joined" (defArgs (top 20)) (defBody (top 20)) (defScope (top 20)) .none kV doc pm an cdv ct) ⟨us, []⟩ = pure ((N_joined.take 2).zip us) := fun _ _ _ _ _ _ us hl => match us, hl with | [_, _], _ => rfl
theorem chk_common : chkSs ⟨N_common, con, mb⟩ ⟨defScope (top 21), fun _ => true⟩ b_common (defBody (top 21)) = true := by decide +kernel
theorem scp_common : FnScope N_common (N_common.take 2) (defScope (top 21)) := ⟨rfl, rfl, rfl, by decide +kernel, rfl, by decide +kernel, by decide +kernel⟩
theorem bnd_common : ∀ (kV doc pm : Value) (an : Option Addr) (cdv ct : Value) (us : List Value), us.length = (N_common.take 2).length → bindArgs (PySem.W.fnOf "common" "common" (defArgs (top 21)) (defBody (top 21)) (defScope (top 21)) .none kV doc pm an cdv ct) ⟨us, []⟩ = pure ((N_common.take 2).zip us) := fun _ _ _ _ _ _ us hl => match us, hl with | [_, _], _ => rfl
theorem chk_rest : chkSs ⟨N_rest, con, mb⟩ ⟨defScope (top 22), fun _ => true⟩ b_rest (defBody (top 22)) = true := by decide +kernel
theorem scp_rest : FnScope N_rest (N_rest.take 1) (defScope (top 22)) := ⟨rfl, rfl, rfl, by decide +kernel, rfl, by decide +kernel, by decide +kernel⟩
theorem bnd_rest : ∀ (kV doc pm : Value) (an : Option Addr) (cdv ct : Value) (us : List Value), us.length = (N_rest.take 1).length → bindArgs (PySem.W.fnOf "rest" "rest" (defArgs (top 22)) (defBody (top 22)) (defScope (top 22)) .none kV doc pm an cdv ct) ⟨us, []⟩ = pure ((N_rest.take 1).zip us) := fun _ _ _ _ _ _ us hl => match us, hl with | [_], _ => rfl
theorem chk_minus : chkSs ⟨N_minus, con, mb⟩ ⟨defScope (top 23), fun _ => true⟩ b_minus (defBody (top 23)) = true := by decide +kernel
theorem scp_minus : FnScope N_minus (N_minus.take 2) (defScope (top 23)) := ⟨rfl, rfl, rfl, by decide +kernel, rfl, by decide +kernel, by decide +kernel⟩
theorem bnd_minus : ∀ (kV doc pm : Value) (an : Option Addr) (cdv ct : Value) (us : List Value), us.length = (N_minus.take 2).length → bindArgs (PySem.W.fnOf "minus" "minus" (defArgs (top 23)) (defBody (top 23)) (defScope (top 23)) .none kV doc pm an cdv ct) ⟨us, []⟩ = pure ((N_minus.take 2).zip us) := fun _ _ _ _ _ _ us hl => match us, hl with | [_, _], _ => rfl
theorem chk_repeats : chkSs ⟨N_repeats, con, mb⟩ ⟨defScope (top 24), fun _ => true⟩ b_repeats (defBody (top 24)) = true := by decide +kernel
theorem scp_repeats : FnScope N_repeats (N_repeats.take 3) (defScope (top 24)) := ⟨rfl, rfl, rfl, by decide +kernel, rfl, by decide +kernel, by decide +kernel⟩
theorem bnd_repeats : ∀ (kV doc pm : Value) (an : Option Addr) (cdv ct : Value) (us : List Value), us.length = (N_repeats.take 3).length → bindArgs (PySem.W.fnOf "repeats" "repeats" (defArgs (top 24)) (defBody (top 24)) (defScope (top 24)) .none kV doc pm an cdv ct) ⟨us, []⟩ = pure ((N_repeats.take 3).zip us) := fun _ _ _ _ _ _ us hl => match us, hl with | [_, _, _], _ => rfl
theorem chk_least_period : chkSs ⟨N_least_period, con, mb⟩ ⟨defScope (top 25), fun _ => true⟩ b_least_period (defBody (top 25)) = true := by decide +kernel
theorem scp_least_period : FnScope N_least_period (N_least_period.take 2) (defScope (top 25)) := ⟨rfl, rfl, rfl, by decide +kernel, rfl, by decide +kernel, by decide +kernel⟩
theorem bnd_least_period : ∀ (kV doc pm : Value) (an : Option Addr) (cdv ct : Value) (us : List Value), us.length = (N_least_period.take 2).length → bindArgs (PySem.W.fnOf "least_period" "least_period" (defArgs (top 25)) (defBody (top 25)) (defScope (top 25)) .none kV doc pm an cdv ct) ⟨us, []⟩ = pure ((N_least_period.take 2).zip us) := fun _ _ _ _ _ _ us hl => match us, hl with | [_, _], _ => rfl
theorem chk_least_start : chkSs ⟨N_least_start, con, mb⟩ ⟨defScope (top 26), fun _ => true⟩ b_least_start (defBody (top 26)) = true := by decide +kernel
theorem scp_least_start : FnScope N_least_start (N_least_start.take 4) (defScope (top 26)) := ⟨rfl, rfl, rfl, by decide +kernel, rfl, by decide +kernel, by decide +kernel⟩
theorem bnd_least_start : ∀ (kV doc pm : Value) (an : Option Addr) (cdv ct : Value) (us : List Value), us.length = (N_least_start.take 4).length → bindArgs (PySem.W.fnOf "least_start" "least_start" (defArgs (top 26)) (defBody (top 26)) (defScope (top 26)) .none kV doc pm an cdv ct) ⟨us, []⟩ = pure ((N_least_start.take 4).zip us) := fun _ _ _ _ _ _ us hl => match us, hl with | [_, _, _, _], _ => rfl
theorem chk_reduced : chkSs ⟨N_reduced, con, mb⟩ ⟨defScope (top 27), fun _ => true⟩ b_reduced (defBody (top 27)) = true := by decide +kernel
theorem scp_reduced : FnScope N_reduced (N_reduced.take 1) (defScope (top 27)) := ⟨rfl, rfl, rfl, by decide +kernel, rfl, by decide +kernel, by decide +kernel⟩
theorem bnd_reduced : ∀ (kV doc pm : Value) (an : Option Addr) (cdv ct : Value) (us : List Value), us.length = (N_reduced.take 1).length → bindArgs (PySem.W.fnOf "reduced" "reduced" (defArgs (top 27)) (defBody (top 27)) (defScope (top 27)) .none kV doc pm an cdv ct) ⟨us, []⟩ = pure ((N_reduced.take 1).zip us) := fun _ _ _ _ _ _ us hl => match us, hl with | [_], _ => rfl
theorem chk_tell : chkSs ⟨N_tell, con, mb⟩ ⟨defScope (top 28), fun _ => true⟩ b_tell (defBody (top 28)) = true := by decide +kernel
theorem scp_tell : FnScope N_tell (N_tell.take 1) (defScope (top 28)) := ⟨rfl, rfl, rfl, by decide +kernel, rfl, by decide +kernel, by decide +kernel⟩
theorem bnd_tell : ∀ (kV doc pm : Value) (an : Option Addr) (cdv ct : Value) (us : List Value), us.length = (N_tell.take 1).length → bindArgs (PySem.W.fnOf "tell" "tell" (defArgs (top 28)) (defBody (top 28)) (defScope (top 28)) .none kV doc pm an cdv ct) ⟨us, []⟩ = pure ((N_tell.take 1).zip us) := fun _ _ _ _ _ _ us hl => match us, hl with | [_], _ => rfl
theorem chk_too_deep : chkSs ⟨N_too_deep, con, mb⟩ ⟨defScope (top 31), fun _ => true⟩ b_too_deep (defBody (top 31)) = true := by decide +kernel
theorem scp_too_deep : FnScope N_too_deep (N_too_deep.take 2) (defScope (top 31)) := ⟨rfl, rfl, rfl, by decide +kernel, rfl, by decide +kernel, by decide +kernel⟩
theorem bnd_too_deep : ∀ (kV doc pm : Value) (an : Option Addr) (cdv ct : Value) (us : List Value), us.length = (N_too_deep.take 2).length → bindArgs (PySem.W.fnOf "too_deep" "too_deep" (defArgs (top 31)) (defBody (top 31)) (defScope (top 31)) .none kV doc pm an cdv ct) ⟨us, []⟩ = pure ((N_too_deep.take 2).zip us) := fun _ _ _ _ _ _ us hl => match us, hl with | [_, _], _ => rfl
theorem chk_as_tuples : chkSs ⟨N_as_tuples, con, mb⟩ ⟨defScope (top 32), fun _ => true⟩ b_as_tuples (defBody (top 32)) = true := by decide +kernel
theorem scp_as_tuples : FnScope N_as_tuples (N_as_tuples.take 1) (defScope (top 32)) := ⟨rfl, rfl, rfl, by decide +kernel, rfl, by decide +kernel, by decide +kernel⟩
theorem bnd_as_tuples : ∀ (kV doc pm : Value) (an : Option Addr) (cdv ct : Value) (us : List Value), us.length = (N_as_tuples.take 1).length → bindArgs (PySem.W.fnOf "as_tuples" "as_tuples" (defArgs (top 32)) (defBody (top 32)) (defScope (top 32)) .none kV doc pm an cdv ct) ⟨us, []⟩ = pure ((N_as_tuples.take 1).zip us) := fun _ _ _ _ _ _ us hl => match us, hl with | [_], _ => rfl
theorem chk_plain : chkSs ⟨N_plain, con, mb⟩ ⟨defScope (top 33), fun _ => true⟩ b_plain (defBody (top 33)) = true := by decide +kernel
theorem scp_plain : FnScope N_plain (N_plain.take 1) (defScope (top 33)) := ⟨rfl, rfl, rfl, by decide +kernel, rfl, by decide +kernel, by decide +kernel⟩
theorem bnd_plain : ∀ (kV doc pm : Value) (an : Option Addr) (cdv ct : Value) (us : List Value), us.length = (N_plain.take 1).length → bindArgs (PySem.W.fnOf "plain" "plain" (defArgs (top 33)) (defBody (top 33)) (defScope (top 33)) .none kV doc pm an cdv ct) ⟨us, []⟩ = pure ((N_plain.take 1).zip us) := fun _ _ _ _ _ _ us hl => match us, hl with | [_], _ => rfl
theorem chk_is_int : chkSs ⟨N_is_int, con, mb⟩ ⟨defScope (top 34), fun _ => true⟩ b_is_int (defBody (top 34)) = true := by decide +kernel
theorem scp_is_int : FnScope N_is_int (N_is_int.take 1) (defScope (top 34)) := ⟨rfl, rfl, rfl, by decide +kernel, rfl, by decide +kernel, by decide +kernel⟩
theorem bnd_is_int : ∀ (kV doc pm : Value) (an : Option Addr) (cdv ct : Value) (us : List Value), us.length = (N_is_int.take 1).length → bindArgs (PySem.W.fnOf "is_int" "is_int" (defArgs (top 34)) (defBody (top 34)) (defScope (top 34)) .none kV doc pm an cdv ct) ⟨us, []⟩ = pure ((N_is_int.take 1).zip us) := fun _ _ _ _ _ _ us hl => match us, hl with | [_], _ => rfl
theorem chk_in_range : chkSs ⟨N_in_range, con, mb⟩ ⟨defScope (top 35), fun _ => true⟩ b_in_range (defBody (top 35)) = true := by decide +kernel
theorem scp_in_range : FnScope N_in_range (N_in_range.take 3) (defScope (top 35)) := ⟨rfl, rfl, rfl, by decide +kernel, rfl, by decide +kernel, by decide +kernel⟩
theorem bnd_in_range : ∀ (kV doc pm : Value) (an : Option Addr) (cdv ct : Value) (us : List Value), us.length = (N_in_range.take 3).length → bindArgs (PySem.W.fnOf "in_range" "in_range" (defArgs (top 35)) (defBody (top 35)) (defScope (top 35)) .none kV doc pm an cdv ct) ⟨us, []⟩ = pure ((N_in_range.take 3).zip us) := fun _ _ _ _ _ _ us hl => match us, hl with | [_, _, _], _ => rfl
theorem chk_is_tuple : chkSs ⟨N_is_tuple, con, mb⟩ ⟨defScope (top 36), fun _ => true⟩ b_is_tuple (defBody (top 36)) = true := by decide +kernel
theorem scp_is_tuple : FnScope N_is_tuple (N_is_tuple.take 2) (defScope (top 36)) := ⟨rfl, rfl, rfl, by decide +kernel, rfl, by decide +kernel, by decide +kernel⟩
theorem bnd_is_tuple : ∀ (kV doc pm : Value) (an : Option Addr) (cdv ct : Value) (us : List Value), us.length = (N_is_tuple.take 2).length → bindArgs (PySem.W.fnOf "is_tuple" "is_tuple" (defArgs (top 36)) (defBody (top 36)) (defScope (top 36)) .none kV doc pm an cdv ct) ⟨us, []⟩ = pure ((N_is_tuple.take 2).zip us) := fun _ _ _ _ _ _ us hl => match us, hl with | [_, _], _ => rfl
theorem chk_need : chkSs ⟨N_need, con, mb⟩ ⟨defScope (top 37), fun _ => true⟩ b_need (defBody (top 37)) = true := by decide +kernel
theorem scp_need : FnScope N_need (N_need.take 2) (defScope (top 37)) := ⟨rfl, rfl, rfl, by decide +kernel, rfl, by decide +kernel, by decide +kernel⟩
theorem bnd_need : ∀ (kV doc pm : Value) (an : Option Addr) (cdv ct : Value) (us : List Value), us.length = (N_need.take 2).length → bindArgs (PySem.W.fnOf "need" "need" (defArgs (top 37)) (defBody (top 37)) (defScope (top 37)) .none kV doc pm an cdv ct) ⟨us, []⟩ = pure ((N_need.take 2).zip us) := fun _ _ _ _ _ _ us hl => match us, hl with | [_, _], _ => rfl
theorem chk_clock_form : chkSs ⟨N_clock_form, con, mb⟩ ⟨defScope (top 41), fun _ => true⟩ b_clock_form (defBody (top 41)) = true := by decide +kernel
theorem scp_clock_form : FnScope N_clock_form (N_clock_form.take 1) (defScope (top 41)) := ⟨rfl, rfl, rfl, by decide +kernel, rfl, by decide +kernel, by decide +kernel⟩
theorem bnd_clock_form : ∀ (kV doc pm : Value) (an : Option Addr) (cdv ct : Value) (us : List Value), us.length = (N_clock_form.take 1).length → bindArgs (PySem.W.fnOf "clock_form" "clock_form" (defArgs (top 41)) (defBody (top 41)) (defScope (top 41)) .none kV doc pm an cdv ct) ⟨us, []⟩ = pure ((N_clock_form.take 1).zip us) := fun _ _ _ _ _ _ us hl => match us, hl with | [_], _ => rfl
theorem chk_is_clock : chkSs ⟨N_is_clock, con, mb⟩ ⟨defScope (top 42), fun _ => true⟩ b_is_clock (defBody (top 42)) = true := by decide +kernel
theorem scp_is_clock : FnScope N_is_clock (N_is_clock.take 1) (defScope (top 42)) := ⟨rfl, rfl, rfl, by decide +kernel, rfl, by decide +kernel, by decide +kernel⟩
theorem bnd_is_clock : ∀ (kV doc pm : Value) (an : Option Addr) (cdv ct : Value) (us : List Value), us.length = (N_is_clock.take 1).length → bindArgs (PySem.W.fnOf "is_clock" "is_clock" (defArgs (top 42)) (defBody (top 42)) (defScope (top 42)) .none kV doc pm an cdv ct) ⟨us, []⟩ = pure ((N_is_clock.take 1).zip us) := fun _ _ _ _ _ _ us hl => match us, hl with | [_], _ => rfl
theorem chk_shown_at : chkSs ⟨N_shown_at, con, mb⟩ ⟨defScope (top 43), fun _ => true⟩ b_shown_at (defBody (top 43)) = true := by decide +kernel
theorem scp_shown_at : FnScope N_shown_at (N_shown_at.take 2) (defScope (top 43)) := ⟨rfl, rfl, rfl, by decide +kernel, rfl, by decide +kernel, by decide +kernel⟩
theorem bnd_shown_at : ∀ (kV doc pm : Value) (an : Option Addr) (cdv ct : Value) (us : List Value), us.length = (N_shown_at.take 2).length → bindArgs (PySem.W.fnOf "shown_at" "shown_at" (defArgs (top 43)) (defBody (top 43)) (defScope (top 43)) .none kV doc pm an cdv ct) ⟨us, []⟩ = pure ((N_shown_at.take 2).zip us) := fun _ _ _ _ _ _ us hl => match us, hl with | [_, _], _ => rfl
theorem chk_reached_by : chkSs ⟨N_reached_by, con, mb⟩ ⟨defScope (top 44), fun _ => true⟩ b_reached_by (defBody (top 44)) = true := by decide +kernel
theorem scp_reached_by : FnScope N_reached_by (N_reached_by.take 2) (defScope (top 44)) := ⟨rfl, rfl, rfl, by decide +kernel, rfl, by decide +kernel, by decide +kernel⟩
theorem bnd_reached_by : ∀ (kV doc pm : Value) (an : Option Addr) (cdv ct : Value) (us : List Value), us.length = (N_reached_by.take 2).length → bindArgs (PySem.W.fnOf "reached_by" "reached_by" (defArgs (top 44)) (defBody (top 44)) (defScope (top 44)) .none kV doc pm an cdv ct) ⟨us, []⟩ = pure ((N_reached_by.take 2).zip us) := fun _ _ _ _ _ _ us hl => match us, hl with | [_, _], _ => rfl
theorem chk_shows : chkSs ⟨N_shows, con, mb⟩ ⟨defScope (top 45), fun _ => true⟩ b_shows (defBody (top 45)) = true := by decide +kernel
theorem scp_shows : FnScope N_shows (N_shows.take 2) (defScope (top 45)) := ⟨rfl, rfl, rfl, by decide +kernel, rfl, by decide +kernel, by decide +kernel⟩
theorem bnd_shows : ∀ (kV doc pm : Value) (an : Option Addr) (cdv ct : Value) (us : List Value), us.length = (N_shows.take 2).length → bindArgs (PySem.W.fnOf "shows" "shows" (defArgs (top 45)) (defBody (top 45)) (defScope (top 45)) .none kV doc pm an cdv ct) ⟨us, []⟩ = pure ((N_shows.take 2).zip us) := fun _ _ _ _ _ _ us hl => match us, hl with | [_, _], _ => rfl
theorem chk_hours_at : chkSs ⟨N_hours_at, con, mb⟩ ⟨defScope (top 46), fun _ => true⟩ b_hours_at (defBody (top 46)) = true := by decide +kernel
theorem scp_hours_at : FnScope N_hours_at (N_hours_at.take 2) (defScope (top 46)) := ⟨rfl, rfl, rfl, by decide +kernel, rfl, by decide +kernel, by decide +kernel⟩
theorem bnd_hours_at : ∀ (kV doc pm : Value) (an : Option Addr) (cdv ct : Value) (us : List Value), us.length = (N_hours_at.take 2).length → bindArgs (PySem.W.fnOf "hours_at" "hours_at" (defArgs (top 46)) (defBody (top 46)) (defScope (top 46)) .none kV doc pm an cdv ct) ⟨us, []⟩ = pure ((N_hours_at.take 2).zip us) := fun _ _ _ _ _ _ us hl => match us, hl with | [_, _], _ => rfl
theorem chk_reached : chkSs ⟨N_reached, con, mb⟩ ⟨defScope (top 47), fun _ => true⟩ b_reached (defBody (top 47)) = true := by decide +kernel
theorem scp_reached : FnScope N_reached (N_reached.take 2) (defScope (top 47)) := ⟨rfl, rfl, rfl, by decide +kernel, rfl, by decide +kernel, by decide +kernel⟩
theorem bnd_reached : ∀ (kV doc pm : Value) (an : Option Addr) (cdv ct : Value) (us : List Value), us.length = (N_reached.take 2).length → bindArgs (PySem.W.fnOf "reached" "reached" (defArgs (top 47)) (defBody (top 47)) (defScope (top 47)) .none kV doc pm an cdv ct) ⟨us, []⟩ = pure ((N_reached.take 2).zip us) := fun _ _ _ _ _ _ us hl => match us, hl with | [_, _], _ => rfl
theorem chk_yearly : chkSs ⟨N_yearly, con, mb⟩ ⟨defScope (top 48), fun _ => true⟩ b_yearly (defBody (top 48)) = true := by decide +kernel
theorem scp_yearly : FnScope N_yearly (N_yearly.take 2) (defScope (top 48)) := ⟨rfl, rfl, rfl, by decide +kernel, rfl, by decide +kernel, by decide +kernel⟩
theorem bnd_yearly : ∀ (kV doc pm : Value) (an : Option Addr) (cdv ct : Value) (us : List Value), us.length = (N_yearly.take 2).length → bindArgs (PySem.W.fnOf "yearly" "yearly" (defArgs (top 48)) (defBody (top 48)) (defScope (top 48)) .none kV doc pm an cdv ct) ⟨us, []⟩ = pure ((N_yearly.take 2).zip us) := fun _ _ _ _ _ _ us hl => match us, hl with | [_, _], _ => rfl
theorem chk_put_on_hours : chkSs ⟨N_put_on_hours, con, mb⟩ ⟨defScope (top 49), fun _ => true⟩ b_put_on_hours (defBody (top 49)) = true := by decide +kernel
theorem scp_put_on_hours : FnScope N_put_on_hours (N_put_on_hours.take 1) (defScope (top 49)) := ⟨rfl, rfl, rfl, by decide +kernel, rfl, by decide +kernel, by decide +kernel⟩
theorem bnd_put_on_hours : ∀ (kV doc pm : Value) (an : Option Addr) (cdv ct : Value) (us : List Value), us.length = (N_put_on_hours.take 1).length → bindArgs (PySem.W.fnOf "put_on_hours" "put_on_hours" (defArgs (top 49)) (defBody (top 49)) (defScope (top 49)) .none kV doc pm an cdv ct) ⟨us, []⟩ = pure ((N_put_on_hours.take 1).zip us) := fun _ _ _ _ _ _ us hl => match us, hl with | [_], _ => rfl
theorem chk_never : chkSs ⟨N_never, con, mb⟩ ⟨defScope (top 50), fun _ => true⟩ b_never (defBody (top 50)) = true := by decide +kernel
theorem scp_never : FnScope N_never (N_never.take 1) (defScope (top 50)) := ⟨rfl, rfl, rfl, by decide +kernel, rfl, by decide +kernel, by decide +kernel⟩
theorem bnd_never : ∀ (kV doc pm : Value) (an : Option Addr) (cdv ct : Value) (us : List Value), us.length = (N_never.take 1).length → bindArgs (PySem.W.fnOf "never" "never" (defArgs (top 50)) (defBody (top 50)) (defScope (top 50)) .none kV doc pm an cdv ct) ⟨us, []⟩ = pure ((N_never.take 1).zip us) := fun _ _ _ _ _ _ us hl => match us, hl with | [_], _ => rfl
theorem chk_twice : chkSs ⟨N_twice, con, mb⟩ ⟨defScope (top 51), fun _ => true⟩ b_twice (defBody (top 51)) = true := by decide +kernel
theorem scp_twice : FnScope N_twice (N_twice.take 1) (defScope (top 51)) := ⟨rfl, rfl, rfl, by decide +kernel, rfl, by decide +kernel, by decide +kernel⟩
theorem bnd_twice : ∀ (kV doc pm : Value) (an : Option Addr) (cdv ct : Value) (us : List Value), us.length = (N_twice.take 1).length → bindArgs (PySem.W.fnOf "twice" "twice" (defArgs (top 51)) (defBody (top 51)) (defScope (top 51)) .none kV doc pm an cdv ct) ⟨us, []⟩ = pure ((N_twice.take 1).zip us) := fun _ _ _ _ _ _ us hl => match us, hl with | [_], _ => rfl
theorem chk_apart : chkSs ⟨N_apart, con, mb⟩ ⟨defScope (top 52), fun _ => true⟩ b_apart (defBody (top 52)) = true := by decide +kernel
theorem scp_apart : FnScope N_apart (N_apart.take 2) (defScope (top 52)) := ⟨rfl, rfl, rfl, by decide +kernel, rfl, by decide +kernel, by decide +kernel⟩
theorem bnd_apart : ∀ (kV doc pm : Value) (an : Option Addr) (cdv ct : Value) (us : List Value), us.length = (N_apart.take 2).length → bindArgs (PySem.W.fnOf "apart" "apart" (defArgs (top 52)) (defBody (top 52)) (defScope (top 52)) .none kV doc pm an cdv ct) ⟨us, []⟩ = pure ((N_apart.take 2).zip us) := fun _ _ _ _ _ _ us hl => match us, hl with | [_, _], _ => rfl
theorem chk_pieces_form : chkSs ⟨N_pieces_form, con, mb⟩ ⟨defScope (top 60), fun _ => true⟩ b_pieces_form (defBody (top 60)) = true := by decide +kernel
theorem scp_pieces_form : FnScope N_pieces_form (N_pieces_form.take 2) (defScope (top 60)) := ⟨rfl, rfl, rfl, by decide +kernel, rfl, by decide +kernel, by decide +kernel⟩
theorem bnd_pieces_form : ∀ (kV doc pm : Value) (an : Option Addr) (cdv ct : Value) (us : List Value), us.length = (N_pieces_form.take 2).length → bindArgs (PySem.W.fnOf "pieces_form" "pieces_form" (defArgs (top 60)) (defBody (top 60)) (defScope (top 60)) .none kV doc pm an cdv ct) ⟨us, []⟩ = pure ((N_pieces_form.take 2).zip us) := fun _ _ _ _ _ _ us hl => match us, hl with | [_, _], _ => rfl
theorem chk_times_form : chkSs ⟨N_times_form, con, mb⟩ ⟨defScope (top 61), fun _ => true⟩ b_times_form (defBody (top 61)) = true := by decide +kernel
theorem scp_times_form : FnScope N_times_form (N_times_form.take 1) (defScope (top 61)) := ⟨rfl, rfl, rfl, by decide +kernel, rfl, by decide +kernel, by decide +kernel⟩
theorem bnd_times_form : ∀ (kV doc pm : Value) (an : Option Addr) (cdv ct : Value) (us : List Value), us.length = (N_times_form.take 1).length → bindArgs (PySem.W.fnOf "times_form" "times_form" (defArgs (top 61)) (defBody (top 61)) (defScope (top 61)) .none kV doc pm an cdv ct) ⟨us, []⟩ = pure ((N_times_form.take 1).zip us) := fun _ _ _ _ _ _ us hl => match us, hl with | [_], _ => rfl
theorem chk_checked : chkSs ⟨N_checked, con, mb⟩ ⟨defScope (top 62), fun _ => true⟩ b_checked (defBody (top 62)) = true := by decide +kernel
theorem scp_checked : FnScope N_checked (N_checked.take 2) (defScope (top 62)) := ⟨rfl, rfl, rfl, by decide +kernel, rfl, by decide +kernel, by decide +kernel⟩
theorem bnd_checked : ∀ (kV doc pm : Value) (an : Option Addr) (cdv ct : Value) (us : List Value), us.length = (N_checked.take 2).length → bindArgs (PySem.W.fnOf "checked" "checked" (defArgs (top 62)) (defBody (top 62)) (defScope (top 62)) .none kV doc pm an cdv ct) ⟨us, []⟩ = pure ((N_checked.take 2).zip us) := fun _ _ _ _ _ _ us hl => match us, hl with | [_, _], _ => rfl
theorem chk_two_checked : chkSs ⟨N_two_checked, con, mb⟩ ⟨defScope (top 63), fun _ => true⟩ b_two_checked (defBody (top 63)) = true := by decide +kernel
theorem scp_two_checked : FnScope N_two_checked (N_two_checked.take 2) (defScope (top 63)) := ⟨rfl, rfl, rfl, by decide +kernel, rfl, by decide +kernel, by decide +kernel⟩
theorem bnd_two_checked : ∀ (kV doc pm : Value) (an : Option Addr) (cdv ct : Value) (us : List Value), us.length = (N_two_checked.take 2).length → bindArgs (PySem.W.fnOf "two_checked" "two_checked" (defArgs (top 63)) (defBody (top 63)) (defScope (top 63)) .none kV doc pm an cdv ct) ⟨us, []⟩ = pure ((N_two_checked.take 2).zip us) := fun _ _ _ _ _ _ us hl => match us, hl with | [_, _], _ => rfl
theorem chk_among : chkSs ⟨N_among, con, mb⟩ ⟨defScope (top 64), fun _ => true⟩ b_among (defBody (top 64)) = true := by decide +kernel
theorem scp_among : FnScope N_among (N_among.take 2) (defScope (top 64)) := ⟨rfl, rfl, rfl, by decide +kernel, rfl, by decide +kernel, by decide +kernel⟩
theorem bnd_among : ∀ (kV doc pm : Value) (an : Option Addr) (cdv ct : Value) (us : List Value), us.length = (N_among.take 2).length → bindArgs (PySem.W.fnOf "among" "among" (defArgs (top 64)) (defBody (top 64)) (defScope (top 64)) .none kV doc pm an cdv ct) ⟨us, []⟩ = pure ((N_among.take 2).zip us) := fun _ _ _ _ _ _ us hl => match us, hl with | [_, _], _ => rfl
theorem chk_either : chkSs ⟨N_either, con, mb⟩ ⟨defScope (top 65), fun _ => true⟩ b_either (defBody (top 65)) = true := by decide +kernel
theorem scp_either : FnScope N_either (N_either.take 2) (defScope (top 65)) := ⟨rfl, rfl, rfl, by decide +kernel, rfl, by decide +kernel, by decide +kernel⟩
theorem bnd_either : ∀ (kV doc pm : Value) (an : Option Addr) (cdv ct : Value) (us : List Value), us.length = (N_either.take 2).length → bindArgs (PySem.W.fnOf "either" "either" (defArgs (top 65)) (defBody (top 65)) (defScope (top 65)) .none kV doc pm an cdv ct) ⟨us, []⟩ = pure ((N_either.take 2).zip us) := fun _ _ _ _ _ _ us hl => match us, hl with | [_, _], _ => rfl
theorem chk_both : chkSs ⟨N_both, con, mb⟩ ⟨defScope (top 66), fun _ => true⟩ b_both (defBody (top 66)) = true := by decide +kernel
theorem scp_both : FnScope N_both (N_both.take 2) (defScope (top 66)) := ⟨rfl, rfl, rfl, by decide +kernel, rfl, by decide +kernel, by decide +kernel⟩
theorem bnd_both : ∀ (kV doc pm : Value) (an : Option Addr) (cdv ct : Value) (us : List Value), us.length = (N_both.take 2).length → bindArgs (PySem.W.fnOf "both" "both" (defArgs (top 66)) (defBody (top 66)) (defScope (top 66)) .none kV doc pm an cdv ct) ⟨us, []⟩ = pure ((N_both.take 2).zip us) := fun _ _ _ _ _ _ us hl => match us, hl with | [_, _], _ => rfl
theorem chk__law_numbers : chkSs ⟨N__law_numbers, con, mb⟩ ⟨defScope (top 68), fun _ => true⟩ b__law_numbers (defBody (top 68)) = true := by decide +kernel
theorem scp__law_numbers : FnScope N__law_numbers (N__law_numbers.take 3) (defScope (top 68)) := ⟨rfl, rfl, rfl, by decide +kernel, rfl, by decide +kernel, by decide +kernel⟩
theorem bnd__law_numbers : ∀ (kV doc pm : Value) (an : Option Addr) (cdv ct : Value) (us : List Value), us.length = (N__law_numbers.take 3).length → bindArgs (PySem.W.fnOf "_law_numbers" "_law_numbers" (defArgs (top 68)) (defBody (top 68)) (defScope (top 68)) .none kV doc pm an cdv ct) ⟨us, []⟩ = pure ((N__law_numbers.take 3).zip us) := fun _ _ _ _ _ _ us hl => match us, hl with | [_, _, _], _ => rfl
theorem chk__law_draw : chkSs ⟨N__law_draw, con, mb⟩ ⟨defScope (top 69), fun _ => true⟩ b__law_draw (defBody (top 69)) = true := by decide +kernel
theorem scp__law_draw : FnScope N__law_draw (N__law_draw.take 2) (defScope (top 69)) := ⟨rfl, rfl, rfl, by decide +kernel, rfl, by decide +kernel, by decide +kernel⟩
theorem bnd__law_draw : ∀ (kV doc pm : Value) (an : Option Addr) (cdv ct : Value) (us : List Value), us.length = (N__law_draw.take 2).length → bindArgs (PySem.W.fnOf "_law_draw" "_law_draw" (defArgs (top 69)) (defBody (top 69)) (defScope (top 69)) .none kV doc pm an cdv ct) ⟨us, []⟩ = pure ((N__law_draw.take 2).zip us) := fun _ _ _ _ _ _ us hl => match us, hl with | [_, _], _ => rfl
theorem chk__law_clock : chkSs ⟨N__law_clock, con, mb⟩ ⟨defScope (top 70), fun _ => true⟩ b__law_clock (defBody (top 70)) = true := by decide +kernel
theorem scp__law_clock : FnScope N__law_clock (N__law_clock.take 1) (defScope (top 70)) := ⟨rfl, rfl, rfl, by decide +kernel, rfl, by decide +kernel, by decide +kernel⟩
theorem bnd__law_clock : ∀ (kV doc pm : Value) (an : Option Addr) (cdv ct : Value) (us : List Value), us.length = (N__law_clock.take 1).length → bindArgs (PySem.W.fnOf "_law_clock" "_law_clock" (defArgs (top 70)) (defBody (top 70)) (defScope (top 70)) .none kV doc pm an cdv ct) ⟨us, []⟩ = pure ((N__law_clock.take 1).zip us) := fun _ _ _ _ _ _ us hl => match us, hl with | [_], _ => rfl
theorem chk__law_shows : chkSs ⟨N__law_shows, con, mb⟩ ⟨defScope (top 71), fun _ => true⟩ b__law_shows (defBody (top 71)) = true := by decide +kernel
theorem scp__law_shows : FnScope N__law_shows (N__law_shows.take 2) (defScope (top 71)) := ⟨rfl, rfl, rfl, by decide +kernel, rfl, by decide +kernel, by decide +kernel⟩
theorem bnd__law_shows : ∀ (kV doc pm : Value) (an : Option Addr) (cdv ct : Value) (us : List Value), us.length = (N__law_shows.take 2).length → bindArgs (PySem.W.fnOf "_law_shows" "_law_shows" (defArgs (top 71)) (defBody (top 71)) (defScope (top 71)) .none kV doc pm an cdv ct) ⟨us, []⟩ = pure ((N__law_shows.take 2).zip us) := fun _ _ _ _ _ _ us hl => match us, hl with | [_, _], _ => rfl
theorem chk__law_about : chkSs ⟨N__law_about, con, mb⟩ ⟨defScope (top 72), fun _ => true⟩ b__law_about (defBody (top 72)) = true := by decide +kernel
theorem scp__law_about : FnScope N__law_about (N__law_about.take 2) (defScope (top 72)) := ⟨rfl, rfl, rfl, by decide +kernel, rfl, by decide +kernel, by decide +kernel⟩
theorem bnd__law_about : ∀ (kV doc pm : Value) (an : Option Addr) (cdv ct : Value) (us : List Value), us.length = (N__law_about.take 2).length → bindArgs (PySem.W.fnOf "_law_about" "_law_about" (defArgs (top 72)) (defBody (top 72)) (defScope (top 72)) .none kV doc pm an cdv ct) ⟨us, []⟩ = pure ((N__law_about.take 2).zip us) := fun _ _ _ _ _ _ us hl => match us, hl with | [_, _], _ => rfl
theorem chk__law_turns : chkSs ⟨N__law_turns, con, mb⟩ ⟨defScope (top 73), fun _ => true⟩ b__law_turns (defBody (top 73)) = true := by decide +kernel
theorem scp__law_turns : FnScope N__law_turns (N__law_turns.take 1) (defScope (top 73)) := ⟨rfl, rfl, rfl, by decide +kernel, rfl, by decide +kernel, by decide +kernel⟩
theorem bnd__law_turns : ∀ (kV doc pm : Value) (an : Option Addr) (cdv ct : Value) (us : List Value), us.length = (N__law_turns.take 1).length → bindArgs (PySem.W.fnOf "_law_turns" "_law_turns" (defArgs (top 73)) (defBody (top 73)) (defScope (top 73)) .none kV doc pm an cdv ct) ⟨us, []⟩ = pure ((N__law_turns.take 1).zip us) := fun _ _ _ _ _ _ us hl => match us, hl with | [_], _ => rfl
theorem chk_law : chkSs ⟨N_law, con, mb⟩ ⟨defScope (top 74), fun _ => true⟩ b_law (defBody (top 74)) = true := by decide +kernel
theorem scp_law : FnScope N_law (N_law.take 1) (defScope (top 74)) := ⟨rfl, rfl, rfl, by decide +kernel, rfl, by decide +kernel, by decide +kernel⟩
theorem bnd_law : ∀ (kV doc pm : Value) (an : Option Addr) (cdv ct : Value) (us : List Value), us.length = (N_law.take 1).length → bindArgs (PySem.W.fnOf "law" "law" (defArgs (top 74)) (defBody (top 74)) (defScope (top 74)) .none kV doc pm an cdv ct) ⟨us, []⟩ = pure ((N_law.take 1).zip us) := fun _ _ _ _ _ _ us hl => match us, hl with | [_], _ => rfl
end K03

set_option Elab.async false
set_option linter.all false
set_option autoImplicit false
set_option maxRecDepth 100000
set_option maxHeartbeats 4000000
/-! # spans: looking into runs, adding a run -/
namespace K03
open PySem PyE L2 PyV PySem.W Sp
section
theorem phiT {f : Str} {d : Df} {m : Nat} (h : T.find? (fun d : Df => d.name == f) = some d) : Phi T (m + 1) f = some (runDf (Phi T m) d) := phi h
variable {Φ : Fns} {rs : Runs} {h : Int}
theorem eb_at {lo : Int} (c : Can lo rs) {i : Nat} {r : Int × Int} (e : rs[i]? = some r) : decide (r.2 ≤ h) = decide (i < eb rs h) := by
  rw [decide_eq_decide]
  exact (eb_spec h c i r e).symm
theorem ends_loop {lo : Int} (c : Can lo rs) {k : Nat} : ∀ (n low high : Nat) (x4 : Sl), nb x4 = true → low ≤ eb rs h → eb rs h ≤ high → high ≤ rs.length → high - low < n →
    ∃ hi x4', whlL (evT Φ (.cmp .Lt (.v 2) (.v 3))) (evSs Φ k (.cons (.asg 4 (.bin .FloorDiv (.bin .Add (.v 2) (.v 3)) (.k (.int 2)))) (.cons (.ite (.cmp .LtE (.ix (.ix (.v 0) (.v 4)) (.k (.int 1))) (.v 1)) (.cons (.asg 2 (.bin .Add (.v 4) (.k (.int 1)))) .nil) (.cons (.asg 3 (.v 4)) .nil)) .nil))) n [.sh (rsT rs), .sh (.int h), .sh (.int (low : Nat)), .sh (.int (high : Nat)), x4] = .nxt [.sh (rsT rs), .sh (.int h), .sh (.int (eb rs h : Nat)), hi, x4']
  | 0, low, high, x4, _, _, _, _, hn => by omega
  | n + 1, low, high, x4, hx, h1, h2, h3, hn => by
    have ht : evT Φ (.cmp .Lt (.v 2) (.v 3)) [.sh (rsT rs), .sh (.int h), .sh (.int (low : Nat)), .sh (.int (high : Nat)), x4] = .ok (decide ((low : Int) < (high : Nat))) [.sh (rsT rs), .sh (.int h), .sh (.int (low : Nat)), .sh (.int (high : Nat)), x4] := rfl
    by_cases hl : low < high
    · rw [decide_eq_true (by omega)] at ht
      let mid : Nat := (low + high) / 2
      have hm : mid < rs.length := by show (low + high) / 2 < _; omega
      have e := List.getElem?_eq_getElem hm
      have hd := eb_at (h := h) c e
      have s1 : evS Φ k (.asg 4 (.bin .FloorDiv (.bin .Add (.v 2) (.v 3)) (.k (.int 2)))) [.sh (rsT rs), .sh (.int h), .sh (.int (low : Nat)), .sh (.int (high : Nat)), x4] = .nxt [.sh (rsT rs), .sh (.int h), .sh (.int (low : Nat)), .sh (.int (high : Nat)), .sh (.int (mid : Nat))] := by
        rw [asg_now (d := .int (mid : Nat)) (e1 := [.sh (rsT rs), .sh (.int h), .sh (.int (low : Nat)), .sh (.int (high : Nat)), x4]) ?_ (x := x4) rfl hx]
        · rfl
        · refine bin_now (bin_now rfl rfl rfl) rfl ?_
          rfl
      have t2 : evT Φ (.cmp .LtE (.ix (.ix (.v 0) (.v 4)) (.k (.int 1))) (.v 1)) [.sh (rsT rs), .sh (.int h), .sh (.int (low : Nat)), .sh (.int (high : Nat)), .sh (.int (mid : Nat))] = .ok (decide (mid < eb rs h)) [.sh (rsT rs), .sh (.int h), .sh (.int (low : Nat)), .sh (.int (high : Nat)), .sh (.int (mid : Nat))] :=
        tst (cmp_nows (ix_now (ix_now rfl rfl (at_rsT e)) rfl rfl) rfl (by rw [← hd]; rfl))
      by_cases hc : mid < eb rs h
      · rw [decide_eq_true hc] at t2
        rw [whl_t ht (by rw [seq_nxt s1, if_tn t2 (e2 := [.sh (rsT rs), .sh (.int h), .sh (.int ((mid + 1 : Nat) : Int)), .sh (.int (high : Nat)), .sh (.int (mid : Nat))]) rfl]; rfl)]
        exact ends_loop c n (mid + 1) high _ rfl (by omega) h2 h3 (by show high - ((low + high) / 2 + 1) < n; omega)
      · rw [decide_eq_false hc] at t2
        rw [whl_t ht (by rw [seq_nxt s1, if_fn t2 (e2 := [.sh (rsT rs), .sh (.int h), .sh (.int (low : Nat)), .sh (.int (mid : Nat)), .sh (.int (mid : Nat))]) rfl]; rfl)]
        exact ends_loop c n low mid _ rfl h1 (by omega) (by omega) (by show (low + high) / 2 - low < n; omega)
    · rw [decide_eq_false (by omega)] at ht
      have : low = eb rs h := by omega
      subst this
      exact ⟨_, _, whl_f ht⟩
theorem ends_run {lo : Int} (c : Can lo rs) (hl : rs.length < 1000000000) : (runDf Φ d_ends_by).run [rsT rs, .int h] = .ret (.int (eb rs h : Nat)) [] := by
  show frR (evSs Φ 1000000000 b_ends_by [.sh (rsT rs), .sh (.int h), .no, .no, .no]) = _
  unfold b_ends_by
  rw [seq_nxt (par_n (e3 := [.sh (rsT rs), .sh (.int h), .sh (.int ((0 : Nat) : Int)), .sh (.int (rs.length : Nat)), .no]) (ws := [.now (.int 0), .now (.int (rs.length : Nat))]) (es_cons rfl (es_cons (bf_now rfl (len_rsT rs)) rfl)) rfl rfl)]
  obtain ⟨hi, x4, he⟩ := ends_loop (Φ := Φ) (k := 1000000000) (h := h) c 1000000000 0 rs.length .no rfl (Nat.zero_le _) (eb_le _ _) (Nat.le_refl _) (by omega)
  rw [seq_nxt (whl_nxt he)]
  rfl
variable {m : Nat}
theorem ends_call {lo : Int} (c : Can lo rs) (hl : rs.length < 1000000000) {es : IEs} {env e1 : SEnv} (hes : evEs (Phi T (m + 1)) es env = .ok [.now (rsT rs), .now (.int h)] e1) : evE (Phi T (m + 1)) (.call "ends_by" es) env = .ok (.now (.int (eb rs h : Nat))) e1 :=
  callN (fs := runDf (Phi T m) d_ends_by) rfl hes rfl rfl rfl (b := []) (ends_run c hl)
theorem dec_len {n k : Nat} : decide ((n : Int) < (k : Int)) = decide (n < k) := by
  rw [decide_eq_decide]
  omega
theorem get_none {n : Nat} (hn : ¬ n < rs.length) : rs[n]? = none := List.getElem?_eq_none (by omega)
/-- whether the run at a place begins by the hour -/
theorem at_and {v w : Nat} {hE : IE} {env : SEnv} {n : Nat} (e1 : env[v]? = some (.sh (rsT rs))) (e2 : env[w]? = some (.sh (.int (n : Nat)))) (e3 : evE Φ hE env = .ok (.now (.int h)) env) :
    evE Φ (.and (.cmp .Lt (.v w) (.bf .len (.cons (.v v) .nil))) (.cmp .LtE (.ix (.ix (.v v) (.v w)) (.k (.int 0))) hE)) env = .ok (.now (.bool (match rs[n]? with | some r => decide (r.1 ≤ h) | none => false))) env := by
  have v1 : evE Φ (.v v) env = .ok (.now (rsT rs)) env := by simp only [evE, e1]
  have v2 : evE Φ (.v w) env = .ok (.now (.int (n : Nat))) env := by simp only [evE, e2]
  have t1 := cmp_nows (op := .Lt) v2 (bf_now v1 (len_rsT rs)) (show cmpD .Lt (.int (n : Nat)) (.int (rs.length : Nat)) = some (decide (n < rs.length)) from by rw [← dec_len]; rfl)
  by_cases hn : n < rs.length
  · rw [decide_eq_true hn] at t1
    have e := List.getElem?_eq_getElem hn
    rw [and_t t1, e]
    exact cmp_nows (ix_now (ix_now v1 v2 (at_rsT e)) rfl rfl) e3 rfl
  · rw [decide_eq_false hn] at t1
    rw [and_ff t1, get_none hn]
theorem in_runs_run {lo : Int} (c : Can lo rs) (hl : rs.length < 1000000000) : (runDf (Phi T (m + 1)) d_in_runs).run [rsT rs, .int h] = .ret (.bool (inR rs h)) [] := by
  show frR (evSs _ 100 b_in_runs [.sh (rsT rs), .sh (.int h), .no]) = _
  unfold b_in_runs
  rw [seq_nxt (asg_now (ends_call c hl rfl) (x := .no) rfl rfl)]
  rw [seq_ret (ret_now (at_and (rs := rs) (h := h) (v := 0) (w := 2) (n := eb rs h) rfl rfl rfl))]
  rfl
theorem in_call {lo : Int} (c : Can lo rs) (hl : rs.length < 1000000000) {es : IEs} {env e1 : SEnv} (hes : evEs (Phi T (m + 2)) es env = .ok [.now (rsT rs), .now (.int h)] e1) : evE (Phi T (m + 2)) (.call "in_runs" es) env = .ok (.now (.bool (inR rs h))) e1 :=
  callN (fs := runDf (Phi T (m + 1)) d_in_runs) rfl hes rfl rfl rfl (b := []) (in_runs_run c hl)
/-- small sets -/
structure Sm (q : Q) : Prop where
  v : V q
  st : q.st ≤ 4000000
  pd : q.pd ∣ 60480
theorem Sm.pd_le {q : Q} (s : Sm q) : q.pd ≤ 60480 := Int.le_of_dvd (by decide) s.pd
theorem Sm.lh {q : Q} (s : Sm q) : q.hd.length ≤ 4000001 := by
  have := can_len s.v.ch s.v.he (by have := s.v.st0; omega)
  have := s.st
  omega
theorem Sm.lc {q : Q} (s : Sm q) : q.pc.length ≤ 60481 := by
  have := can_len s.v.cp s.v.pe (by have := s.v.pd0; omega)
  have := s.pd_le
  omega
def hasB (q : Q) (h : Int) : Bool := if h < q.st then inR q.hd h else inR q.pc ((h - q.st) % q.pd)
theorem hasB_iff {q : Q} (v : V q) {h : Int} : hasB q h = true ↔ S q h := by
  unfold hasB S
  by_cases c : h < q.st
  · rw [if_pos c, if_pos c]; exact inR_spec v.ch
  · rw [if_neg c, if_neg c]; exact inR_spec v.cp
theorem mod_ok {i j : Int} (hj : 0 < j) : binD .Mod (.int i) (.int j) = some (.now (.int (i % j))) := by
  show (if decide (0 < j) then some (Vw.now (PyData.int (i % j))) else none) = _
  rw [decide_eq_true hj]
  rfl
theorem has_run {q : Q} (s : Sm q) : (runDf (Phi T (m + 2)) d_has).run [qT q, .int h] = .ret (.bool (hasB q h)) [] := by
  have l1 := s.lh
  have l2 := s.lc
  show frR (evSs _ 100 b_has [.sh (qT q), .sh (.int h), .no, .no, .no, .no]) = _
  unfold b_has
  rw [seq_nxt (asgT_n (ds := [rsT q.hd, .int q.st, .int q.pd, rsT q.pc]) (e2 := [.sh (qT q), .sh (.int h), .sh (rsT q.hd), .sh (.int q.st), .sh (.int q.pd), .sh (rsT q.pc)]) rfl rfl)]
  have t : evT (Phi T (m + 2)) (.cmp .Lt (.v 1) (.v 3)) [.sh (qT q), .sh (.int h), .sh (rsT q.hd), .sh (.int q.st), .sh (.int q.pd), .sh (rsT q.pc)] = .ok (decide (h < q.st)) [.sh (qT q), .sh (.int h), .sh (rsT q.hd), .sh (.int q.st), .sh (.int q.pd), .sh (rsT q.pc)] := rfl
  unfold hasB
  by_cases c : h < q.st
  · rw [decide_eq_true c] at t
    rw [if_pos c, ite_1 t (seq_ret (ret_now (in_call (rs := q.hd) (h := h) s.v.ch (by omega) rfl)))]
    rfl
  · rw [decide_eq_false c] at t
    rw [if_neg c, ite_0 t, seq_ret (ret_now (in_call (rs := q.pc) (h := (h - q.st) % q.pd) s.v.cp (by omega) (es_cons rfl (es_cons (bin_now (bin_now rfl rfl rfl) rfl (mod_ok s.v.pd0)) rfl))))]
    rfl
theorem has_call {q : Q} (s : Sm q) {es : IEs} {env e1 : SEnv} (hes : evEs (Phi T (m + 3)) es env = .ok [.now (qT q), .now (.int h)] e1) : evE (Phi T (m + 3)) (.call "has" es) env = .ok (.now (.bool (hasB q h))) e1 :=
  callN (fs := runDf (Phi T (m + 2)) d_has) rfl hes rfl rfl rfl (b := []) (has_run s)
theorem is_empty_run {q : Q} : (runDf Φ d_is_empty).run [qT q] = .ret (.bool (decide (q.hd = []) && decide (q.pc = []))) [] := by
  show frR (evSs Φ 100 b_is_empty [.sh (qT q)]) = _
  unfold b_is_empty
  have e : ∀ (rs : Runs), cmpD .Eq (.int (rs.length : Nat)) (.int 0) = some (decide (rs = [])) := fun rs => by
    rw [ceq_int]
    cases rs with
    | nil => rfl
    | cons r rs =>
      rw [decide_eq_false (by simp)]
      simp
      omega
  rw [seq_ret (ret_now (and_b (cmp_nows (bf_now (d := rsT q.hd) (ix_now rfl rfl rfl) (len_rsT _)) rfl (e _)) (cmp_nows (bf_now (d := rsT q.pc) (ix_now rfl rfl rfl) (len_rsT _)) rfl (e _))))]
  rfl
theorem is_full_run {p : Int} : (runDf Φ d_is_full).run [rsT rs, .int p] = .ret (.bool (full rs p)) [] := by
  show frR (evSs Φ 100 b_is_full [.sh (rsT rs), .sh (.int p)]) = _
  unfold b_is_full
  cases rs with
  | nil => rfl
  | cons r rs =>
    cases rs with
    | nil =>
      rw [and_t (show evE Φ (.cmp .Eq (.bf .len (.cons (.v 0) .nil)) (.k (.int 1))) [.sh (rsT [r]), .sh (.int p)] = .ok (.now (.bool true)) [.sh (rsT [r]), .sh (.int p)] from rfl) |> fun z => seq_ret (ret_now (z.trans (and_b (x := r.1 == 0) (y := r.2 == p) rfl rfl)))]
      show FRes.ret (.bool (r.1 == 0 && r.2 == p)) [] = .ret (.bool (full [r] p)) []
      congr 2
    | cons r2 rs =>
      have t : evE Φ (.cmp .Eq (.bf .len (.cons (.v 0) .nil)) (.k (.int 1))) [.sh (rsT (r :: r2 :: rs)), .sh (.int p)] = .ok (.now (.bool false)) [.sh (rsT (r :: r2 :: rs)), .sh (.int p)] :=
        cmp_nows (bf_now rfl (len_rsT _)) rfl (by
          rw [ceq_int]
          simp
          omega)
      rw [seq_ret (ret_now (and_ff t))]
      rfl
theorem full_call {p : Int} {es : IEs} {env e1 : SEnv} (hes : evEs (Phi T (m + 1)) es env = .ok [.now (rsT rs), .now (.int p)] e1) : evE (Phi T (m + 1)) (.call "is_full" es) env = .ok (.now (.bool (full rs p))) e1 :=
  callN (fs := runDf (Phi T m) d_is_full) rfl hes rfl rfl rfl (b := []) is_full_run
end
end K03

set_option Elab.async false
set_option linter.all false
set_option autoImplicit false
set_option maxRecDepth 100000
set_option maxHeartbeats 4000000
/-! # spans: adding a run, the least hour from one on -/
namespace K03
open PySem PyE L2 PyV PySem.W Sp
section
variable {Φ : Fns} {rs : Runs} {h b e : Int} {m : Nat}
theorem at_last {α : Type} (xs : List α) (l : α) : atI (xs ++ [l]) (-1) = some l := by
  unfold atI ixN
  rw [if_neg (by decide), if_pos (by rw [List.length_append]; simp; omega)]
  show (xs ++ [l])[((-1 : Int) + ((xs ++ [l]).length : Nat)).toNat]? = _
  rw [show ((-1 : Int) + ((xs ++ [l]).length : Nat)).toNat = xs.length from by rw [List.length_append]; simp; omega]
  rw [List.getElem?_append_right (Nat.le_refl _), Nat.sub_self]
  rfl
theorem last_L (xs : Runs) (l : Int × Int) : ixD (rsL (xs ++ [l])) (.int (-1)) = some (rT l) := by
  show atI ((xs ++ [l]).map rT) (-1) = _
  rw [List.map_append]
  exact at_last _ _
theorem ixN_last (n : Nat) : ixN (n + 1) (-1) = some n := by
  unfold ixN
  rw [if_neg (by decide), if_pos (by omega)]
  congr 1
  omega
theorem add_run_run (hl : rs.length < 16000000) : (runDf Φ d_add_run).run [rsL rs, .int b, .int e] = .ret .none ((addRun rs b e).map rT) := by
  show frB (evSs Φ 100 b_add_run [.bor (rs.map rT), .sh (.int b), .sh (.int e)]) = _
  unfold b_add_run
  have t1 : evT Φ (.cmp .GtE (.v 1) (.v 2)) [.bor (rs.map rT), .sh (.int b), .sh (.int e)] = .ok (decide (e ≤ b)) [.bor (rs.map rT), .sh (.int b), .sh (.int e)] := rfl
  unfold addRun
  by_cases h0 : e ≤ b
  · rw [decide_eq_true h0] at t1
    rw [if_pos h0, ite_1 t1 rfl]
    rfl
  rw [decide_eq_false h0] at t1
  rw [if_neg h0, ite_0 t1]
  have appd : ∀ {xs : Runs}, xs.length < 16000000 → ∀ {r : ISs}, frB (evSs Φ 100 (.cons (.app 0 (.tup (.cons (.v 1) (.cons (.v 2) .nil)))) .nil) [.bor (xs.map rT), .sh (.int b), .sh (.int e)]) = .ret .none ((xs ++ [(b, e)]).map rT) := fun {xs} hx _ => by
    have a : evS Φ 100 (.app 0 (.tup (.cons (.v 1) (.cons (.v 2) .nil)))) [.bor (xs.map rT), .sh (.int b), .sh (.int e)] = .nxt [.bor (xs.map rT ++ [rT (b, e)]), .sh (.int b), .sh (.int e)] := by
      show (if szOk ((xs.map rT).length + 1) then FR.nxt _ else .stuck) = _
      rw [List.length_map, show szOk (xs.length + 1) = true from decide_eq_true (by omega)]
      rfl
    rw [seq_nxt a, List.map_append]
    rfl
  rcases snoc_cases rs with rfl | ⟨xs, l, rfl⟩
  · have t2 : evT Φ (.and (.v 0) (.cmp .GtE (.ix (.ix (.v 0) (.neg (.k (.int 1)))) (.k (.int 1))) (.v 1))) [.bor (([] : Runs).map rT), .sh (.int b), .sh (.int e)] = .ok false [.bor (([] : Runs).map rT), .sh (.int b), .sh (.int e)] := rfl
    rw [seq_if t2]
    show frB ((evSs Φ 100 _ _).bind _) = _
    have := appd (xs := []) (by simp) (r := .nil)
    cases he : evSs Φ 100 (.cons (.app 0 (.tup (.cons (.v 1) (.cons (.v 2) .nil)))) .nil) [.bor (([] : Runs).map rT), .sh (.int b), .sh (.int e)] with
    | nxt en => rw [he] at this; exact this
    | _ => rw [he] at this; exact this
  · rw [List.getLast?_concat, List.dropLast_concat]
    have ixl : evE Φ (.ix (.v 0) (.neg (.k (.int 1)))) [.bor ((xs ++ [l]).map rT), .sh (.int b), .sh (.int e)] = .ok (.now (rT l)) [.bor ((xs ++ [l]).map rT), .sh (.int b), .sh (.int e)] := ix_vw (w := .late 0) rfl (neg_now rfl) rfl rfl (last_L xs l)
    have tr : ∀ (c : Bool) (E : IE), evE Φ E [.bor ((xs ++ [l]).map rT), .sh (.int b), .sh (.int e)] = .ok (.now (.bool c)) [.bor ((xs ++ [l]).map rT), .sh (.int b), .sh (.int e)] → evT Φ (.and (.v 0) E) [.bor ((xs ++ [l]).map rT), .sh (.int b), .sh (.int e)] = .ok c [.bor ((xs ++ [l]).map rT), .sh (.int b), .sh (.int e)] := fun c E hE => by
      have : evE Φ (.v 0) [.bor ((xs ++ [l]).map rT), .sh (.int b), .sh (.int e)] = .ok (.late 0) [.bor ((xs ++ [l]).map rT), .sh (.int b), .sh (.int e)] := rfl
      have tt : truR [.bor ((xs ++ [l]).map rT), .sh (.int b), .sh (.int e)] (.late 0) = some true := by
        show some (!((xs ++ [l]).map rT).isEmpty) = some true
        rw [List.map_append]
        cases xs.map rT <;> rfl
      exact tst ((and_wt this tt).trans hE)
    have t2 := tr (decide (b ≤ l.2)) _ (cmp_nows (op := .GtE) (d := .int l.2) (d' := .int b) (ix_now ixl (b := .k (.int 1)) rfl rfl) (b := .v 1) rfl rfl)
    show frB (evSs Φ 100 _ [.bor ((xs ++ [l]).map rT), .sh (.int b), .sh (.int e)]) = .ret .none ((if b ≤ l.2 then (if l.2 < e then xs ++ [(l.1, e)] else xs ++ [l]) else xs ++ [l] ++ [(b, e)]).map rT)
    by_cases h1 : b ≤ l.2
    · rw [decide_eq_true h1] at t2
      rw [if_pos h1, seq_if t2, if_pos rfl]
      have t3 : evT Φ (.cmp .Gt (.v 2) (.ix (.ix (.v 0) (.neg (.k (.int 1)))) (.k (.int 1)))) [.bor ((xs ++ [l]).map rT), .sh (.int b), .sh (.int e)] = .ok (decide (l.2 < e)) [.bor ((xs ++ [l]).map rT), .sh (.int b), .sh (.int e)] := tst (cmp_nows (d := .int e) rfl (ix_now ixl rfl rfl) rfl)
      rw [seq_if t3]
      by_cases h2 : l.2 < e
      · rw [if_pos h2, decide_eq_true h2, if_pos rfl]
        have tp : evE Φ (.tup (.cons (.ix (.ix (.v 0) (.neg (.k (.int 1)))) (.k (.int 0))) (.cons (.v 2) .nil))) [.bor ((xs ++ [l]).map rT), .sh (.int b), .sh (.int e)] = .ok (.now (rT (l.1, e))) [.bor ((xs ++ [l]).map rT), .sh (.int b), .sh (.int e)] := tup_of (es_cons (ix_now ixl rfl rfl) rfl) rfl rfl
        have st : evS Φ 100 (.set 0 (.neg (.k (.int 1))) (.tup (.cons (.ix (.ix (.v 0) (.neg (.k (.int 1)))) (.k (.int 0))) (.cons (.v 2) .nil)))) [.bor ((xs ++ [l]).map rT), .sh (.int b), .sh (.int e)] = .nxt [.bor ((xs ++ [(l.1, e)]).map rT), .sh (.int b), .sh (.int e)] := by
          have hm : isMine [.bor ((xs ++ [l]).map rT), .sh (.int b), .sh (.int e)] 0 = true := rfl
          simp only [evS, hm, if_true, tp, Rs.toF, keepF]
          show setK [.bor ((xs ++ [l]).map rT), .sh (.int b), .sh (.int e)] 0 (-1) (rT (l.1, e)) = _
          unfold setK
          show (match ixN ((xs ++ [l]).map rT).length (-1) with | some m => FR.nxt _ | none => .stuck) = _
          rw [List.length_map, List.length_append]
          show (match ixN (xs.length + 1) (-1) with | some m => FR.nxt _ | none => .stuck) = _
          rw [ixN_last]
          show FR.nxt [.bor (((xs ++ [l]).map rT).set xs.length (rT (l.1, e))), .sh (.int b), .sh (.int e)] = _
          congr 3
          rw [List.map_append, List.map_append, List.set_append_right _ _ (by rw [List.length_map]; exact Nat.le_refl _), List.length_map, Nat.sub_self]
          rfl
        rw [seq_nxt st]
        rfl
      · rw [if_neg h2, decide_eq_false h2]
        rfl
    · rw [decide_eq_false h1] at t2
      rw [if_neg h1, seq_if t2]
      show frB ((evSs Φ 100 _ _).bind _) = _
      have := appd (xs := xs ++ [l]) hl (r := .nil)
      cases he : evSs Φ 100 (.cons (.app 0 (.tup (.cons (.v 1) (.cons (.v 2) .nil)))) .nil) [.bor ((xs ++ [l]).map rT), .sh (.int b), .sh (.int e)] with
      | nxt en => rw [he] at this; exact this
      | _ => rw [he] at this; exact this
/-- a run is added to slot i -/
theorem add_step {n i : Nat} {env e1 : SEnv} {es : IEs} (hl : rs.length < 16000000) (hm : isMine env i = true) (hes : evEs (Phi T (m + 1)) es env = .ok [.now (.int b), .now (.int e)] e1) (hx : e1[i]? = some (.own (rs.map rT))) :
    evS (Phi T (m + 1)) n (.ex (.callb "add_run" i es)) env = .nxt (e1.set i (.own ((addRun rs b e).map rT))) :=
  ex_nxt (callbN (fs := runDf (Phi T m) d_add_run) rfl hm hes rfl rfl rfl hx (add_run_run hl))
theorem smallI_le {j : Int} (h0 : 0 ≤ j) (h1 : j ≤ 1000000000000) : smallI j = true := by
  obtain ⟨n, rfl⟩ := Int.eq_ofNat_of_zero_le h0
  unfold smallI inB
  exact Nat.ble_eq_true_of_le (by omega)
theorem mul_ok {i j : Int} (h0 : 0 ≤ j) (h1 : j ≤ 1000000000000) : binD .Mult (.int i) (.int j) = some (.now (.int (i * j))) := by
  show (if mulOk i j then some (Vw.now (PyData.int (i * j))) else none) = _
  rw [mulOk_r (smallI_le h0 h1)]
  rfl
theorem divOk_le {j : Int} (h0 : 0 < j) (h1 : j ≤ 1000000000000) : divOk j = true := by
  obtain ⟨n, rfl⟩ := Int.eq_ofNat_of_zero_le (Int.le_of_lt h0)
  unfold divOk
  rw [Bool.and_eq_true, decide_eq_true_eq, decide_eq_true_eq]
  refine ⟨h0, ?_⟩
  show n.log2 < 9000
  have hn : n < 2 ^ 41 := by
    have : (n : Int) < 2 ^ 41 := by omega
    exact_mod_cast this
  have : n.log2 < 41 := (Nat.log2_lt (by omega)).mpr hn
  omega
theorem div_ok {i j : Int} (h0 : 0 < j) (h1 : j ≤ 1000000000000) : binD .FloorDiv (.int i) (.int j) = some (.now (.int (i / j))) := by
  show (if divOk j then some (Vw.now (PyData.int (i / j))) else none) = _
  rw [divOk_le h0 h1]
  rfl
theorem dvm_ok {i j : Int} (h0 : 0 < j) (h1 : j ≤ 1000000000) : bfD .dvm [.int i, .int j] = some (.now (.tuple [.int (i / j), .int (i % j)])) := by
  show (if decide (0 < j) && inB 1073741822 j then some (Vw.now (PyData.tuple [.int (i / j), .int (i % j)])) else none) = _
  have : inB 1073741822 j = true := by
    obtain ⟨n, rfl⟩ := Int.eq_ofNat_of_zero_le (Int.le_of_lt h0)
    unfold inB
    exact Nat.ble_eq_true_of_le (by omega)
  rw [decide_eq_true h0, this]
  rfl
end
end K03

set_option Elab.async false
set_option linter.all false
set_option autoImplicit false
set_option maxRecDepth 100000
set_option maxHeartbeats 4000000
/-! # spans: the runs from one hour to another -/
namespace K03
open PySem PyE L2 PyV PySem.W Sp
section
variable {q : Q} {b e : Int} {m k : Nat}
def eO (q : Q) (b e : Int) (told : Runs) (x8 x9 : Sl) : SEnv := [.sh (qT q), .sh (.int b), .sh (.int e), .sh (rsT q.hd), .sh (.int q.st), .sh (.int q.pd), .sh (rsT q.pc), .own (told.map rT), x8, x9]
theorem put8 {told : Runs} {x8 x9 : Sl} (h : nb x8 = true) (d : D) : putT (eO q b e told x8 x9) (.one 8) d = some (eO q b e told (.sh d) x9) := by
  show putS (eO q b e told x8 x9) 8 (.sh d) = _
  rw [putS_nb (x := x8) rfl h]
  rfl
theorem seg0 (rs : Runs) (b e : Int) : seg rs 0 b e = ((rs.drop (eb rs b)).takeWhile fun r => decide (r.1 < e)).map fun r => (max b r.1, min e r.2) := by
  unfold seg
  rw [Int.sub_zero]
  simp only [Int.zero_add]
def hdF : IS := .for_ (.one 8) (.r2 (.call "ends_by" (.cons (.v 3) (.cons (.v 1) .nil))) (.bf .len (.cons (.v 3) .nil))) (.cons (.ite (.cmp .GtE (.ix (.ix (.v 3) (.v 8)) (.k (.int 0))) (.v 2)) (.cons (.brk) .nil) .nil) (.cons (.ex (.callb "add_run" 7 (.cons (.bf .max (.cons (.v 1) (.cons (.ix (.ix (.v 3) (.v 8)) (.k (.int 0))) .nil))) (.cons (.bf .min (.cons (.v 2) (.cons (.ix (.ix (.v 3) (.v 8)) (.k (.int 1))) .nil))) .nil)))) .nil))
theorem hd_loop (s : Sm q) : ∃ y8, nb y8 = true ∧ evS (Phi T (m + 1)) k hdF (eO q b e [] .no .no) = .nxt (eO q b e (addAll [] (seg q.hd 0 b e)) y8 .no) := by
  have lh := s.lh
  have hle := eb_le q.hd b
  obtain ⟨en, h1, x8, hx, h2⟩ := forL_suf (rs := q.hd) (R := fun told env => ∃ x8, nb x8 = true ∧ env = eO q b e told x8 .no) (f := fun x e1 => match putT e1 (.one 8) x with
      | some e2 => evSs (Phi T (m + 1)) k (.cons (.ite (.cmp .GtE (.ix (.ix (.v 3) (.v 8)) (.k (.int 0))) (.v 2)) (.cons (.brk) .nil) .nil) (.cons (.ex (.callb "add_run" 7 (.cons (.bf .max (.cons (.v 1) (.cons (.ix (.ix (.v 3) (.v 8)) (.k (.int 0))) .nil))) (.cons (.bf .min (.cons (.v 2) (.cons (.ix (.ix (.v 3) (.v 8)) (.k (.int 1))) .nil))) .nil)))) .nil)) e2
      | none => .stuck)
    (fun r => (max b r.1, min e r.2)) (fun r => decide (r.1 < e)) (fun i r told env hr hl hR => by
      obtain ⟨x8, hx, rfl⟩ := hR
      rw [put8 hx]
      have ixr : evE (Phi T (m + 1)) (.ix (.v 3) (.v 8)) (eO q b e told (.sh (.int (i : Nat))) .no) = .ok (.now (rT r)) (eO q b e told (.sh (.int (i : Nat))) .no) := ix_now rfl rfl (at_rsT hr)
      have t1 : evT (Phi T (m + 1)) (.cmp .GtE (.ix (.ix (.v 3) (.v 8)) (.k (.int 0))) (.v 2)) (eO q b e told (.sh (.int (i : Nat))) .no) = .ok (decide (e ≤ r.1)) (eO q b e told (.sh (.int (i : Nat))) .no) := tst (cmp_nows (d := .int r.1) (d' := .int e) (ix_now ixr rfl rfl) rfl rfl)
      refine ⟨fun hp => ?_, fun hp => ?_⟩
      · rw [decide_eq_false (by simpa using hp)] at t1
        refine ⟨_, ?_, .sh (.int (i : Nat)), rfl, rfl⟩
        show evSs _ k _ _ = _
        rw [ite_0 t1, seq_nxt (add_step (rs := told) (b := max b r.1) (e := min e r.2) (e1 := eO q b e told (.sh (.int (i : Nat))) .no) hl rfl (es_cons (bf_2 (d := .int b) (d' := .int r.1) rfl (ix_now ixr rfl rfl) (max_ii _ _)) (es_cons (bf_2 (d := .int e) (d' := .int r.2) rfl (ix_now ixr rfl rfl) (min_ii _ _)) rfl)) rfl)]
        rfl
      · rw [decide_eq_true (by simpa using hp)] at t1
        refine ⟨_, ?_, .sh (.int (i : Nat)), rfl, rfl⟩
        show evSs _ k _ _ = _
        rw [if_tb t1 rfl]) (q.hd.drop (eb q.hd b)) (q.hd.take (eb q.hd b)) [] (eO q b e [] .no .no) (List.take_append_drop _ _).symm (by rw [List.length_drop]; simp; omega) ⟨.no, rfl, rfl⟩
  refine ⟨x8, hx, ?_⟩
  unfold hdF
  rw [for_eq (ds := (List.range' (eb q.hd b) (q.hd.length - eb q.hd b)).map fun i => .int (i : Nat)) (i_r2 (ends_call s.v.ch (by omega) rfl) (bf_now rfl (len_rsT _)) (by omega) (by omega) hle)]
  rw [List.length_drop, List.length_take, Nat.min_eq_left hle] at h1
  rw [seg0, ← h2]
  exact h1
def pcF : IS := .for_ (.one 8) (.r2 (.call "ends_by" (.cons (.v 6) (.cons (.bin .Sub (.v 1) (.v 9)) .nil))) (.bf .len (.cons (.v 6) .nil))) (.cons (.ite (.cmp .GtE (.bin .Add (.v 9) (.ix (.ix (.v 6) (.v 8)) (.k (.int 0)))) (.v 2)) (.cons (.brk) .nil) .nil) (.cons (.ex (.callb "add_run" 7 (.cons (.bf .max (.cons (.v 1) (.cons (.bin .Add (.v 9) (.ix (.ix (.v 6) (.v 8)) (.k (.int 0)))) .nil))) (.cons (.bf .min (.cons (.v 2) (.cons (.bin .Add (.v 9) (.ix (.ix (.v 6) (.v 8)) (.k (.int 1)))) .nil))) .nil)))) .nil))
theorem pc_loop (s : Sm q) {told : Runs} {x8 : Sl} {base : Int} (hx8 : nb x8 = true) (htl : told.length ≤ 15000000) : ∃ y8, nb y8 = true ∧ evS (Phi T (m + 1)) k pcF (eO q b e told x8 (.sh (.int base))) = .nxt (eO q b e (addAll told (seg q.pc base b e)) y8 (.sh (.int base))) := by
  have lc := s.lc
  have hle := eb_le q.pc (b - base)
  obtain ⟨en, h1, x8', hx, h2⟩ := forL_suf (rs := q.pc) (R := fun told env => ∃ x8, nb x8 = true ∧ env = eO q b e told x8 (.sh (.int base))) (f := fun x e1 => match putT e1 (.one 8) x with
      | some e2 => evSs (Phi T (m + 1)) k (.cons (.ite (.cmp .GtE (.bin .Add (.v 9) (.ix (.ix (.v 6) (.v 8)) (.k (.int 0)))) (.v 2)) (.cons (.brk) .nil) .nil) (.cons (.ex (.callb "add_run" 7 (.cons (.bf .max (.cons (.v 1) (.cons (.bin .Add (.v 9) (.ix (.ix (.v 6) (.v 8)) (.k (.int 0)))) .nil))) (.cons (.bf .min (.cons (.v 2) (.cons (.bin .Add (.v 9) (.ix (.ix (.v 6) (.v 8)) (.k (.int 1)))) .nil))) .nil)))) .nil)) e2
      | none => .stuck)
    (fun r => (max b (base + r.1), min e (base + r.2))) (fun r => decide (base + r.1 < e)) (fun i r told env hr hl hR => by
      obtain ⟨x8, hx, rfl⟩ := hR
      rw [put8 hx]
      have ixr : evE (Phi T (m + 1)) (.ix (.v 6) (.v 8)) (eO q b e told (.sh (.int (i : Nat))) (.sh (.int base))) = .ok (.now (rT r)) (eO q b e told (.sh (.int (i : Nat))) (.sh (.int base))) := ix_now rfl rfl (at_rsT hr)
      have b0 : evE (Phi T (m + 1)) (.bin .Add (.v 9) (.ix (.ix (.v 6) (.v 8)) (.k (.int 0)))) (eO q b e told (.sh (.int (i : Nat))) (.sh (.int base))) = .ok (.now (.int (base + r.1))) (eO q b e told (.sh (.int (i : Nat))) (.sh (.int base))) := bin_now (d := .int base) (d' := .int r.1) rfl (ix_now ixr rfl rfl) rfl
      have b1 : evE (Phi T (m + 1)) (.bin .Add (.v 9) (.ix (.ix (.v 6) (.v 8)) (.k (.int 1)))) (eO q b e told (.sh (.int (i : Nat))) (.sh (.int base))) = .ok (.now (.int (base + r.2))) (eO q b e told (.sh (.int (i : Nat))) (.sh (.int base))) := bin_now (d := .int base) (d' := .int r.2) rfl (ix_now ixr rfl rfl) rfl
      have t1 : evT (Phi T (m + 1)) (.cmp .GtE (.bin .Add (.v 9) (.ix (.ix (.v 6) (.v 8)) (.k (.int 0)))) (.v 2)) (eO q b e told (.sh (.int (i : Nat))) (.sh (.int base))) = .ok (decide (e ≤ base + r.1)) (eO q b e told (.sh (.int (i : Nat))) (.sh (.int base))) := tst (cmp_nows (d := .int (base + r.1)) (d' := .int e) b0 rfl rfl)
      refine ⟨fun hp => ?_, fun hp => ?_⟩
      · rw [decide_eq_false (by simpa using hp)] at t1
        refine ⟨_, ?_, .sh (.int (i : Nat)), rfl, rfl⟩
        show evSs _ k _ _ = _
        rw [ite_0 t1, seq_nxt (add_step (rs := told) (b := max b (base + r.1)) (e := min e (base + r.2)) (e1 := eO q b e told (.sh (.int (i : Nat))) (.sh (.int base))) hl rfl (es_cons (bf_2 (d := .int b) rfl b0 (max_ii _ _)) (es_cons (bf_2 (d := .int e) rfl b1 (min_ii _ _)) rfl)) rfl)]
        rfl
      · rw [decide_eq_true (by simpa using hp)] at t1
        refine ⟨_, ?_, .sh (.int (i : Nat)), rfl, rfl⟩
        show evSs _ k _ _ = _
        rw [if_tb t1 rfl]) (q.pc.drop (eb q.pc (b - base))) (q.pc.take (eb q.pc (b - base))) told (eO q b e told x8 (.sh (.int base))) (List.take_append_drop _ _).symm (by rw [List.length_drop]; omega) ⟨x8, hx8, rfl⟩
  refine ⟨x8', hx, ?_⟩
  unfold pcF
  rw [for_eq (ds := (List.range' (eb q.pc (b - base)) (q.pc.length - eb q.pc (b - base))).map fun i => .int (i : Nat)) (i_r2 (ends_call (h := b - base) s.v.cp (by omega) rfl) (bf_now rfl (len_rsT _)) (by omega) (by omega) hle)]
  rw [List.length_drop, List.length_take, Nat.min_eq_left hle] at h1
  unfold seg
  rw [← h2]
  exact h1
theorem base_loop (s : Sm q) (hb : 0 ≤ b) (he : e ≤ 14000000) : ∀ (d n K : Nat) (x8 : Sl), nb x8 = true → d = kOf (baseOf q b) e q.pd - K → K ≤ kOf (baseOf q b) e q.pd → d < n →
    ∃ y8 y9, nb y8 = true ∧ whlL (evT (Phi T (m + 1)) (.cmp .Lt (.v 9) (.v 2))) (evSs (Phi T (m + 1)) k (.cons pcF (.cons (.aug 9 .Add (.v 5)) .nil))) n (eO q b e (addAll (addAll [] (seg q.hd 0 b e)) (partsR q.pc q.pd (baseOf q b) b e K)) x8 (.sh (.int (baseOf q b + K * q.pd)))) =
      .nxt (eO q b e (addAll (addAll [] (seg q.hd 0 b e)) (partsR q.pc q.pd (baseOf q b) b e (kOf (baseOf q b) e q.pd))) y8 y9)
  | d, 0, K, x8, _, _, _, h => by omega
  | d, n + 1, K, x8, hx, hd, hK, hn => by
    have sp := kOf_spec (base := baseOf q b) (e := e) s.v.pd0 K
    have t : ∀ told : Runs, evT (Phi T (m + 1)) (.cmp .Lt (.v 9) (.v 2)) (eO q b e told x8 (.sh (.int (baseOf q b + K * q.pd)))) = .ok (decide (baseOf q b + K * q.pd < e)) (eO q b e told x8 (.sh (.int (baseOf q b + K * q.pd)))) := fun _ => rfl
    by_cases hk : K < kOf (baseOf q b) e q.pd
    · have t := t (addAll (addAll [] (seg q.hd 0 b e)) (partsR q.pc q.pd (baseOf q b) b e K))
      rw [decide_eq_true (sp.mpr hk)] at t
      have hl := toldK s.v (e := e) hb K
      obtain ⟨y8, hy, h1⟩ := pc_loop (m := m) (k := k) (b := b) (e := e) (base := baseOf q b + K * q.pd) (told := addAll (addAll [] (seg q.hd 0 b e)) (partsR q.pc q.pd (baseOf q b) b e K)) s hx (by omega)
      rw [← addAll_app (addAll [] (seg q.hd 0 b e)) (partsR q.pc q.pd (baseOf q b) b e K) (seg q.pc (baseOf q b + K * q.pd) b e), ← parts_succ] at h1
      have e1 : baseOf q b + K * q.pd + q.pd = baseOf q b + ((K + 1 : Nat) : Int) * q.pd := by
        rw [Int.natCast_add, Int.add_mul]
        simp
        omega
      have h2 : evSs (Phi T (m + 1)) k (.cons pcF (.cons (.aug 9 .Add (.v 5)) .nil)) (eO q b e (addAll (addAll [] (seg q.hd 0 b e)) (partsR q.pc q.pd (baseOf q b) b e K)) x8 (.sh (.int (baseOf q b + K * q.pd)))) = .nxt (eO q b e (addAll (addAll [] (seg q.hd 0 b e)) (partsR q.pc q.pd (baseOf q b) b e (K + 1))) y8 (.sh (.int (baseOf q b + ((K + 1 : Nat) : Int) * q.pd)))) := by
        rw [seq_nxt h1, ← e1]
        rfl
      rw [whl_t t h2]
      exact base_loop s hb he (kOf (baseOf q b) e q.pd - (K + 1)) n (K + 1) y8 hy rfl (by omega) (by omega)
    · have t := t (addAll (addAll [] (seg q.hd 0 b e)) (partsR q.pc q.pd (baseOf q b) b e K))
      rw [decide_eq_false (fun z => hk (sp.mp z))] at t
      have : K = kOf (baseOf q b) e q.pd := by omega
      subst this
      exact ⟨x8, _, hx, whl_f t⟩
theorem runs_of_run (s : Sm q) (hb : 0 ≤ b) (hb2 : b ≤ 1000000000) (he : e ≤ 14000000) : (runDf (Phi T (m + 1)) d_runs_of).run [qT q, .int b, .int e] = .ret (rsL (runsOf q b e)) [] := by
  show frR (evSs _ 1000000000 b_runs_of [.sh (qT q), .sh (.int b), .sh (.int e), .no, .no, .no, .no, .no, .no, .no]) = _
  have lc := s.lc
  have pl := s.pd_le
  have p0 := s.v.pd0
  unfold b_runs_of
  rw [seq_nxt (asgT_n (ds := [rsT q.hd, .int q.st, .int q.pd, rsT q.pc]) (e2 := [.sh (qT q), .sh (.int b), .sh (.int e), .sh (rsT q.hd), .sh (.int q.st), .sh (.int q.pd), .sh (rsT q.pc), .no, .no, .no]) rfl rfl)]
  rw [seq_nxt (show evS _ _ (.asg 7 (.lst .nil)) [.sh (qT q), .sh (.int b), .sh (.int e), .sh (rsT q.hd), .sh (.int q.st), .sh (.int q.pd), .sh (rsT q.pc), .no, .no, .no] = .nxt (eO q b e [] .no .no) from rfl)]
  obtain ⟨y8, hy, h1⟩ := hd_loop (m := m) (k := 1000000000) (b := b) (e := e) s
  unfold hdF at h1
  rw [seq_nxt h1]
  have tn : evT (Phi T (m + 1)) (.nt (.v 6)) (eO q b e (addAll [] (seg q.hd 0 b e)) y8 .no) = .ok (decide (q.pc = [])) (eO q b e (addAll [] (seg q.hd 0 b e)) y8 .no) := by
    refine tst ?_
    show Rs.ok (Vw.now (.bool (!(!(q.pc.map rT).isEmpty)))) _ = _
    congr 3
    cases q.pc with
    | nil => rfl
    | cons r rs => rfl
  unfold runsOf
  have len : ∀ K, (addAll (addAll [] (seg q.hd 0 b e)) (partsR q.pc q.pd (baseOf q b) b e K)).length ≤ 14000001 := fun K => by
    have := toldK s.v (e := e) hb K
    omega
  by_cases h0 : q.pc = []
  · rw [decide_eq_true h0] at tn
    rw [if_pos h0, ite_1 tn (seq_ret (ret_late (i := 7) (ds := (addAll [] (seg q.hd 0 b e)).map rT) rfl rfl))]
    rfl
  rw [decide_eq_false h0] at tn
  rw [if_neg h0, ite_0 tn]
  have tf : evT (Phi T (m + 1)) (.call "is_full" (.cons (.v 6) (.cons (.v 5) .nil))) (eO q b e (addAll [] (seg q.hd 0 b e)) y8 .no) = .ok (full q.pc q.pd) (eO q b e (addAll [] (seg q.hd 0 b e)) y8 .no) := tst (full_call rfl)
  have l0 := len 0
  by_cases hf : full q.pc q.pd = true
  · rw [hf] at tf
    rw [if_pos hf]
    rw [ite_1 tf (e2 := (eO q b e (addRun (addAll [] (seg q.hd 0 b e)) (max b q.st) e) y8 .no).set 7 (.sh (rsL (addRun (addAll [] (seg q.hd 0 b e)) (max b q.st) e)))) (d := rsL (addRun (addAll [] (seg q.hd 0 b e)) (max b q.st) e)) (by
      rw [seq_nxt (add_step (rs := addAll [] (seg q.hd 0 b e)) (b := max b q.st) (e := e) (e1 := eO q b e (addAll [] (seg q.hd 0 b e)) y8 .no) (by
        have : (addAll (addAll [] (seg q.hd 0 b e)) (partsR q.pc q.pd (baseOf q b) b e 0)).length = (addAll [] (seg q.hd 0 b e)).length := rfl
        omega) rfl (es_cons (bf_2 (d := .int b) (d' := .int q.st) rfl rfl (max_ii _ _)) rfl) rfl)]
      exact seq_ret (ret_late (i := 7) (ds := (addRun (addAll [] (seg q.hd 0 b e)) (max b q.st) e).map rT) rfl rfl))]
    rfl
  rw [Bool.not_eq_true] at hf
  rw [hf] at tf
  rw [if_neg (by rw [hf]; decide), ite_0 tf]
  have a9 : evE (Phi T (m + 1)) (.bin .Add (.v 4) (.bin .Mult (.bf .max (.cons (.k (.int 0)) (.cons (.bin .FloorDiv (.bin .Sub (.v 1) (.v 4)) (.v 5)) .nil))) (.v 5))) (eO q b e (addAll [] (seg q.hd 0 b e)) y8 .no) = .ok (.now (.int (baseOf q b))) (eO q b e (addAll [] (seg q.hd 0 b e)) y8 .no) :=
    bin_now (d := .int q.st) (d' := .int (max 0 ((b - q.st) / q.pd) * q.pd)) rfl (bin_now (d := .int (max 0 ((b - q.st) / q.pd))) (d' := .int q.pd) (bf_2 (d := .int 0) (d' := .int ((b - q.st) / q.pd)) rfl (bin_now (d := .int (b - q.st)) (d' := .int q.pd) rfl rfl (div_ok p0 (by omega))) (max_ii _ _)) rfl (mul_ok (by omega) (by omega))) rfl
  rw [seq_nxt (e1 := eO q b e (addAll (addAll [] (seg q.hd 0 b e)) (partsR q.pc q.pd (baseOf q b) b e 0)) y8 (.sh (.int (baseOf q b)))) (asg_now a9 (x := .no) rfl rfl)]
  have kl := kOf_le (base := baseOf q b) (e := e) p0
  have bi := base_is s.v b
  have st0 := s.v.st0
  obtain ⟨z8, z9, hz, h2⟩ := base_loop (m := m) (k := 1000000000) s hb he (kOf (baseOf q b) e q.pd) 1000000000 0 y8 hy rfl (Nat.zero_le _) (by omega)
  have e0 : baseOf q b + ((0 : Nat) : Int) * q.pd = baseOf q b := by simp
  rw [e0] at h2
  unfold pcF at h2
  rw [seq_nxt (whl_nxt (e1 := _) h2)]
  rw [seq_ret (ret_late (i := 7) (ds := (addAll (addAll [] (seg q.hd 0 b e)) (partsR q.pc q.pd (baseOf q b) b e (kOf (baseOf q b) e q.pd))).map rT) rfl rfl)]
  rfl
theorem runs_call (s : Sm q) (hb : 0 ≤ b) (hb2 : b ≤ 1000000000) (he : e ≤ 14000000) {es : IEs} {env e1 : SEnv} (hes : evEs (Phi T (m + 2)) es env = .ok [.now (qT q), .now (.int b), .now (.int e)] e1) : evE (Phi T (m + 2)) (.call "runs_of" es) env = .ok (.now (rsL (runsOf q b e))) e1 :=
  callN (fs := runDf (Phi T (m + 1)) d_runs_of) rfl hes rfl rfl rfl (b := []) (runs_of_run s hb hb2 he)
end
end K03

set_option Elab.async false
set_option linter.all false
set_option autoImplicit false
set_option maxRecDepth 100000
set_option maxHeartbeats 4000000
/-! # spans: what is built, united, crossed, left out -/
namespace K03
open PySem PyE L2 PyV PySem.W Sp
section
variable {m k : Nat}
/-! ### built -/
def eB (l : Runs) (st p : Int) (h c : Runs) (x5 x6 : Sl) : SEnv := [.sh (rsL l), .sh (.int st), .sh (.int p), .own (h.map rT), .own (c.map rT), x5, x6]
def biB : ISs := (.cons (.ex (.callb "add_run" 3 (.cons (.v 5) (.cons (.bf .min (.cons (.v 6) (.cons (.v 1) .nil))) .nil)))) (.cons (.ex (.callb "add_run" 4 (.cons (.bin .Sub (.bf .max (.cons (.v 5) (.cons (.v 1) .nil))) (.v 1)) (.cons (.bin .Sub (.bf .min (.cons (.v 6) (.cons (.bin .Add (.v 1) (.v 2)) .nil))) (.v 1)) .nil)))) .nil))
theorem put56 {l : Runs} {st p : Int} {h c : Runs} {x5 x6 : Sl} (h5 : nb x5 = true) (h6 : nb x6 = true) (r : Int × Int) : putT (eB l st p h c x5 x6) (.many [5, 6]) (rT r) = some (eB l st p h c (.sh (.int r.1)) (.sh (.int r.2))) := by
  show (putS (eB l st p h c x5 x6) 5 (.sh (.int r.1))).bind _ = _
  rw [putS_nb (x := x5) rfl h5]
  show (putS (eB l st p h c (.sh (.int r.1)) x6) 6 (.sh (.int r.2))).bind _ = _
  rw [putS_nb (x := x6) rfl h6]
  rfl
theorem built_loop {l : Runs} {st p : Int} : ∀ (l' h c : Runs) (x5 x6 : Sl), nb x5 = true → nb x6 = true → h.length + l'.length < 16000000 → c.length + l'.length < 16000000 →
    ∃ y5 y6, nb y5 = true ∧ nb y6 = true ∧ forL (fun x e => match putT e (.many [5, 6]) x with
      | some e2 => evSs (Phi T (m + 1)) k biB e2
      | none => .stuck) (l'.map rT) (eB l st p h c x5 x6) = .nxt (eB l st p (addAll h (l'.map fun r => (r.1, min r.2 st))) (addAll c (l'.map fun r => (max r.1 st - st, min r.2 (st + p) - st))) y5 y6)
  | [], h, c, x5, x6, h5, h6, _, _ => ⟨x5, x6, h5, h6, rfl⟩
  | r :: l', h, c, x5, x6, h5, h6, hl, cl => by
    simp only [List.length_cons] at hl cl
    have lh := addRun_len h r.1 (min r.2 st)
    have lc := addRun_len c (max r.1 st - st) (min r.2 (st + p) - st)
    obtain ⟨y5, y6, g5, g6, ih⟩ := built_loop (l := l) (st := st) (p := p) l' (addRun h r.1 (min r.2 st)) (addRun c (max r.1 st - st) (min r.2 (st + p) - st)) (.sh (.int r.1)) (.sh (.int r.2)) rfl rfl (by omega) (by omega)
    refine ⟨y5, y6, g5, g6, ?_⟩
    rw [List.map_cons]
    unfold forL
    simp only [put56 h5 h6]
    have h1 : evSs (Phi T (m + 1)) k biB (eB l st p h c (.sh (.int r.1)) (.sh (.int r.2))) = .nxt (eB l st p (addRun h r.1 (min r.2 st)) (addRun c (max r.1 st - st) (min r.2 (st + p) - st)) (.sh (.int r.1)) (.sh (.int r.2))) := by
      unfold biB
      rw [seq_nxt (add_step (rs := h) (b := r.1) (e := min r.2 st) (e1 := eB l st p h c (.sh (.int r.1)) (.sh (.int r.2))) (by omega) rfl (es_cons rfl (es_cons (bf_2 (d := .int r.2) (d' := .int st) rfl rfl (min_ii _ _)) rfl)) rfl)]
      rw [show (eB l st p h c (.sh (.int r.1)) (.sh (.int r.2))).set 3 (.own ((addRun h r.1 (min r.2 st)).map rT)) = eB l st p (addRun h r.1 (min r.2 st)) c (.sh (.int r.1)) (.sh (.int r.2)) from rfl]
      rw [seq_nxt (add_step (rs := c) (b := max r.1 st - st) (e := min r.2 (st + p) - st) (e1 := eB l st p (addRun h r.1 (min r.2 st)) c (.sh (.int r.1)) (.sh (.int r.2))) (by omega) rfl
        (es_cons (bin_now (d := .int (max r.1 st)) (d' := .int st) (bf_2 (d := .int r.1) (d' := .int st) rfl rfl (max_ii _ _)) rfl rfl) (es_cons (bin_now (d := .int (min r.2 (st + p))) (d' := .int st) (bf_2 (d := .int r.2) (d' := .int (st + p)) rfl rfl (min_ii _ _)) rfl rfl) rfl)) rfl)]
      rfl
    rw [h1]
    exact ih
theorem built_run {l : Runs} {st p : Int} (hl : l.length < 16000000) : (runDf (Phi T (m + 1)) d_built).run [rsL l, .int st, .int p] = .ret (qT (built l st p)) [] := by
  show frR (evSs _ 100 b_built [.sh (rsL l), .sh (.int st), .sh (.int p), .no, .no, .no, .no]) = _
  unfold b_built
  rw [seq_nxt (show evS _ _ (.asg 3 (.lst .nil)) _ = .nxt [.sh (rsL l), .sh (.int st), .sh (.int p), .own [], .no, .no, .no] from rfl)]
  rw [seq_nxt (show evS _ _ (.asg 4 (.lst .nil)) _ = .nxt (eB l st p [] [] .no .no) from rfl)]
  obtain ⟨y5, y6, _, _, h⟩ := built_loop (m := m) (k := 100) (l := l) (st := st) (p := p) l [] [] .no .no rfl rfl (by simp; omega) (by simp; omega)
  unfold biB at h
  rw [seq_nxt ((for_eq (ds := l.map rT) rfl).trans h)]
  rfl
theorem built_call {l : Runs} {st p : Int} (hl : l.length < 16000000) {es : IEs} {env e1 : SEnv} (hes : evEs (Phi T (m + 2)) es env = .ok [.now (rsL l), .now (.int st), .now (.int p)] e1) : evE (Phi T (m + 2)) (.call "built" es) env = .ok (.now (qT (built l st p))) e1 :=
  callN (fs := runDf (Phi T (m + 1)) d_built) rfl hes rfl rfl rfl (b := []) (built_run hl)
/-! ### united -/
theorem mrg_nil (xs : Runs) : mrg xs [] = xs := by
  cases xs <;> rw [mrg]
theorem drop_at {rs : Runs} {a : Nat} (h : a < rs.length) : rs.drop a = rs[a] :: rs.drop (a + 1) := List.drop_eq_getElem_cons h
def eU (xs ys told : Runs) (a c : Nat) : SEnv := [.sh (rsL xs), .sh (rsL ys), .own (told.map rT), .sh (.int (a : Nat)), .sh (.int (c : Nat))]
def unB : ISs := (.cons (.ite (.or (.cmp .Eq (.v 4) (.bf .len (.cons (.v 1) .nil))) (.and (.cmp .Lt (.v 3) (.bf .len (.cons (.v 0) .nil))) (.cmp .LtE (.ix (.ix (.v 0) (.v 3)) (.k (.int 0))) (.ix (.ix (.v 1) (.v 4)) (.k (.int 0)))))) (.cons (.ex (.callb "add_run" 2 (.cons (.ix (.ix (.v 0) (.v 3)) (.k (.int 0))) (.cons (.ix (.ix (.v 0) (.v 3)) (.k (.int 1))) .nil)))) (.cons (.aug 3 .Add (.k (.int 1))) .nil)) (.cons (.ex (.callb "add_run" 2 (.cons (.ix (.ix (.v 1) (.v 4)) (.k (.int 0))) (.cons (.ix (.ix (.v 1) (.v 4)) (.k (.int 1))) .nil)))) (.cons (.aug 4 .Add (.k (.int 1))) .nil))) .nil)
def unT : IE := (.or (.cmp .Lt (.v 3) (.bf .len (.cons (.v 0) .nil))) (.cmp .Lt (.v 4) (.bf .len (.cons (.v 1) .nil))))
theorem lt_lens {Φ : Fns} {xs ys told : Runs} {a c : Nat} : evE Φ (.cmp .Lt (.v 3) (.bf .len (.cons (.v 0) .nil))) (eU xs ys told a c) = .ok (.now (.bool (decide (a < xs.length)))) (eU xs ys told a c) ∧ evE Φ (.cmp .Lt (.v 4) (.bf .len (.cons (.v 1) .nil))) (eU xs ys told a c) = .ok (.now (.bool (decide (c < ys.length)))) (eU xs ys told a c) := by
  constructor
  · exact cmp_nows (d := .int (a : Nat)) rfl (bf_now rfl (len_rsL _)) (by rw [← dec_len]; rfl)
  · exact cmp_nows (d := .int (c : Nat)) rfl (bf_now rfl (len_rsL _)) (by rw [← dec_len]; rfl)
theorem un_one {xs ys told : Runs} {a c : Nat} (hl : told.length < 16000000) (ha : a < xs.length) (hc : c = ys.length ∨ ∃ h : c < ys.length, xs[a].1 ≤ ys[c].1) :
    evSs (Phi T (m + 1)) k unB (eU xs ys told a c) = .nxt (eU xs ys (addRun told xs[a].1 xs[a].2) (a + 1) c) := by
  have e1 := List.getElem?_eq_getElem ha
  have ixx : evE (Phi T (m + 1)) (.ix (.v 0) (.v 3)) (eU xs ys told a c) = .ok (.now (rT xs[a])) (eU xs ys told a c) := ix_now rfl rfl (at_rsL e1)
  have eq : evE (Phi T (m + 1)) (.cmp .Eq (.v 4) (.bf .len (.cons (.v 1) .nil))) (eU xs ys told a c) = .ok (.now (.bool ((c : Int) == (ys.length : Nat)))) (eU xs ys told a c) := cmp_nows (d := .int (c : Nat)) rfl (bf_now rfl (len_rsL _)) (ceq_int _ _)
  have t : evT (Phi T (m + 1)) (.or (.cmp .Eq (.v 4) (.bf .len (.cons (.v 1) .nil))) (.and (.cmp .Lt (.v 3) (.bf .len (.cons (.v 0) .nil))) (.cmp .LtE (.ix (.ix (.v 0) (.v 3)) (.k (.int 0))) (.ix (.ix (.v 1) (.v 4)) (.k (.int 0)))))) (eU xs ys told a c) = .ok true (eU xs ys told a c) := by
    rcases hc with h | ⟨h, hle⟩
    · rw [beq_iff_eq.mpr (by omega)] at eq
      exact tst (or_tt eq)
    · have e2 := List.getElem?_eq_getElem h
      rw [beq_eq_false_iff_ne.mpr (by omega)] at eq
      refine tst ((or_f eq).trans ((and_t (by rw [lt_lens.1, decide_eq_true ha])).trans ?_))
      exact cmp_nows (d := .int xs[a].1) (d' := .int ys[c].1) (ix_now ixx rfl rfl) (ix_now (ix_now rfl rfl (at_rsL e2)) rfl rfl) (by show some (decide (xs[a].1 ≤ ys[c].1)) = _; rw [decide_eq_true hle])
  unfold unB
  rw [if_tn t (e2 := eU xs ys (addRun told xs[a].1 xs[a].2) (a + 1) c) (by
    rw [seq_nxt (add_step (rs := told) (b := xs[a].1) (e := xs[a].2) (e1 := eU xs ys told a c) hl rfl (es_cons (ix_now ixx rfl rfl) (es_cons (ix_now ixx rfl rfl) rfl)) rfl)]
    rfl)]
  rfl
theorem un_two {xs ys told : Runs} {a c : Nat} (hl : told.length < 16000000) (hc : c < ys.length) (ha : ¬ a < xs.length ∨ ∃ h : a < xs.length, ¬ xs[a].1 ≤ ys[c].1) :
    evSs (Phi T (m + 1)) k unB (eU xs ys told a c) = .nxt (eU xs ys (addRun told ys[c].1 ys[c].2) a (c + 1)) := by
  have e2 := List.getElem?_eq_getElem hc
  have iyy : evE (Phi T (m + 1)) (.ix (.v 1) (.v 4)) (eU xs ys told a c) = .ok (.now (rT ys[c])) (eU xs ys told a c) := ix_now rfl rfl (at_rsL e2)
  have eq : evE (Phi T (m + 1)) (.cmp .Eq (.v 4) (.bf .len (.cons (.v 1) .nil))) (eU xs ys told a c) = .ok (.now (.bool ((c : Int) == (ys.length : Nat)))) (eU xs ys told a c) := cmp_nows (d := .int (c : Nat)) rfl (bf_now rfl (len_rsL _)) (ceq_int _ _)
  rw [beq_eq_false_iff_ne.mpr (by omega)] at eq
  have t : evT (Phi T (m + 1)) (.or (.cmp .Eq (.v 4) (.bf .len (.cons (.v 1) .nil))) (.and (.cmp .Lt (.v 3) (.bf .len (.cons (.v 0) .nil))) (.cmp .LtE (.ix (.ix (.v 0) (.v 3)) (.k (.int 0))) (.ix (.ix (.v 1) (.v 4)) (.k (.int 0)))))) (eU xs ys told a c) = .ok false (eU xs ys told a c) := by
    rcases ha with h | ⟨h, hle⟩
    · exact tst ((or_f eq).trans (and_ff (by rw [lt_lens.1, decide_eq_false h])))
    · have e1 := List.getElem?_eq_getElem h
      refine tst ((or_f eq).trans ((and_t (by rw [lt_lens.1, decide_eq_true h])).trans ?_))
      exact cmp_nows (d := .int xs[a].1) (d' := .int ys[c].1) (ix_now (ix_now rfl rfl (at_rsL e1)) rfl rfl) (ix_now iyy rfl rfl) (by show some (decide (xs[a].1 ≤ ys[c].1)) = _; rw [decide_eq_false hle])
  unfold unB
  rw [if_fn t (e2 := eU xs ys (addRun told ys[c].1 ys[c].2) a (c + 1)) (by
    rw [seq_nxt (add_step (rs := told) (b := ys[c].1) (e := ys[c].2) (e1 := eU xs ys told a c) hl rfl (es_cons (ix_now iyy rfl rfl) (es_cons (ix_now iyy rfl rfl) rfl)) rfl)]
    rfl)]
  rfl
theorem un_loop {xs ys : Runs} : ∀ (n a c : Nat) (told : Runs), a ≤ xs.length → c ≤ ys.length → (xs.length - a) + (ys.length - c) < n → told.length + ((xs.length - a) + (ys.length - c)) < 16000000 →
    whlL (evT (Phi T (m + 1)) unT) (evSs (Phi T (m + 1)) k unB) n (eU xs ys told a c) = .nxt (eU xs ys (addAll told (mrg (xs.drop a) (ys.drop c))) xs.length ys.length)
  | 0, a, c, told, _, _, h, _ => by omega
  | n + 1, a, c, told, ha, hc, hn, hl => by
    have t : evT (Phi T (m + 1)) unT (eU xs ys told a c) = .ok (decide (a < xs.length) || decide (c < ys.length)) (eU xs ys told a c) := tst (or_b lt_lens.1 lt_lens.2)
    by_cases h1 : a < xs.length
    · rw [decide_eq_true h1, Bool.true_or] at t
      have l1 := addRun_len told xs[a].1 xs[a].2
      by_cases h2 : c < ys.length
      · have l2 := addRun_len told ys[c].1 ys[c].2
        by_cases h3 : xs[a].1 ≤ ys[c].1
        · rw [whl_t t (un_one (by omega) h1 (.inr ⟨h2, h3⟩)), un_loop n (a + 1) c _ (by omega) hc (by omega) (by omega)]
          rw [drop_at h1, drop_at h2, mrg, if_pos h3]
          rfl
        · rw [whl_t t (un_two (by omega) h2 (.inr ⟨h1, h3⟩)), un_loop n a (c + 1) _ ha (by omega) (by omega) (by omega)]
          rw [drop_at h1, drop_at h2, mrg, if_neg h3]
          rfl
      · have hc' : c = ys.length := by omega
        rw [whl_t t (un_one (by omega) h1 (.inl hc')), un_loop n (a + 1) c _ (by omega) hc (by omega) (by omega)]
        rw [hc', List.drop_length, mrg_nil, mrg_nil, drop_at h1]
        rfl
    · by_cases h2 : c < ys.length
      · have l2 := addRun_len told ys[c].1 ys[c].2
        rw [decide_eq_true h2, Bool.or_true] at t
        rw [whl_t t (un_two (by omega) h2 (.inl h1)), un_loop n a (c + 1) _ ha (by omega) (by omega) (by omega)]
        rw [show a = xs.length from by omega, List.drop_length, mrg, mrg, drop_at h2]
        rfl
      · rw [decide_eq_false h1, decide_eq_false h2, Bool.or_false] at t
        rw [whl_f t]
        rw [show a = xs.length from by omega, show c = ys.length from by omega, List.drop_length, List.drop_length, mrg]
        rfl
theorem united_run {xs ys : Runs} (hl : xs.length + ys.length < 16000000) : (runDf (Phi T (m + 1)) d_united).run [rsL xs, rsL ys] = .ret (rsL (addAll [] (mrg xs ys))) [] := by
  show frR (evSs _ 1000000000 b_united [.sh (rsL xs), .sh (rsL ys), .no, .no, .no]) = _
  unfold b_united
  rw [seq_nxt (show evS _ _ (.asg 2 (.lst .nil)) _ = .nxt [.sh (rsL xs), .sh (rsL ys), .own [], .no, .no] from rfl)]
  rw [seq_nxt (show evS _ _ (.asg2 3 4 (.k (.int 0))) _ = .nxt (eU xs ys [] 0 0) from rfl)]
  have h := un_loop (m := m) (k := 1000000000) (xs := xs) (ys := ys) 1000000000 0 0 [] (Nat.zero_le _) (Nat.zero_le _) (by omega) (by simp; omega)
  unfold unT unB at h
  rw [seq_nxt (whl_nxt h)]
  rw [seq_ret (ret_late (i := 2) (ds := (addAll [] (mrg (xs.drop 0) (ys.drop 0))).map rT) rfl rfl)]
  rfl
theorem united_call {xs ys : Runs} (hl : xs.length + ys.length < 16000000) {es : IEs} {env e1 : SEnv} (hes : evEs (Phi T (m + 2)) es env = .ok [.now (rsL xs), .now (rsL ys)] e1) : evE (Phi T (m + 2)) (.call "united" es) env = .ok (.now (rsL (addAll [] (mrg xs ys)))) e1 :=
  callN (fs := runDf (Phi T (m + 1)) d_united) rfl hes rfl rfl rfl (b := []) (united_run hl)
/-! ### crossed -/
def crB : ISs := (.cons (.ex (.callb "add_run" 2 (.cons (.bf .max (.cons (.ix (.ix (.v 0) (.v 3)) (.k (.int 0))) (.cons (.ix (.ix (.v 1) (.v 4)) (.k (.int 0))) .nil))) (.cons (.bf .min (.cons (.ix (.ix (.v 0) (.v 3)) (.k (.int 1))) (.cons (.ix (.ix (.v 1) (.v 4)) (.k (.int 1))) .nil))) .nil)))) (.cons (.ite (.cmp .LtE (.ix (.ix (.v 0) (.v 3)) (.k (.int 1))) (.ix (.ix (.v 1) (.v 4)) (.k (.int 1)))) (.cons (.aug 3 .Add (.k (.int 1))) .nil) (.cons (.aug 4 .Add (.k (.int 1))) .nil)) .nil))
def crT : IE := (.and (.cmp .Lt (.v 3) (.bf .len (.cons (.v 0) .nil))) (.cmp .Lt (.v 4) (.bf .len (.cons (.v 1) .nil))))
theorem cr_turn {xs ys told : Runs} {a c : Nat} (hl : told.length < 16000000) (ha : a < xs.length) (hc : c < ys.length) :
    evSs (Phi T (m + 1)) k crB (eU xs ys told a c) = .nxt (if xs[a].2 ≤ ys[c].2 then eU xs ys (addRun told (max xs[a].1 ys[c].1) (min xs[a].2 ys[c].2)) (a + 1) c else eU xs ys (addRun told (max xs[a].1 ys[c].1) (min xs[a].2 ys[c].2)) a (c + 1)) := by
  have e1 := List.getElem?_eq_getElem ha
  have e2 := List.getElem?_eq_getElem hc
  have ixx : ∀ told, evE (Phi T (m + 1)) (.ix (.v 0) (.v 3)) (eU xs ys told a c) = .ok (.now (rT xs[a])) (eU xs ys told a c) := fun _ => ix_now rfl rfl (at_rsL e1)
  have iyy : ∀ told, evE (Phi T (m + 1)) (.ix (.v 1) (.v 4)) (eU xs ys told a c) = .ok (.now (rT ys[c])) (eU xs ys told a c) := fun _ => ix_now rfl rfl (at_rsL e2)
  unfold crB
  rw [seq_nxt (add_step (rs := told) (b := max xs[a].1 ys[c].1) (e := min xs[a].2 ys[c].2) (e1 := eU xs ys told a c) hl rfl (es_cons (bf_2 (d := .int xs[a].1) (d' := .int ys[c].1) (ix_now (ixx _) rfl rfl) (ix_now (iyy _) rfl rfl) (max_ii _ _)) (es_cons (bf_2 (d := .int xs[a].2) (d' := .int ys[c].2) (ix_now (ixx _) rfl rfl) (ix_now (iyy _) rfl rfl) (min_ii _ _)) rfl)) rfl)]
  rw [show (eU xs ys told a c).set 2 (.own ((addRun told (max xs[a].1 ys[c].1) (min xs[a].2 ys[c].2)).map rT)) = eU xs ys (addRun told (max xs[a].1 ys[c].1) (min xs[a].2 ys[c].2)) a c from rfl]
  have t : evT (Phi T (m + 1)) (.cmp .LtE (.ix (.ix (.v 0) (.v 3)) (.k (.int 1))) (.ix (.ix (.v 1) (.v 4)) (.k (.int 1)))) (eU xs ys (addRun told (max xs[a].1 ys[c].1) (min xs[a].2 ys[c].2)) a c) = .ok (decide (xs[a].2 ≤ ys[c].2)) (eU xs ys (addRun told (max xs[a].1 ys[c].1) (min xs[a].2 ys[c].2)) a c) := tst (cmp_nows (d := .int xs[a].2) (d' := .int ys[c].2) (ix_now (ixx _) rfl rfl) (ix_now (iyy _) rfl rfl) rfl)
  by_cases h : xs[a].2 ≤ ys[c].2
  · rw [decide_eq_true h] at t
    rw [if_pos h, if_tn t (e2 := eU xs ys (addRun told (max xs[a].1 ys[c].1) (min xs[a].2 ys[c].2)) (a + 1) c) rfl]
    rfl
  · rw [decide_eq_false h] at t
    rw [if_neg h, if_fn t (e2 := eU xs ys (addRun told (max xs[a].1 ys[c].1) (min xs[a].2 ys[c].2)) a (c + 1)) rfl]
    rfl
theorem cr_loop {xs ys : Runs} : ∀ (n a c : Nat) (told : Runs), a ≤ xs.length → c ≤ ys.length → (xs.length - a) + (ys.length - c) < n → told.length + ((xs.length - a) + (ys.length - c)) < 16000000 →
    ∃ a' c', whlL (evT (Phi T (m + 1)) crT) (evSs (Phi T (m + 1)) k crB) n (eU xs ys told a c) = .nxt (eU xs ys (addAll told (crs (xs.drop a) (ys.drop c))) a' c')
  | 0, a, c, told, _, _, h, _ => by omega
  | n + 1, a, c, told, ha, hc, hn, hl => by
    have t : evT (Phi T (m + 1)) crT (eU xs ys told a c) = .ok (decide (a < xs.length) && decide (c < ys.length)) (eU xs ys told a c) := tst (and_b lt_lens.1 lt_lens.2)
    by_cases h1 : a < xs.length
    · by_cases h2 : c < ys.length
      · rw [decide_eq_true h1, decide_eq_true h2, Bool.true_and] at t
        have l1 := addRun_len told (max xs[a].1 ys[c].1) (min xs[a].2 ys[c].2)
        have tu := cr_turn (m := m) (k := k) (told := told) (by omega) h1 h2
        by_cases h3 : xs[a].2 ≤ ys[c].2
        · rw [if_pos h3] at tu
          rw [whl_t t tu]
          obtain ⟨a', c', ih⟩ := cr_loop (xs := xs) (ys := ys) n (a + 1) c (addRun told (max xs[a].1 ys[c].1) (min xs[a].2 ys[c].2)) (by omega) hc (by omega) (by omega)
          refine ⟨a', c', ?_⟩
          rw [ih, drop_at h1, drop_at h2, crs, if_pos h3]
          rfl
        · rw [if_neg h3] at tu
          rw [whl_t t tu]
          obtain ⟨a', c', ih⟩ := cr_loop (xs := xs) (ys := ys) n a (c + 1) (addRun told (max xs[a].1 ys[c].1) (min xs[a].2 ys[c].2)) ha (by omega) (by omega) (by omega)
          refine ⟨a', c', ?_⟩
          rw [ih, drop_at h1, drop_at h2, crs, if_neg h3]
          rfl
      · rw [decide_eq_false h2, Bool.and_false] at t
        refine ⟨a, c, ?_⟩
        rw [whl_f t, drop_at h1, show c = ys.length from by omega, List.drop_length, crs]
        rfl
    · rw [decide_eq_false h1, Bool.false_and] at t
      refine ⟨a, c, ?_⟩
      rw [whl_f t, show a = xs.length from by omega, List.drop_length, crs]
      rfl
theorem crossed_run {xs ys : Runs} (hl : xs.length + ys.length < 16000000) : (runDf (Phi T (m + 1)) d_crossed).run [rsL xs, rsL ys] = .ret (rsL (addAll [] (crs xs ys))) [] := by
  show frR (evSs _ 1000000000 b_crossed [.sh (rsL xs), .sh (rsL ys), .no, .no, .no]) = _
  unfold b_crossed
  rw [seq_nxt (show evS _ _ (.asg 2 (.lst .nil)) _ = .nxt [.sh (rsL xs), .sh (rsL ys), .own [], .no, .no] from rfl)]
  rw [seq_nxt (show evS _ _ (.asg2 3 4 (.k (.int 0))) _ = .nxt (eU xs ys [] 0 0) from rfl)]
  obtain ⟨a, c, h⟩ := cr_loop (m := m) (k := 1000000000) (xs := xs) (ys := ys) 1000000000 0 0 [] (Nat.zero_le _) (Nat.zero_le _) (by omega) (by simp; omega)
  unfold crT crB at h
  rw [seq_nxt (whl_nxt h)]
  rw [seq_ret (ret_late (i := 2) (ds := (addAll [] (crs (xs.drop 0) (ys.drop 0))).map rT) rfl rfl)]
  rfl
theorem crossed_call {xs ys : Runs} (hl : xs.length + ys.length < 16000000) {es : IEs} {env e1 : SEnv} (hes : evEs (Phi T (m + 2)) es env = .ok [.now (rsL xs), .now (rsL ys)] e1) : evE (Phi T (m + 2)) (.call "crossed" es) env = .ok (.now (rsL (addAll [] (crs xs ys)))) e1 :=
  callN (fs := runDf (Phi T (m + 1)) d_crossed) rfl hes rfl rfl rfl (b := []) (crossed_run hl)
/-! ### what is left out -/
def eH (l : Runs) (e : Int) (told : Runs) (free : Int) (x4 x5 : Sl) : SEnv := [.sh (rsL l), .sh (.int e), .own (told.map rT), .sh (.int free), x4, x5]
def hoB : ISs := (.cons (.ex (.callb "add_run" 2 (.cons (.v 3) (.cons (.v 4) .nil)))) (.cons (.asg 3 (.v 5)) .nil))
theorem put45 {l : Runs} {e : Int} {told : Runs} {free : Int} {x4 x5 : Sl} (h4 : nb x4 = true) (h5 : nb x5 = true) (r : Int × Int) : putT (eH l e told free x4 x5) (.many [4, 5]) (rT r) = some (eH l e told free (.sh (.int r.1)) (.sh (.int r.2))) := by
  show (putS (eH l e told free x4 x5) 4 (.sh (.int r.1))).bind _ = _
  rw [putS_nb (x := x4) rfl h4]
  show (putS (eH l e told free (.sh (.int r.1)) x5) 5 (.sh (.int r.2))).bind _ = _
  rw [putS_nb (x := x5) rfl h5]
  rfl
theorem hol_loop {l : Runs} {e : Int} : ∀ (l' told : Runs) (free : Int) (x4 x5 : Sl), nb x4 = true → nb x5 = true → told.length + l'.length < 15999999 →
    ∃ told' free' y4 y5, told'.length < 15999999 ∧ addRun told' free' e = addAll told (hol free e l') ∧ forL (fun x e => match putT e (.many [4, 5]) x with
      | some e2 => evSs (Phi T (m + 1)) k hoB e2
      | none => .stuck) (l'.map rT) (eH l e told free x4 x5) = .nxt (eH l e told' free' y4 y5)
  | [], told, free, x4, x5, h4, h5, hl => ⟨told, free, x4, x5, by simp at hl; omega, rfl, rfl⟩
  | r :: l', told, free, x4, x5, h4, h5, hl => by
    simp only [List.length_cons] at hl
    have ll := addRun_len told free r.1
    obtain ⟨told', free', y4, y5, g1, g2, ih⟩ := hol_loop (l := l) (e := e) l' (addRun told free r.1) r.2 (.sh (.int r.1)) (.sh (.int r.2)) rfl rfl (by omega)
    refine ⟨told', free', y4, y5, g1, g2, ?_⟩
    rw [List.map_cons]
    unfold forL
    simp only [put45 h4 h5]
    have h1 : evSs (Phi T (m + 1)) k hoB (eH l e told free (.sh (.int r.1)) (.sh (.int r.2))) = .nxt (eH l e (addRun told free r.1) r.2 (.sh (.int r.1)) (.sh (.int r.2))) := by
      unfold hoB
      rw [seq_nxt (add_step (rs := told) (b := free) (e := r.1) (e1 := eH l e told free (.sh (.int r.1)) (.sh (.int r.2))) (by omega) rfl rfl rfl)]
      rfl
    rw [h1]
    exact ih
theorem holes_run {l : Runs} {e : Int} (hl : l.length < 15999999) : (runDf (Phi T (m + 1)) d_holes).run [rsL l, .int e] = .ret (rsL (addAll [] (hol 0 e l))) [] := by
  show frR (evSs _ 100 b_holes [.sh (rsL l), .sh (.int e), .no, .no, .no, .no]) = _
  unfold b_holes
  rw [seq_nxt (show evS _ _ (.asg 2 (.lst .nil)) _ = .nxt [.sh (rsL l), .sh (.int e), .own [], .no, .no, .no] from rfl)]
  rw [seq_nxt (show evS _ _ (.asg 3 (.k (.int 0))) _ = .nxt (eH l e [] 0 .no .no) from rfl)]
  obtain ⟨told', free', y4, y5, h1, h2, h⟩ := hol_loop (m := m) (k := 100) (l := l) (e := e) l [] 0 .no .no rfl rfl (by simp; omega)
  unfold hoB at h
  rw [seq_nxt ((for_eq (ds := l.map rT) rfl).trans h)]
  rw [seq_nxt (add_step (rs := told') (b := free') (e := e) (e1 := eH l e told' free' y4 y5) (by omega) rfl rfl rfl)]
  rw [h2]
  rw [seq_ret (ret_late (i := 2) (ds := (addAll [] (hol 0 e l)).map rT) rfl rfl)]
  rfl
theorem holes_call {l : Runs} {e : Int} (hl : l.length < 15999999) {es : IEs} {env e1 : SEnv} (hes : evEs (Phi T (m + 2)) es env = .ok [.now (rsL l), .now (.int e)] e1) : evE (Phi T (m + 2)) (.call "holes" es) env = .ok (.now (rsL (addAll [] (hol 0 e l)))) e1 :=
  callN (fs := runDf (Phi T (m + 1)) d_holes) rfl hes rfl rfl rfl (b := []) (holes_run hl)
end
end K03

set_option Elab.async false
set_option linter.all false
set_option autoImplicit false
set_option maxRecDepth 100000
set_option maxHeartbeats 4000000
/-! # spans: sets of sets -/
namespace K03
open PySem PyE L2 PyV PySem.W Sp
section
variable {m : Nat} {p q : Q}
theorem lcm_now {Φ : Fns} {a b : IE} {env e1 e2 : SEnv} {i j : Int} (h1 : evE Φ a env = .ok (.now (.int i)) e1) (h2 : evE Φ b e1 = .ok (.now (.int j)) e2) (hi : smallI i = true) (hj : smallI j = true) : evE Φ (.mth .lcm a b) env = .ok (.now (.int (lcmI i j))) e2 := by
  simp only [evE, h1, Rs.bind, h2, look]
  show Rs.opt (if smallI i && smallI j then some (Vw.now (PyData.int ((i.natAbs.lcm j.natAbs : Nat) : Int))) else none) e2 = _
  rw [hi, hj]
  rfl
theorem lcm_dvd {a b n : Int} (ha : a ∣ n) (hb : b ∣ n) : lcmI a b ∣ n := by
  unfold lcmI
  have := Nat.lcm_dvd (Int.natAbs_dvd_natAbs.mpr ha) (Int.natAbs_dvd_natAbs.mpr hb)
  exact Int.ofNat_dvd_left.mpr this
theorem Sm.small {q : Q} (s : Sm q) : smallI q.pd = true := smallI_le (Int.le_of_lt s.v.pd0) (by have := s.pd_le; omega)
theorem Sm.join (s : Sm p) (t : Sm q) : Sm (joinQ p q) := ⟨(join_spec s.v t.v).1, by have := s.st; have := t.st; show max p.st q.st ≤ _; omega, lcm_dvd s.pd t.pd⟩
theorem Sm.comm (s : Sm p) (t : Sm q) : Sm (commQ p q) := ⟨(comm_spec s.v t.v).1, by have := s.st; have := t.st; show max p.st q.st ≤ _; omega, lcm_dvd s.pd t.pd⟩
theorem Sm.rest (s : Sm q) : Sm (restQ q) := ⟨(rest_spec s.v).1, s.st, s.pd⟩
theorem Sm.minus (s : Sm p) (t : Sm q) : Sm (minQ p q) := s.comm t.rest
theorem lcm_le (s : Sm p) (t : Sm q) : 0 < lcmI p.pd q.pd ∧ lcmI p.pd q.pd ≤ 60480 := ⟨lcm_pos s.v.pd0 t.v.pd0, Int.le_of_dvd (by decide) (lcm_dvd s.pd t.pd)⟩
theorem run_len (s : Sm q) {b e : Int} (hb : 0 ≤ b) : ((runsOf q b e).length : Int) ≤ max 0 (e - b + 1) := by
  obtain ⟨a, c⟩ := runsOf_spec s.v (b := b) (e := e) hb
  have := len_le (U := e) a fun x hx => ((c x).mp hx).2.1
  omega
theorem mrg_len : ∀ (xs ys : Runs), (mrg xs ys).length = xs.length + ys.length
  | [], ys => by rw [mrg]; simp
  | a :: as, [] => by rw [mrg]; simp
  | a :: as, b :: bs => by
    rw [mrg]
    split
    · rw [List.length_cons, mrg_len as (b :: bs)]
      simp only [List.length_cons]
      omega
    · rw [List.length_cons, mrg_len (a :: as) bs]
      simp only [List.length_cons]
      omega
termination_by xs ys => xs.length + ys.length
theorem crs_len : ∀ (xs ys : Runs), (crs xs ys).length ≤ xs.length + ys.length
  | [], ys => by rw [crs]; simp
  | a :: as, [] => by rw [crs]; simp
  | a :: as, b :: bs => by
    rw [crs]
    split
    · rw [List.length_cons]
      have := crs_len as (b :: bs)
      simp only [List.length_cons] at this ⊢
      omega
    · rw [List.length_cons]
      have := crs_len (a :: as) bs
      simp only [List.length_cons] at this ⊢
      omega
termination_by xs ys => xs.length + ys.length
theorem hol_len : ∀ (free e : Int) (rs : Runs), (hol free e rs).length = rs.length + 1
  | _, _, [] => rfl
  | free, e, r :: rs => by
    show (hol r.2 e rs).length + 1 = _
    rw [hol_len r.2 e rs]
    rfl
/-- the ends of two sets -/
def eJ (p q : Q) (st l e : Int) : SEnv := [.sh (qT p), .sh (qT q), .sh (.int st), .sh (.int l), .sh (.int e)]
theorem two_start (s : Sm p) (t : Sm q) {n : Nat} {r : ISs} : evSs (Phi T (m + 2)) n (.cons (.asg 2 (.bf .max (.cons (.ix (.v 0) (.k (.int 1))) (.cons (.ix (.v 1) (.k (.int 1))) .nil)))) (.cons (.asg 3 (.mth .lcm (.ix (.v 0) (.k (.int 2))) (.ix (.v 1) (.k (.int 2))))) (.cons (.asg 4 (.bin .Add (.v 2) (.v 3))) r))) [.sh (qT p), .sh (qT q), .no, .no, .no] =
    evSs (Phi T (m + 2)) n r (eJ p q (max p.st q.st) (lcmI p.pd q.pd) (max p.st q.st + lcmI p.pd q.pd)) := by
  rw [seq_nxt (e1 := [.sh (qT p), .sh (qT q), .sh (.int (max p.st q.st)), .no, .no]) (asg_now (bf_2 (d := .int p.st) (d' := .int q.st) (e2 := [.sh (qT p), .sh (qT q), .no, .no, .no]) rfl rfl (max_ii _ _)) (x := .no) rfl rfl)]
  rw [seq_nxt (e1 := [.sh (qT p), .sh (qT q), .sh (.int (max p.st q.st)), .sh (.int (lcmI p.pd q.pd)), .no]) (asg_now (lcm_now (e2 := [.sh (qT p), .sh (qT q), .sh (.int (max p.st q.st)), .no, .no]) rfl rfl s.small t.small) (x := .no) rfl rfl)]
  rw [seq_nxt (e1 := eJ p q (max p.st q.st) (lcmI p.pd q.pd) (max p.st q.st + lcmI p.pd q.pd)) rfl]
theorem joined_run (s : Sm p) (t : Sm q) : (runDf (Phi T (m + 2)) d_joined).run [qT p, qT q] = .ret (qT (joinQ p q)) [] := by
  obtain ⟨l0, l1⟩ := lcm_le s t
  have s1 := s.st
  have t1 := t.st
  have rl := run_len s (b := 0) (e := max p.st q.st + lcmI p.pd q.pd) (Int.le_refl _)
  have tl := run_len t (b := 0) (e := max p.st q.st + lcmI p.pd q.pd) (Int.le_refl _)
  have al := addAll_len (mrg (runsOf p 0 (max p.st q.st + lcmI p.pd q.pd)) (runsOf q 0 (max p.st q.st + lcmI p.pd q.pd))) []
  rw [mrg_len] at al
  show frR (evSs _ 100 b_joined [.sh (qT p), .sh (qT q), .no, .no, .no]) = _
  unfold b_joined
  rw [two_start s t]
  rw [seq_ret (ret_now (built_call (l := addAll [] (mrg (runsOf p 0 (max p.st q.st + lcmI p.pd q.pd)) (runsOf q 0 (max p.st q.st + lcmI p.pd q.pd)))) (by simp at al; omega) (es_cons (united_call (xs := runsOf p 0 (max p.st q.st + lcmI p.pd q.pd)) (ys := runsOf q 0 (max p.st q.st + lcmI p.pd q.pd)) (by omega) (es_cons (runs_call s (Int.le_refl _) (by omega) (by omega) rfl) (es_cons (runs_call t (Int.le_refl _) (by omega) (by omega) rfl) rfl))) rfl)))]
  rfl
theorem common_run (s : Sm p) (t : Sm q) : (runDf (Phi T (m + 2)) d_common).run [qT p, qT q] = .ret (qT (commQ p q)) [] := by
  obtain ⟨l0, l1⟩ := lcm_le s t
  have s1 := s.st
  have t1 := t.st
  have rl := run_len s (b := 0) (e := max p.st q.st + lcmI p.pd q.pd) (Int.le_refl _)
  have tl := run_len t (b := 0) (e := max p.st q.st + lcmI p.pd q.pd) (Int.le_refl _)
  have al := addAll_len (crs (runsOf p 0 (max p.st q.st + lcmI p.pd q.pd)) (runsOf q 0 (max p.st q.st + lcmI p.pd q.pd))) []
  have cl := crs_len (runsOf p 0 (max p.st q.st + lcmI p.pd q.pd)) (runsOf q 0 (max p.st q.st + lcmI p.pd q.pd))
  show frR (evSs _ 100 b_common [.sh (qT p), .sh (qT q), .no, .no, .no]) = _
  unfold b_common
  rw [two_start s t]
  rw [seq_ret (ret_now (built_call (l := addAll [] (crs (runsOf p 0 (max p.st q.st + lcmI p.pd q.pd)) (runsOf q 0 (max p.st q.st + lcmI p.pd q.pd)))) (by simp at al; omega) (es_cons (crossed_call (xs := runsOf p 0 (max p.st q.st + lcmI p.pd q.pd)) (ys := runsOf q 0 (max p.st q.st + lcmI p.pd q.pd)) (by omega) (es_cons (runs_call s (Int.le_refl _) (by omega) (by omega) rfl) (es_cons (runs_call t (Int.le_refl _) (by omega) (by omega) rfl) rfl))) rfl)))]
  rfl
theorem rest_run (s : Sm q) : (runDf (Phi T (m + 2)) d_rest).run [qT q] = .ret (qT (restQ q)) [] := by
  have pl := s.pd_le
  have p0 := s.v.pd0
  have s1 := s.st
  have rl := run_len s (b := 0) (e := q.st + q.pd) (Int.le_refl _)
  have al := addAll_len (hol 0 (q.st + q.pd) (runsOf q 0 (q.st + q.pd))) []
  rw [hol_len] at al
  show frR (evSs _ 100 b_rest [.sh (qT q), .no]) = _
  unfold b_rest
  rw [seq_nxt (e1 := [.sh (qT q), .sh (.int (q.st + q.pd))]) rfl]
  rw [seq_ret (ret_now (built_call (l := addAll [] (hol 0 (q.st + q.pd) (runsOf q 0 (q.st + q.pd)))) (by simp at al; omega) (es_cons (holes_call (l := runsOf q 0 (q.st + q.pd)) (e := q.st + q.pd) (by omega) (es_cons (runs_call s (Int.le_refl _) (by omega) (by omega) rfl) rfl)) rfl)))]
  rfl
theorem joined_call (s : Sm p) (t : Sm q) {es : IEs} {env e1 : SEnv} (hes : evEs (Phi T (m + 3)) es env = .ok [.now (qT p), .now (qT q)] e1) : evE (Phi T (m + 3)) (.call "joined" es) env = .ok (.now (qT (joinQ p q))) e1 :=
  callN (fs := runDf (Phi T (m + 2)) d_joined) rfl hes rfl rfl rfl (b := []) (joined_run s t)
theorem common_call (s : Sm p) (t : Sm q) {es : IEs} {env e1 : SEnv} (hes : evEs (Phi T (m + 3)) es env = .ok [.now (qT p), .now (qT q)] e1) : evE (Phi T (m + 3)) (.call "common" es) env = .ok (.now (qT (commQ p q))) e1 :=
  callN (fs := runDf (Phi T (m + 2)) d_common) rfl hes rfl rfl rfl (b := []) (common_run s t)
theorem rest_call (s : Sm q) {es : IEs} {env e1 : SEnv} (hes : evEs (Phi T (m + 3)) es env = .ok [.now (qT q)] e1) : evE (Phi T (m + 3)) (.call "rest" es) env = .ok (.now (qT (restQ q))) e1 :=
  callN (fs := runDf (Phi T (m + 2)) d_rest) rfl hes rfl rfl rfl (b := []) (rest_run s)
theorem minus_run (s : Sm p) (t : Sm q) : (runDf (Phi T (m + 3)) d_minus).run [qT p, qT q] = .ret (qT (minQ p q)) [] := by
  show frR (evSs _ 100 b_minus [.sh (qT p), .sh (qT q)]) = _
  unfold b_minus
  rw [seq_ret (ret_now (common_call s t.rest (es_cons rfl (es_cons (rest_call t rfl) rfl))))]
  rfl
theorem minus_call (s : Sm p) (t : Sm q) {es : IEs} {env e1 : SEnv} (hes : evEs (Phi T (m + 4)) es env = .ok [.now (qT p), .now (qT q)] e1) : evE (Phi T (m + 4)) (.call "minus" es) env = .ok (.now (qT (minQ p q))) e1 :=
  callN (fs := runDf (Phi T (m + 3)) d_minus) rfl hes rfl rfl rfl (b := []) (minus_run s t)
/-! ### moved -/
theorem Sm.slid (s : Sm q) {d : Int} (hd : q.st + d ≤ 4000000) (hd2 : -4000000 ≤ d) : Sm (slidQ q d) := by
  refine ⟨(slid_spec s.v d).1, ?_, ?_⟩
  · unfold slidQ
    split
    · exact hd
    · show max q.st (-d) + d ≤ _
      have := s.st
      omega
  · unfold slidQ
    split <;> exact s.pd
theorem shift_lc {it : II} {rs : Runs} {d : Int} {env e1 : SEnv} {Φ : Fns} (h1 : evI Φ it env = .ok (rs.map rT) e1) (hl : rs.length ≤ 16777216)
    (h5 : e1[5]? = some .no) (h6 : e1[6]? = some .no) (hd : e1[1]? = some (.sh (.int d))) : evE Φ (.lc (.tup (.cons (.bin .Add (.v 5) (.v 1)) (.cons (.bin .Add (.v 6) (.v 1)) .nil))) (.many [5, 6]) it .none [5, 6]) env = .ok (.tmp ((shft rs d).map rT)) e1 := by
  have s5 : e1.set 5 .no = e1 := by
    refine List.ext_getElem? fun i => ?_
    rw [List.getElem?_set]
    by_cases hi : 5 = i
    · subst hi
      rw [if_pos rfl, h5]
      have := (List.getElem?_eq_some_iff.mp h5).1
      rw [if_pos this]
    · rw [if_neg hi]
  have s6 : e1.set 6 .no = e1 := by
    refine List.ext_getElem? fun i => ?_
    rw [List.getElem?_set]
    by_cases hi : 6 = i
    · subst hi
      rw [if_pos rfl, h6]
      have := (List.getElem?_eq_some_iff.mp h6).1
      rw [if_pos this]
    · rw [if_neg hi]
  have l5 := (List.getElem?_eq_some_iff.mp h5).1
  have l6 := (List.getElem?_eq_some_iff.mp h6).1
  have hw : wipeE e1 [5, 6] = e1 := by
    show (e1.set 6 .no).set 5 .no = e1
    rw [s6, s5]
  have hb : backE e1 e1 [5, 6] = e1 := by
    show (e1.set 6 (e1.getD 6 .no)).set 5 (e1.getD 5 .no) = e1
    have g5 : e1.getD 5 .no = .no := by rw [List.getD_eq_getElem?_getD, h5]; rfl
    have g6 : e1.getD 6 .no = .no := by rw [List.getD_eq_getElem?_getD, h6]; rfl
    rw [g5, g6, s6, s5]
  have := lc_map (Φ := Φ) (e := .tup (.cons (.bin .Add (.v 5) (.v 1)) (.cons (.bin .Add (.v 6) (.v 1)) .nil))) (tg := .many [5, 6]) (it := it) (own := [5, 6]) (env := env) (xs := rs) (enc := rT) (f := fun r => rT (r.1 + d, r.2 + d)) (e1 := e1) h1 hw hb (fun r _ => by
    have hp : putT e1 (.many [5, 6]) (rT r) = some ((e1.set 5 (.sh (.int r.1))).set 6 (.sh (.int r.2))) := by
      show (putS e1 5 (.sh (.int r.1))).bind _ = _
      rw [putS_nb h5 rfl]
      show (putS (e1.set 5 (.sh (.int r.1))) 6 (.sh (.int r.2))).bind _ = _
      rw [putS_nb (x := .no) (by rw [List.getElem?_set, if_neg (by decide)]; exact h6) rfl]
      rfl
    have v5 : ((e1.set 5 (.sh (.int r.1))).set 6 (.sh (.int r.2)))[5]? = some (.sh (.int r.1)) := by
      rw [List.getElem?_set, if_neg (by decide), List.getElem?_set, if_pos rfl, if_pos l5]
    have v6 : ((e1.set 5 (.sh (.int r.1))).set 6 (.sh (.int r.2)))[6]? = some (.sh (.int r.2)) := by
      rw [List.getElem?_set, if_pos rfl, if_pos (by rw [List.length_set]; exact l6)]
    have v1 : ((e1.set 5 (.sh (.int r.1))).set 6 (.sh (.int r.2)))[1]? = some (.sh (.int d)) := by
      rw [List.getElem?_set, if_neg (by decide), List.getElem?_set, if_neg (by decide)]
      exact hd
    have E : ∀ i d, ((e1.set 5 (.sh (.int r.1))).set 6 (.sh (.int r.2)))[i]? = some (.sh d) → evE Φ (.v i) ((e1.set 5 (.sh (.int r.1))).set 6 (.sh (.int r.2))) = .ok (.now d) ((e1.set 5 (.sh (.int r.1))).set 6 (.sh (.int r.2))) := fun i d h => by simp only [evE, h]
    have te : evE Φ (.tup (.cons (.bin .Add (.v 5) (.v 1)) (.cons (.bin .Add (.v 6) (.v 1)) .nil))) ((e1.set 5 (.sh (.int r.1))).set 6 (.sh (.int r.2))) = .ok (.now (rT (r.1 + d, r.2 + d))) ((e1.set 5 (.sh (.int r.1))).set 6 (.sh (.int r.2))) :=
      tup_of (es_cons (bin_now (E 5 _ v5) (E 1 _ v1) rfl) (es_cons (bin_now (E 6 _ v6) (E 1 _ v1) rfl) rfl)) rfl rfl
    unfold lcStep
    simp only [hp]
    simp only [evC, Rs.bind, te, keepF]
    have : wipeE ((e1.set 5 (.sh (.int r.1))).set 6 (.sh (.int r.2))) [5, 6] = e1 := by
      show ((((e1.set 5 (.sh (.int r.1))).set 6 (.sh (.int r.2))).set 6 .no).set 5 .no) = e1
      rw [List.set_set, List.set_comm _ _ (by decide), List.set_set, List.set_comm _ _ (by decide), s6, s5]
    rw [this]
    rfl) hl
  rw [this]
  unfold shft
  rw [List.map_map]
  rfl
end
end K03

set_option Elab.async false
set_option linter.all false
set_option autoImplicit false
set_option maxRecDepth 100000
set_option maxHeartbeats 4000000
/-! # spans: the least period -/
namespace K03
open PySem PyE L2 PyV PySem.W Sp
section
variable {m : Nat} {Φ : Fns}
/-! ### repeats -/
theorem at_getD {l : List Int} {i : Nat} (h : i < l.length) : atI (l.map PyData.int) (i : Nat) = some (.int (l.getD i 0)) := by
  rw [at_nat (by rw [List.length_map]; exact h), List.getElem_map, List.getD_eq_getElem?_getD, List.getElem?_eq_getElem h]
  rfl
theorem rep_iff {l : List Int} {s : Nat} {y : Int} : rep l s y = true ↔ ∀ i, i < l.length - s → l.getD (i + s) 0 = l.getD i 0 + y := by
  unfold rep
  rw [beq_iff_eq]
  have hlen : (l.drop s).length = ((l.take (l.length - s)).map (· + y)).length := by
    rw [List.length_drop, List.length_map, List.length_take]
    omega
  have gd : ∀ i, i < l.length - s → (l.drop s)[i]? = some (l.getD (i + s) 0) ∧ ((l.take (l.length - s)).map (· + y))[i]? = some (l.getD i 0 + y) := fun i hi => by
    constructor
    · rw [List.getElem?_drop, Nat.add_comm, List.getD_eq_getElem?_getD, List.getElem?_eq_getElem (by omega)]
      rfl
    · rw [List.getElem?_map, List.getElem?_take, if_pos hi, List.getD_eq_getElem?_getD, List.getElem?_eq_getElem (by omega)]
      rfl
  constructor
  · intro h i hi
    obtain ⟨a, b⟩ := gd i hi
    rw [h, b] at a
    exact (Option.some.inj a).symm
  · intro h
    refine List.ext_getElem? fun i => ?_
    by_cases hi : i < l.length - s
    · obtain ⟨a, b⟩ := gd i hi
      rw [a, b, h i hi]
    · rw [List.getElem?_eq_none (by rw [List.length_drop]; omega), List.getElem?_eq_none (by rw [← hlen, List.length_drop]; omega)]
theorem len_iL (l : List Int) : bfD .len [iL l] = some (.now (.int (l.length : Nat))) := by
  show some (Vw.now (.int ((l.map PyData.int).length : Nat))) = _
  rw [List.length_map]
theorem repeats_run {l : List Int} {s : Nat} {y : Int} (hs : s ≤ l.length) (hl : l.length ≤ 1000000) : (runDf Φ d_repeats).run [iL l, .int (s : Nat), .int y] = .ret (.bool (rep l s y)) [] := by
  show frR (evSs Φ 100 b_repeats [.sh (iL l), .sh (.int (s : Nat)), .sh (.int y), .no]) = _
  unfold b_repeats
  have hi : evI Φ (.r1 (.bin .Sub (.bf .len (.cons (.v 0) .nil)) (.v 1))) [.sh (iL l), .sh (.int (s : Nat)), .sh (.int y), .no] = .ok (rgD 0 (l.length - s)) [.sh (iL l), .sh (.int (s : Nat)), .sh (.int y), .no] :=
    i_r1 (by
      refine bin_now (d := .int (l.length : Nat)) (d' := .int (s : Nat)) (bf_now rfl (len_iL _)) rfl ?_
      show some (Vw.now (.int ((l.length : Int) - (s : Int)))) = _
      rw [show ((l.length : Int) - (s : Int)) = ((l.length - s : Nat) : Int) from by omega]) (by omega)
  have lp := forL_find (f := fun x e => match putT e (.one 3) x with
      | some e2 => evSs Φ 100 (.cons (.ite (.cmp .NotEq (.ix (.v 0) (.bin .Add (.v 3) (.v 1))) (.bin .Add (.ix (.v 0) (.v 3)) (.v 2))) (.cons (.ret (.k (.bool false))) .nil) .nil) .nil) e2
      | none => .stuck) (P := fun e => ∃ x, nb x = true ∧ e = [.sh (iL l), .sh (.int (s : Nat)), .sh (.int y), x]) (g := fun d => match d with
      | .int i => if l.getD (i.toNat + s) 0 == l.getD i.toNat 0 + y then none else some (.bool false)
      | _ => none) (xs := rgD 0 (l.length - s)) (env := [.sh (iL l), .sh (.int (s : Nat)), .sh (.int y), .no]) ⟨.no, rfl, rfl⟩ (fun x hx env hP => by
    obtain ⟨i, hi, rfl⟩ := rgD_mem hx
    obtain ⟨x3, hx3, rfl⟩ := hP
    have hp : putT [.sh (iL l), .sh (.int (s : Nat)), .sh (.int y), x3] (.one 3) (.int (i : Nat)) = some [.sh (iL l), .sh (.int (s : Nat)), .sh (.int y), .sh (.int (i : Nat))] := by
      show putS _ 3 _ = _
      rw [putS_nb (x := x3) rfl hx3]
      rfl
    simp only [hp]
    have e1 := at_getD (l := l) (i := i + s) (by omega)
    have e2 := at_getD (l := l) (i := i) (by omega)
    have t : evT Φ (.cmp .NotEq (.ix (.v 0) (.bin .Add (.v 3) (.v 1))) (.bin .Add (.ix (.v 0) (.v 3)) (.v 2))) [.sh (iL l), .sh (.int (s : Nat)), .sh (.int y), .sh (.int (i : Nat))] = .ok (!(l.getD (i + s) 0 == l.getD i 0 + y)) [.sh (iL l), .sh (.int (s : Nat)), .sh (.int y), .sh (.int (i : Nat))] :=
      tst (cmp_nows (d := .int (l.getD (i + s) 0)) (d' := .int (l.getD i 0 + y)) (ix_now (d := iL l) (d' := .int ((i + s : Nat) : Int)) rfl (by rw [Int.natCast_add]; rfl) e1) (bin_now (d := .int (l.getD i 0)) (d' := .int y) (ix_now (d := iL l) (d' := .int (i : Nat)) rfl rfl e2) rfl rfl) (cne_int _ _))
    simp only [Int.toNat_natCast]
    by_cases hq : (l.getD (i + s) 0 == l.getD i 0 + y) = true
    · rw [hq] at t
      right
      refine ⟨if_pos hq, _, ?_, .sh (.int (i : Nat)), rfl, rfl⟩
      rw [ite_0 t]
      rfl
    · have hq' : (l.getD (i + s) 0 == l.getD i 0 + y) = false := by simpa using hq
      rw [hq'] at t
      left
      refine ⟨.bool false, if_neg hq, [.sh (iL l), .sh (.int (s : Nat)), .sh (.int y), .sh (.int (i : Nat))], ?_⟩
      rw [ite_1 t rfl])
  have key : (rgD 0 (l.length - s)).findSome? (fun d => match d with
      | .int i => if l.getD (i.toNat + s) 0 == l.getD i.toNat 0 + y then none else some (.bool false)
      | _ => none) = if rep l s y = true then none else some (PyData.bool false) := by
    rw [rg_find]
    by_cases hr : rep l s y = true
    · rw [if_pos hr, List.findSome?_eq_none_iff]
      intro i hi
      have := rep_iff.mp hr i (List.mem_range.mp hi)
      exact if_pos (beq_iff_eq.mpr this)
    · rw [if_neg hr]
      have : ∃ i, i < l.length - s ∧ ¬ l.getD (i + s) 0 = l.getD i 0 + y := by
        rcases Classical.em (∃ i, i < l.length - s ∧ ¬ l.getD (i + s) 0 = l.getD i 0 + y) with h | h
        · exact h
        · exact absurd (rep_iff.mpr fun i hi => Classical.byContradiction fun z => h ⟨i, hi, z⟩) hr
      obtain ⟨i, hi, hz⟩ := this
      cases e : (List.range (l.length - s)).findSome? (fun k : Nat => match (PyData.int (k : Nat)) with
        | .int i => if l.getD (i.toNat + s) 0 == l.getD i.toNat 0 + y then none else some (PyData.bool false)
        | _ => none) with
      | none =>
        have := List.findSome?_eq_none_iff.mp e i (List.mem_range.mpr hi)
        have h2 : (if l.getD (i + s) 0 == l.getD i 0 + y then none else some (PyData.bool false)) = some (PyData.bool false) := if_neg (by simpa using hz)
        exact absurd (h2.symm.trans this) (by simp)
      | some d =>
        obtain ⟨k, _, hk⟩ := List.exists_of_findSome?_eq_some e
        simp only at hk
        split at hk
        · cases hk
        · exact congrArg some (Option.some.inj hk).symm
  rw [key] at lp
  cases hr : rep l s y with
  | true =>
    rw [hr] at lp
    rcases lp with ⟨d, h, _⟩ | ⟨_, e, he, _⟩
    · cases h
    · rw [seq_nxt ((for_eq hi).trans he)]
      rfl
  | false =>
    rw [hr] at lp
    rcases lp with ⟨d, h, e, he⟩ | ⟨h, _⟩
    · cases h
      rw [seq_ret ((for_eq hi).trans he)]
      rfl
    · cases h
end
end K03

set_option Elab.async false
set_option linter.all false
set_option autoImplicit false
set_option maxRecDepth 100000
set_option maxHeartbeats 4000000
/-! # spans: the least period (2) -/
namespace K03
open PySem PyE L2 PyV PySem.W Sp
section
variable {m : Nat} {Φ : Fns} {pc : Runs} {p : Int} {rs fs : List Int}
def LS (a : Sl) (l : List Int) : Prop := a = .own (l.map .int) ∨ a = .sh (iL l)
def eP (pc : Runs) (p : Int) (a2 a5 x6 x7 x8 : Sl) : SEnv := [.sh (rsT pc), .sh (.int p), a2, .no, .no, a5, x6, x7, x8]
theorem cand_rg : ∀ n : Nat, rgC (n : Nat) (-1) (n - 1) = (cand n).map fun k => PyData.int (k : Nat)
  | 0 => rfl
  | 1 => rfl
  | n + 2 => by
    have ih := cand_rg (n + 1)
    show rgC ((n + 2 : Nat) : Int) (-1) (n + 1) = .int ((n + 2 : Nat) : Int) :: (cand (n + 1)).map fun k => PyData.int (k : Nat)
    rw [← ih]
    unfold rgC
    rw [List.range_succ_eq_map, List.map_cons, List.map_map]
    congr 1
    · refine List.map_congr_left fun i _ => ?_
      show PyData.int (((n + 2 : Nat) : Int) + ((i + 1 : Nat) : Int) * -1) = .int (((n + 1 : Nat) : Int) + ((i : Nat) : Int) * -1)
      congr 1
      omega
theorem i_r3c {a b c : IE} {env e1 e2 e3 : SEnv} {n : Nat} (h1 : evE Φ a env = .ok (.now (.int (n : Nat))) e1) (h2 : evE Φ b e1 = .ok (.now (.int 1)) e2) (h3 : evE Φ c e2 = .ok (.now (.int (-1))) e3) (hn : n ≤ 1000000000) : evI Φ (.r3 a b c) env = .ok ((cand n).map fun k => PyData.int (k : Nat)) e3 := by
  have sz : Builtin.Range.rangeSize (n : Nat) 1 (-1) = ((n - 1 : Nat) : Int) := by
    unfold Builtin.Range.rangeSize
    rw [if_neg (by decide)]
    by_cases h : (n : Int) > 1
    · rw [if_pos h]
      simp
      omega
    · rw [if_neg h]
      omega
  have fits : ∀ i : Int, -10 ≤ i → i ≤ 1000000000 → Builtin.Range.rangeFitsLong i = true := fun i h1 h2 => by
    unfold Builtin.Range.rangeFitsLong
    simp
    omega
  have sm : Builtin.Range.small (n : Nat) 1 (-1) = true := by
    unfold Builtin.Range.small
    rw [sz, fits _ (by omega) (by omega), fits _ (by omega) (by omega), fits _ (by omega) (by omega), fits _ (by omega) (by omega)]
    rw [if_neg (by decide), fits (1 + (-1 + 1)) (by omega) (by omega)]
    simp
  simp only [evI, h1, Rs.bind, h2, h3, look]
  rw [sm, sz]
  simp only [Int.toNat_natCast]
  rw [cand_rg, if_pos]
  simp
theorem at_lastI {l : List Int} {z : Int} (h : l.getLast? = some z) : ixD (iL l) (.int (-1)) = some (.int z) := by
  obtain ⟨xs, rfl⟩ : ∃ xs, l = xs ++ [z] := by
    rcases List.eq_nil_or_concat l with e | ⟨xs, x, e⟩
    · rw [e] at h; cases h
    · rw [List.concat_eq_append] at e
      rw [e, List.getLast?_concat] at h
      exact ⟨xs, by rw [e]; congr 2; exact Option.some.inj h⟩
  show atI ((xs ++ [z]).map PyData.int) (-1) = _
  rw [List.map_append]
  exact at_last _ _
theorem at_headI {l : List Int} {z : Int} (h : l.head? = some z) : ixD (iL l) (.int 0) = some (.int z) := by
  cases l with
  | nil => cases h
  | cons x xs => cases h; exact at_getD (l := z :: xs) (i := 0) (Nat.succ_pos _)
theorem begins_lc (hl : pc.length ≤ 16777216) : evE Φ (.lc (.v 3) (.many [3, 4]) (.seq (.v 0)) .none [3, 4]) (eP pc p .no .no .no .no .no) = .ok (.tmp ((pc.map (·.1)).map .int)) (eP pc p .no .no .no .no .no) := by
  rw [lc_map (xs := pc) (enc := rT) (f := fun r => .int r.1) (e1 := eP pc p .no .no .no .no .no) rfl rfl rfl (fun r _ => rfl) hl, List.map_map]
  rfl
theorem ends_lc {a : Sl} (hl : pc.length ≤ 16777216) : evE Φ (.lc (.v 4) (.many [3, 4]) (.seq (.v 0)) .none [3, 4]) (eP pc p a .no .no .no .no) = .ok (.tmp ((pc.map (·.2)).map .int)) (eP pc p a .no .no .no .no) := by
  rw [lc_map (xs := pc) (enc := rT) (f := fun r => .int r.2) (e1 := eP pc p a .no .no .no .no) rfl rfl rfl (fun r _ => rfl) hl, List.map_map]
  rfl
/-- rises and falls are there -/
def rfS : IS := .ite (.cmp .Eq (.ix (.v 5) (.neg (.k (.int 1)))) (.v 1)) (.cons (.pop 5) (.cons (.ite (.cmp .Eq (.ix (.v 2) (.k (.int 0))) (.k (.int 0))) (.cons (.asg 2 (.sl (.v 2) (.some (.k (.int 1))) .none)) .nil) (.cons (.asg 5 (.bin .Add (.lst (.cons (.k (.int 0)) .nil)) (.v 5))) .nil)) .nil)) .nil
theorem rf_run {n : Nat} {r : ISs} (hne : pc ≠ []) (hl : pc.length ≤ 1000000) : evSs Φ n (.cons rfS r) (eP pc p (.own ((pc.map (·.1)).map .int)) (.own ((pc.map (·.2)).map .int)) .no .no .no) = evSs Φ n r (eP pc p (.own ((rf pc p).1.map .int)) (.own ((rf pc p).2.map .int)) .no .no .no) := by
  obtain ⟨z, hz⟩ : ∃ z, (pc.map (·.2)).getLast? = some z := by
    cases e : (pc.map (·.2)).getLast? with
    | none => rw [List.getLast?_eq_none_iff] at e; exact absurd (List.map_eq_nil_iff.mp e) hne
    | some z => exact ⟨z, rfl⟩
  obtain ⟨h, hh⟩ : ∃ z, (pc.map (·.1)).head? = some z := by
    cases pc with
    | nil => exact absurd rfl hne
    | cons r rs => exact ⟨_, rfl⟩
  have t : evT Φ (.cmp .Eq (.ix (.v 5) (.neg (.k (.int 1)))) (.v 1)) (eP pc p (.own ((pc.map (·.1)).map .int)) (.own ((pc.map (·.2)).map .int)) .no .no .no) = .ok (z == p) (eP pc p (.own ((pc.map (·.1)).map .int)) (.own ((pc.map (·.2)).map .int)) .no .no .no) :=
    tst (cmp_nows (d := .int z) (d' := .int p) (ix_vw (w := .late 5) (d := iL (pc.map (·.2))) rfl (neg_now rfl) rfl rfl (at_lastI hz)) rfl (ceq_int _ _))
  unfold rf
  rw [hz, hh]
  unfold rfS
  by_cases c : z = p
  · subst c
    rw [beq_self_eq_true] at t
    rw [if_pos rfl]
    have pop : evS Φ n (.pop 5) (eP pc z (.own ((pc.map (·.1)).map .int)) (.own ((pc.map (·.2)).map .int)) .no .no .no) = .nxt (eP pc z (.own ((pc.map (·.1)).map .int)) (.own (((pc.map (·.2)).dropLast).map .int)) .no .no .no) := by
      show (if ((pc.map (·.2)).map PyData.int).isEmpty then FR.stuck else .nxt _) = _
      have : ((pc.map (·.2)).map PyData.int).isEmpty = false := by
        cases pc with
        | nil => exact absurd rfl hne
        | cons r rs => rfl
      rw [this, List.map_dropLast]
      rfl
    have t2 : evT Φ (.cmp .Eq (.ix (.v 2) (.k (.int 0))) (.k (.int 0))) (eP pc z (.own ((pc.map (·.1)).map .int)) (.own (((pc.map (·.2)).dropLast).map .int)) .no .no .no) = .ok (h == 0) (eP pc z (.own ((pc.map (·.1)).map .int)) (.own (((pc.map (·.2)).dropLast).map .int)) .no .no .no) :=
      tst (cmp_nows (d := .int h) (d' := .int 0) (ix_vw (w := .late 2) (d := iL (pc.map (·.1))) rfl rfl rfl rfl (at_headI hh)) rfl (ceq_int _ _))
    by_cases c2 : h = 0
    · subst c2
      rw [beq_self_eq_true] at t2
      rw [if_pos rfl]
      refine if_tn t ?_
      rw [seq_nxt pop, if_tn t2 (e2 := eP pc z (.own (((pc.map (·.1)).tail).map .int)) (.own (((pc.map (·.2)).dropLast).map .int)) .no .no .no) ?_]
      · rfl
      · have : evE Φ (.sl (.v 2) (.some (.k (.int 1))) .none) (eP pc z (.own ((pc.map (·.1)).map .int)) (.own (((pc.map (·.2)).dropLast).map .int)) .no .no .no) = .ok (.tmp (((pc.map (·.1)).tail).map .int)) (eP pc z (.own ((pc.map (·.1)).map .int)) (.own (((pc.map (·.2)).dropLast).map .int)) .no .no .no) := by
          refine sl_vw (w := .late 2) (d := iL (pc.map (·.1))) (l := some 1) (h := none) rfl rfl rfl rfl ?_
          show some (Vw.tmp (cutD ((pc.map (·.1)).map PyData.int) (some ((1 : Nat) : Int)) none)) = _
          unfold cutD
          rw [HT.sIx_nat, HT.sIx_none]
          cases pc with
          | nil => exact absurd rfl hne
          | cons r rs =>
            simp only [List.map_cons, List.length_cons, List.tail_cons]
            rw [Nat.min_eq_left (by omega), List.drop_succ_cons, List.drop_zero, List.take_of_length_le (by omega)]
        rw [seq_nxt (asg_tmp this (x := .own ((pc.map (·.1)).map .int)) rfl rfl)]
        rfl
    · rw [beq_eq_false_iff_ne.mpr c2] at t2
      rw [if_neg (fun z => c2 (Option.some.inj z))]
      refine if_tn t ?_
      rw [seq_nxt pop, if_fn t2 (e2 := eP pc z (.own ((pc.map (·.1)).map .int)) (.own ((0 :: (pc.map (·.2)).dropLast).map .int)) .no .no .no) ?_]
      · rfl
      · have : evE Φ (.bin .Add (.lst (.cons (.k (.int 0)) .nil)) (.v 5)) (eP pc z (.own ((pc.map (·.1)).map .int)) (.own (((pc.map (·.2)).dropLast).map .int)) .no .no .no) = .ok (.tmp ((0 :: (pc.map (·.2)).dropLast).map .int)) (eP pc z (.own ((pc.map (·.1)).map .int)) (.own (((pc.map (·.2)).dropLast).map .int)) .no .no .no) := by
          refine bin_vw (w := .tmp [.int 0]) (w2 := .late 5) (d := .list [.int 0]) (d' := iL ((pc.map (·.2)).dropLast)) rfl rfl rfl rfl ?_
          show (if szOk ([PyData.int 0].length + (((pc.map (·.2)).dropLast).map PyData.int).length) then some (Vw.tmp ([PyData.int 0] ++ ((pc.map (·.2)).dropLast).map PyData.int)) else none) = _
          rw [show szOk ([PyData.int 0].length + (((pc.map (·.2)).dropLast).map PyData.int).length) = true from decide_eq_true (by
            rw [List.length_map, List.length_dropLast, List.length_map]
            simp
            omega)]
          rfl
        rw [seq_nxt (asg_tmp this (x := .own (((pc.map (·.2)).dropLast).map .int)) rfl rfl)]
        rfl
  · rw [beq_eq_false_iff_ne.mpr c] at t
    rw [if_neg (fun z => c (Option.some.inj z)), ite_0 t]
end
end K03

set_option Elab.async false
set_option linter.all false
set_option autoImplicit false
set_option maxRecDepth 100000
set_option maxHeartbeats 4000000
/-! # spans: the least period (3) -/
namespace K03
open PySem PyE L2 PyV PySem.W Sp
section
variable {m : Nat} {Φ : Fns} {pc : Runs} {p : Int} {rs fs : List Int}
def paB : ISs := (.cons (.ite (.and (.cmp .Eq (.bin .Mod (.bf .len (.cons (.v 2) .nil)) (.v 6)) (.k (.int 0))) (.cmp .Eq (.bin .Mod (.v 1) (.v 6)) (.k (.int 0)))) (.cons (.asg 7 (.bin .FloorDiv (.bf .len (.cons (.v 2) .nil)) (.v 6))) (.cons (.asg 8 (.bin .FloorDiv (.v 1) (.v 6))) (.cons (.ite (.and (.call "repeats" (.cons (.v 2) (.cons (.v 7) (.cons (.v 8) .nil)))) (.call "repeats" (.cons (.v 5) (.cons (.v 7) (.cons (.v 8) .nil))))) (.cons (.ret (.v 8)) .nil) .nil) .nil))) .nil) .nil)
def PL (pc : Runs) (p : Int) (rs fs : List Int) (e : SEnv) : Prop := ∃ a2 a5 x6 x7 x8, LS a2 rs ∧ LS a5 fs ∧ nb x6 = true ∧ nb x7 = true ∧ nb x8 = true ∧ e = eP pc p a2 a5 x6 x7 x8
theorem pa_turn {n k : Nat} (hk : 2 ≤ k) (hk2 : k ≤ 1000000) (hl : rs.length ≤ 1000000) (hf : rs.length = fs.length) {env : SEnv} (h : PL pc p rs fs env) :
    (okP rs fs p k = true ∧ ∃ e, (match putT env (.one 6) (.int (k : Nat)) with
      | some e2 => evSs (Phi T (m + 1)) n paB e2
      | none => .stuck) = .ret (.int (p / (k : Int))) e) ∨ (okP rs fs p k = false ∧ ∃ e, (match putT env (.one 6) (.int (k : Nat)) with
      | some e2 => evSs (Phi T (m + 1)) n paB e2
      | none => .stuck) = .nxt e ∧ PL pc p rs fs e) := by
  obtain ⟨a2, a5, x6, x7, x8, h2, h5, h6, h7, h8, rfl⟩ := h
  have hp : putT (eP pc p a2 a5 x6 x7 x8) (.one 6) (.int (k : Nat)) = some (eP pc p a2 a5 (.sh (.int (k : Nat))) x7 x8) := by
    show putS _ 6 _ = _
    rw [putS_nb (x := x6) rfl h6]
    rfl
  simp only [hp]
  have v2 : ∀ x7 x8, ∃ w, evE (Phi T (m + 1)) (.v 2) (eP pc p a2 a5 (.sh (.int (k : Nat))) x7 x8) = .ok w (eP pc p a2 a5 (.sh (.int (k : Nat))) x7 x8) ∧ look (eP pc p a2 a5 (.sh (.int (k : Nat))) x7 x8) w = some (iL rs) := fun x7 x8 => by
    rcases h2 with rfl | rfl
    · exact ⟨.late 2, rfl, rfl⟩
    · exact ⟨.now (iL rs), rfl, rfl⟩
  have ln : ∀ x7 x8, evE (Phi T (m + 1)) (.bf .len (.cons (.v 2) .nil)) (eP pc p a2 a5 (.sh (.int (k : Nat))) x7 x8) = .ok (.now (.int (rs.length : Nat))) (eP pc p a2 a5 (.sh (.int (k : Nat))) x7 x8) := fun x7 x8 => by
    obtain ⟨w, e1, e2⟩ := v2 x7 x8
    exact bf_1 e1 e2 (len_iL _)
  have c1 : evE (Phi T (m + 1)) (.cmp .Eq (.bin .Mod (.bf .len (.cons (.v 2) .nil)) (.v 6)) (.k (.int 0))) (eP pc p a2 a5 (.sh (.int (k : Nat))) x7 x8) = .ok (.now (.bool (rs.length % k == 0))) (eP pc p a2 a5 (.sh (.int (k : Nat))) x7 x8) :=
    cmp_nows (d := .int ((rs.length : Int) % (k : Nat))) (d' := .int 0) (bin_now (ln _ _) (d' := .int (k : Nat)) rfl (mod_ok (by omega))) rfl (by
      rw [ceq_int]
      congr 1
      rw [Bool.eq_iff_iff, beq_iff_eq, beq_iff_eq]
      omega)
  have c2 : evE (Phi T (m + 1)) (.cmp .Eq (.bin .Mod (.v 1) (.v 6)) (.k (.int 0))) (eP pc p a2 a5 (.sh (.int (k : Nat))) x7 x8) = .ok (.now (.bool (p % (k : Nat) == 0))) (eP pc p a2 a5 (.sh (.int (k : Nat))) x7 x8) :=
    cmp_nows (d := .int (p % (k : Nat))) (d' := .int 0) (bin_now (d := .int p) (d' := .int (k : Nat)) rfl rfl (mod_ok (by omega))) rfl (ceq_int _ _)
  have t := tst (and_b c1 c2)
  unfold okP paB
  cases hq : (rs.length % k == 0 && p % (k : Int) == 0) with
  | false =>
    rw [hq] at t
    right
    refine ⟨rfl, _, ite_0 t, a2, a5, _, x7, x8, h2, h5, rfl, h7, h8, rfl⟩
  | true =>
    rw [hq] at t
    have s7 : evS (Phi T (m + 1)) n (.asg 7 (.bin .FloorDiv (.bf .len (.cons (.v 2) .nil)) (.v 6))) (eP pc p a2 a5 (.sh (.int (k : Nat))) x7 x8) = .nxt (eP pc p a2 a5 (.sh (.int (k : Nat))) (.sh (.int ((rs.length / k : Nat) : Int))) x8) := by
      rw [asg_now (d := .int ((rs.length / k : Nat) : Int)) (e1 := eP pc p a2 a5 (.sh (.int (k : Nat))) x7 x8) ?_ (x := x7) rfl h7]
      · rfl
      · refine bin_now (ln _ _) (d' := .int (k : Nat)) rfl ?_
        rw [div_ok (by omega) (by omega), Int.natCast_ediv]
    have s8 : evS (Phi T (m + 1)) n (.asg 8 (.bin .FloorDiv (.v 1) (.v 6))) (eP pc p a2 a5 (.sh (.int (k : Nat))) (.sh (.int ((rs.length / k : Nat) : Int))) x8) = .nxt (eP pc p a2 a5 (.sh (.int (k : Nat))) (.sh (.int ((rs.length / k : Nat) : Int))) (.sh (.int (p / (k : Int))))) := by
      rw [asg_now (d := .int (p / (k : Int))) (e1 := eP pc p a2 a5 (.sh (.int (k : Nat))) (.sh (.int ((rs.length / k : Nat) : Int))) x8) ?_ (x := x8) rfl h8]
      · rfl
      · exact bin_now (d := .int p) (d' := .int (k : Nat)) rfl rfl (div_ok (by omega) (by omega))
    have hdl : rs.length / k ≤ rs.length := Nat.div_le_self _ _
    have r2 : evE (Phi T (m + 1)) (.call "repeats" (.cons (.v 2) (.cons (.v 7) (.cons (.v 8) .nil)))) (eP pc p a2 a5 (.sh (.int (k : Nat))) (.sh (.int ((rs.length / k : Nat) : Int))) (.sh (.int (p / (k : Int))))) = .ok (.now (.bool (rep rs (rs.length / k) (p / (k : Int))))) (eP pc p (.sh (iL rs)) a5 (.sh (.int (k : Nat))) (.sh (.int ((rs.length / k : Nat) : Int))) (.sh (.int (p / (k : Int))))) := by
      rcases h2 with rfl | rfl
      · exact callN (fs := runDf (Phi T m) d_repeats) (ws := [.late 2, .now (.int ((rs.length / k : Nat) : Int)), .now (.int (p / (k : Int)))]) rfl rfl rfl rfl rfl (b := []) (repeats_run hdl hl)
      · exact callN (fs := runDf (Phi T m) d_repeats) (ws := [.now (iL rs), .now (.int ((rs.length / k : Nat) : Int)), .now (.int (p / (k : Int)))]) rfl rfl rfl rfl rfl (b := []) (repeats_run hdl hl)
    have r5 : evE (Phi T (m + 1)) (.call "repeats" (.cons (.v 5) (.cons (.v 7) (.cons (.v 8) .nil)))) (eP pc p (.sh (iL rs)) a5 (.sh (.int (k : Nat))) (.sh (.int ((rs.length / k : Nat) : Int))) (.sh (.int (p / (k : Int))))) = .ok (.now (.bool (rep fs (rs.length / k) (p / (k : Int))))) (eP pc p (.sh (iL rs)) (.sh (iL fs)) (.sh (.int (k : Nat))) (.sh (.int ((rs.length / k : Nat) : Int))) (.sh (.int (p / (k : Int))))) := by
      rcases h5 with rfl | rfl
      · exact callN (fs := runDf (Phi T m) d_repeats) (ws := [.late 5, .now (.int ((rs.length / k : Nat) : Int)), .now (.int (p / (k : Int)))]) rfl rfl rfl rfl rfl (b := []) (repeats_run (by omega) (by omega))
      · exact callN (fs := runDf (Phi T m) d_repeats) (ws := [.now (iL fs), .now (.int ((rs.length / k : Nat) : Int)), .now (.int (p / (k : Int)))]) rfl rfl rfl rfl rfl (b := []) (repeats_run (by omega) (by omega))
    rw [Bool.true_and]
    cases hr : rep rs (rs.length / k) (p / (k : Int)) with
    | false =>
      rw [hr] at r2
      right
      refine ⟨rfl, eP pc p (.sh (iL rs)) a5 (.sh (.int (k : Nat))) (.sh (.int ((rs.length / k : Nat) : Int))) (.sh (.int (p / (k : Int)))), ?_, .sh (iL rs), a5, .sh (.int (k : Nat)), .sh (.int ((rs.length / k : Nat) : Int)), .sh (.int (p / (k : Int))), .inr rfl, h5, rfl, rfl, rfl, rfl⟩
      · rw [if_tn t (e2 := eP pc p (.sh (iL rs)) a5 (.sh (.int (k : Nat))) (.sh (.int ((rs.length / k : Nat) : Int))) (.sh (.int (p / (k : Int))))) (by rw [seq_nxt s7, seq_nxt s8, ite_0 (tst (and_ff r2))]; rfl)]
        rfl
    | true =>
      rw [hr] at r2
      cases hr5 : rep fs (rs.length / k) (p / (k : Int)) with
      | false =>
        rw [hr5] at r5
        right
        refine ⟨rfl, eP pc p (.sh (iL rs)) (.sh (iL fs)) (.sh (.int (k : Nat))) (.sh (.int ((rs.length / k : Nat) : Int))) (.sh (.int (p / (k : Int)))), ?_, .sh (iL rs), .sh (iL fs), .sh (.int (k : Nat)), .sh (.int ((rs.length / k : Nat) : Int)), .sh (.int (p / (k : Int))), .inr rfl, .inr rfl, rfl, rfl, rfl, rfl⟩
        rw [if_tn t (e2 := eP pc p (.sh (iL rs)) (.sh (iL fs)) (.sh (.int (k : Nat))) (.sh (.int ((rs.length / k : Nat) : Int))) (.sh (.int (p / (k : Int))))) (by rw [seq_nxt s7, seq_nxt s8, ite_0 (tst ((and_t r2).trans r5))]; rfl)]
        rfl
      | true =>
        rw [hr5] at r5
        left
        refine ⟨rfl, eP pc p (.sh (iL rs)) (.sh (iL fs)) (.sh (.int (k : Nat))) (.sh (.int ((rs.length / k : Nat) : Int))) (.sh (.int (p / (k : Int)))), ?_⟩
        rw [ite_1 t (by rw [seq_nxt s7, seq_nxt s8]; exact ite_1 (tst ((and_t r2).trans r5)) rfl)]
def gK (f : Nat → Bool) (g : Nat → D) : D → Option D
  | .int i => if f i.toNat then some (g i.toNat) else none
  | _ => none
theorem find_cand (f : Nat → Bool) (g : Nat → D) : ∀ ks : List Nat, (ks.map fun k => PyData.int (k : Nat)).findSome? (gK f g) = (ks.find? f).map g
  | [] => rfl
  | k :: ks => by
    rw [List.map_cons, List.findSome?_cons, List.find?_cons]
    simp only [gK, Int.toNat_natCast]
    cases h : f k with
    | true => rfl
    | false => exact find_cand f g ks
theorem least_period_run (hl : pc.length ≤ 900000) (h0 : 0 < p) (c : Can (-1) pc) (he : ∀ r ∈ pc, r.2 ≤ p) : (runDf (Phi T (m + 1)) d_least_period).run [rsT pc, .int p] = .ret (.int (lp pc p)) [] := by
  show frR (evSs _ 100 b_least_period [.sh (rsT pc), .sh (.int p), .no, .no, .no, .no, .no, .no, .no]) = _
  show frR (evSs _ 100 b_least_period (eP pc p .no .no .no .no .no)) = _
  unfold b_least_period
  have n1 : evE (Phi T (m + 1)) (.nt (.v 0)) (eP pc p .no .no .no .no .no) = .ok (.now (.bool (decide (pc = [])))) (eP pc p .no .no .no .no .no) := by
    show Rs.ok (Vw.now (.bool (!(!(pc.map rT).isEmpty)))) _ = _
    congr 3
    cases pc <;> rfl
  have n2 : evE (Phi T (m + 1)) (.call "is_full" (.cons (.v 0) (.cons (.v 1) .nil))) (eP pc p .no .no .no .no .no) = .ok (.now (.bool (full pc p))) (eP pc p .no .no .no .no .no) := full_call rfl
  have t := tst (or_b n1 n2)
  unfold lp
  by_cases hc : pc = [] ∨ pc = [(0, p)]
  · rw [if_pos hc]
    have : (decide (pc = []) || full pc p) = true := by
      rcases hc with h | h
      · rw [decide_eq_true h]; rfl
      · rw [full_iff.mpr h, Bool.or_true]
    rw [this] at t
    rw [ite_1 t (seq_ret (ret_now rfl))]
    rfl
  have hne : pc ≠ [] := fun z => hc (.inl z)
  have hnf : full pc p = false := by
    cases h : full pc p with
    | false => rfl
    | true => exact absurd (.inr (full_iff.mp h)) hc
  rw [decide_eq_false hne, hnf] at t
  rw [if_neg hc, ite_0 t]
  rw [seq_nxt (e1 := eP pc p (.own ((pc.map (·.1)).map .int)) .no .no .no .no) (asg_tmp (begins_lc (by omega)) (x := .no) rfl rfl)]
  rw [seq_nxt (e1 := eP pc p (.own ((pc.map (·.1)).map .int)) (.own ((pc.map (·.2)).map .int)) .no .no .no) (asg_tmp (ends_lc (by omega)) (x := .no) rfl rfl)]
  have rr := rf_run (Φ := Phi T (m + 1)) (n := 100) (p := p) (pc := pc) (r := (.cons (.for_ (.one 6) (.r3 (.bf .len (.cons (.v 2) .nil)) (.k (.int 1)) (.neg (.k (.int 1)))) paB) (.cons (.ret (.v 1)) .nil))) hne (by omega)
  unfold rfS paB at rr
  rw [rr]
  obtain ⟨m1, m2, hlen⟩ := rf_spec (pc := pc) (p := p) ⟨h0, c, he, hne, fun z => hc (.inr z)⟩
  have hle : (rf pc p).1.length ≤ 1000000 := by
    unfold rf
    split
    · split
      · simp; omega
      · simp; omega
    · simp; omega
  have hi : evI (Phi T (m + 1)) (.r3 (.bf .len (.cons (.v 2) .nil)) (.k (.int 1)) (.neg (.k (.int 1)))) (eP pc p (.own ((rf pc p).1.map .int)) (.own ((rf pc p).2.map .int)) .no .no .no) = .ok ((cand (rf pc p).1.length).map fun k => PyData.int (k : Nat)) (eP pc p (.own ((rf pc p).1.map .int)) (.own ((rf pc p).2.map .int)) .no .no .no) :=
    i_r3c (bf_1 (w := .late 2) rfl rfl (len_iL _)) rfl rfl (by omega)
  have lp := forL_find (f := fun x e => match putT e (.one 6) x with
      | some e2 => evSs (Phi T (m + 1)) 100 paB e2
      | none => .stuck) (P := PL pc p (rf pc p).1 (rf pc p).2) (g := gK (okP (rf pc p).1 (rf pc p).2 p) (fun k => .int (p / (k : Int)))) (xs := (cand (rf pc p).1.length).map fun k => PyData.int (k : Nat)) (env := eP pc p (.own ((rf pc p).1.map .int)) (.own ((rf pc p).2.map .int)) .no .no .no) ⟨_, _, _, _, _, .inl rfl, .inl rfl, rfl, rfl, rfl, rfl⟩ (fun x hx env hP => by
    obtain ⟨k, hk, rfl⟩ := List.mem_map.mp hx
    obtain ⟨k1, k2⟩ := (cand_mem _ _).mp hk
    simp only [gK, Int.toNat_natCast]
    rcases pa_turn (m := m) (n := 100) k1 (by omega) hle hlen hP with ⟨a, b⟩ | ⟨a, b⟩
    · exact .inl ⟨_, if_pos a, b⟩
    · exact .inr ⟨if_neg (by rw [a]; decide), b⟩)
  rw [find_cand (okP (rf pc p).1 (rf pc p).2 p) (fun k => .int (p / (k : Int)))] at lp
  unfold paB at lp
  cases hf : (cand (rf pc p).1.length).find? (okP (rf pc p).1 (rf pc p).2 p) with
  | some k =>
    rw [hf] at lp
    rcases lp with ⟨d, h, e, he⟩ | ⟨h, _⟩
    · cases h
      rw [seq_ret ((for_eq hi).trans he)]
      rfl
    · cases h
  | none =>
    rw [hf] at lp
    rcases lp with ⟨d, h, _⟩ | ⟨_, e, he, a2, a5, x6, x7, x8, _, _, _, _, _, rfl⟩
    · cases h
    · rw [seq_nxt ((for_eq hi).trans he)]
      rfl
theorem lperiod_call (hl : pc.length ≤ 900000) (h0 : 0 < p) (c : Can (-1) pc) (he : ∀ r ∈ pc, r.2 ≤ p) {es : IEs} {env e1 : SEnv} (hes : evEs (Phi T (m + 2)) es env = .ok [.now (rsT pc), .now (.int p)] e1) : evE (Phi T (m + 2)) (.call "least_period" es) env = .ok (.now (.int (lp pc p))) e1 :=
  callN (fs := runDf (Phi T (m + 1)) d_least_period) rfl hes rfl rfl rfl (b := []) (least_period_run hl h0 c he)
end
end K03

set_option Elab.async false
set_option linter.all false
set_option autoImplicit false
set_option maxRecDepth 100000
set_option maxHeartbeats 4000000
/-! # spans: the least start -/
namespace K03
open PySem PyE L2 PyV PySem.W Sp
section
variable {m k : Nat} {Φ : Fns} {hd pc : Runs} {st p h : Int}
def bl (hd : Runs) (h : Int) : Nat := (hd.takeWhile fun r => decide (r.1 < h)).length
theorem bl_le : bl hd h ≤ hd.length := (List.takeWhile_sublist _).length_le
theorem bl_spec : ∀ {lo : Int} {hd : Runs} (h : Int), Can lo hd → ∀ (i : Nat) (a : Int × Int), hd[i]? = some a → (i < bl hd h ↔ a.1 < h)
  | _, [], _, _, i, a, e => by simp at e
  | lo, r :: rs, h, c, i, a, e => by
    unfold bl
    rw [List.takeWhile_cons]
    by_cases z : r.1 < h
    · rw [if_pos (decide_eq_true z), List.length_cons]
      cases i with
      | zero =>
        simp at e
        subst e
        exact ⟨fun _ => z, fun _ => Nat.succ_pos _⟩
      | succ i =>
        simp at e
        have := bl_spec h c.2.2 i a e
        unfold bl at this
        rw [← this]
        omega
    · rw [if_neg (by simpa using z)]
      refine ⟨fun y => (by cases y), fun y => ?_⟩
      cases i with
      | zero =>
        simp at e
        subst e
        omega
      | succ i =>
        have := Can.ends c 0 (i + 1) r a (by omega) rfl e
        have := c.2.1
        omega
theorem lastB_is : lastB hd h = if bl hd h = 0 then none else hd[bl hd h - 1]? := by
  unfold lastB bl
  obtain ⟨t, ht⟩ := List.takeWhile_prefix (p := fun r : Int × Int => decide (r.1 < h)) (l := hd)
  rw [List.getLast?_eq_getElem?]
  generalize hd.takeWhile (fun r : Int × Int => decide (r.1 < h)) = W at ht ⊢
  by_cases z : W.length = 0
  · rw [if_pos z, List.getElem?_eq_none (by omega)]
  · rw [if_neg z, ← ht, List.getElem?_append_left (by omega)]
def eS (hd : Runs) (st p : Int) (pc : Runs) (h a : Int) (x6 x7 x8 x9 x10 x11 : Sl) : SEnv := [.sh (rsT hd), .sh (.int st), .sh (.int p), .sh (rsT pc), .sh (.int h), .sh (.int a), x6, x7, x8, x9, x10, x11]
def inW : IS := .whl (.and (.cmp .GtE (.v 5) (.k (.int 0))) (.cmp .GtE (.ix (.ix (.v 0) (.v 5)) (.k (.int 0))) (.v 4))) (.cons (.aug 5 .Sub (.k (.int 1))) .nil)
theorem in_loop (c : Can (-1) hd) {x6 x7 x8 x9 x10 x11 : Sl} : ∀ (n j : Nat), bl hd h ≤ j → j ≤ hd.length → j < n →
    whlL (evT Φ (.and (.cmp .GtE (.v 5) (.k (.int 0))) (.cmp .GtE (.ix (.ix (.v 0) (.v 5)) (.k (.int 0))) (.v 4)))) (evSs Φ k (.cons (.aug 5 .Sub (.k (.int 1))) .nil)) n (eS hd st p pc h ((j : Int) - 1) x6 x7 x8 x9 x10 x11) = .nxt (eS hd st p pc h ((bl hd h : Int) - 1) x6 x7 x8 x9 x10 x11)
  | 0, j, _, _, z => by omega
  | n + 1, j, h1, h2, h3 => by
    have t1 : evE Φ (.cmp .GtE (.v 5) (.k (.int 0))) (eS hd st p pc h ((j : Int) - 1) x6 x7 x8 x9 x10 x11) = .ok (.now (.bool (decide (0 ≤ (j : Int) - 1)))) (eS hd st p pc h ((j : Int) - 1) x6 x7 x8 x9 x10 x11) := rfl
    by_cases h0 : j = 0
    · rw [decide_eq_false (by omega)] at t1
      have : bl hd h = j := by omega
      rw [whl_f (tst (and_ff t1)), this]
    · rw [decide_eq_true (by omega)] at t1
      have hj : j - 1 < hd.length := by omega
      have e := List.getElem?_eq_getElem hj
      have b := bl_spec h c (j - 1) _ e
      have t2 : evE Φ (.cmp .GtE (.ix (.ix (.v 0) (.v 5)) (.k (.int 0))) (.v 4)) (eS hd st p pc h ((j : Int) - 1) x6 x7 x8 x9 x10 x11) = .ok (.now (.bool (decide (h ≤ hd[j - 1].1)))) (eS hd st p pc h ((j : Int) - 1) x6 x7 x8 x9 x10 x11) :=
        cmp_nows (d := .int hd[j - 1].1) (d' := .int h) (ix_now (d := rT hd[j - 1]) (ix_now (d := rsT hd) (d' := .int ((j - 1 : Nat) : Int)) rfl (by rw [show ((j - 1 : Nat) : Int) = (j : Int) - 1 from by omega]; rfl) (at_rsT e)) rfl rfl) rfl rfl
      by_cases hb : j - 1 < bl hd h
      · rw [decide_eq_false (by have := b.mp hb; omega)] at t2
        have : bl hd h = j := by omega
        rw [whl_f (tst ((and_t t1).trans t2)), this]
      · rw [decide_eq_true (by have := mt b.mpr hb; omega)] at t2
        rw [whl_t (tst ((and_t t1).trans t2)) (e2 := eS hd st p pc h (((j - 1 : Nat) : Int) - 1) x6 x7 x8 x9 x10 x11) (by rw [show ((j - 1 : Nat) : Int) = (j : Int) - 1 from by omega]; rfl)]
        exact in_loop c n (j - 1) (by omega) (by omega) (by omega)
/-- held and low are there -/
theorem held_run {r : ISs} {x6 x7 x8 x9 x10 x11 : Sl} (h6 : nb x6 = true) (h7 : nb x7 = true) :
    evSs Φ k (.cons (.asg 6 (.and (.cmp .GtE (.v 5) (.k (.int 0))) (.cmp .GtE (.ix (.ix (.v 0) (.v 5)) (.k (.int 1))) (.v 4)))) (.cons (.asg 7 (.k (.int 0))) (.cons (.ite (.cmp .GtE (.v 5) (.k (.int 0))) (.cons (.asg 7 (.ife (.v 6) (.ix (.ix (.v 0) (.v 5)) (.k (.int 0))) (.ix (.ix (.v 0) (.v 5)) (.k (.int 1))))) .nil) .nil) r))) (eS hd st p pc h ((bl hd h : Int) - 1) x6 x7 x8 x9 x10 x11) =
    evSs Φ k r (eS hd st p pc h ((bl hd h : Int) - 1) (.sh (.bool (heldB hd h))) (.sh (.int (low0 hd h))) x8 x9 x10 x11) := by
  have t1 : ∀ x6 x7, evE Φ (.cmp .GtE (.v 5) (.k (.int 0))) (eS hd st p pc h ((bl hd h : Int) - 1) x6 x7 x8 x9 x10 x11) = .ok (.now (.bool (decide (0 ≤ (bl hd h : Int) - 1)))) (eS hd st p pc h ((bl hd h : Int) - 1) x6 x7 x8 x9 x10 x11) := fun _ _ => rfl
  unfold heldB low0
  rw [lastB_is]
  by_cases h0 : bl hd h = 0
  · rw [if_pos h0]
    rw [decide_eq_false (by omega)] at t1
    rw [seq_nxt (e1 := eS hd st p pc h ((bl hd h : Int) - 1) (.sh (.bool false)) x7 x8 x9 x10 x11) (asg_now (and_ff (t1 _ _)) (x := x6) rfl h6)]
    rw [seq_nxt (e1 := eS hd st p pc h ((bl hd h : Int) - 1) (.sh (.bool false)) (.sh (.int 0)) x8 x9 x10 x11) (asg_now (d := .int 0) (e1 := eS hd st p pc h ((bl hd h : Int) - 1) (.sh (.bool false)) x7 x8 x9 x10 x11) rfl (x := x7) rfl h7)]
    rw [ite_0 (tst (t1 _ _))]
  · rw [if_neg h0]
    have hj : bl hd h - 1 < hd.length := by have := bl_le (hd := hd) (h := h); omega
    have e := List.getElem?_eq_getElem hj
    rw [decide_eq_true (by omega)] at t1
    have ixr : ∀ x6 x7, evE Φ (.ix (.v 0) (.v 5)) (eS hd st p pc h ((bl hd h : Int) - 1) x6 x7 x8 x9 x10 x11) = .ok (.now (rT hd[bl hd h - 1])) (eS hd st p pc h ((bl hd h : Int) - 1) x6 x7 x8 x9 x10 x11) := fun _ _ => ix_now (d := rsT hd) (d' := .int ((bl hd h - 1 : Nat) : Int)) rfl (by rw [show ((bl hd h - 1 : Nat) : Int) = (bl hd h : Int) - 1 from by omega]; rfl) (at_rsT e)
    rw [e]
    show _ = evSs Φ k r (eS hd st p pc h ((bl hd h : Int) - 1) (.sh (.bool (decide (h ≤ hd[bl hd h - 1].2)))) (.sh (.int (if h ≤ hd[bl hd h - 1].2 then hd[bl hd h - 1].1 else hd[bl hd h - 1].2))) x8 x9 x10 x11)
    have hv : evE Φ (.and (.cmp .GtE (.v 5) (.k (.int 0))) (.cmp .GtE (.ix (.ix (.v 0) (.v 5)) (.k (.int 1))) (.v 4))) (eS hd st p pc h ((bl hd h : Int) - 1) x6 x7 x8 x9 x10 x11) = .ok (.now (.bool (decide (h ≤ hd[bl hd h - 1].2)))) (eS hd st p pc h ((bl hd h : Int) - 1) x6 x7 x8 x9 x10 x11) :=
      (and_t (t1 x6 x7)).trans (cmp_nows (d := .int hd[bl hd h - 1].2) (d' := .int h) (ix_now (ixr x6 x7) rfl rfl) rfl rfl)
    rw [seq_nxt (e1 := eS hd st p pc h ((bl hd h : Int) - 1) (.sh (.bool (decide (h ≤ hd[bl hd h - 1].2)))) x7 x8 x9 x10 x11) (asg_now hv (x := x6) rfl h6)]
    rw [seq_nxt (e1 := eS hd st p pc h ((bl hd h : Int) - 1) (.sh (.bool (decide (h ≤ hd[bl hd h - 1].2)))) (.sh (.int 0)) x8 x9 x10 x11) (asg_now (d := .int 0) (e1 := eS hd st p pc h ((bl hd h : Int) - 1) (.sh (.bool (decide (h ≤ hd[bl hd h - 1].2)))) x7 x8 x9 x10 x11) rfl (x := x7) rfl h7)]
    have v6 : ∀ z, decide (h ≤ hd[bl hd h - 1].2) = z → evE Φ (.v 6) (eS hd st p pc h ((bl hd h : Int) - 1) (.sh (.bool (decide (h ≤ hd[bl hd h - 1].2)))) (.sh (.int 0)) x8 x9 x10 x11) = .ok (.now (.bool z)) (eS hd st p pc h ((bl hd h : Int) - 1) (.sh (.bool (decide (h ≤ hd[bl hd h - 1].2)))) (.sh (.int 0)) x8 x9 x10 x11) := fun z hz => by
      subst hz
      rfl
    have vi : evE Φ (.ife (.v 6) (.ix (.ix (.v 0) (.v 5)) (.k (.int 0))) (.ix (.ix (.v 0) (.v 5)) (.k (.int 1)))) (eS hd st p pc h ((bl hd h : Int) - 1) (.sh (.bool (decide (h ≤ hd[bl hd h - 1].2)))) (.sh (.int 0)) x8 x9 x10 x11) = .ok (.now (.int (if h ≤ hd[bl hd h - 1].2 then hd[bl hd h - 1].1 else hd[bl hd h - 1].2))) (eS hd st p pc h ((bl hd h : Int) - 1) (.sh (.bool (decide (h ≤ hd[bl hd h - 1].2)))) (.sh (.int 0)) x8 x9 x10 x11) := by
      by_cases c : h ≤ hd[bl hd h - 1].2
      · rw [if_pos c]
        exact (ife_t (v6 true (decide_eq_true c))).trans (ix_now (d' := .int 0) (ixr _ _) (b := .k (.int 0)) rfl rfl)
      · rw [if_neg c]
        exact (ife_f (v6 false (decide_eq_false c))).trans (ix_now (d' := .int 1) (ixr _ _) (b := .k (.int 1)) rfl rfl)
    rw [if_tn (tst (t1 _ _)) (e2 := eS hd st p pc h ((bl hd h : Int) - 1) (.sh (.bool (decide (h ≤ hd[bl hd h - 1].2)))) (.sh (.int (if h ≤ hd[bl hd h - 1].2 then hd[bl hd h - 1].1 else hd[bl hd h - 1].2))) x8 x9 x10 x11) (by
      rw [seq_nxt (asg_now vi (x := .sh (.int 0)) rfl rfl)]
      rfl)]
end
end K03

set_option Elab.async false
set_option linter.all false
set_option autoImplicit false
set_option maxRecDepth 100000
set_option maxHeartbeats 4000000
/-! # spans: the least start (2) -/
namespace K03
open PySem PyE L2 PyV PySem.W Sp
section
variable {m k : Nat} {Φ : Fns} {hd pc : Runs} {st p h : Int}
theorem cne_bool (a b : Bool) : cmpD .NotEq (.bool a) (.bool b) = some (a != b) := by
  cases a <;> cases b <;> rfl
def flB : ISs := (.cons (.asg 11 (.ife (.v 10) (.ix (.ix (.v 3) (.v 9)) (.k (.int 0))) (.k (.int 0)))) (.cons (.ite (.and (.nt (.v 10)) (.cmp .Gt (.v 9) (.k (.int 0)))) (.cons (.asg 11 (.ix (.ix (.v 3) (.bin .Sub (.v 9) (.k (.int 1)))) (.k (.int 1)))) .nil) .nil) (.cons (.asg 7 (.bf .max (.cons (.v 7) (.cons (.bin .Add (.bin .Sub (.bin .Sub (.v 4) (.k (.int 1))) (.v 8)) (.v 11)) .nil)))) .nil)))
theorem floor_run {a l0 place : Int} {x6 x11 : Sl} (h11 : nb x11 = true) :
    ∃ y11, nb y11 = true ∧ evSs Φ k flB (eS hd st p pc h a x6 (.sh (.int l0)) (.sh (.int place)) (.sh (.int (eb pc place : Nat))) (.sh (.bool (inR pc place))) x11) = .nxt (eS hd st p pc h a x6 (.sh (.int (max l0 (h - 1 - place + floorP pc place)))) (.sh (.int place)) (.sh (.int (eb pc place : Nat))) (.sh (.bool (inR pc place))) y11) := by
  have fin : ∀ f : Int, evSs Φ k (.cons (.asg 7 (.bf .max (.cons (.v 7) (.cons (.bin .Add (.bin .Sub (.bin .Sub (.v 4) (.k (.int 1))) (.v 8)) (.v 11)) .nil)))) .nil) (eS hd st p pc h a x6 (.sh (.int l0)) (.sh (.int place)) (.sh (.int (eb pc place : Nat))) (.sh (.bool (inR pc place))) (.sh (.int f))) = .nxt (eS hd st p pc h a x6 (.sh (.int (max l0 (h - 1 - place + f)))) (.sh (.int place)) (.sh (.int (eb pc place : Nat))) (.sh (.bool (inR pc place))) (.sh (.int f))) := fun f => by
    rw [seq_nxt (asg_now (bf_2 (d := .int l0) (d' := .int (h - 1 - place + f)) (e2 := eS hd st p pc h a x6 (.sh (.int l0)) (.sh (.int place)) (.sh (.int (eb pc place : Nat))) (.sh (.bool (inR pc place))) (.sh (.int f))) rfl rfl (max_ii _ _)) (x := .sh (.int l0)) rfl rfl)]
    rfl
  unfold floorP
  cases hi : inR pc place with
  | true =>
    rw [hi] at fin
    rw [if_pos rfl]
    obtain ⟨r, hr⟩ : ∃ r, pc[eb pc place]? = some r := by
      unfold inR at hi
      cases e : pc[eb pc place]? with
      | none => rw [e] at hi; cases hi
      | some r => exact ⟨r, rfl⟩
    refine ⟨.sh (.int r.1), rfl, ?_⟩
    rw [hr]
    unfold flB
    have v : evE Φ (.ife (.v 10) (.ix (.ix (.v 3) (.v 9)) (.k (.int 0))) (.k (.int 0))) (eS hd st p pc h a x6 (.sh (.int l0)) (.sh (.int place)) (.sh (.int (eb pc place : Nat))) (.sh (.bool true)) x11) = .ok (.now (.int r.1)) (eS hd st p pc h a x6 (.sh (.int l0)) (.sh (.int place)) (.sh (.int (eb pc place : Nat))) (.sh (.bool true)) x11) :=
      (ife_t rfl).trans (ix_now (d := rT r) (ix_now (d := rsT pc) (d' := .int (eb pc place : Nat)) rfl rfl (at_rsT hr)) rfl rfl)
    rw [seq_nxt (e1 := eS hd st p pc h a x6 (.sh (.int l0)) (.sh (.int place)) (.sh (.int (eb pc place : Nat))) (.sh (.bool true)) (.sh (.int r.1))) (asg_now v (x := x11) rfl h11)]
    rw [ite_0 (tst (and_ff (nt_now (x := true) rfl)))]
    exact fin r.1
  | false =>
    rw [hi] at fin
    rw [if_neg (by decide)]
    unfold flB
    have v : evE Φ (.ife (.v 10) (.ix (.ix (.v 3) (.v 9)) (.k (.int 0))) (.k (.int 0))) (eS hd st p pc h a x6 (.sh (.int l0)) (.sh (.int place)) (.sh (.int (eb pc place : Nat))) (.sh (.bool false)) x11) = .ok (.now (.int 0)) (eS hd st p pc h a x6 (.sh (.int l0)) (.sh (.int place)) (.sh (.int (eb pc place : Nat))) (.sh (.bool false)) x11) :=
      (ife_f rfl).trans rfl
    rw [seq_nxt (e1 := eS hd st p pc h a x6 (.sh (.int l0)) (.sh (.int place)) (.sh (.int (eb pc place : Nat))) (.sh (.bool false)) (.sh (.int 0))) (asg_now v (x := x11) rfl h11)]
    have t2 : evE Φ (.cmp .Gt (.v 9) (.k (.int 0))) (eS hd st p pc h a x6 (.sh (.int l0)) (.sh (.int place)) (.sh (.int (eb pc place : Nat))) (.sh (.bool false)) (.sh (.int 0))) = .ok (.now (.bool (decide ((0 : Int) < (eb pc place : Nat))))) (eS hd st p pc h a x6 (.sh (.int l0)) (.sh (.int place)) (.sh (.int (eb pc place : Nat))) (.sh (.bool false)) (.sh (.int 0))) := rfl
    have t1 : evE Φ (.nt (.v 10)) (eS hd st p pc h a x6 (.sh (.int l0)) (.sh (.int place)) (.sh (.int (eb pc place : Nat))) (.sh (.bool false)) (.sh (.int 0))) = .ok (.now (.bool true)) (eS hd st p pc h a x6 (.sh (.int l0)) (.sh (.int place)) (.sh (.int (eb pc place : Nat))) (.sh (.bool false)) (.sh (.int 0))) := rfl
    have t := tst ((and_t t1).trans t2)
    by_cases h0 : 0 < eb pc place
    · rw [decide_eq_true (by omega)] at t
      have hj : eb pc place - 1 < pc.length := by have := eb_le pc place; omega
      have e := List.getElem?_eq_getElem hj
      refine ⟨.sh (.int pc[eb pc place - 1].2), rfl, ?_⟩
      rw [if_pos h0, e]
      have v2 : evE Φ (.ix (.ix (.v 3) (.bin .Sub (.v 9) (.k (.int 1)))) (.k (.int 1))) (eS hd st p pc h a x6 (.sh (.int l0)) (.sh (.int place)) (.sh (.int (eb pc place : Nat))) (.sh (.bool false)) (.sh (.int 0))) = .ok (.now (.int pc[eb pc place - 1].2)) (eS hd st p pc h a x6 (.sh (.int l0)) (.sh (.int place)) (.sh (.int (eb pc place : Nat))) (.sh (.bool false)) (.sh (.int 0))) :=
        ix_now (d := rT pc[eb pc place - 1]) (ix_now (d := rsT pc) (d' := .int ((eb pc place - 1 : Nat) : Int)) rfl (by rw [show ((eb pc place - 1 : Nat) : Int) = (eb pc place : Int) - 1 from by omega]; rfl) (at_rsT e)) rfl rfl
      rw [if_tn t (e2 := eS hd st p pc h a x6 (.sh (.int l0)) (.sh (.int place)) (.sh (.int (eb pc place : Nat))) (.sh (.bool false)) (.sh (.int pc[eb pc place - 1].2))) (by
        rw [seq_nxt (asg_now v2 (x := .sh (.int 0)) rfl rfl)]
        rfl)]
      exact fin _
    · rw [decide_eq_false (by omega)] at t
      refine ⟨.sh (.int 0), rfl, ?_⟩
      rw [if_neg h0, ite_0 t]
      exact fin 0
def tuB : ISs := (.cons inW (.cons (.asg 6 (.and (.cmp .GtE (.v 5) (.k (.int 0))) (.cmp .GtE (.ix (.ix (.v 0) (.v 5)) (.k (.int 1))) (.v 4)))) (.cons (.asg 7 (.k (.int 0))) (.cons (.ite (.cmp .GtE (.v 5) (.k (.int 0))) (.cons (.asg 7 (.ife (.v 6) (.ix (.ix (.v 0) (.v 5)) (.k (.int 0))) (.ix (.ix (.v 0) (.v 5)) (.k (.int 1))))) .nil) .nil) (.cons (.asg 8 (.bin .Mod (.bin .Sub (.bin .Sub (.v 4) (.k (.int 1))) (.v 1)) (.v 2))) (.cons (.asg 9 (.call "ends_by" (.cons (.v 3) (.cons (.v 8) .nil)))) (.cons (.asg 10 (.and (.cmp .Lt (.v 9) (.bf .len (.cons (.v 3) .nil))) (.cmp .LtE (.ix (.ix (.v 3) (.v 9)) (.k (.int 0))) (.v 8)))) (.cons (.ite (.cmp .NotEq (.v 6) (.v 10)) (.cons (.ret (.v 4)) .nil) .nil) (.cons (.ite (.and (.v 3) (.nt (.call "is_full" (.cons (.v 3) (.cons (.v 2) .nil))))) flB .nil) (.cons (.asg 4 (.v 7)) .nil))))))))))
theorem tu_turn (ch : Can (-1) hd) (cp : Can (-1) pc) (hl : hd.length < 900000000) (cl : pc.length < 1000000000) (p0 : 0 < p) {j : Nat} (j1 : bl hd h ≤ j) (j2 : j ≤ hd.length) {x6 x7 x8 x9 x10 x11 : Sl} (h6 : nb x6 = true) (h7 : nb x7 = true) (h8 : nb x8 = true) (h9 : nb x9 = true) (h10 : nb x10 = true) (h11 : nb x11 = true) :
    ((heldB hd h != inR pc ((h - 1 - st) % p)) = true ∧ ∃ e, evSs (Phi T (m + 1)) 1000000000 tuB (eS hd st p pc h ((j : Int) - 1) x6 x7 x8 x9 x10 x11) = .ret (.int h) e) ∨
    ((heldB hd h != inR pc ((h - 1 - st) % p)) = false ∧ ∃ y6 y7 y8 y9 y10 y11, nb y6 = true ∧ nb y7 = true ∧ nb y8 = true ∧ nb y9 = true ∧ nb y10 = true ∧ nb y11 = true ∧ evSs (Phi T (m + 1)) 1000000000 tuB (eS hd st p pc h ((j : Int) - 1) x6 x7 x8 x9 x10 x11) = .nxt (eS hd st p pc (lowOf hd st p pc h) ((bl hd h : Int) - 1) y6 y7 y8 y9 y10 y11)) := by
  have i1 := in_loop (Φ := Phi T (m + 1)) (k := 1000000000) (st := st) (p := p) (pc := pc) (x6 := x6) (x7 := x7) (x8 := x8) (x9 := x9) (x10 := x10) (x11 := x11) ch 1000000000 j j1 j2 (by omega)
  have B : ∀ r : ISs, evSs (Phi T (m + 1)) 1000000000 (.cons inW r) (eS hd st p pc h ((j : Int) - 1) x6 x7 x8 x9 x10 x11) = evSs (Phi T (m + 1)) 1000000000 r (eS hd st p pc h ((bl hd h : Int) - 1) x6 x7 x8 x9 x10 x11) := fun r => by
    unfold inW
    rw [seq_nxt (whl_nxt i1)]
  unfold tuB
  rw [B, held_run h6 h7]
  generalize hb : heldB hd h = hB
  generalize hpl : (h - 1 - st) % p = place
  have s8 : evS (Phi T (m + 1)) 1000000000 (.asg 8 (.bin .Mod (.bin .Sub (.bin .Sub (.v 4) (.k (.int 1))) (.v 1)) (.v 2))) (eS hd st p pc h ((bl hd h : Int) - 1) (.sh (.bool hB)) (.sh (.int (low0 hd h))) x8 x9 x10 x11) = .nxt (eS hd st p pc h ((bl hd h : Int) - 1) (.sh (.bool hB)) (.sh (.int (low0 hd h))) (.sh (.int place)) x9 x10 x11) := by
    rw [asg_now (d := .int place) (e1 := eS hd st p pc h ((bl hd h : Int) - 1) (.sh (.bool hB)) (.sh (.int (low0 hd h))) x8 x9 x10 x11) ?_ (x := x8) rfl h8]
    · rfl
    · refine bin_now (d := .int (h - 1 - st)) (d' := .int p) rfl rfl ?_
      rw [mod_ok p0, hpl]
  have s9 : evS (Phi T (m + 1)) 1000000000 (.asg 9 (.call "ends_by" (.cons (.v 3) (.cons (.v 8) .nil)))) (eS hd st p pc h ((bl hd h : Int) - 1) (.sh (.bool hB)) (.sh (.int (low0 hd h))) (.sh (.int place)) x9 x10 x11) = .nxt (eS hd st p pc h ((bl hd h : Int) - 1) (.sh (.bool hB)) (.sh (.int (low0 hd h))) (.sh (.int place)) (.sh (.int (eb pc place : Nat))) x10 x11) := by
    rw [asg_now (ends_call (rs := pc) (h := place) cp cl rfl) (x := x9) rfl h9]
    rfl
  have s10 : evS (Phi T (m + 1)) 1000000000 (.asg 10 (.and (.cmp .Lt (.v 9) (.bf .len (.cons (.v 3) .nil))) (.cmp .LtE (.ix (.ix (.v 3) (.v 9)) (.k (.int 0))) (.v 8)))) (eS hd st p pc h ((bl hd h : Int) - 1) (.sh (.bool hB)) (.sh (.int (low0 hd h))) (.sh (.int place)) (.sh (.int (eb pc place : Nat))) x10 x11) = .nxt (eS hd st p pc h ((bl hd h : Int) - 1) (.sh (.bool hB)) (.sh (.int (low0 hd h))) (.sh (.int place)) (.sh (.int (eb pc place : Nat))) (.sh (.bool (inR pc place))) x11) := by
    rw [asg_now (at_and (rs := pc) (h := place) (v := 3) (w := 9) (n := eb pc place) (hE := .v 8) rfl rfl rfl) (x := x10) rfl h10]
    rfl
  rw [seq_nxt s8, seq_nxt s9, seq_nxt s10]
  have tr : evT (Phi T (m + 1)) (.cmp .NotEq (.v 6) (.v 10)) (eS hd st p pc h ((bl hd h : Int) - 1) (.sh (.bool hB)) (.sh (.int (low0 hd h))) (.sh (.int place)) (.sh (.int (eb pc place : Nat))) (.sh (.bool (inR pc place))) x11) = .ok (hB != inR pc place) (eS hd st p pc h ((bl hd h : Int) - 1) (.sh (.bool hB)) (.sh (.int (low0 hd h))) (.sh (.int place)) (.sh (.int (eb pc place : Nat))) (.sh (.bool (inR pc place))) x11) :=
    tst (cmp_nows (d := .bool hB) (d' := .bool (inR pc place)) rfl rfl (cne_bool _ _))
  cases hq : (hB != inR pc place) with
  | true =>
    rw [hq] at tr
    exact .inl ⟨rfl, _, ite_1 tr rfl⟩
  | false =>
    rw [hq] at tr
    refine .inr ⟨rfl, ?_⟩
    rw [ite_0 tr]
    unfold lowOf
    rw [hpl]
    by_cases hc : pc = [] ∨ full pc p = true
    · rw [if_pos hc]
      refine ⟨.sh (.bool hB), .sh (.int (low0 hd h)), .sh (.int place), .sh (.int (eb pc place : Nat)), .sh (.bool (inR pc place)), x11, rfl, rfl, rfl, rfl, rfl, h11, ?_⟩
      have t : evT (Phi T (m + 1)) (.and (.v 3) (.nt (.call "is_full" (.cons (.v 3) (.cons (.v 2) .nil))))) (eS hd st p pc h ((bl hd h : Int) - 1) (.sh (.bool hB)) (.sh (.int (low0 hd h))) (.sh (.int place)) (.sh (.int (eb pc place : Nat))) (.sh (.bool (inR pc place))) x11) = .ok false (eS hd st p pc h ((bl hd h : Int) - 1) (.sh (.bool hB)) (.sh (.int (low0 hd h))) (.sh (.int place)) (.sh (.int (eb pc place : Nat))) (.sh (.bool (inR pc place))) x11) := by
        by_cases he : pc = []
        · subst he
          exact tst_w (and_wf (w := .now (rsT [])) rfl rfl) rfl
        · have hf := hc.resolve_left he
          have tt : truR (eS hd st p pc h ((bl hd h : Int) - 1) (.sh (.bool hB)) (.sh (.int (low0 hd h))) (.sh (.int place)) (.sh (.int (eb pc place : Nat))) (.sh (.bool (inR pc place))) x11) (.now (rsT pc)) = some true := by
            show some (!(pc.map rT).isEmpty) = some true
            cases pc with
            | nil => exact absurd rfl he
            | cons r rs => rfl
          refine tst ((and_wt (w := .now (rsT pc)) rfl tt).trans (nt_now (x := true) ?_))
          rw [full_call (rs := pc) (p := p) rfl, hf]
      rw [ite_0 t]
      rfl
    · rw [if_neg hc]
      have he : pc ≠ [] := fun z => hc (.inl z)
      have hf : full pc p = false := by
        cases hf : full pc p with
        | false => rfl
        | true => exact absurd (.inr hf) hc
      have t : evT (Phi T (m + 1)) (.and (.v 3) (.nt (.call "is_full" (.cons (.v 3) (.cons (.v 2) .nil))))) (eS hd st p pc h ((bl hd h : Int) - 1) (.sh (.bool hB)) (.sh (.int (low0 hd h))) (.sh (.int place)) (.sh (.int (eb pc place : Nat))) (.sh (.bool (inR pc place))) x11) = .ok true (eS hd st p pc h ((bl hd h : Int) - 1) (.sh (.bool hB)) (.sh (.int (low0 hd h))) (.sh (.int place)) (.sh (.int (eb pc place : Nat))) (.sh (.bool (inR pc place))) x11) := by
        have tt : truR (eS hd st p pc h ((bl hd h : Int) - 1) (.sh (.bool hB)) (.sh (.int (low0 hd h))) (.sh (.int place)) (.sh (.int (eb pc place : Nat))) (.sh (.bool (inR pc place))) x11) (.now (rsT pc)) = some true := by
          show some (!(pc.map rT).isEmpty) = some true
          cases pc with
          | nil => exact absurd rfl he
          | cons r rs => rfl
        refine tst ((and_wt (w := .now (rsT pc)) rfl tt).trans (nt_now (x := false) ?_))
        rw [full_call (rs := pc) (p := p) rfl, hf]
      obtain ⟨y11, hy, fr⟩ := floor_run (Φ := Phi T (m + 1)) (k := 1000000000) (hd := hd) (st := st) (p := p) (pc := pc) (h := h) (a := (bl hd h : Int) - 1) (l0 := low0 hd h) (place := place) (x6 := .sh (.bool hB)) h11
      refine ⟨.sh (.bool hB), .sh (.int (max (low0 hd h) (h - 1 - place + floorP pc place))), .sh (.int place), .sh (.int (eb pc place : Nat)), .sh (.bool (inR pc place)), y11, rfl, rfl, rfl, rfl, rfl, hy, ?_⟩
      rw [if_tn t fr]
      rfl
theorem ls_loop (ch : Can (-1) hd) (cp : Can (-1) pc) (he : ∀ r ∈ pc, r.2 ≤ p) (hl : hd.length < 900000000) (cl : pc.length < 1000000000) (p0 : 0 < p) : ∀ (n N j : Nat) (h : Int) (x6 x7 x8 x9 x10 x11 : Sl), 0 ≤ h → h < n → n ≤ N → bl hd h ≤ j → j ≤ hd.length → nb x6 = true → nb x7 = true → nb x8 = true → nb x9 = true → nb x10 = true → nb x11 = true →
    (∃ e, whlL (evT (Phi T (m + 1)) (.cmp .Gt (.v 4) (.k (.int 0)))) (evSs (Phi T (m + 1)) 1000000000 tuB) N (eS hd st p pc h ((j : Int) - 1) x6 x7 x8 x9 x10 x11) = .ret (.int (lsF hd st p pc n h)) e) ∨
    (lsF hd st p pc n h = 0 ∧ ∃ e, whlL (evT (Phi T (m + 1)) (.cmp .Gt (.v 4) (.k (.int 0)))) (evSs (Phi T (m + 1)) 1000000000 tuB) N (eS hd st p pc h ((j : Int) - 1) x6 x7 x8 x9 x10 x11) = .nxt e)
  | 0, N, j, h, x6, x7, x8, x9, x10, x11, h0, h1, _, _, _, _, _, _, _, _, _ => by omega
  | n + 1, 0, j, h, x6, x7, x8, x9, x10, x11, h0, h1, h2, _, _, _, _, _, _, _, _ => by omega
  | n + 1, N + 1, j, h, x6, x7, x8, x9, x10, x11, h0, h1, h2, j1, j2, g6, g7, g8, g9, g10, g11 => by
    have t : evT (Phi T (m + 1)) (.cmp .Gt (.v 4) (.k (.int 0))) (eS hd st p pc h ((j : Int) - 1) x6 x7 x8 x9 x10 x11) = .ok (decide (0 < h)) (eS hd st p pc h ((j : Int) - 1) x6 x7 x8 x9 x10 x11) := rfl
    unfold lsF
    by_cases hz : h ≤ 0
    · rw [decide_eq_false (by omega)] at t
      rw [if_pos hz]
      exact .inr ⟨rfl, _, whl_f t⟩
    · rw [decide_eq_true (by omega)] at t
      rw [if_neg hz]
      rcases tu_turn (m := m) ch cp hl cl p0 j1 j2 g6 g7 g8 g9 g10 g11 (st := st) with ⟨a, e, b⟩ | ⟨a, y6, y7, y8, y9, y10, y11, k6, k7, k8, k9, k10, k11, b⟩
      · rw [if_pos a]
        exact .inl ⟨e, whl_r t b⟩
      · rw [if_neg (by rw [a]; decide)]
        obtain ⟨l1, l2, _⟩ := low_spec (st := st) ch cp he p0 (show 0 < h by omega)
        rw [whl_t t b]
        have hb : bl hd (lowOf hd st p pc h) ≤ bl hd h := by
          rcases Nat.lt_or_ge (bl hd h) (bl hd (lowOf hd st p pc h)) with w | w
          · have hj : bl hd h < hd.length := Nat.lt_of_lt_of_le w bl_le
            have e := List.getElem?_eq_getElem hj
            have a1 := (bl_spec (lowOf hd st p pc h) ch _ _ e).mp w
            have a2 := (bl_spec h ch _ _ e).mpr (by omega)
            omega
          · exact w
        exact ls_loop ch cp he hl cl p0 n N (bl hd h) (lowOf hd st p pc h) y6 y7 y8 y9 y10 y11 l1 (by omega) (by omega) hb bl_le k6 k7 k8 k9 k10 k11
theorem least_start_run (ch : Can (-1) hd) (cp : Can (-1) pc) (he : ∀ r ∈ pc, r.2 ≤ p) (hl : hd.length < 900000000) (cl : pc.length < 1000000000) (p0 : 0 < p) (s0 : 0 ≤ st) (s1 : st ≤ 4000000) :
    (runDf (Phi T (m + 1)) d_least_start).run [rsT hd, .int st, .int p, rsT pc] = .ret (.int (lsF hd st p pc (st.toNat + 1) st)) [] := by
  show frR (evSs _ 1000000000 b_least_start [.sh (rsT hd), .sh (.int st), .sh (.int p), .sh (rsT pc), .no, .no, .no, .no, .no, .no, .no, .no]) = _
  unfold b_least_start
  rw [seq_nxt (e1 := [.sh (rsT hd), .sh (.int st), .sh (.int p), .sh (rsT pc), .sh (.int st), .no, .no, .no, .no, .no, .no, .no]) rfl]
  rw [seq_nxt (e1 := eS hd st p pc st ((hd.length : Int) - 1) .no .no .no .no .no .no) (asg_now (bin_now (d := .int (hd.length : Nat)) (d' := .int 1) (e2 := [.sh (rsT hd), .sh (.int st), .sh (.int p), .sh (rsT pc), .sh (.int st), .no, .no, .no, .no, .no, .no, .no]) (bf_now rfl (len_rsT _)) rfl rfl) (x := .no) rfl rfl)]
  have lo := ls_loop (m := m) (st := st) ch cp he hl cl p0 (st.toNat + 1) 1000000000 hd.length st .no .no .no .no .no .no s0 (by omega) (by omega) bl_le (Nat.le_refl _) rfl rfl rfl rfl rfl rfl
  unfold tuB inW flB at lo
  rcases lo with ⟨e, lo⟩ | ⟨z, e, lo⟩
  · rw [seq_ret (whl_ret lo)]
    rfl
  · rw [seq_nxt (whl_nxt lo), z]
    rfl
theorem lstart_call (ch : Can (-1) hd) (cp : Can (-1) pc) (he : ∀ r ∈ pc, r.2 ≤ p) (hl : hd.length < 900000000) (cl : pc.length < 1000000000) (p0 : 0 < p) (s0 : 0 ≤ st) (s1 : st ≤ 4000000) {es : IEs} {env e1 : SEnv} (hes : evEs (Phi T (m + 2)) es env = .ok [.now (rsT hd), .now (.int st), .now (.int p), .now (rsT pc)] e1) :
    evE (Phi T (m + 2)) (.call "least_start" es) env = .ok (.now (.int (lsF hd st p pc (st.toNat + 1) st))) e1 :=
  callN (fs := runDf (Phi T (m + 1)) d_least_start) rfl hes rfl rfl rfl (b := []) (least_start_run ch cp he hl cl p0 s0 s1)
end
end K03

set_option Elab.async false
set_option linter.all false
set_option autoImplicit false
set_option maxRecDepth 100000
set_option maxHeartbeats 4000000
/-! # spans: the normal form; the least hour from one on -/
namespace K03
open PySem PyE L2 PyV PySem.W Sp
section
variable {m : Nat} {q : Q}
def midQ (q : Q) : Q := ⟨q.hd, q.st, lp q.pc q.pd, cutP q.pc (lp q.pc q.pd)⟩
theorem Sm.mid (s : Sm q) : Sm (midQ q) := by
  obtain ⟨l0, l1, l2⟩ := lp_spec s.v.pd0 s.v.cp s.v.pe
  obtain ⟨c1, c2⟩ := cut_spec (p := lp q.pc q.pd) s.v.cp
  have ce : ∀ r ∈ cutP q.pc (lp q.pc q.pd), r.2 ≤ lp q.pc q.pd := ends_of c1 fun x hx => ((c2 x).mp hx).2
  exact ⟨⟨s.v.st0, l0, s.v.ch, s.v.he, c1, ce⟩, s.st, Int.dvd_trans (least_dvd ⟨l0, l1, l2⟩ E_per) s.pd⟩
def eR (q : Q) (x5 x6 x9 : Sl) : SEnv := [.sh (qT q), .sh (rsT q.hd), .sh (.int q.st), .sh (.int q.pd), .sh (rsT q.pc), x5, x6, .no, .no, x9]
theorem cut_lc {Φ : Fns} (s : Sm q) (p : Int) : evE Φ (.bf .tuple (.cons (.lc (.tup (.cons (.v 7) (.cons (.bf .min (.cons (.v 8) (.cons (.v 5) .nil))) .nil))) (.many [7, 8]) (.seq (.v 4)) (.some (.cmp .Lt (.v 7) (.v 5))) [7, 8]) .nil)) (eR q (.sh (.int p)) .no .no) = .ok (.now (rsT (cutP q.pc p))) (eR q (.sh (.int p)) .no .no) := by
  have lc := s.lc
  have h := lc_filter (Φ := Φ) (e := .tup (.cons (.v 7) (.cons (.bf .min (.cons (.v 8) (.cons (.v 5) .nil))) .nil))) (tg := .many [7, 8]) (it := .seq (.v 4)) (c := .some (.cmp .Lt (.v 7) (.v 5))) (own := [7, 8]) (env := eR q (.sh (.int p)) .no .no) (e1 := eR q (.sh (.int p)) .no .no) (xs := q.pc) (enc := rT) (f := fun r => rT (r.1, min r.2 p)) (p := fun r => decide (r.1 < p)) rfl rfl rfl (fun r _ => by
    have te : evE Φ (.tup (.cons (.v 7) (.cons (.bf .min (.cons (.v 8) (.cons (.v 5) .nil))) .nil))) [.sh (qT q), .sh (rsT q.hd), .sh (.int q.st), .sh (.int q.pd), .sh (rsT q.pc), .sh (.int p), .no, .sh (.int r.1), .sh (.int r.2), .no] = .ok (.now (rT (r.1, min r.2 p))) [.sh (qT q), .sh (rsT q.hd), .sh (.int q.st), .sh (.int q.pd), .sh (rsT q.pc), .sh (.int p), .no, .sh (.int r.1), .sh (.int r.2), .no] :=
      tup_of (es_cons rfl (es_cons (bf_2 (d := .int r.2) (d' := .int p) rfl rfl (min_ii _ _)) rfl)) rfl rfl
    have hp : putT (eR q (.sh (.int p)) .no .no) (.many [7, 8]) (rT r) = some [.sh (qT q), .sh (rsT q.hd), .sh (.int q.st), .sh (.int q.pd), .sh (rsT q.pc), .sh (.int p), .no, .sh (.int r.1), .sh (.int r.2), .no] := rfl
    have tc : evC Φ (.some (.cmp .Lt (.v 7) (.v 5))) [.sh (qT q), .sh (rsT q.hd), .sh (.int q.st), .sh (.int q.pd), .sh (rsT q.pc), .sh (.int p), .no, .sh (.int r.1), .sh (.int r.2), .no] = .ok (decide (r.1 < p)) [.sh (qT q), .sh (rsT q.hd), .sh (.int q.st), .sh (.int q.pd), .sh (rsT q.pc), .sh (.int p), .no, .sh (.int r.1), .sh (.int r.2), .no] := rfl
    unfold lcStep
    simp only [hp, tc, Rs.bind, te, keepF]
    by_cases c : r.1 < p
    · simp only [decide_eq_true c, if_true]
      rfl
    · simp only [decide_eq_false c]
      rfl) (by omega)
  refine bf_tmp h ?_
  unfold cutP rsT
  rw [List.map_map]
  rfl
theorem reduced_run (s : Sm q) : (runDf (Phi T (m + 2)) d_reduced).run [qT q] = .ret (qT (redQ q)) [] := by
  have lh := s.lh
  have lc := s.lc
  have st1 := s.st
  have st0 := s.v.st0
  have sm := s.mid
  have pl := sm.pd_le
  have p0 := sm.v.pd0
  have ml := sm.lc
  have pl' : lp q.pc q.pd ≤ 60480 := pl
  have p0' : 0 < lp q.pc q.pd := p0
  have ml' : (cutP q.pc (lp q.pc q.pd)).length ≤ 60481 := ml
  show frR (evSs _ 100 b_reduced [.sh (qT q), .no, .no, .no, .no, .no, .no, .no, .no, .no]) = _
  unfold b_reduced
  rw [seq_nxt (asgT_n (ds := [rsT q.hd, .int q.st, .int q.pd, rsT q.pc]) (e2 := eR q .no .no .no) rfl rfl)]
  rw [seq_nxt (e1 := eR q (.sh (.int (lp q.pc q.pd))) .no .no) (asg_now (lperiod_call (pc := q.pc) (p := q.pd) (e1 := eR q .no .no .no) (by omega) s.v.pd0 s.v.cp s.v.pe rfl) (x := .no) rfl rfl)]
  rw [seq_nxt (e1 := eR q (.sh (.int (lp q.pc q.pd))) (.sh (rsT (cutP q.pc (lp q.pc q.pd)))) .no) (asg_now (cut_lc s _) (x := .no) rfl rfl)]
  rw [seq_nxt (e1 := eR q (.sh (.int (lp q.pc q.pd))) (.sh (rsT (cutP q.pc (lp q.pc q.pd)))) (.sh (.int (lsQ q)))) (asg_now (lstart_call (hd := q.hd) (st := q.st) (p := lp q.pc q.pd) (pc := cutP q.pc (lp q.pc q.pd)) (e1 := eR q (.sh (.int (lp q.pc q.pd))) (.sh (rsT (cutP q.pc (lp q.pc q.pd)))) .no) sm.v.ch sm.v.cp sm.v.pe (by omega) (by omega) p0 st0 (by omega) rfl) (x := .no) rfl rfl)]
  have t : evT (Phi T (m + 2)) (.cmp .Eq (.v 9) (.v 2)) (eR q (.sh (.int (lp q.pc q.pd))) (.sh (rsT (cutP q.pc (lp q.pc q.pd)))) (.sh (.int (lsQ q)))) = .ok (lsQ q == q.st) (eR q (.sh (.int (lp q.pc q.pd))) (.sh (rsT (cutP q.pc (lp q.pc q.pd)))) (.sh (.int (lsQ q)))) := tst (cmp_nows (d := .int (lsQ q)) (d' := .int q.st) rfl rfl (ceq_int _ _))
  have l1 : 0 ≤ lsQ q ∧ lsQ q ≤ q.st := by
    obtain ⟨r1, r2, _⟩ := ls_spec (hd := q.hd) (st := q.st) sm.v.ch sm.v.cp sm.v.pe p0 (q.st.toNat + 1) q.st st0 (by omega) fun x h1 h2 => by omega
    exact ⟨r1, r2⟩
  unfold redQ
  by_cases c : lsQ q = q.st
  · rw [beq_iff_eq.mpr c] at t
    rw [if_pos c, ite_1 t (seq_ret (ret_now (tup_of rfl rfl rfl)))]
    rfl
  · rw [beq_eq_false_iff_ne.mpr c] at t
    have rl := run_len sm (b := 0) (e := lsQ q + lp q.pc q.pd) (Int.le_refl _)
    rw [if_neg c, ite_0 t]
    rw [seq_ret (ret_now (built_call (l := runsOf (midQ q) 0 (lsQ q + lp q.pc q.pd)) (st := lsQ q) (p := lp q.pc q.pd) (by omega) (es_cons (runs_call sm (b := 0) (e := lsQ q + lp q.pc q.pd) (Int.le_refl _) (by omega) (by omega) rfl) rfl)))]
    rfl
theorem reduced_call (s : Sm q) {es : IEs} {env e1 : SEnv} (hes : evEs (Phi T (m + 3)) es env = .ok [.now (qT q)] e1) : evE (Phi T (m + 3)) (.call "reduced" es) env = .ok (.now (qT (redQ q))) e1 :=
  callN (fs := runDf (Phi T (m + 2)) d_reduced) rfl hes rfl rfl rfl (b := []) (reduced_run s)
theorem Sm.red (s : Sm q) : Sm (redQ q) ∧ (redQ q).st ≤ q.st ∧ (redQ q).pd ∣ q.pd := by
  have sm := s.mid
  obtain ⟨l0, l1, l2⟩ := lp_spec s.v.pd0 s.v.cp s.v.pe
  have dv := least_dvd ⟨l0, l1, l2⟩ (E_per (pc := q.pc) (p := q.pd))
  have ls : 0 ≤ lsQ q ∧ lsQ q ≤ q.st := by
    obtain ⟨r1, r2, _⟩ := ls_spec (hd := q.hd) (st := q.st) sm.v.ch sm.v.cp sm.v.pe sm.v.pd0 (q.st.toNat + 1) q.st s.v.st0 (by have := s.v.st0; omega) fun x h1 h2 => by omega
    exact ⟨r1, r2⟩
  have hv := (nf_red s.v).1.v
  have hs : (redQ q).st ≤ q.st := by
    unfold redQ
    split
    · exact Int.le_refl _
    · exact ls.2
  have hp : (redQ q).pd ∣ q.pd := by
    unfold redQ
    split <;> exact dv
  exact ⟨⟨hv, by have := s.st; omega, Int.dvd_trans hp s.pd⟩, hs, hp⟩
theorem tell_run (s : Sm q) (h1 : (redQ q).st ≤ 1000000) (h2 : (redQ q).hd.length + (redQ q).pc.length ≤ 20000) : (runDf (Phi T (m + 3)) d_tell).run [qT q] = .ret (qT (redQ q)) [] := by
  show frR (evSs _ 100 b_tell [.sh (qT q), .no]) = _
  unfold b_tell
  rw [seq_nxt (asg_now (reduced_call s rfl) (x := .no) rfl rfl)]
  have t : evT (Phi T (m + 3)) (.or (.cmp .Gt (.ix (.v 1) (.k (.int 1))) (.g "MOST_START" c_MOST_START)) (.cmp .Gt (.bin .Add (.bf .len (.cons (.ix (.v 1) (.k (.int 0))) .nil)) (.bf .len (.cons (.ix (.v 1) (.k (.int 3))) .nil))) (.g "MOST_PIECES" c_MOST_PIECES))) [.sh (qT q), .sh (qT (redQ q))] = .ok false [.sh (qT q), .sh (qT (redQ q))] := by
    have a : evE (Phi T (m + 3)) (.cmp .Gt (.ix (.v 1) (.k (.int 1))) (.g "MOST_START" c_MOST_START)) [.sh (qT q), .sh (qT (redQ q))] = .ok (.now (.bool false)) [.sh (qT q), .sh (qT (redQ q))] :=
      cmp_nows (d := .int (redQ q).st) (d' := .int 1000000) (ix_now rfl rfl rfl) rfl (by
        show some (decide ((1000000 : Int) < (redQ q).st)) = _
        rw [decide_eq_false (by omega)])
    have b : evE (Phi T (m + 3)) (.cmp .Gt (.bin .Add (.bf .len (.cons (.ix (.v 1) (.k (.int 0))) .nil)) (.bf .len (.cons (.ix (.v 1) (.k (.int 3))) .nil))) (.g "MOST_PIECES" c_MOST_PIECES)) [.sh (qT q), .sh (qT (redQ q))] = .ok (.now (.bool false)) [.sh (qT q), .sh (qT (redQ q))] :=
      cmp_nows (d := .int ((redQ q).hd.length + (redQ q).pc.length : Int)) (d' := .int 20000) (bin_now (bf_now (d := rsT (redQ q).hd) (ix_now rfl rfl rfl) (len_rsT _)) (bf_now (d := rsT (redQ q).pc) (ix_now rfl rfl rfl) (len_rsT _)) rfl) rfl (by
        show some (decide ((20000 : Int) < ((redQ q).hd.length + (redQ q).pc.length : Int))) = _
        rw [decide_eq_false (by omega)])
    exact tst ((or_f a).trans b)
  rw [show List.set [Sl.sh (qT q), .no] 1 (.sh (qT (redQ q))) = [.sh (qT q), .sh (qT (redQ q))] from rfl, ite_0 t]
  rfl
theorem tell_call (s : Sm q) (h1 : (redQ q).st ≤ 1000000) (h2 : (redQ q).hd.length + (redQ q).pc.length ≤ 20000) {es : IEs} {env e1 : SEnv} (hes : evEs (Phi T (m + 4)) es env = .ok [.now (qT q)] e1) : evE (Phi T (m + 4)) (.call "tell" es) env = .ok (.now (qT (redQ q))) e1 :=
  callN (fs := runDf (Phi T (m + 3)) d_tell) rfl hes rfl rfl rfl (b := []) (tell_run s h1 h2)
/-! ### the least hour from one on -/
def oD : Option Int → D
  | none => .none
  | some i => .int i
def eF (q : Q) (h : Int) (x6 x7 x8 x9 : Sl) : SEnv := [.sh (qT q), .sh (.int h), .sh (rsT q.hd), .sh (.int q.st), .sh (.int q.pd), .sh (rsT q.pc), x6, x7, x8, x9]
def lfB : ISs := (.cons (.ite (.nt (.v 5)) (.cons (.ret (.k .none)) .nil) .nil) (.cons (.asgT [7, 8] (.bf .dvm (.cons (.bin .Sub (.v 1) (.v 3)) (.cons (.v 4) .nil)))) (.cons (.asg 9 (.bin .Add (.v 3) (.bin .Mult (.v 7) (.v 4)))) (.cons (.asg 6 (.call "ends_by" (.cons (.v 5) (.cons (.v 8) .nil)))) (.cons (.ite (.cmp .Lt (.v 6) (.bf .len (.cons (.v 5) .nil))) (.cons (.ret (.bin .Add (.v 9) (.bf .max (.cons (.v 8) (.cons (.ix (.ix (.v 5) (.v 6)) (.k (.int 0))) .nil))))) .nil) .nil) (.cons (.ret (.bin .Add (.bin .Add (.v 9) (.v 4)) (.ix (.ix (.v 5) (.k (.int 0))) (.k (.int 0))))) .nil))))))
theorem lf_tail (s : Sm q) {h : Int} {x6 : Sl} (h6 : nb x6 = true) : frR (evSs (Phi T (m + 1)) 100 lfB (eF q h x6 .no .no .no)) = .ret (oD (lfP q h)) [] := by
  have lc := s.lc
  have pl := s.pd_le
  have p0 := s.v.pd0
  unfold lfB lfP
  have tn : evT (Phi T (m + 1)) (.nt (.v 5)) (eF q h x6 .no .no .no) = .ok (decide (q.pc = [])) (eF q h x6 .no .no .no) := by
    refine tst ?_
    show Rs.ok (Vw.now (.bool (!(!(q.pc.map rT).isEmpty)))) _ = _
    congr 3
    cases q.pc <;> rfl
  cases e0 : q.pc.head? with
  | none =>
    rw [decide_eq_true (List.head?_eq_none_iff.mp e0)] at tn
    rw [ite_1 tn rfl]
    rfl
  | some r0 =>
    have hne : q.pc ≠ [] := fun z => by rw [z] at e0; cases e0
    rw [decide_eq_false hne] at tn
    rw [ite_0 tn]
    show _ = FRes.ret (oD (some _)) []
    rw [seq_nxt (asgT_n (ds := [.int ((h - q.st) / q.pd), .int ((h - q.st) % q.pd)]) (e2 := eF q h x6 (.sh (.int ((h - q.st) / q.pd))) (.sh (.int ((h - q.st) % q.pd))) .no) (bf_2 (d := .int (h - q.st)) (d' := .int q.pd) (e2 := eF q h x6 .no .no .no) rfl rfl (dvm_ok p0 (by omega))) rfl)]
    rw [seq_nxt (e1 := eF q h x6 (.sh (.int ((h - q.st) / q.pd))) (.sh (.int ((h - q.st) % q.pd))) (.sh (.int (q.st + (h - q.st) / q.pd * q.pd)))) (asg_now (bin_now (d := .int q.st) (d' := .int ((h - q.st) / q.pd * q.pd)) (e2 := eF q h x6 (.sh (.int ((h - q.st) / q.pd))) (.sh (.int ((h - q.st) % q.pd))) .no) rfl (bin_now (d := .int ((h - q.st) / q.pd)) (d' := .int q.pd) rfl rfl (mul_ok (by omega) (by omega))) rfl) (x := .no) rfl rfl)]
    generalize hB : q.st + (h - q.st) / q.pd * q.pd = B
    generalize hP : (h - q.st) % q.pd = P
    generalize hT : (h - q.st) / q.pd = U
    have s6 : evS (Phi T (m + 1)) 100 (.asg 6 (.call "ends_by" (.cons (.v 5) (.cons (.v 8) .nil)))) (eF q h x6 (.sh (.int U)) (.sh (.int P)) (.sh (.int B))) = .nxt (eF q h (.sh (.int (eb q.pc P : Nat))) (.sh (.int U)) (.sh (.int P)) (.sh (.int B))) := by
      rw [asg_now (ends_call (rs := q.pc) (h := P) s.v.cp (by omega) rfl) (x := x6) rfl h6]
      rfl
    rw [seq_nxt s6]
    have t : evT (Phi T (m + 1)) (.cmp .Lt (.v 6) (.bf .len (.cons (.v 5) .nil))) (eF q h (.sh (.int (eb q.pc P : Nat))) (.sh (.int U)) (.sh (.int P)) (.sh (.int B))) = .ok (decide (eb q.pc P < q.pc.length)) (eF q h (.sh (.int (eb q.pc P : Nat))) (.sh (.int U)) (.sh (.int P)) (.sh (.int B))) :=
      tst (cmp_nows (d := .int (eb q.pc P : Nat)) rfl (bf_now rfl (len_rsT _)) (by rw [← dec_len]; rfl))
    by_cases c : eb q.pc P < q.pc.length
    · rw [decide_eq_true c] at t
      have e := List.getElem?_eq_getElem c
      rw [e, ite_1 t (seq_ret (ret_now (bin_now (d := .int B) (d' := .int (max P q.pc[eb q.pc P].1)) rfl (bf_2 (d := .int P) (d' := .int q.pc[eb q.pc P].1) rfl (ix_now (d := rT q.pc[eb q.pc P]) (ix_now (d := rsT q.pc) (d' := .int (eb q.pc P : Nat)) rfl rfl (at_rsT e)) rfl rfl) (max_ii _ _)) rfl)))]
      rfl
    · rw [decide_eq_false c] at t
      have e1 : q.pc[0]? = some r0 := by rw [← List.head?_eq_getElem?]; exact e0
      rw [get_none c, ite_0 t]
      rw [seq_ret (ret_now (bin_now (d := .int (B + q.pd)) (d' := .int r0.1) rfl (ix_now (d := rT r0) (ix_now (d := rsT q.pc) (d' := .int ((0 : Nat) : Int)) rfl rfl (at_rsT e1)) rfl rfl) rfl))]
      rfl
end
end K03

set_option Elab.async false
set_option linter.all false
set_option autoImplicit false
set_option maxRecDepth 100000
set_option maxHeartbeats 4000000
/-! # times: what is of the form -/
namespace K03
open PySem PyE L2 PyV PySem.W Sp
section
variable {m : Nat} {q : Q} {rs : Runs}
/-- of the form of times -/
structure Ti (q : Q) : Prop where
  v : V q
  st : q.st ≤ 1000000
  pd : q.pd ∣ 60480
  len : q.hd.length + q.pc.length ≤ 20000
theorem Ti.sm (t : Ti q) : Sm q := ⟨t.v, by have := t.st; omega, t.pd⟩
theorem nd_rs : ∀ rs : Runs, ndL (rs.map rT) = true
  | [] => rfl
  | r :: rs => nd_rs rs
theorem sz_rs : ∀ rs : Runs, szL (rs.map rT) = true
  | [] => rfl
  | r :: rs => sz_rs rs
theorem tup_rs : ∀ rs : Runs, tupL (rs.map rT) = rs.map rT
  | [] => rfl
  | r :: rs => congrArg (rT r :: ·) (tup_rs rs)
theorem dep_rs : ∀ rs : Runs, PyData.depthAll (rs.map rT) ≤ 1
  | [] => Nat.zero_le _
  | r :: rs => by
    have := dep_rs rs
    show max (rT r).depth (PyData.depthAll (rs.map rT)) ≤ 1
    have : (rT r).depth = 1 := rfl
    omega
theorem nd_q (q : Q) : nd (qT q) = true := by
  show (ndL (q.hd.map rT) && (true && (true && (ndL (q.pc.map rT) && true)))) = true
  rw [nd_rs, nd_rs]
  rfl
theorem sz_q (h1 : q.hd.length ≤ 16000000) (h2 : q.pc.length ≤ 16000000) : sz (qT q) = true := by
  show (szOk 4 && ((szOk (q.hd.map rT).length && szL (q.hd.map rT)) && (true && (true && ((szOk (q.pc.map rT).length && szL (q.pc.map rT)) && true))))) = true
  rw [sz_rs, sz_rs, List.length_map, List.length_map, show szOk q.hd.length = true from decide_eq_true (by omega), show szOk q.pc.length = true from decide_eq_true (by omega)]
  rfl
theorem tup_q (q : Q) : tupD (qT q) = qT q := by
  show PyData.tuple [.tuple (tupL (q.hd.map rT)), .int q.st, .int q.pd, .tuple (tupL (q.pc.map rT))] = _
  rw [tup_rs, tup_rs]
  rfl
theorem dep_q (q : Q) : (qT q).depth ≤ 3 := by
  have h1 := dep_rs q.hd
  have h2 := dep_rs q.pc
  show max (PyData.depthAll (q.hd.map rT) + 1) (max 0 (max 0 (max (PyData.depthAll (q.pc.map rT) + 1) 0))) + 1 ≤ 3
  omega
theorem plain_q (h1 : q.hd.length ≤ 16000000) (h2 : q.pc.length ≤ 16000000) : (runDf (Phi T (m + 4)) d_plain).run [qT q] = .ret (qT q) [] := by
  have := plain_run (T := T) rfl rfl (nd_q q) (dep_q q) (by decide) (sz_q h1 h2) m
  rw [tup_q] at this
  exact this
/-! ### the form of pieces -/
def eW (rs : Runs) (high free : Int) (x3 : Sl) : SEnv := [.sh (rsT rs), .sh (.int high), .sh (.int free), x3]
def pfB : ISs := (.cons (.ite (.or (.nt (.call "is_tuple" (.cons (.v 3) (.cons (.k (.int 2)) .nil)))) (.or (.nt (.call "is_int" (.cons (.ix (.v 3) (.k (.int 0))) .nil))) (.nt (.call "is_int" (.cons (.ix (.v 3) (.k (.int 1))) .nil))))) (.cons (.ret (.k (.bool false))) .nil) .nil) (.cons (.ite (.nt (.cmp2 .Lt .Lt (.v 2) (.ix (.v 3) (.k (.int 0))) (.ix (.v 3) (.k (.int 1))))) (.cons (.ret (.k (.bool false))) .nil) .nil) (.cons (.asg 2 (.ix (.v 3) (.k (.int 1)))) .nil)))
theorem pf_loop {rs0 : Runs} {high : Int} : ∀ (rs : Runs) (free : Int) (x3 : Sl), Can free rs → nb x3 = true → free ≤ high → (∀ r ∈ rs, r.2 ≤ high) →
    ∃ free' y3, free' ≤ high ∧ forL (fun x e => match putT e (.one 3) x with
      | some e2 => evSs (Phi T (m + 1)) 100 pfB e2
      | none => .stuck) (rs.map rT) (eW rs0 high free x3) = .nxt (eW rs0 high free' y3)
  | [], free, x3, _, _, h, _ => ⟨free, x3, h, rfl⟩
  | r :: rs, free, x3, c, h3, hf, hh => by
    obtain ⟨free', y3, g1, ih⟩ := pf_loop (rs0 := rs0) (high := high) rs r.2 (.sh (rT r)) c.2.2 rfl (hh r List.mem_cons_self) (fun q hq => hh q (List.mem_cons_of_mem _ hq))
    refine ⟨free', y3, g1, ?_⟩
    rw [List.map_cons]
    unfold forL
    have hp : putT (eW rs0 high free x3) (.one 3) (rT r) = some (eW rs0 high free (.sh (rT r))) := by
      show putS _ 3 _ = _
      rw [putS_nb (x := x3) rfl h3]
      rfl
    simp only [hp]
    have h1 : evSs (Phi T (m + 1)) 100 pfB (eW rs0 high free (.sh (rT r))) = .nxt (eW rs0 high r.2 (.sh (rT r))) := by
      unfold pfB
      have a1 : evE (Phi T (m + 1)) (.call "is_tuple" (.cons (.v 3) (.cons (.k (.int 2)) .nil))) (eW rs0 high free (.sh (rT r))) = .ok (.now (.bool true)) (eW rs0 high free (.sh (rT r))) := callN (fs := runDf (Phi T m) d_is_tuple) (ws := [.now (rT r), .now (.int 2)]) rfl rfl rfl rfl rfl (b := []) rfl
      have a2 : evE (Phi T (m + 1)) (.call "is_int" (.cons (.ix (.v 3) (.k (.int 0))) .nil)) (eW rs0 high free (.sh (rT r))) = .ok (.now (.bool true)) (eW rs0 high free (.sh (rT r))) := callN (fs := runDf (Phi T m) d_is_int) (ws := [.now (.int r.1)]) rfl rfl rfl rfl rfl (b := []) rfl
      have a3 : evE (Phi T (m + 1)) (.call "is_int" (.cons (.ix (.v 3) (.k (.int 1))) .nil)) (eW rs0 high free (.sh (rT r))) = .ok (.now (.bool true)) (eW rs0 high free (.sh (rT r))) := callN (fs := runDf (Phi T m) d_is_int) (ws := [.now (.int r.2)]) rfl rfl rfl rfl rfl (b := []) rfl
      rw [ite_0 (tst ((or_f (nt_now a1)).trans ((or_f (nt_now a2)).trans (nt_now a3))))]
      have a4 : evE (Phi T (m + 1)) (.cmp2 .Lt .Lt (.v 2) (.ix (.v 3) (.k (.int 0))) (.ix (.v 3) (.k (.int 1)))) (eW rs0 high free (.sh (rT r))) = .ok (.now (.bool true)) (eW rs0 high free (.sh (rT r))) :=
        cmp2_t (d := .int free) (d' := .int r.1) (d'' := .int r.2) rfl (ix_now (d := rT r) rfl rfl rfl) (ix_now (d := rT r) rfl rfl rfl) (by
          show some (decide (free < r.1)) = _
          rw [decide_eq_true c.1]) (by
          show some (decide (r.1 < r.2)) = _
          rw [decide_eq_true c.2.1])
      rw [ite_0 (tst (nt_now a4))]
      rfl
    rw [h1]
    exact ih
theorem pieces_form_run {high : Int} (c : Can (-1) rs) (h0 : -1 ≤ high) (h : ∀ r ∈ rs, r.2 ≤ high) : (runDf (Phi T (m + 1)) d_pieces_form).run [rsT rs, .int high] = .ret (.bool true) [] := by
  show frR (evSs _ 100 b_pieces_form [.sh (rsT rs), .sh (.int high), .no, .no]) = _
  unfold b_pieces_form
  have a0 : evE (Phi T (m + 1)) (.call "is_tuple" (.cons (.v 0) (.cons (.k .none) .nil))) [.sh (rsT rs), .sh (.int high), .no, .no] = .ok (.now (.bool true)) [.sh (rsT rs), .sh (.int high), .no, .no] := callN (fs := runDf (Phi T m) d_is_tuple) (ws := [.now (rsT rs), .now .none]) rfl rfl rfl rfl rfl (b := []) rfl
  rw [ite_0 (tst (nt_now a0))]
  rw [seq_nxt (e1 := eW rs high (-1) .no) rfl]
  obtain ⟨free', y3, g1, lo⟩ := pf_loop (m := m) (rs0 := rs) (high := high) rs (-1) .no c rfl h0 h
  unfold pfB at lo
  rw [seq_nxt ((for_eq (ds := rs.map rT) rfl).trans lo)]
  have : evE (Phi T (m + 1)) (.cmp .LtE (.v 2) (.v 1)) (eW rs high free' y3) = .ok (.now (.bool (decide (free' ≤ high)))) (eW rs high free' y3) := rfl
  rw [decide_eq_true g1] at this
  rw [seq_ret (ret_now this)]
  rfl
theorem pform_call {high : Int} (c : Can (-1) rs) (h0 : -1 ≤ high) (h : ∀ r ∈ rs, r.2 ≤ high) {es : IEs} {env e1 : SEnv} (hes : evEs (Phi T (m + 2)) es env = .ok [.now (rsT rs), .now (.int high)] e1) : evE (Phi T (m + 2)) (.call "pieces_form" es) env = .ok (.now (.bool true)) e1 :=
  callN (fs := runDf (Phi T (m + 1)) d_pieces_form) rfl hes rfl rfl rfl (b := []) (pieces_form_run c h0 h)
theorem range_call {i lo hi : Int} {es : IEs} {env e1 : SEnv} (hes : evEs (Phi T (m + 2)) es env = .ok [.now (.int i), .now (.int lo), .now (.int hi)] e1) : evE (Phi T (m + 2)) (.call "in_range" es) env = .ok (.now (.bool (decide (lo ≤ i) && decide (i ≤ hi)))) e1 :=
  callN (fs := runDf (Phi T (m + 1)) d_in_range) rfl hes rfl rfl rfl (b := []) (in_range_int rfl i lo hi m)
theorem times_form_run (t : Ti q) : (runDf (Phi T (m + 2)) d_times_form).run [qT q] = .ret (.bool true) [] := by
  have p0 := t.v.pd0
  have pl := t.sm.pd_le
  have s0 := t.v.st0
  have s1 := t.st
  have ln := t.len
  show frR (evSs _ 100 b_times_form [.sh (qT q)]) = _
  unfold b_times_form
  have a0 : evE (Phi T (m + 2)) (.call "is_tuple" (.cons (.v 0) (.cons (.k (.int 4)) .nil))) [.sh (qT q)] = .ok (.now (.bool true)) [.sh (qT q)] := callN (fs := runDf (Phi T (m + 1)) d_is_tuple) (ws := [.now (qT q), .now (.int 4)]) rfl rfl rfl rfl rfl (b := []) rfl
  have a1 : evE (Phi T (m + 2)) (.call "in_range" (.cons (.ix (.v 0) (.k (.int 1))) (.cons (.k (.int 0)) (.cons (.g "LONGEST_HEAD" c_LONGEST_HEAD) .nil)))) [.sh (qT q)] = .ok (.now (.bool true)) [.sh (qT q)] := by
    rw [range_call (i := q.st) (lo := 0) (hi := 1000000) (es_cons (ix_now (d := qT q) rfl rfl rfl) rfl), decide_eq_true s0, decide_eq_true s1]
    rfl
  rw [ite_0 (tst ((or_f (nt_now a0)).trans (nt_now a1)))]
  have a2 : evE (Phi T (m + 2)) (.call "in_range" (.cons (.ix (.v 0) (.k (.int 2))) (.cons (.k (.int 1)) (.cons (.g "WHOLE" c_WHOLE) .nil)))) [.sh (qT q)] = .ok (.now (.bool true)) [.sh (qT q)] := by
    rw [range_call (i := q.pd) (lo := 1) (hi := 60480) (es_cons (ix_now (d := qT q) rfl rfl rfl) rfl), decide_eq_true (by omega), decide_eq_true pl]
    rfl
  have a3 : evE (Phi T (m + 2)) (.cmp .NotEq (.bin .Mod (.g "WHOLE" c_WHOLE) (.ix (.v 0) (.k (.int 2)))) (.k (.int 0))) [.sh (qT q)] = .ok (.now (.bool false)) [.sh (qT q)] :=
    cmp_nows (d := .int (60480 % q.pd)) (d' := .int 0) (bin_now (d := .int 60480) (d' := .int q.pd) rfl (ix_now (d := qT q) rfl rfl rfl) (mod_ok p0)) rfl (by rw [cne_int, Int.emod_eq_zero_of_dvd t.pd]; rfl)
  rw [ite_0 (tst ((or_f (nt_now a2)).trans a3))]
  have a4 : evE (Phi T (m + 2)) (.call "pieces_form" (.cons (.ix (.v 0) (.k (.int 0))) (.cons (.ix (.v 0) (.k (.int 1))) .nil))) [.sh (qT q)] = .ok (.now (.bool true)) [.sh (qT q)] := pform_call (rs := q.hd) (high := q.st) t.v.ch (by omega) t.v.he rfl
  have a5 : evE (Phi T (m + 2)) (.call "pieces_form" (.cons (.ix (.v 0) (.k (.int 3))) (.cons (.ix (.v 0) (.k (.int 2))) .nil))) [.sh (qT q)] = .ok (.now (.bool true)) [.sh (qT q)] := pform_call (rs := q.pc) (high := q.pd) t.v.cp (by omega) t.v.pe rfl
  rw [ite_0 (tst ((or_f (nt_now a4)).trans (nt_now a5)))]
  have a6 : evE (Phi T (m + 2)) (.cmp .LtE (.bin .Add (.bf .len (.cons (.ix (.v 0) (.k (.int 0))) .nil)) (.bf .len (.cons (.ix (.v 0) (.k (.int 3))) .nil))) (.g "MOST_PARTS" c_MOST_PARTS)) [.sh (qT q)] = .ok (.now (.bool true)) [.sh (qT q)] :=
    cmp_nows (d := .int ((q.hd.length : Int) + (q.pc.length : Int))) (d' := .int 20000) (bin_now (bf_now (d := rsT q.hd) (ix_now rfl rfl rfl) (len_rsT _)) (bf_now (d := rsT q.pc) (ix_now rfl rfl rfl) (len_rsT _)) rfl) rfl (by
      show some (decide ((q.hd.length : Int) + (q.pc.length : Int) ≤ 20000)) = _
      rw [decide_eq_true (by omega)])
  rw [seq_ret (ret_now a6)]
  rfl
theorem tform_call (t : Ti q) {es : IEs} {env e1 : SEnv} (hes : evEs (Phi T (m + 3)) es env = .ok [.now (qT q)] e1) : evE (Phi T (m + 3)) (.call "times_form" es) env = .ok (.now (.bool true)) e1 :=
  callN (fs := runDf (Phi T (m + 2)) d_times_form) rfl hes rfl rfl rfl (b := []) (times_form_run t)
theorem need_call {d : D} {es : IEs} {env e1 : SEnv} (hes : evEs (Phi T (m + 1)) es env = .ok [.now (.bool true), .now d] e1) : evE (Phi T (m + 1)) (.call "need" es) env = .ok (.now .none) e1 :=
  callN (fs := runDf (Phi T m) d_need) rfl hes rfl rfl rfl (b := []) rfl
theorem checked_run (t : Ti q) {k : D} : (runDf (Phi T (m + 5)) d_checked).run [qT q, k] = .ret (qT q) [] := by
  have ln := t.len
  show frR (evSs _ 100 b_checked [.sh (qT q), .sh k, .no]) = _
  unfold b_checked
  rw [seq_nxt (e1 := [.sh (qT q), .sh k, .sh (qT q)]) (asg_now (callN (fs := runDf (Phi T (m + 4)) d_plain) (ws := [.now (qT q)]) (e2 := [.sh (qT q), .sh k, .no]) rfl rfl rfl rfl rfl (b := []) (plain_q (by omega) (by omega))) (x := .no) rfl rfl)]
  rw [seq_nxt (ex_nxt (e1 := [.sh (qT q), .sh k, .sh (qT q)]) (need_call (d := k) (es_cons (tform_call t rfl) rfl)))]
  rfl
theorem checked_call (t : Ti q) {k : D} {es : IEs} {env e1 : SEnv} (hes : evEs (Phi T (m + 6)) es env = .ok [.now (qT q), .now k] e1) : evE (Phi T (m + 6)) (.call "checked" es) env = .ok (.now (qT q)) e1 :=
  callN (fs := runDf (Phi T (m + 5)) d_checked) rfl hes rfl rfl rfl (b := []) (checked_run t)
end
end K03

set_option Elab.async false
set_option linter.all false
set_option autoImplicit false
set_option maxRecDepth 100000
set_option maxHeartbeats 4000000
/-! # times: what is asked of them -/
namespace K03
open PySem PyE L2 PyV PySem.W Sp
section
variable {m : Nat} {p q : Q}
theorem two_run (s : Ti p) (t : Ti q) : (runDf (Phi T (m + 6)) d_two_checked).run [qT p, qT q] = .ret (.tuple [qT p, qT q]) [] := by
  show frR (evSs _ 100 b_two_checked [.sh (qT p), .sh (qT q)]) = _
  unfold b_two_checked
  rw [seq_ret (ret_now (tup_of (es_cons (checked_call s (k := .int 1) rfl) (es_cons (checked_call t (k := .int 2) rfl) rfl)) rfl rfl))]
  rfl
theorem two_call (s : Ti p) (t : Ti q) {es : IEs} {env e1 : SEnv} (hes : evEs (Phi T (m + 7)) es env = .ok [.now (qT p), .now (qT q)] e1) : evE (Phi T (m + 7)) (.call "two_checked" es) env = .ok (.now (.tuple [qT p, qT q])) e1 :=
  callN (fs := runDf (Phi T (m + 6)) d_two_checked) rfl hes rfl rfl rfl (b := []) (two_run s t)
theorem two_asg (s : Ti p) (t : Ti q) {n : Nat} {r : ISs} : evSs (Phi T (m + 7)) n (.cons (.asgT [2, 3] (.call "two_checked" (.cons (.v 0) (.cons (.v 1) .nil)))) r) [.sh (qT p), .sh (qT q), .no, .no] = evSs (Phi T (m + 7)) n r [.sh (qT p), .sh (qT q), .sh (qT p), .sh (qT q)] := by
  rw [seq_nxt (asgT_n (ds := [qT p, qT q]) (e2 := [.sh (qT p), .sh (qT q), .sh (qT p), .sh (qT q)]) (two_call s t rfl) rfl)]
theorem either_run (s : Ti p) (t : Ti q) (r : Ti (redQ (joinQ p q))) : (runDf (Phi T (m + 7)) d_either).run [qT p, qT q] = .ret (qT (redQ (joinQ p q))) [] := by
  show frR (evSs _ 100 b_either [.sh (qT p), .sh (qT q), .no, .no]) = _
  unfold b_either
  rw [two_asg s t]
  rw [seq_ret (ret_now (tell_call (m := m + 3) (s.sm.join t.sm) r.st r.len (es_cons (joined_call (m := m + 4) s.sm t.sm rfl) rfl)))]
  rfl
theorem both_run (s : Ti p) (t : Ti q) (r : Ti (redQ (commQ p q))) : (runDf (Phi T (m + 7)) d_both).run [qT p, qT q] = .ret (qT (redQ (commQ p q))) [] := by
  show frR (evSs _ 100 b_both [.sh (qT p), .sh (qT q), .no, .no]) = _
  unfold b_both
  rw [two_asg s t]
  rw [seq_ret (ret_now (tell_call (m := m + 3) (s.sm.comm t.sm) r.st r.len (es_cons (common_call (m := m + 4) s.sm t.sm rfl) rfl)))]
  rfl
/-! ### the same, what differs -/
theorem eqv_rs : ∀ xs ys : Runs, PyData.eqv (rsT xs) (rsT ys) = decide (xs = ys) := by
  have all : ∀ xs ys : Runs, PyData.eqvAll (xs.map rT) (ys.map rT) = decide (xs = ys) := by
    intro xs
    induction xs with
    | nil =>
      intro ys
      cases ys with
      | nil => rfl
      | cons y ys => rfl
    | cons x xs ih =>
      intro ys
      cases ys with
      | nil => rfl
      | cons y ys =>
        show (PyData.eqv (rT x) (rT y) && PyData.eqvAll (xs.map rT) (ys.map rT)) = _
        rw [ih ys]
        have : PyData.eqv (rT x) (rT y) = decide (x = y) := by
          show ((PyData.eqv (.int x.1) (.int y.1)) && ((PyData.eqv (.int x.2) (.int y.2)) && true)) = _
          rw [eqv_ii, eqv_ii, Bool.eq_iff_iff]
          simp [Prod.ext_iff]
        rw [this, Bool.eq_iff_iff]
        simp
  exact all
theorem eqv_q (p q : Q) : PyData.eqv (qT p) (qT q) = decide (p = q) := by
  show (PyData.eqv (rsT p.hd) (rsT q.hd) && (PyData.eqv (.int p.st) (.int q.st) && (PyData.eqv (.int p.pd) (.int q.pd) && (PyData.eqv (rsT p.pc) (rsT q.pc) && true)))) = _
  rw [eqv_rs, eqv_rs, eqv_ii, eqv_ii, Bool.eq_iff_iff]
  cases p
  cases q
  simp
theorem lay_rs : ∀ rs : Runs, PyData.canLayAll0 (rs.map rT) = true
  | [] => rfl
  | r :: rs => lay_rs rs
theorem shaped_q (q : Q) : SeqAt.shaped (qT q) = true := by
  have hl : (qT q).canLay0 = true := by
    show (PyData.canLayAll0 (q.hd.map rT) && (true && (true && (PyData.canLayAll0 (q.pc.map rT) && true)))) = true
    rw [lay_rs, lay_rs]
    rfl
  have hd := dep_q q
  unfold SeqAt.shaped
  rw [hl, decide_eq_true (by omega)]
  rfl
theorem ceq_q (p q : Q) : cmpD .Eq (qT p) (qT q) = some (decide (p = q)) := by
  show (if SeqAt.shaped (qT p) && SeqAt.shaped (qT q) then some (PyData.eqv (qT p) (qT q)) else none) = _
  rw [shaped_q, shaped_q, eqv_q]
  rfl
theorem cne_q (p q : Q) : cmpD .NotEq (qT p) (qT q) = some (!decide (p = q)) := by
  show (if SeqAt.shaped (qT p) && SeqAt.shaped (qT q) then some (!PyData.eqv (qT p) (qT q)) else none) = _
  rw [shaped_q, shaped_q, eqv_q]
  rfl
def difQ (p q : Q) : Q := joinQ (minQ p q) (minQ q p)
/-! ### the share -/
def lenS (rs : Runs) : Int := (rs.map fun r => r.2 - r.1).sum
theorem gcd_now {Φ : Fns} {a b : IE} {env e1 e2 : SEnv} {i j : Int} (h1 : evE Φ a env = .ok (.now (.int i)) e1) (h2 : evE Φ b e1 = .ok (.now (.int j)) e2) : evE Φ (.mth .gcd a b) env = .ok (.now (.int ((Nat.gcd i.natAbs j.natAbs : Nat) : Int))) e2 := by
  simp only [evE, h1, Rs.bind, h2, look]
  rfl
def loD (a b : Int) : D := .tuple [.int (a / ((Nat.gcd a.natAbs b.natAbs : Nat) : Int)), .int (b / ((Nat.gcd a.natAbs b.natAbs : Nat) : Int))]
end
end K03

set_option Elab.async false
set_option linter.all false
set_option autoImplicit false
set_option maxRecDepth 100000
set_option maxHeartbeats 4000000
/-! # clocks: what they show -/
namespace K03
open PySem PyE L2 PyV PySem.W Sp
structure Ck where
  ah : Int
  tn : Option (Int × Int)
structure Ck.Ok (c : Ck) : Prop where
  a0 : -12 ≤ c.ah
  a1 : c.ah ≤ 14
  t : ∀ r, c.tn = some r → 1 ≤ r.1 ∧ r.1 < r.2 ∧ r.2 ≤ 8639
def tnD : Option (Int × Int) → D
  | none => .none
  | some r => rT r
def cT (c : Ck) : D := .tuple [.int c.ah, tnD c.tn]
def onB (c : Ck) (h : Int) : Bool := match c.tn with
  | none => false
  | some r => decide (r.1 ≤ h % 8640) && decide (h % 8640 < r.2)
def sh (c : Ck) (h : Int) : Int := h + c.ah + (if onB c h then 1 else 0)
def rb (c : Ck) (s : Int) : Int := if s ≤ sh c (max 0 (s - c.ah - 1)) then max 0 (s - c.ah - 1) else max 0 (s - c.ah - 1) + 1
section
variable {m : Nat} {Φ : Fns} {c : Ck} {h s : Int}
theorem cmp2_ii {ea eb ec : IE} {env : SEnv} {i j k : Int} (h1 : evE Φ ea env = .ok (.now (.int i)) env) (h2 : evE Φ eb env = .ok (.now (.int j)) env) (h3 : evE Φ ec env = .ok (.now (.int k)) env) : evE Φ (.cmp2 .LtE .Lt ea eb ec) env = .ok (.now (.bool (decide (i ≤ j) && decide (j < k)))) env := by
  by_cases c : i ≤ j
  · rw [cmp2_t h1 h2 h3 (show cmpD .LtE (.int i) (.int j) = some true from by show some (decide (i ≤ j)) = _; rw [decide_eq_true c]) (show cmpD .Lt (.int j) (.int k) = some (decide (j < k)) from rfl), decide_eq_true c, Bool.true_and]
  · rw [cmp2_f h1 h2 (show cmpD .LtE (.int i) (.int j) = some false from by show some (decide (i ≤ j)) = _; rw [decide_eq_false c]), decide_eq_false c, Bool.false_and]
theorem plain_ck (c : Ck) : (runDf (Phi T (m + 3)) d_plain).run [cT c] = .ret (cT c) [] := by
  obtain ⟨ah, tn⟩ := c
  cases tn with
  | none => exact plain_run (T := T) (h := 2) (d := cT ⟨ah, none⟩) rfl rfl rfl (Nat.le_of_ble_eq_true rfl) (by decide) rfl m
  | some r => exact plain_run (T := T) (h := 2) (d := cT ⟨ah, some r⟩) rfl rfl rfl (Nat.le_of_ble_eq_true rfl) (by decide) rfl m
theorem plain_call {es : IEs} {env e1 : SEnv} (hes : evEs (Phi T (m + 4)) es env = .ok [.now (cT c)] e1) : evE (Phi T (m + 4)) (.call "plain" es) env = .ok (.now (cT c)) e1 :=
  callN (fs := runDf (Phi T (m + 3)) d_plain) rfl hes rfl rfl rfl (b := []) (plain_ck c)
theorem tuple2_call {a b : D} {es : IEs} {env e1 : SEnv} (hes : evEs (Phi T (m + 1)) es env = .ok [.now (.tuple [a, b]), .now (.int 2)] e1) : evE (Phi T (m + 1)) (.call "is_tuple" es) env = .ok (.now (.bool true)) e1 :=
  callN (fs := runDf (Phi T m) d_is_tuple) rfl hes rfl rfl rfl (b := []) rfl
theorem clock_form_run (o : c.Ok) : (runDf (Phi T (m + 2)) d_clock_form).run [cT c] = .ret (.bool true) [] := by
  obtain ⟨ah, tn⟩ := c
  have a0 := o.a0
  have a1 := o.a1
  have t := o.t
  simp only at a0 a1 t
  show frR (evSs _ 100 b_clock_form [.sh (cT ⟨ah, tn⟩), .no]) = _
  unfold b_clock_form
  have e1 : evE (Phi T (m + 2)) (.call "is_tuple" (.cons (.v 0) (.cons (.k (.int 2)) .nil))) [.sh (cT ⟨ah, tn⟩), .no] = .ok (.now (.bool true)) [.sh (cT ⟨ah, tn⟩), .no] := tuple2_call (m := m + 1) rfl
  have e2 : evE (Phi T (m + 2)) (.call "in_range" (.cons (.ix (.v 0) (.k (.int 0))) (.cons (.neg (.k (.int 12))) (.cons (.k (.int 14)) .nil)))) [.sh (cT ⟨ah, tn⟩), .no] = .ok (.now (.bool true)) [.sh (cT ⟨ah, tn⟩), .no] := by
    rw [range_call (i := ah) (lo := -12) (hi := 14) (es_cons (ix_now (d := cT ⟨ah, tn⟩) rfl rfl rfl) rfl), decide_eq_true a0, decide_eq_true a1]
    rfl
  rw [ite_0 (tst ((or_f (nt_now e1)).trans (nt_now e2)))]
  cases tn with
  | none => rfl
  | some r =>
    obtain ⟨t1, t2, t3⟩ := t r rfl
    rw [seq_nxt (e1 := [.sh (cT ⟨ah, some r⟩), .sh (rT r)]) rfl]
    rw [ite_0 (e1 := [.sh (cT ⟨ah, some r⟩), .sh (rT r)]) rfl]
    have e3 : evE (Phi T (m + 2)) (.call "is_tuple" (.cons (.v 1) (.cons (.k (.int 2)) .nil))) [.sh (cT ⟨ah, some r⟩), .sh (rT r)] = .ok (.now (.bool true)) [.sh (cT ⟨ah, some r⟩), .sh (rT r)] := tuple2_call (m := m + 1) (a := .int r.1) (b := .int r.2) rfl
    have e4 : evE (Phi T (m + 2)) (.call "in_range" (.cons (.ix (.v 1) (.k (.int 0))) (.cons (.k (.int 1)) (.cons (.bin .Sub (.g "YEAR" c_YEAR) (.k (.int 1))) .nil)))) [.sh (cT ⟨ah, some r⟩), .sh (rT r)] = .ok (.now (.bool true)) [.sh (cT ⟨ah, some r⟩), .sh (rT r)] := by
      rw [range_call (i := r.1) (lo := 1) (hi := 8639) (es_cons (ix_now (d := rT r) rfl rfl rfl) rfl), decide_eq_true t1, decide_eq_true (by omega)]
      rfl
    rw [ite_0 (tst ((or_f (nt_now e3)).trans (nt_now e4)))]
    have e5 : evE (Phi T (m + 2)) (.call "in_range" (.cons (.ix (.v 1) (.k (.int 1))) (.cons (.bin .Add (.ix (.v 1) (.k (.int 0))) (.k (.int 1))) (.cons (.bin .Sub (.g "YEAR" c_YEAR) (.k (.int 1))) .nil)))) [.sh (cT ⟨ah, some r⟩), .sh (rT r)] = .ok (.now (.bool true)) [.sh (cT ⟨ah, some r⟩), .sh (rT r)] := by
      rw [range_call (i := r.2) (lo := r.1 + 1) (hi := 8639) (es_cons (ix_now (d := rT r) rfl rfl rfl) (es_cons (bin_now (d := .int r.1) (d' := .int 1) (ix_now (d := rT r) rfl rfl rfl) rfl rfl) rfl)), decide_eq_true (by omega), decide_eq_true t3]
      rfl
    rw [seq_ret (ret_now e5)]
    rfl
theorem cform_call (o : c.Ok) {es : IEs} {env e1 : SEnv} (hes : evEs (Phi T (m + 3)) es env = .ok [.now (cT c)] e1) : evE (Phi T (m + 3)) (.call "clock_form" es) env = .ok (.now (.bool true)) e1 :=
  callN (fs := runDf (Phi T (m + 2)) d_clock_form) rfl hes rfl rfl rfl (b := []) (clock_form_run o)
theorem is_clock_run (o : c.Ok) : (runDf (Phi T (m + 4)) d_is_clock).run [cT c] = .ret (.bool true) [] := by
  show frR (evSs _ 100 b_is_clock [.sh (cT c)]) = _
  unfold b_is_clock
  rw [seq_ret (ret_now (cform_call (m := m + 1) o (es_cons (plain_call (m := m) rfl) rfl)))]
  rfl
theorem shown_at_run : (runDf Φ d_shown_at).run [cT c, .int h] = .ret (.int (sh c h)) [] := by
  obtain ⟨ah, tn⟩ := c
  show frR (evSs Φ 100 b_shown_at [.sh (cT ⟨ah, tn⟩), .sh (.int h), .no, .no]) = _
  unfold b_shown_at
  rw [seq_nxt (e1 := [.sh (cT ⟨ah, tn⟩), .sh (.int h), .sh (.int ah), .sh (tnD tn)]) rfl]
  have fin : ∀ b : Bool, evT Φ (.and (.cmp .IsNot (.v 3) (.k .none)) (.cmp2 .LtE .Lt (.ix (.v 3) (.k (.int 0))) (.bin .Mod (.v 1) (.g "YEAR" c_YEAR)) (.ix (.v 3) (.k (.int 1))))) [.sh (cT ⟨ah, tn⟩), .sh (.int h), .sh (.int ah), .sh (tnD tn)] = .ok b [.sh (cT ⟨ah, tn⟩), .sh (.int h), .sh (.int ah), .sh (tnD tn)] → b = onB ⟨ah, tn⟩ h →
      frR (evSs Φ 100 (.cons (.ite (.and (.cmp .IsNot (.v 3) (.k .none)) (.cmp2 .LtE .Lt (.ix (.v 3) (.k (.int 0))) (.bin .Mod (.v 1) (.g "YEAR" c_YEAR)) (.ix (.v 3) (.k (.int 1))))) (.cons (.ret (.bin .Add (.bin .Add (.v 1) (.v 2)) (.k (.int 1)))) .nil) .nil) (.cons (.ret (.bin .Add (.v 1) (.v 2))) .nil)) [.sh (cT ⟨ah, tn⟩), .sh (.int h), .sh (.int ah), .sh (tnD tn)]) = .ret (.int (sh ⟨ah, tn⟩ h)) [] := fun b t e => by
    unfold sh
    rw [← e]
    cases b with
    | true => rw [ite_1 t rfl]; rfl
    | false => rw [ite_0 t, if_neg (by decide), Int.add_zero]; rfl
  cases tn with
  | none => exact fin false rfl rfl
  | some r =>
    have a1 : evE Φ (.cmp .IsNot (.v 3) (.k .none)) [.sh (cT ⟨ah, some r⟩), .sh (.int h), .sh (.int ah), .sh (rT r)] = .ok (.now (.bool true)) [.sh (cT ⟨ah, some r⟩), .sh (.int h), .sh (.int ah), .sh (rT r)] := rfl
    exact fin (decide (r.1 ≤ h % 8640) && decide (h % 8640 < r.2)) (tst ((and_t a1).trans (cmp2_ii (i := r.1) (j := h % 8640) (k := r.2) (ix_now (d := rT r) rfl rfl rfl) (bin_now (d := .int h) (d' := .int 8640) rfl rfl (mod_ok (by decide))) (ix_now (d := rT r) rfl rfl rfl)))) rfl
theorem sat_call {es : IEs} {env e1 : SEnv} (hes : evEs (Phi T (m + 1)) es env = .ok [.now (cT c), .now (.int h)] e1) : evE (Phi T (m + 1)) (.call "shown_at" es) env = .ok (.now (.int (sh c h))) e1 :=
  callN (fs := runDf (Phi T m) d_shown_at) rfl hes rfl rfl rfl (b := []) shown_at_run
theorem law_shows_run : (runDf Φ d__law_shows).run [cT c, .int h] = .ret (.int (sh c h)) [] := by
  obtain ⟨ah, tn⟩ := c
  show frR (evSs Φ 100 b__law_shows [.sh (cT ⟨ah, tn⟩), .sh (.int h), .no]) = _
  unfold b__law_shows
  have a : evE Φ (.and (.cmp .IsNot (.ix (.v 0) (.k (.int 1))) (.k .none)) (.cmp2 .LtE .Lt (.ix (.ix (.v 0) (.k (.int 1))) (.k (.int 0))) (.bin .Mod (.v 1) (.k (.int 8640))) (.ix (.ix (.v 0) (.k (.int 1))) (.k (.int 1))))) [.sh (cT ⟨ah, tn⟩), .sh (.int h), .no] = .ok (.now (.bool (onB ⟨ah, tn⟩ h))) [.sh (cT ⟨ah, tn⟩), .sh (.int h), .no] := by
    cases tn with
    | none => rfl
    | some r =>
      have i0 : evE Φ (.ix (.v 0) (.k (.int 1))) [.sh (cT ⟨ah, some r⟩), .sh (.int h), .no] = .ok (.now (rT r)) [.sh (cT ⟨ah, some r⟩), .sh (.int h), .no] := rfl
      have a1 : evE Φ (.cmp .IsNot (.ix (.v 0) (.k (.int 1))) (.k .none)) [.sh (cT ⟨ah, some r⟩), .sh (.int h), .no] = .ok (.now (.bool true)) [.sh (cT ⟨ah, some r⟩), .sh (.int h), .no] := rfl
      exact (and_t a1).trans (cmp2_ii (i := r.1) (j := h % 8640) (k := r.2) (ix_now i0 rfl rfl) (bin_now (d := .int h) (d' := .int 8640) rfl rfl (mod_ok (by decide))) (ix_now i0 rfl rfl))
  rw [seq_nxt (e1 := [.sh (cT ⟨ah, tn⟩), .sh (.int h), .sh (.bool (onB ⟨ah, tn⟩ h))]) (asg_now a (x := .no) rfl rfl)]
  have i2 : evE Φ (.ife (.v 2) (.k (.int 1)) (.k (.int 0))) [.sh (cT ⟨ah, tn⟩), .sh (.int h), .sh (.bool (onB ⟨ah, tn⟩ h))] = .ok (.now (.int (if onB ⟨ah, tn⟩ h then 1 else 0))) [.sh (cT ⟨ah, tn⟩), .sh (.int h), .sh (.bool (onB ⟨ah, tn⟩ h))] := by
    cases hb : onB ⟨ah, tn⟩ h <;> rfl
  rw [seq_ret (ret_now (bin_now (d := .int (h + ah)) rfl i2 rfl))]
  rfl
theorem lsh_call {es : IEs} {env e1 : SEnv} (hes : evEs (Phi T (m + 1)) es env = .ok [.now (cT c), .now (.int h)] e1) : evE (Phi T (m + 1)) (.call "_law_shows" es) env = .ok (.now (.int (sh c h))) e1 :=
  callN (fs := runDf (Phi T m) d__law_shows) rfl hes rfl rfl rfl (b := []) law_shows_run
theorem reached_by_run : (runDf (Phi T (m + 1)) d_reached_by).run [cT c, .int s] = .ret (.int (rb c s)) [] := by
  show frR (evSs _ 100 b_reached_by [.sh (cT c), .sh (.int s), .no]) = _
  unfold b_reached_by
  rw [seq_nxt (e1 := [.sh (cT c), .sh (.int s), .sh (.int (max 0 (s - c.ah - 1)))]) (asg_now (bf_2 (d := .int 0) (d' := .int (s - c.ah - 1)) (e2 := [.sh (cT c), .sh (.int s), .no]) rfl rfl (max_ii _ _)) (x := .no) rfl rfl)]
  have t : evT (Phi T (m + 1)) (.cmp .GtE (.call "shown_at" (.cons (.v 0) (.cons (.v 2) .nil))) (.v 1)) [.sh (cT c), .sh (.int s), .sh (.int (max 0 (s - c.ah - 1)))] = .ok (decide (s ≤ sh c (max 0 (s - c.ah - 1)))) [.sh (cT c), .sh (.int s), .sh (.int (max 0 (s - c.ah - 1)))] :=
    tst (cmp_nows (d := .int (sh c (max 0 (s - c.ah - 1)))) (d' := .int s) (sat_call rfl) rfl rfl)
  unfold rb
  by_cases hc : s ≤ sh c (max 0 (s - c.ah - 1))
  · rw [decide_eq_true hc] at t
    rw [if_pos hc, ite_1 t rfl]
    rfl
  · rw [decide_eq_false hc] at t
    rw [if_neg hc, ite_0 t]
    rfl
/-- a clock is taken, and a number -/
theorem taken {e2 : SEnv} {lo hi : Int} {es : IEs} (o : c.Ok) (h0 : lo ≤ h) (h1 : h ≤ hi) {n : Nat} {r : ISs} {tl : List Sl} (hes : ∀ env' : SEnv, env' = .sh (cT c) :: .sh (.int h) :: tl → evEs (Phi T (m + 4)) es env' = .ok [.now (.int h), .now (.int lo), .now (.int hi)] env') :
    evSs (Phi T (m + 4)) n (.cons (.asg 0 (.call "plain" (.cons (.v 0) .nil))) (.cons (.ex (.call "need" (.cons (.call "clock_form" (.cons (.v 0) .nil)) (.cons (.k (.int 1)) .nil)))) (.cons (.ex (.call "need" (.cons (.call "in_range" es) (.cons (.k (.int 2)) .nil)))) r))) (.sh (cT c) :: .sh (.int h) :: tl) = evSs (Phi T (m + 4)) n r (.sh (cT c) :: .sh (.int h) :: tl) := by
  rw [seq_nxt (e1 := .sh (cT c) :: .sh (.int h) :: tl) (asg_now (plain_call (c := c) (e1 := .sh (cT c) :: .sh (.int h) :: tl) rfl) (x := .sh (cT c)) rfl rfl)]
  rw [seq_nxt (ex_nxt (e1 := .sh (cT c) :: .sh (.int h) :: tl) (need_call (m := m + 3) (d := .int 1) (es_cons (cform_call (m := m + 1) o rfl) rfl)))]
  have a : evE (Phi T (m + 4)) (.call "in_range" es) (.sh (cT c) :: .sh (.int h) :: tl) = .ok (.now (.bool true)) (.sh (cT c) :: .sh (.int h) :: tl) := by
    rw [range_call (m := m + 2) (i := h) (lo := lo) (hi := hi) (hes _ rfl), decide_eq_true h0, decide_eq_true h1]
    rfl
  rw [seq_nxt (ex_nxt (e1 := .sh (cT c) :: .sh (.int h) :: tl) (need_call (m := m + 3) (d := .int 2) (es_cons a rfl)))]
theorem shows_run (o : c.Ok) (h0 : 0 ≤ h) (h1 : h ≤ 1000000000) : (runDf (Phi T (m + 4)) d_shows).run [cT c, .int h] = .ret (.int (sh c h)) [] := by
  show frR (evSs _ 100 b_shows [.sh (cT c), .sh (.int h)]) = _
  unfold b_shows
  rw [taken (tl := []) (e2 := []) o h0 h1 (fun _ e => by rw [e]; rfl)]
  rw [seq_ret (ret_now (sat_call (m := m + 3) (c := c) (h := h) rfl))]
  rfl
theorem reached_run (o : c.Ok) (h0 : -100 ≤ s) (h1 : s ≤ 1000000000) : (runDf (Phi T (m + 4)) d_reached).run [cT c, .int s] = .ret (.int (rb c s)) [] := by
  show frR (evSs _ 100 b_reached [.sh (cT c), .sh (.int s)]) = _
  unfold b_reached
  rw [taken (tl := []) (e2 := []) o h0 h1 (fun _ e => by rw [e]; rfl)]
  rw [seq_ret (ret_now (callN (fs := runDf (Phi T (m + 3)) d_reached_by) (ws := [.now (cT c), .now (.int s)]) (e1 := [.sh (cT c), .sh (.int s)]) (e2 := [.sh (cT c), .sh (.int s)]) rfl rfl rfl rfl rfl (b := []) (reached_by_run (m := m + 2))))]
  rfl
def haP (c : Ck) (s x : Int) : Bool := decide (0 ≤ x) && (sh c x == s)
theorem hours_at_run (o : c.Ok) (h0 : -100 ≤ s) (h1 : s ≤ 1000000000) : (runDf (Phi T (m + 4)) d_hours_at).run [cT c, .int s] = .ret (iT ([s - c.ah - 1, s - c.ah].filter (haP c s))) [] := by
  show frR (evSs _ 100 b_hours_at [.sh (cT c), .sh (.int s), .no, .no]) = _
  unfold b_hours_at
  rw [taken (tl := [.no, .no]) (e2 := []) o h0 h1 (fun _ e => by rw [e]; rfl)]
  rw [seq_nxt (e1 := [.sh (cT c), .sh (.int s), .sh (.int (s - c.ah)), .no]) rfl]
  have lc := lc_filter (Φ := Phi T (m + 4)) (e := .v 3) (tg := .one 3) (it := .seq (.tup (.cons (.bin .Sub (.v 2) (.k (.int 1))) (.cons (.v 2) .nil)))) (c := .some (.and (.cmp .GtE (.v 3) (.k (.int 0))) (.cmp .Eq (.call "shown_at" (.cons (.v 0) (.cons (.v 3) .nil))) (.v 1)))) (own := [3]) (env := [.sh (cT c), .sh (.int s), .sh (.int (s - c.ah)), .no]) (e1 := [.sh (cT c), .sh (.int s), .sh (.int (s - c.ah)), .no]) (xs := [s - c.ah - 1, s - c.ah]) (enc := PyData.int) (f := PyData.int) (p := haP c s) rfl rfl rfl
    (fun x _ => st_if (e1 := [.sh (cT c), .sh (.int s), .sh (.int (s - c.ah)), .sh (.int x)]) rfl (tst (and_b (x := decide (0 ≤ x)) (y := sh c x == s) rfl (cmp_nows (d := .int (sh c x)) (d' := .int s) (sat_call (m := m + 3) rfl) rfl (ceq_int _ _)))) (fun _ => rfl) rfl) (by show 2 ≤ _; decide)
  rw [seq_ret (ret_now (bf_tmp lc rfl))]
  rfl
end
end K03

set_option Elab.async false
set_option linter.all false
set_option autoImplicit false
set_option maxRecDepth 100000
set_option maxHeartbeats 4000000
/-! # k03: clocks that are drawn, and what they show about an hour -/
namespace K03
open PySem PyE L2 PyV PySem.W Sp
section
variable {m : Nat} {Φ : Fns} {c : Ck} {h s : Int}
theorem val_range (s : Int) {k : Int} (h : 0 < k) : 0 ≤ valS s k ∧ valS s k < k := ⟨Int.emod_nonneg _ (by omega), Int.emod_lt_of_pos _ h⟩
theorem draw_cb {s k : Int} {env : SEnv} {a : IE} (hk : 0 < k) (h0 : env[0]? = some (.bor [.int s])) (ha : evE (Phi T (m + 1)) a env = .ok (.now (.int k)) env) : evE (Phi T (m + 1)) (.callb "_law_draw" 0 (.cons a .nil)) env = .ok (.now (.int (valS s k))) (env.set 0 (.bor [.int (nxtS s)])) :=
  callbB (fs := runDf (Phi T m) d__law_draw) (ws := [.now (.int k)]) rfl (by unfold isMine; rw [h0]) (es_cons ha rfl) rfl rfl rfl h0 (draw_run (Phi T m) s k hk)
theorem clock_run (s : Int) : ∃ c s', (runDf (Phi T (m + 1)) d__law_clock).run [.list [.int s]] = .ret (cT c) [.int s'] ∧ c.Ok := by
  obtain ⟨a0, a1⟩ := val_range s (show (0 : Int) < 27 by decide)
  have s1 : evS (Phi T (m + 1)) 100 (.asg 1 (.bin .Sub (.callb "_law_draw" 0 (.cons (.k (.int 27)) .nil)) (.k (.int 12)))) [.bor [.int s], .no, .no] = .nxt [.bor [.int (nxtS s)], .sh (.int (valS s 27 - 12)), .no] := by
    rw [asg_now (d := .int (valS s 27 - 12)) (e1 := [.bor [.int (nxtS s)], .no, .no]) (bin_now (d := .int (valS s 27)) (d' := .int 12) (e1 := [.bor [.int (nxtS s)], .no, .no]) (draw_cb (by decide) rfl rfl) rfl rfl) (x := .no) rfl rfl]
    rfl
  have t : evT (Phi T (m + 1)) (.cmp .Eq (.callb "_law_draw" 0 (.cons (.k (.int 4)) .nil)) (.k (.int 0))) [.bor [.int (nxtS s)], .sh (.int (valS s 27 - 12)), .no] = .ok (valS (nxtS s) 4 == 0) [.bor [.int (nxtS (nxtS s))], .sh (.int (valS s 27 - 12)), .no] :=
    tst (cmp_nows (d := .int (valS (nxtS s) 4)) (d' := .int 0) (e1 := [.bor [.int (nxtS (nxtS s))], .sh (.int (valS s 27 - 12)), .no]) (draw_cb (by decide) rfl rfl) rfl (ceq_int _ _))
  cases hq : (valS (nxtS s) 4 == 0) with
  | true =>
    rw [hq] at t
    refine ⟨⟨valS s 27 - 12, none⟩, nxtS (nxtS s), ?_, ⟨by show -12 ≤ valS s 27 - 12; omega, by show valS s 27 - 12 ≤ 14; omega, fun r z => by cases z⟩⟩
    show frB (evSs _ 100 b__law_clock [.bor [.int s], .no, .no]) = _
    unfold b__law_clock
    rw [seq_nxt s1, ite_1 t rfl]
    rfl
  | false =>
    rw [hq] at t
    obtain ⟨f0, f1⟩ := val_range (nxtS (nxtS s)) (show (0 : Int) < 8000 by decide)
    generalize hf : valS (nxtS (nxtS s)) 8000 = f at f0 f1
    obtain ⟨e0, e1⟩ := val_range (nxtS (nxtS (nxtS s))) (show (0 : Int) < 8639 - (1 + f) by omega)
    generalize hA : valS s 27 - 12 = A at s1 t
    refine ⟨⟨A, some (1 + f, 1 + f + 1 + valS (nxtS (nxtS (nxtS s))) (8639 - (1 + f)))⟩, nxtS (nxtS (nxtS (nxtS s))), ?_, ⟨by show -12 ≤ A; omega, by show A ≤ 14; omega, fun r z => by
      cases z
      show 1 ≤ 1 + f ∧ 1 + f < 1 + f + 1 + _ ∧ 1 + f + 1 + _ ≤ 8639
      omega⟩⟩
    show frB (evSs _ 100 b__law_clock [.bor [.int s], .no, .no]) = _
    unfold b__law_clock
    rw [seq_nxt s1, ite_0 t]
    rw [seq_nxt (e1 := [.bor [.int (nxtS (nxtS (nxtS s)))], .sh (.int A), .sh (.int (1 + f))]) (asg_now (d := .int (1 + f)) (e1 := [.bor [.int (nxtS (nxtS (nxtS s)))], .sh (.int A), .no]) (bin_now (d := .int 1) (d' := .int f) (e1 := [.bor [.int (nxtS (nxtS s))], .sh (.int A), .no]) rfl ((draw_cb (by decide) rfl rfl).trans (by rw [hf]; rfl)) rfl) (x := .no) rfl rfl)]
    have dd : evE (Phi T (m + 1)) (.callb "_law_draw" 0 (.cons (.bin .Sub (.k (.int 8639)) (.v 2)) .nil)) [.bor [.int (nxtS (nxtS (nxtS s)))], .sh (.int A), .sh (.int (1 + f))] = .ok (.now (.int (valS (nxtS (nxtS (nxtS s))) (8639 - (1 + f))))) [.bor [.int (nxtS (nxtS (nxtS (nxtS s))))], .sh (.int A), .sh (.int (1 + f))] := draw_cb (by omega) rfl rfl
    rw [seq_ret (ret_now (tup_of (ds := [.int A, rT (1 + f, 1 + f + 1 + valS (nxtS (nxtS (nxtS s))) (8639 - (1 + f)))]) (es_cons (w := .now (.int A)) rfl (es_cons (tup_of (ds := [.int (1 + f), .int (1 + f + 1 + valS (nxtS (nxtS (nxtS s))) (8639 - (1 + f)))]) (es_cons (w := .now (.int (1 + f))) rfl (es_cons (bin_now (d := .int (1 + f + 1)) rfl dd rfl) rfl)) rfl rfl) rfl)) rfl rfl))]
    rfl
theorem clock_cb {s : Int} {env : SEnv} {i : Nat} (h0 : env[i]? = some (.own [.int s])) : ∃ c s', evE (Phi T (m + 2)) (.callb "_law_clock" i .nil) env = .ok (.now (cT c)) (env.set i (.own [.int s'])) ∧ c.Ok := by
  obtain ⟨c, s', h, b⟩ := clock_run (m := m) s
  exact ⟨c, s', callbN (fs := runDf (Phi T (m + 1)) d__law_clock) (ws := []) rfl (by unfold isMine; rw [h0]) rfl rfl rfl rfl h0 h, b⟩
/-! ### about an hour -/
theorem sh_two (c : Ck) (x : Int) : sh c x = x + c.ah ∨ sh c x = x + c.ah + 1 := by
  unfold sh
  cases onB c x
  · left; rw [if_neg (by decide)]; omega
  · right; rw [if_pos rfl]
theorem ne_iT (a : List Int) : cmpD .NotEq (iT a) (iT a) = some false := by
  have e : ∀ a : List Int, PyData.eqvAll (a.map PyData.int) (a.map PyData.int) = true := by
    intro a
    induction a with
    | nil => rfl
    | cons x xs ih =>
      show (PyData.eqv (.int x) (.int x) && PyData.eqvAll (xs.map PyData.int) (xs.map PyData.int)) = true
      rw [eqv_ii, beq_self_eq_true, ih]
      rfl
  show (if SeqAt.shaped (iT a) && SeqAt.shaped (iT a) then some (!PyData.eqvAll (a.map PyData.int) (a.map PyData.int)) else none) = _
  rw [shaped_iT, e]
  rfl
theorem rg_asc (p : Nat → Bool) (lo n : Nat) : (((List.range' lo n).filter p).map fun k => ((k : Nat) : Int)).Pairwise (· < ·) := by
  rw [List.pairwise_map]
  refine List.Pairwise.filter _ (List.Pairwise.imp ?_ (List.pairwise_lt_range'))
  intro a b h
  omega
theorem near_is (h0 : 0 ≤ h) : (((List.range' (max 0 (h - 3)).toNat ((h + 4).toNat - (max 0 (h - 3)).toNat)).filter fun k : Nat => sh c k == sh c h).map fun k => ((k : Nat) : Int)) = [sh c h - c.ah - 1, sh c h - c.ah].filter (haP c (sh c h)) := by
  refine asc_uniq (rg_asc _ _ _) (List.Pairwise.filter _ (by simp; omega)) fun x => ?_
  rw [List.mem_filter]
  constructor
  · intro hx
    obtain ⟨k, hk, rfl⟩ := List.mem_map.mp hx
    obtain ⟨_, k2⟩ := List.mem_filter.mp hk
    have k2 := eq_of_beq k2
    refine ⟨?_, ?_⟩
    · rw [List.mem_cons, List.mem_singleton]
      rcases sh_two c k with z | z <;> omega
    · unfold haP
      rw [k2, beq_self_eq_true, decide_eq_true (Int.natCast_nonneg k)]
      rfl
  · rintro ⟨hx, hp⟩
    unfold haP at hp
    rw [Bool.and_eq_true, decide_eq_true_eq, beq_iff_eq] at hp
    obtain ⟨x0, hx2⟩ := hp
    obtain ⟨n, rfl⟩ := Int.eq_ofNat_of_zero_le x0
    refine List.mem_map.mpr ⟨n, List.mem_filter.mpr ⟨?_, beq_iff_eq.mpr hx2⟩, rfl⟩
    rw [List.mem_range'_1]
    rcases sh_two c n with z | z <;> rcases sh_two c h with w | w <;> omega
theorem head_filter (p : Nat → Bool) : ∀ (n lo k : Nat), lo ≤ k → k < lo + n → p k = true → (∀ j, lo ≤ j → j < k → p j = false) → ∃ t, (List.range' lo n).filter p = k :: t
  | 0, lo, k, h1, h2, _, _ => by omega
  | n + 1, lo, k, h1, h2, h3, h4 => by
    rw [List.range'_succ, List.filter_cons]
    by_cases e : lo = k
    · subst e
      rw [if_pos h3]
      exact ⟨_, rfl⟩
    · rw [if_neg (by rw [h4 lo (Nat.le_refl _) (by omega)]; decide)]
      exact head_filter p n (lo + 1) k (by omega) (by omega) h3 fun j j1 j2 => h4 j (by omega) j2
theorem due_is (s : Int) : ∃ t, ((List.range' (max 0 (s - c.ah - 4)).toNat 9).filter fun k : Nat => decide (s ≤ sh c k)) = (rb c s).toNat :: t ∧ 0 ≤ rb c s := by
  have key : 0 ≤ rb c s ∧ rb c s ≤ max 0 (s - c.ah - 4) + 8 ∧ max 0 (s - c.ah - 4) ≤ rb c s ∧ s ≤ sh c (rb c s) ∧ ∀ x, 0 ≤ x → x < rb c s → ¬ s ≤ sh c x := by
    unfold rb
    by_cases hc : s ≤ sh c (max 0 (s - c.ah - 1))
    · rw [if_pos hc]
      refine ⟨by omega, by omega, by omega, hc, fun x x0 x1 z => ?_⟩
      rcases sh_two c x with w | w <;> omega
    · rw [if_neg hc]
      have h1 : max 0 (s - c.ah - 1) = s - c.ah - 1 := by
        rcases sh_two c (max 0 (s - c.ah - 1)) with w | w <;> omega
      rw [h1] at hc ⊢
      refine ⟨by omega, by omega, by omega, ?_, fun x x0 x1 z => ?_⟩
      · rcases sh_two c (s - c.ah - 1 + 1) with w | w <;> omega
      · rcases Int.lt_or_le x (s - c.ah - 1) with w | w
        · rcases sh_two c x with w | w <;> omega
        · have : x = s - c.ah - 1 := by omega
          rw [this] at z
          exact hc z
  obtain ⟨r0, r1, r2, r3, r4⟩ := key
  obtain ⟨t, ht⟩ := head_filter (fun k : Nat => decide (s ≤ sh c k)) 9 (max 0 (s - c.ah - 4)).toNat (rb c s).toNat (by omega) (by omega) (by
    rw [show (((rb c s).toNat : Nat) : Int) = rb c s from by omega]
    exact decide_eq_true r3) (fun j j1 j2 => decide_eq_false (r4 j (Int.natCast_nonneg j) (by omega)))
  exact ⟨t, ht, r0⟩
def eA (c : Ck) (h : Int) (x3 x5 x6 x7 : Sl) : SEnv := [.sh (cT c), .sh (.int h), .sh (.int (sh c h)), x3, .no, x5, x6, x7]
def abB : ISs := (.cons (.asg 6 (.bf .max (.cons (.k (.int 0)) (.cons (.bin .Sub (.bin .Sub (.v 5) (.ix (.v 0) (.k (.int 0)))) (.k (.int 4))) .nil)))) (.cons (.asg 7 (.lc (.v 4) (.one 4) (.r2 (.v 6) (.bin .Add (.v 6) (.k (.int 9)))) (.some (.cmp .GtE (.call "_law_shows" (.cons (.v 0) (.cons (.v 4) .nil))) (.v 5))) [4])) (.cons (.ite (.cmp .NotEq (.call "reached" (.cons (.v 0) (.cons (.v 5) .nil))) (.ix (.v 7) (.k (.int 0)))) (.cons (.ret (.k (.bool false))) .nil) .nil) .nil)))
theorem ab_turn (o : c.Ok) {x3 x6 x7 : Sl} (h6 : nb x6 = true) (h7 : nb x7 = true) (s0 : -100 ≤ s) (s1 : s ≤ 10000000) : ∃ y6 y7, nb y6 = true ∧ nb y7 = true ∧ evSs (Phi T (m + 5)) 100 abB (eA c h x3 (.sh (.int s)) x6 x7) = .nxt (eA c h x3 (.sh (.int s)) y6 y7) := by
  have a0 := o.a0
  have a1 := o.a1
  generalize hL : max 0 (s - c.ah - 4) = L
  have L0 : 0 ≤ L := by omega
  obtain ⟨t, ht, r0⟩ := due_is (c := c) s
  rw [hL] at ht
  unfold abB
  have s6 : evS (Phi T (m + 5)) 100 (.asg 6 (.bf .max (.cons (.k (.int 0)) (.cons (.bin .Sub (.bin .Sub (.v 5) (.ix (.v 0) (.k (.int 0)))) (.k (.int 4))) .nil)))) (eA c h x3 (.sh (.int s)) x6 x7) = .nxt (eA c h x3 (.sh (.int s)) (.sh (.int L)) x7) := by
    rw [asg_now (d := .int L) (e1 := eA c h x3 (.sh (.int s)) x6 x7) (bf_2 (d := .int 0) (d' := .int (s - c.ah - 4)) rfl rfl (by rw [max_ii, hL])) (x := x6) rfl h6]
    rfl
  rw [seq_nxt s6]
  have hi : evI (Phi T (m + 5)) (.r2 (.v 6) (.bin .Add (.v 6) (.k (.int 9)))) (eA c h x3 (.sh (.int s)) (.sh (.int L)) x7) = .ok ((List.range' L.toNat 9).map fun k => .int (k : Nat)) (eA c h x3 (.sh (.int s)) (.sh (.int L)) x7) := by
    have := i_r2 (Φ := Phi T (m + 5)) (a := .v 6) (b := .bin .Add (.v 6) (.k (.int 9))) (env := eA c h x3 (.sh (.int s)) (.sh (.int L)) x7) (e1 := eA c h x3 (.sh (.int s)) (.sh (.int L)) x7) (e2 := eA c h x3 (.sh (.int s)) (.sh (.int L)) x7) (i := L.toNat) (j := L.toNat + 9) (by rw [show ((L.toNat : Nat) : Int) = L from by omega]; rfl) (by rw [show ((L.toNat + 9 : Nat) : Int) = L + 9 from by omega]; rfl) (by omega) (by omega) (by omega)
    rw [show L.toNat + 9 - L.toNat = 9 from by omega] at this
    exact this
  have lc := lc_filter (Φ := Phi T (m + 5)) (e := .v 4) (tg := .one 4) (it := .r2 (.v 6) (.bin .Add (.v 6) (.k (.int 9)))) (c := .some (.cmp .GtE (.call "_law_shows" (.cons (.v 0) (.cons (.v 4) .nil))) (.v 5))) (own := [4]) (env := eA c h x3 (.sh (.int s)) (.sh (.int L)) x7) (e1 := eA c h x3 (.sh (.int s)) (.sh (.int L)) x7) (xs := List.range' L.toNat 9) (enc := fun k : Nat => .int (k : Nat)) (f := fun k : Nat => .int (k : Nat)) (p := fun k : Nat => decide (s ≤ sh c k)) hi rfl rfl
    (fun k _ => st_if (e1 := [.sh (cT c), .sh (.int h), .sh (.int (sh c h)), x3, .sh (.int (k : Nat)), .sh (.int s), .sh (.int L), x7]) rfl (tst (cmp_nows (d := .int (sh c k)) (d' := .int s) (lsh_call (m := m + 4) rfl) rfl rfl)) (fun _ => rfl) rfl) (by rw [List.length_range']; decide)
  rw [ht, List.map_cons] at lc
  have s7 : evS (Phi T (m + 5)) 100 (.asg 7 (.lc (.v 4) (.one 4) (.r2 (.v 6) (.bin .Add (.v 6) (.k (.int 9)))) (.some (.cmp .GtE (.call "_law_shows" (.cons (.v 0) (.cons (.v 4) .nil))) (.v 5))) [4])) (eA c h x3 (.sh (.int s)) (.sh (.int L)) x7) = .nxt (eA c h x3 (.sh (.int s)) (.sh (.int L)) (.own (.int ((rb c s).toNat : Nat) :: t.map fun k => .int (k : Nat)))) := by
    rw [asg_tmp lc (x := x7) rfl h7]
    rfl
  rw [seq_nxt s7]
  have i0 : evE (Phi T (m + 5)) (.ix (.v 7) (.k (.int 0))) (eA c h x3 (.sh (.int s)) (.sh (.int L)) (.own (.int ((rb c s).toNat : Nat) :: t.map fun k => .int (k : Nat)))) = .ok (.now (.int (rb c s))) (eA c h x3 (.sh (.int s)) (.sh (.int L)) (.own (.int ((rb c s).toNat : Nat) :: t.map fun k => .int (k : Nat)))) :=
    ix_vw (w := .late 7) (d := .list (.int ((rb c s).toNat : Nat) :: t.map fun k => .int (k : Nat))) (d' := .int ((0 : Nat) : Int)) rfl rfl rfl rfl (by
      show atI (PyData.int ((rb c s).toNat : Nat) :: t.map fun k => PyData.int (k : Nat)) ((0 : Nat) : Int) = _
      rw [at_nat (by simp)]
      show some (PyData.int ((rb c s).toNat : Nat)) = _
      rw [show (((rb c s).toNat : Nat) : Int) = rb c s from by omega])
  have cr : evE (Phi T (m + 5)) (.call "reached" (.cons (.v 0) (.cons (.v 5) .nil))) (eA c h x3 (.sh (.int s)) (.sh (.int L)) (.own (.int ((rb c s).toNat : Nat) :: t.map fun k => .int (k : Nat)))) = .ok (.now (.int (rb c s))) (eA c h x3 (.sh (.int s)) (.sh (.int L)) (.own (.int ((rb c s).toNat : Nat) :: t.map fun k => .int (k : Nat)))) :=
    callN (fs := runDf (Phi T (m + 4)) d_reached) (ws := [.now (cT c), .now (.int s)]) rfl rfl rfl rfl rfl (b := []) (reached_run o s0 (by omega))
  refine ⟨.sh (.int L), .own (.int ((rb c s).toNat : Nat) :: t.map fun k => .int (k : Nat)), rfl, rfl, ?_⟩
  rw [ite_0 (tst (cmp_nows cr i0 (by rw [cne_int, beq_self_eq_true]; rfl)))]
  rfl
theorem about_run (o : c.Ok) (h0 : 0 ≤ h) (h1 : h ≤ 1000000) : (runDf (Phi T (m + 5)) d__law_about).run [cT c, .int h] = .ret (.bool true) [] := by
  have a0 := o.a0
  have a1 := o.a1
  have st := sh_two c h
  show frR (evSs _ 100 b__law_about [.sh (cT c), .sh (.int h), .no, .no, .no, .no, .no, .no]) = _
  unfold b__law_about
  rw [seq_nxt (e1 := eA c h .no .no .no .no) (asg_now (lsh_call (m := m + 4) (c := c) (h := h) (e1 := [.sh (cT c), .sh (.int h), .no, .no, .no, .no, .no, .no]) rfl) (x := .no) rfl rfl)]
  have hi : evI (Phi T (m + 5)) (.r2 (.bf .max (.cons (.k (.int 0)) (.cons (.bin .Sub (.v 1) (.k (.int 3))) .nil))) (.bin .Add (.v 1) (.k (.int 4)))) (eA c h .no .no .no .no) = .ok ((List.range' (max 0 (h - 3)).toNat ((h + 4).toNat - (max 0 (h - 3)).toNat)).map fun k => .int (k : Nat)) (eA c h .no .no .no .no) :=
    i_r2 (e1 := eA c h .no .no .no .no) (by rw [bf_2 (d := .int 0) (d' := .int (h - 3)) (e2 := eA c h .no .no .no .no) rfl rfl (max_ii _ _), show (((max 0 (h - 3)).toNat : Nat) : Int) = max 0 (h - 3) from by omega]) (by rw [show (((h + 4).toNat : Nat) : Int) = h + 4 from by omega]; rfl) (by omega) (by omega) (by omega)
  have lc := lc_filter (Φ := Phi T (m + 5)) (e := .v 4) (tg := .one 4) (it := .r2 (.bf .max (.cons (.k (.int 0)) (.cons (.bin .Sub (.v 1) (.k (.int 3))) .nil))) (.bin .Add (.v 1) (.k (.int 4)))) (c := .some (.cmp .Eq (.call "_law_shows" (.cons (.v 0) (.cons (.v 4) .nil))) (.v 2))) (own := [4]) (env := eA c h .no .no .no .no) (e1 := eA c h .no .no .no .no) (xs := List.range' (max 0 (h - 3)).toNat ((h + 4).toNat - (max 0 (h - 3)).toNat)) (enc := fun k : Nat => .int (k : Nat)) (f := fun k : Nat => .int (k : Nat)) (p := fun k : Nat => sh c k == sh c h) hi rfl rfl
    (fun k _ => st_if (e1 := [.sh (cT c), .sh (.int h), .sh (.int (sh c h)), .no, .sh (.int (k : Nat)), .no, .no, .no]) rfl (tst (cmp_nows (d := .int (sh c k)) (d' := .int (sh c h)) (lsh_call (m := m + 4) rfl) rfl (ceq_int _ _))) (fun _ => rfl) rfl) (by rw [List.length_range']; omega)
  have ne := near_is (c := c) h0
  generalize hN : ((List.range' (max 0 (h - 3)).toNat ((h + 4).toNat - (max 0 (h - 3)).toNat)).filter fun k : Nat => sh c k == sh c h) = N at lc ne
  rw [seq_nxt (e1 := eA c h (.own (N.map fun k => .int (k : Nat))) .no .no .no) (asg_tmp lc (x := .no) rfl rfl)]
  have c1 : evE (Phi T (m + 5)) (.cmp .NotEq (.call "shows" (.cons (.v 0) (.cons (.v 1) .nil))) (.v 2)) (eA c h (.own (N.map fun k => .int (k : Nat))) .no .no .no) = .ok (.now (.bool false)) (eA c h (.own (N.map fun k => .int (k : Nat))) .no .no .no) :=
    cmp_nows (d := .int (sh c h)) (d' := .int (sh c h)) (callN (fs := runDf (Phi T (m + 4)) d_shows) (ws := [.now (cT c), .now (.int h)]) rfl rfl rfl rfl rfl (b := []) (shows_run o h0 (by omega))) rfl (by rw [cne_int, beq_self_eq_true]; rfl)
  have c2 : evE (Phi T (m + 5)) (.cmp .NotEq (.call "hours_at" (.cons (.v 0) (.cons (.v 2) .nil))) (.bf .tuple (.cons (.v 3) .nil))) (eA c h (.own (N.map fun k => .int (k : Nat))) .no .no .no) = .ok (.now (.bool false)) (eA c h (.own (N.map fun k => .int (k : Nat))) .no .no .no) := by
    have e3 : evE (Phi T (m + 5)) (.bf .tuple (.cons (.v 3) .nil)) (eA c h (.own (N.map fun k => .int (k : Nat))) .no .no .no) = .ok (.now (iT ([sh c h - c.ah - 1, sh c h - c.ah].filter (haP c (sh c h))))) (eA c h (.own (N.map fun k => .int (k : Nat))) .no .no .no) := by
      rw [← ne]
      refine bf_1 (w := .late 3) (d := .list (N.map fun k => .int (k : Nat))) rfl rfl ?_
      rw [iT, List.map_map]
      rfl
    exact cmp_nows (callN (fs := runDf (Phi T (m + 4)) d_hours_at) (ws := [.now (cT c), .now (.int (sh c h))]) rfl rfl rfl rfl rfl (b := []) (hours_at_run o (by omega) (by omega))) e3 (ne_iT _)
  rw [ite_0 (tst ((or_f c1).trans c2))]
  generalize Sl.own (N.map fun k => PyData.int (k : Nat)) = x3
  obtain ⟨e, he, y5, y6, y7, _, _, _, rfl⟩ := forL_inv (f := fun x e => match putT e (.one 5) x with
      | some e2 => evSs (Phi T (m + 5)) 100 abB e2
      | none => .stuck) (P := fun e => ∃ x5 x6 x7, nb x5 = true ∧ nb x6 = true ∧ nb x7 = true ∧ e = eA c h x3 x5 x6 x7) (xs := [.int (sh c h - 1), .int (sh c h), .int (sh c h + 1)]) (env := eA c h x3 .no .no .no) ⟨.no, .no, .no, rfl, rfl, rfl, rfl⟩ (fun x hx env hP => by
    obtain ⟨s, rfl, s0, s1⟩ : ∃ s, x = .int s ∧ -100 ≤ s ∧ s ≤ 10000000 := by
      rcases List.mem_cons.mp hx with z | z
      · exact ⟨_, z, by omega, by omega⟩
      · rcases List.mem_cons.mp z with z | z
        · exact ⟨_, z, by omega, by omega⟩
        · exact ⟨_, List.mem_singleton.mp z, by omega, by omega⟩
    obtain ⟨x5, x6, x7, h5, h6, h7, rfl⟩ := hP
    have hp : putT (eA c h x3 x5 x6 x7) (.one 5) (.int s) = some (eA c h x3 (.sh (.int s)) x6 x7) := by
      show putS _ 5 _ = _
      rw [putS_nb (x := x5) rfl h5]
      rfl
    simp only [hp]
    obtain ⟨y6, y7, g6, g7, t⟩ := ab_turn (m := m) (h := h) o (x3 := x3) h6 h7 s0 s1
    exact ⟨_, t, .sh (.int s), y6, y7, rfl, g6, g7, rfl⟩)
  unfold abB at he
  rw [seq_nxt ((for_eq (ds := [.int (sh c h - 1), .int (sh c h), .int (sh c h + 1)]) (by
    simp only [evI]
    rfl)).trans he)]
  rfl
end
end K03

set_option Elab.async false
set_option linter.all false
set_option autoImplicit false
set_option maxRecDepth 100000
set_option maxHeartbeats 4000000
/-! # k03: hours at the turns; two clocks -/
namespace K03
open PySem PyE L2 PyV PySem.W Sp
section
variable {m : Nat} {c d : Ck} {p q : Q}
/-- small, from 0 on -/
structure Bz (q : Q) : Prop where
  v : V q
  st : q.st ≤ 0
  pd : q.pd ∣ 8640
theorem Bz.ti (b : Bz q) : Ti q := by
  have h1 := can_len b.v.ch b.v.he (by have := b.v.st0; omega)
  have h2 := can_len b.v.cp b.v.pe (by have := b.v.pd0; omega)
  have : q.pd ≤ 8640 := Int.le_of_dvd (by decide) b.pd
  have := b.st
  exact ⟨b.v, by omega, Int.dvd_trans b.pd (by decide), by omega⟩
theorem Bz.join (a : Bz p) (b : Bz q) : Bz (joinQ p q) := ⟨(join_spec a.v b.v).1, by have := a.st; have := b.st; show max p.st q.st ≤ _; omega, lcm_dvd a.pd b.pd⟩
theorem Bz.comm (a : Bz p) (b : Bz q) : Bz (commQ p q) := ⟨(comm_spec a.v b.v).1, by have := a.st; have := b.st; show max p.st q.st ≤ _; omega, lcm_dvd a.pd b.pd⟩
theorem Bz.rest (b : Bz q) : Bz (restQ q) := ⟨(rest_spec b.v).1, b.st, b.pd⟩
theorem Bz.minus (a : Bz p) (b : Bz q) : Bz (minQ p q) := a.comm b.rest
theorem Bz.red (b : Bz q) : Bz (redQ q) := by
  obtain ⟨a1, a2, a3⟩ := b.ti.sm.red
  exact ⟨a1.v, by have := b.st; omega, Int.dvd_trans a3 b.pd⟩
theorem bz_none : Bz noneQ := ⟨nf_none.v, Int.le_refl _, by show (1 : Int) ∣ 8640; decide⟩
theorem bz_yr {b e : Int} (h0 : 0 ≤ b) (h1 : b < e) (h2 : e ≤ 8640) : Bz (yrQ b e) := ⟨V_yr h0 h1 h2, Int.le_refl _, Int.dvd_refl _⟩
theorem tellz (b : Bz q) {es : IEs} {env e1 : SEnv} (hes : evEs (Phi T (m + 4)) es env = .ok [.now (qT q)] e1) : evE (Phi T (m + 4)) (.call "tell" es) env = .ok (.now (qT (redQ q))) e1 :=
  tell_call b.ti.sm b.red.ti.st b.red.ti.len hes
def onQ (c : Ck) : Q := match c.tn with
  | none => noneQ
  | some r => yrQ r.1 r.2
theorem onQ_bz (o : c.Ok) : Bz (onQ c) := by
  unfold onQ
  cases e : c.tn with
  | none => exact bz_none
  | some r =>
    obtain ⟨t1, t2, t3⟩ := o.t r e
    exact bz_yr (by omega) t2 (by omega)
theorem onQ_S {h : Int} (h0 : 0 ≤ h) : S (onQ c) h ↔ onB c h = true := by
  unfold onQ onB
  cases c.tn with
  | none => exact ⟨fun z => absurd z (S_none h), fun z => by cases z⟩
  | some r =>
    show S (yrQ r.1 r.2) h ↔ _
    rw [S_yr h0, Bool.and_eq_true, decide_eq_true_eq, decide_eq_true_eq]
theorem yearly_call {b e : Int} {es : IEs} {env e1 : SEnv} (hes : evEs (Phi T (m + 1)) es env = .ok [.now (.int b), .now (.int e)] e1) : evE (Phi T (m + 1)) (.call "yearly" es) env = .ok (.now (qT (yrQ b e))) e1 :=
  callN (fs := runDf (Phi T m) d_yearly) rfl hes rfl rfl rfl (b := []) rfl
theorem put_on_run : (runDf (Phi T (m + 1)) d_put_on_hours).run [cT c] = .ret (qT (onQ c)) [] := by
  obtain ⟨ah, tn⟩ := c
  show frR (evSs _ 100 b_put_on_hours [.sh (cT ⟨ah, tn⟩)]) = _
  unfold b_put_on_hours
  cases tn with
  | none => rfl
  | some r =>
    rw [ite_0 (e1 := [.sh (cT ⟨ah, some r⟩)]) rfl]
    have i0 : evE (Phi T (m + 1)) (.ix (.v 0) (.k (.int 1))) [.sh (cT ⟨ah, some r⟩)] = .ok (.now (rT r)) [.sh (cT ⟨ah, some r⟩)] := rfl
    rw [seq_ret (ret_now (yearly_call (b := r.1) (e := r.2) (es_cons (ix_now i0 rfl rfl) (es_cons (ix_now i0 rfl rfl) rfl))))]
    rfl
theorem puton_call {es : IEs} {env e1 : SEnv} (hes : evEs (Phi T (m + 2)) es env = .ok [.now (cT c)] e1) : evE (Phi T (m + 2)) (.call "put_on_hours" es) env = .ok (.now (qT (onQ c))) e1 :=
  callN (fs := runDf (Phi T (m + 1)) d_put_on_hours) rfl hes rfl rfl rfl (b := []) put_on_run
theorem one_taken (o : c.Ok) {n : Nat} {r : ISs} : evSs (Phi T (m + 4)) n (.cons (.asg 0 (.call "plain" (.cons (.v 0) .nil))) (.cons (.ex (.call "need" (.cons (.call "clock_form" (.cons (.v 0) .nil)) (.cons (.k (.int 1)) .nil)))) r)) [.sh (cT c)] = evSs (Phi T (m + 4)) n r [.sh (cT c)] := by
  rw [seq_nxt (e1 := [.sh (cT c)]) (asg_now (plain_call (c := c) (e1 := [.sh (cT c)]) rfl) (x := .sh (cT c)) rfl rfl)]
  rw [seq_nxt (ex_nxt (e1 := [.sh (cT c)]) (need_call (m := m + 3) (d := .int 1) (es_cons (cform_call (m := m + 1) o rfl) rfl)))]
def nevQ (c : Ck) : Q := match c.tn with
  | none => noneQ
  | some r => yrQ r.1 (r.1 + 1)
def twiQ (c : Ck) : Q := match c.tn with
  | none => noneQ
  | some r => yrQ (r.2 - 1) (r.2 + 1)
theorem never_run (o : c.Ok) : (runDf (Phi T (m + 4)) d_never).run [cT c] = .ret (qT (nevQ c)) [] := by
  obtain ⟨ah, tn⟩ := c
  show frR (evSs _ 100 b_never [.sh (cT ⟨ah, tn⟩)]) = _
  unfold b_never
  rw [one_taken o]
  cases tn with
  | none =>
    rw [ite_1 (e1 := [.sh (cT ⟨ah, none⟩)]) (e2 := [.sh (cT ⟨ah, none⟩)]) (d := qT noneQ) rfl (by
      have := tellz (m := m) (es := .cons (.g "NONE" c_NONE) .nil) (env := [.sh (cT ⟨ah, none⟩)]) (e1 := [.sh (cT ⟨ah, none⟩)]) bz_none rfl
      rw [red_nf nf_none] at this
      exact seq_ret (ret_now this))]
    rfl
  | some r =>
    obtain ⟨t1, t2, t3⟩ := o.t r rfl
    rw [ite_0 (e1 := [.sh (cT ⟨ah, some r⟩)]) rfl]
    have i0 : evE (Phi T (m + 4)) (.ix (.v 0) (.k (.int 1))) [.sh (cT ⟨ah, some r⟩)] = .ok (.now (rT r)) [.sh (cT ⟨ah, some r⟩)] := rfl
    have := tellz (m := m) (es := .cons (.call "yearly" (.cons (.ix (.ix (.v 0) (.k (.int 1))) (.k (.int 0))) (.cons (.bin .Add (.ix (.ix (.v 0) (.k (.int 1))) (.k (.int 0))) (.k (.int 1))) .nil))) .nil) (env := [.sh (cT ⟨ah, some r⟩)]) (e1 := [.sh (cT ⟨ah, some r⟩)]) (bz_yr (b := r.1) (e := r.1 + 1) (by omega) (by omega) (by omega)) (es_cons (yearly_call (m := m + 3) (b := r.1) (e := r.1 + 1) (es_cons (ix_now i0 (b := .k (.int 0)) rfl rfl) (es_cons (bin_now (op := .Add) (b := .k (.int 1)) (d := .int r.1) (d' := .int 1) (ix_now i0 (b := .k (.int 0)) rfl rfl) rfl rfl) rfl))) rfl)
    rw [red_nf (nf_yr1 (by omega) (by omega))] at this
    rw [seq_ret (ret_now this)]
    rfl
theorem twice_run (o : c.Ok) : (runDf (Phi T (m + 4)) d_twice).run [cT c] = .ret (qT (twiQ c)) [] := by
  obtain ⟨ah, tn⟩ := c
  show frR (evSs _ 100 b_twice [.sh (cT ⟨ah, tn⟩)]) = _
  unfold b_twice
  rw [one_taken o]
  cases tn with
  | none =>
    rw [ite_1 (e1 := [.sh (cT ⟨ah, none⟩)]) (e2 := [.sh (cT ⟨ah, none⟩)]) (d := qT noneQ) rfl (by
      have := tellz (m := m) (es := .cons (.g "NONE" c_NONE) .nil) (env := [.sh (cT ⟨ah, none⟩)]) (e1 := [.sh (cT ⟨ah, none⟩)]) bz_none rfl
      rw [red_nf nf_none] at this
      exact seq_ret (ret_now this))]
    rfl
  | some r =>
    obtain ⟨t1, t2, t3⟩ := o.t r rfl
    rw [ite_0 (e1 := [.sh (cT ⟨ah, some r⟩)]) rfl]
    have i0 : evE (Phi T (m + 4)) (.ix (.v 0) (.k (.int 1))) [.sh (cT ⟨ah, some r⟩)] = .ok (.now (rT r)) [.sh (cT ⟨ah, some r⟩)] := rfl
    have := tellz (m := m) (es := .cons (.call "yearly" (.cons (.bin .Sub (.ix (.ix (.v 0) (.k (.int 1))) (.k (.int 1))) (.k (.int 1))) (.cons (.bin .Add (.ix (.ix (.v 0) (.k (.int 1))) (.k (.int 1))) (.k (.int 1))) .nil))) .nil) (env := [.sh (cT ⟨ah, some r⟩)]) (e1 := [.sh (cT ⟨ah, some r⟩)]) (bz_yr (b := r.2 - 1) (e := r.2 + 1) (by omega) (by omega) (by omega)) (es_cons (yearly_call (m := m + 3) (b := r.2 - 1) (e := r.2 + 1) (es_cons (bin_now (op := .Sub) (b := .k (.int 1)) (d := .int r.2) (d' := .int 1) (ix_now i0 (b := .k (.int 1)) rfl rfl) rfl rfl) (es_cons (bin_now (op := .Add) (b := .k (.int 1)) (d := .int r.2) (d' := .int 1) (ix_now i0 (b := .k (.int 1)) rfl rfl) rfl rfl) rfl))) rfl)
    rw [red_nf (nf_yr2 (by omega) (by omega))] at this
    rw [seq_ret (ret_now this)]
    rfl
theorem turns_run (o : c.Ok) : (runDf (Phi T (m + 5)) d__law_turns).run [cT c] = .ret (.bool true) [] := by
  have nv := never_run (m := m) o
  have tw := twice_run (m := m) o
  obtain ⟨ah, tn⟩ := c
  show frR (evSs _ 100 b__law_turns [.sh (cT ⟨ah, tn⟩), .no, .no]) = _
  unfold b__law_turns
  have cn : ∀ env : SEnv, env[0]? = some (.sh (cT ⟨ah, tn⟩)) → evE (Phi T (m + 5)) (.call "never" (.cons (.v 0) .nil)) env = .ok (.now (qT (nevQ ⟨ah, tn⟩))) env := fun env h => callN (fs := runDf (Phi T (m + 4)) d_never) (ws := [.now (cT ⟨ah, tn⟩)]) rfl (es_cons (by simp only [evE, h]) rfl) rfl rfl rfl (b := []) nv
  have ct : ∀ env : SEnv, env[0]? = some (.sh (cT ⟨ah, tn⟩)) → evE (Phi T (m + 5)) (.call "twice" (.cons (.v 0) .nil)) env = .ok (.now (qT (twiQ ⟨ah, tn⟩))) env := fun env h => callN (fs := runDf (Phi T (m + 4)) d_twice) (ws := [.now (cT ⟨ah, tn⟩)]) rfl (es_cons (by simp only [evE, h]) rfl) rfl rfl rfl (b := []) tw
  have eq : ∀ q : Q, cmpD .Eq (qT q) (qT q) = some true := fun q => by rw [ceq_q, decide_eq_true rfl]
  cases tn with
  | none =>
    have a : evE (Phi T (m + 5)) (.cmp .Eq (.call "never" (.cons (.v 0) .nil)) (.g "EMPTY" c_EMPTY)) [.sh (cT ⟨ah, none⟩), .no, .no] = .ok (.now (.bool true)) [.sh (cT ⟨ah, none⟩), .no, .no] := cmp_nows (d' := qT noneQ) (cn _ rfl) rfl (eq noneQ)
    have b : evE (Phi T (m + 5)) (.cmp .Eq (.call "twice" (.cons (.v 0) .nil)) (.g "EMPTY" c_EMPTY)) [.sh (cT ⟨ah, none⟩), .no, .no] = .ok (.now (.bool true)) [.sh (cT ⟨ah, none⟩), .no, .no] := cmp_nows (d' := qT noneQ) (ct _ rfl) rfl (eq noneQ)
    rw [ite_1 (e1 := [.sh (cT ⟨ah, none⟩), .no, .no]) (e2 := [.sh (cT ⟨ah, none⟩), .no, .no]) (d := .bool true) rfl (seq_ret (ret_now ((and_t a).trans b)))]
    rfl
  | some r =>
    rw [ite_0 (e1 := [.sh (cT ⟨ah, some r⟩), .no, .no]) rfl]
    rw [seq_nxt (e1 := [.sh (cT ⟨ah, some r⟩), .sh (.int r.1), .sh (.int r.2)]) rfl]
    have a := cmp_nows (op := .Eq) (b := .tup (.cons (.tup .nil) (.cons (.k (.int 0)) (.cons (.k (.int 8640)) (.cons (.tup (.cons (.tup (.cons (.v 1) (.cons (.bin .Add (.v 1) (.k (.int 1))) .nil))) .nil)) .nil))))) (d' := qT (yrQ r.1 (r.1 + 1))) (cn [.sh (cT ⟨ah, some r⟩), .sh (.int r.1), .sh (.int r.2)] rfl) rfl (eq (yrQ r.1 (r.1 + 1)))
    have b := cmp_nows (op := .Eq) (b := .tup (.cons (.tup .nil) (.cons (.k (.int 0)) (.cons (.k (.int 8640)) (.cons (.tup (.cons (.tup (.cons (.bin .Sub (.v 2) (.k (.int 1))) (.cons (.bin .Add (.v 2) (.k (.int 1))) .nil))) .nil)) .nil))))) (d' := qT (yrQ (r.2 - 1) (r.2 + 1))) (ct [.sh (cT ⟨ah, some r⟩), .sh (.int r.1), .sh (.int r.2)] rfl) rfl (eq (yrQ (r.2 - 1) (r.2 + 1)))
    rw [seq_ret (ret_now ((and_t a).trans b))]
    rfl
/-! ### two clocks -/
def emp (q : Q) : Bool := decide (q.hd = []) && decide (q.pc = [])
def lessQ (c d : Ck) : Q := minQ (onQ c) (onQ d)
def moreQ (c d : Ck) : Q := minQ (onQ d) (onQ c)
def midsQ (c d : Ck) : Q := restQ (joinQ (lessQ c d) (moreQ c d))
def rowsA (c d : Ck) : List (Int × Q) := [(d.ah - c.ah - 1, lessQ c d), (d.ah - c.ah, midsQ c d), (d.ah - c.ah + 1, moreQ c d)]
def gT (r : Int × Q) : D := .tuple [.int r.1, qT r.2]
def apA (c d : Ck) : List (Int × Q) := ((rowsA c d).filter fun r => !emp r.2).map fun r => (r.1, redQ r.2)
theorem rows_bz (o : c.Ok) (o2 : d.Ok) : ∀ r ∈ rowsA c d, Bz r.2 := by
  have l := (onQ_bz o).minus (onQ_bz o2)
  have g := (onQ_bz o2).minus (onQ_bz o)
  intro r hr
  rcases List.mem_cons.mp hr with z | z
  · rw [z]; exact l
  · rcases List.mem_cons.mp z with z | z
    · rw [z]; exact (l.join g).rest
    · rw [List.mem_singleton.mp z]; exact g
theorem apart_run (o : c.Ok) (o2 : d.Ok) : (runDf (Phi T (m + 8)) d_apart).run [cT c, cT d] = .ret (.tuple ((apA c d).map gT)) [] := by
  have l := (onQ_bz o).minus (onQ_bz o2)
  have g := (onQ_bz o2).minus (onQ_bz o)
  have rz := rows_bz o o2
  show frR (evSs _ 100 b_apart [.sh (cT c), .sh (cT d), .no, .no, .no, .no, .no, .no, .no, .no]) = _
  unfold b_apart
  rw [seq_nxt (par_n (e3 := [.sh (cT c), .sh (cT d), .no, .no, .no, .no, .no, .no, .no, .no]) (ws := [.now (cT c), .now (cT d)]) (ds := [cT c, cT d]) (e1 := [.sh (cT c), .sh (cT d), .no, .no, .no, .no, .no, .no, .no, .no]) (e2 := [.sh (cT c), .sh (cT d), .no, .no, .no, .no, .no, .no, .no, .no]) (es_cons (plain_call (m := m + 4) rfl) (es_cons (plain_call (m := m + 4) rfl) rfl)) rfl rfl)]
  rw [seq_nxt (ex_nxt (e1 := [.sh (cT c), .sh (cT d), .no, .no, .no, .no, .no, .no, .no, .no]) (need_call (m := m + 7) (d := .int 1) (es_cons (cform_call (m := m + 5) o rfl) rfl)))]
  rw [seq_nxt (ex_nxt (e1 := [.sh (cT c), .sh (cT d), .no, .no, .no, .no, .no, .no, .no, .no]) (need_call (m := m + 7) (d := .int 2) (es_cons (cform_call (m := m + 5) o2 rfl) rfl)))]
  rw [seq_nxt (e1 := [.sh (cT c), .sh (cT d), .sh (.int (d.ah - c.ah)), .no, .no, .no, .no, .no, .no, .no]) rfl]
  rw [seq_nxt (par_n (e3 := [.sh (cT c), .sh (cT d), .sh (.int (d.ah - c.ah)), .sh (qT (onQ c)), .sh (qT (onQ d)), .no, .no, .no, .no, .no]) (ws := [.now (qT (onQ c)), .now (qT (onQ d))]) (ds := [qT (onQ c), qT (onQ d)]) (e1 := [.sh (cT c), .sh (cT d), .sh (.int (d.ah - c.ah)), .no, .no, .no, .no, .no, .no, .no]) (e2 := [.sh (cT c), .sh (cT d), .sh (.int (d.ah - c.ah)), .no, .no, .no, .no, .no, .no, .no]) (es_cons (puton_call (m := m + 6) rfl) (es_cons (puton_call (m := m + 6) rfl) rfl)) rfl rfl)]
  rw [seq_nxt (par_n (e3 := [.sh (cT c), .sh (cT d), .sh (.int (d.ah - c.ah)), .sh (qT (onQ c)), .sh (qT (onQ d)), .sh (qT (lessQ c d)), .sh (qT (moreQ c d)), .no, .no, .no]) (ws := [.now (qT (lessQ c d)), .now (qT (moreQ c d))]) (ds := [qT (lessQ c d), qT (moreQ c d)]) (e1 := [.sh (cT c), .sh (cT d), .sh (.int (d.ah - c.ah)), .sh (qT (onQ c)), .sh (qT (onQ d)), .no, .no, .no, .no, .no]) (e2 := [.sh (cT c), .sh (cT d), .sh (.int (d.ah - c.ah)), .sh (qT (onQ c)), .sh (qT (onQ d)), .no, .no, .no, .no, .no]) (es_cons (minus_call (m := m + 4) (onQ_bz o).ti.sm (onQ_bz o2).ti.sm rfl) (es_cons (minus_call (m := m + 4) (onQ_bz o2).ti.sm (onQ_bz o).ti.sm rfl) rfl)) rfl rfl)]
  let E7 : Sl → SEnv := fun x7 => [.sh (cT c), .sh (cT d), .sh (.int (d.ah - c.ah)), .sh (qT (onQ c)), .sh (qT (onQ d)), .sh (qT (lessQ c d)), .sh (qT (moreQ c d)), x7, .no, .no]
  have mid : evE (Phi T (m + 8)) (.call "rest" (.cons (.call "joined" (.cons (.v 5) (.cons (.v 6) .nil))) .nil)) (E7 .no) = .ok (.now (qT (midsQ c d))) (E7 .no) := rest_call (m := m + 5) (l.join g).ti.sm (es_cons (joined_call (m := m + 5) l.ti.sm g.ti.sm rfl) rfl)
  have rows : evE (Phi T (m + 8)) (.tup (.cons (.tup (.cons (.bin .Sub (.v 2) (.k (.int 1))) (.cons (.v 5) .nil))) (.cons (.tup (.cons (.v 2) (.cons (.call "rest" (.cons (.call "joined" (.cons (.v 5) (.cons (.v 6) .nil))) .nil)) .nil))) (.cons (.tup (.cons (.bin .Add (.v 2) (.k (.int 1))) (.cons (.v 6) .nil))) .nil)))) (E7 .no) = .ok (.now (.tuple ((rowsA c d).map gT))) (E7 .no) :=
    tup_of (ds := (rowsA c d).map gT) (es_cons (w := .now (gT (d.ah - c.ah - 1, lessQ c d))) rfl (es_cons (w := .now (gT (d.ah - c.ah, midsQ c d))) (tup_of (ds := [.int (d.ah - c.ah), qT (midsQ c d)]) (es_cons (w := .now (.int (d.ah - c.ah))) rfl (es_cons mid rfl)) rfl rfl) (es_cons (w := .now (gT (d.ah - c.ah + 1, moreQ c d))) rfl rfl))) rfl rfl
  rw [seq_nxt (e1 := E7 (.sh (.tuple ((rowsA c d).map gT)))) (asg_now rows (x := .no) rfl rfl)]
  have lc := lc_filter (Φ := Phi T (m + 8)) (e := .tup (.cons (.v 8) (.cons (.call "tell" (.cons (.v 9) .nil)) .nil))) (tg := .many [8, 9]) (it := .seq (.v 7)) (c := .some (.nt (.call "is_empty" (.cons (.v 9) .nil)))) (own := [8, 9]) (env := E7 (.sh (.tuple ((rowsA c d).map gT)))) (e1 := E7 (.sh (.tuple ((rowsA c d).map gT)))) (xs := rowsA c d) (enc := gT) (f := fun r => gT (r.1, redQ r.2)) (p := fun r => !emp r.2) rfl rfl rfl (fun r hr => by
    have rb := rz r hr
    have hp : putT (E7 (.sh (.tuple ((rowsA c d).map gT)))) (.many [8, 9]) (gT r) = some [.sh (cT c), .sh (cT d), .sh (.int (d.ah - c.ah)), .sh (qT (onQ c)), .sh (qT (onQ d)), .sh (qT (lessQ c d)), .sh (qT (moreQ c d)), .sh (.tuple ((rowsA c d).map gT)), .sh (.int r.1), .sh (qT r.2)] := rfl
    have ie : evE (Phi T (m + 8)) (.call "is_empty" (.cons (.v 9) .nil)) [.sh (cT c), .sh (cT d), .sh (.int (d.ah - c.ah)), .sh (qT (onQ c)), .sh (qT (onQ d)), .sh (qT (lessQ c d)), .sh (qT (moreQ c d)), .sh (.tuple ((rowsA c d).map gT)), .sh (.int r.1), .sh (qT r.2)] = .ok (.now (.bool (emp r.2))) [.sh (cT c), .sh (cT d), .sh (.int (d.ah - c.ah)), .sh (qT (onQ c)), .sh (qT (onQ d)), .sh (qT (lessQ c d)), .sh (qT (moreQ c d)), .sh (.tuple ((rowsA c d).map gT)), .sh (.int r.1), .sh (qT r.2)] := callN (fs := runDf (Phi T (m + 7)) d_is_empty) (ws := [.now (qT r.2)]) rfl rfl rfl rfl rfl (b := []) is_empty_run
    have tc : evC (Phi T (m + 8)) (.some (.nt (.call "is_empty" (.cons (.v 9) .nil)))) [.sh (cT c), .sh (cT d), .sh (.int (d.ah - c.ah)), .sh (qT (onQ c)), .sh (qT (onQ d)), .sh (qT (lessQ c d)), .sh (qT (moreQ c d)), .sh (.tuple ((rowsA c d).map gT)), .sh (.int r.1), .sh (qT r.2)] = .ok (!emp r.2) [.sh (cT c), .sh (cT d), .sh (.int (d.ah - c.ah)), .sh (qT (onQ c)), .sh (qT (onQ d)), .sh (qT (lessQ c d)), .sh (qT (moreQ c d)), .sh (.tuple ((rowsA c d).map gT)), .sh (.int r.1), .sh (qT r.2)] := tst (nt_now ie)
    have te : evE (Phi T (m + 8)) (.tup (.cons (.v 8) (.cons (.call "tell" (.cons (.v 9) .nil)) .nil))) [.sh (cT c), .sh (cT d), .sh (.int (d.ah - c.ah)), .sh (qT (onQ c)), .sh (qT (onQ d)), .sh (qT (lessQ c d)), .sh (qT (moreQ c d)), .sh (.tuple ((rowsA c d).map gT)), .sh (.int r.1), .sh (qT r.2)] = .ok (.now (gT (r.1, redQ r.2))) [.sh (cT c), .sh (cT d), .sh (.int (d.ah - c.ah)), .sh (qT (onQ c)), .sh (qT (onQ d)), .sh (qT (lessQ c d)), .sh (qT (moreQ c d)), .sh (.tuple ((rowsA c d).map gT)), .sh (.int r.1), .sh (qT r.2)] :=
      tup_of (ds := [.int r.1, qT (redQ r.2)]) (es_cons (w := .now (.int r.1)) rfl (es_cons (tellz (m := m + 4) rb rfl) rfl)) rfl rfl
    unfold lcStep
    simp only [hp, tc, Rs.bind, te, keepF]
    cases emp r.2 <;> rfl) (by show 3 ≤ _; decide)
  rw [seq_ret (ret_now (bf_tmp lc rfl))]
  unfold apA
  rw [List.map_map]
  rfl
theorem among_run {h : Int} (b : Bz q) (h0 : 0 ≤ h) (h1 : h ≤ 1000000000000) : (runDf (Phi T (m + 6)) d_among).run [qT q, .int h] = .ret (.bool (hasB q h)) [] := by
  show frR (evSs _ 100 b_among [.sh (qT q), .sh (.int h), .no]) = _
  unfold b_among
  rw [seq_nxt (e1 := [.sh (qT q), .sh (.int h), .sh (qT q)]) (asg_now (checked_call (m := m) b.ti (k := .int 1) (e1 := [.sh (qT q), .sh (.int h), .no]) rfl) (x := .no) rfl rfl)]
  have a : evE (Phi T (m + 6)) (.call "in_range" (.cons (.v 1) (.cons (.k (.int 0)) (.cons (.g "FAR" c_FAR) .nil)))) [.sh (qT q), .sh (.int h), .sh (qT q)] = .ok (.now (.bool true)) [.sh (qT q), .sh (.int h), .sh (qT q)] := by
    rw [range_call (m := m + 4) (i := h) (lo := 0) (hi := 1000000000000) rfl, decide_eq_true h0, decide_eq_true h1]
    rfl
  rw [seq_nxt (ex_nxt (e1 := [.sh (qT q), .sh (.int h), .sh (qT q)]) (need_call (m := m + 5) (d := .int 2) (es_cons a rfl)))]
  rw [seq_ret (ret_now (has_call (m := m + 3) (q := q) (h := h) b.ti.sm rfl))]
  rfl
end
end K03

set_option Elab.async false
set_option linter.all false
set_option autoImplicit false
set_option maxRecDepth 100000
set_option maxHeartbeats 4000000
/-! # k03: parts of the law's turn -/
namespace K03
open PySem PyE L2 PyV PySem.W Sp
section
variable {m : Nat} {c d : Ck} {p q : Q} {Φ : Fns}
/-! ### plain -/
theorem rows_S (o : c.Ok) (o2 : d.Ok) : ∀ r ∈ rowsA c d, ∀ x, 0 ≤ x → (S r.2 x ↔ sh d x - sh c x = r.1) := by
  obtain ⟨v1, s1⟩ := min_spec (onQ_bz o).v (onQ_bz o2).v
  obtain ⟨v2, s2⟩ := min_spec (onQ_bz o2).v (onQ_bz o).v
  have on : ∀ (c : Ck) (x : Int), sh c x = x + c.ah + (if onB c x then 1 else 0) := fun _ _ => rfl
  have S1 : ∀ x, 0 ≤ x → (S (lessQ c d) x ↔ sh d x - sh c x = d.ah - c.ah - 1) := fun x hx => by
    rw [show S (lessQ c d) x ↔ _ from s1 x hx, onQ_S hx, onQ_S hx, on, on]
    cases onB c x <;> cases onB d x <;> simp <;> omega
  have S2 : ∀ x, 0 ≤ x → (S (moreQ c d) x ↔ sh d x - sh c x = d.ah - c.ah + 1) := fun x hx => by
    rw [show S (moreQ c d) x ↔ _ from s2 x hx, onQ_S hx, onQ_S hx, on, on]
    cases onB c x <;> cases onB d x <;> simp <;> omega
  have S3 : ∀ x, 0 ≤ x → (S (midsQ c d) x ↔ sh d x - sh c x = d.ah - c.ah) := fun x hx => by
    obtain ⟨v3, s3⟩ := join_spec v1 v2
    rw [show S (midsQ c d) x ↔ ¬ S (joinQ (lessQ c d) (moreQ c d)) x from (rest_spec v3).2 x hx, show S (joinQ (lessQ c d) (moreQ c d)) x ↔ S (lessQ c d) x ∨ S (moreQ c d) x from s3 x hx, S1 x hx, S2 x hx, on, on]
    cases onB c x <;> cases onB d x <;> simp <;> omega
  intro r hr
  rcases List.mem_cons.mp hr with z | z
  · rw [z]; exact S1
  · rcases List.mem_cons.mp z with z | z
    · rw [z]; exact S3
    · rw [List.mem_singleton.mp z]; exact S2
theorem emp_iff {q : Q} (v : V q) : emp q = true ↔ ∀ x, 0 ≤ x → ¬ S q x := by
  unfold emp
  rw [Bool.and_eq_true, decide_eq_true_eq, decide_eq_true_eq]
  exact empty_iff v
theorem ap_S (o : c.Ok) (o2 : d.Ok) : ∀ r ∈ apA c d, Bz r.2 ∧ (∀ x, 0 ≤ x → (S r.2 x ↔ sh d x - sh c x = r.1)) ∧ (∃ x, 0 ≤ x ∧ S r.2 x) := by
  intro r hr
  obtain ⟨r0, h0, rfl⟩ := List.mem_map.mp hr
  obtain ⟨h1, h2⟩ := List.mem_filter.mp h0
  have b := rows_bz o o2 r0 h1
  have rs := (nf_red b.v).2
  have ss := rows_S o o2 r0 h1
  have he : emp r0.2 = false := by simpa using h2
  have hne : ∃ x, 0 ≤ x ∧ S r0.2 x := by
    refine Classical.byContradiction fun n => ?_
    have := (emp_iff b.v).mpr fun x hx s => n ⟨x, hx, s⟩
    rw [he] at this
    cases this
  refine ⟨b.red, fun x hx => by rw [show S (redQ r0.2) x ↔ _ from rs x hx]; exact ss x hx, ?_⟩
  obtain ⟨x, hx, s⟩ := hne
  exact ⟨x, hx, (rs x hx).mpr s⟩
theorem ap_asc : (apA c d).Pairwise fun a b => a.1 < b.1 := by
  unfold apA
  rw [List.pairwise_map]
  refine List.Pairwise.filter _ ?_
  unfold rowsA
  simp
  omega
theorem ap_all (o : c.Ok) (o2 : d.Ok) {x : Int} (hx : 0 ≤ x) : ∃ r ∈ apA c d, sh d x - sh c x = r.1 := by
  have key : ∃ r ∈ rowsA c d, sh d x - sh c x = r.1 := by
    unfold rowsA
    rcases sh_two c x with a | a <;> rcases sh_two d x with b | b
    · exact ⟨_, List.mem_cons_of_mem _ List.mem_cons_self, by show _ = d.ah - c.ah; omega⟩
    · exact ⟨_, List.mem_cons_of_mem _ (List.mem_cons_of_mem _ List.mem_cons_self), by show _ = d.ah - c.ah + 1; omega⟩
    · exact ⟨_, List.mem_cons_self, by show _ = d.ah - c.ah - 1; omega⟩
    · exact ⟨_, List.mem_cons_of_mem _ List.mem_cons_self, by show _ = d.ah - c.ah; omega⟩
  obtain ⟨r, hr, e⟩ := key
  refine ⟨(r.1, redQ r.2), List.mem_map.mpr ⟨r, List.mem_filter.mpr ⟨hr, ?_⟩, rfl⟩, e⟩
  have b := rows_bz o o2 r hr
  have s := (rows_S o o2 r hr x hx).mpr e
  cases he : emp r.2 with
  | false => rfl
  | true => exact absurd s ((emp_iff b.v).mp he x hx)
theorem ap_self (o : c.Ok) : apA c c = [(0, allQ)] := by
  have rz := rows_bz o o
  have rs := rows_S o o
  have e1 : emp (lessQ c c) = true := (emp_iff (rz _ List.mem_cons_self).v).mpr fun x hx s => by
    have : sh c x - sh c x = c.ah - c.ah - 1 := (rs _ List.mem_cons_self x hx).mp s
    omega
  have e3 : emp (moreQ c c) = true := (emp_iff (rz (c.ah - c.ah + 1, moreQ c c) (List.mem_cons_of_mem _ (List.mem_cons_of_mem _ List.mem_cons_self))).v).mpr fun x hx s => by
    have : sh c x - sh c x = c.ah - c.ah + 1 := (rs (c.ah - c.ah + 1, moreQ c c) (List.mem_cons_of_mem _ (List.mem_cons_of_mem _ List.mem_cons_self)) x hx).mp s
    omega
  have b2 := rz (c.ah - c.ah, midsQ c c) (List.mem_cons_of_mem _ List.mem_cons_self)
  have s2 : ∀ x, 0 ≤ x → S (midsQ c c) x := fun x hx => (rs (c.ah - c.ah, midsQ c c) (List.mem_cons_of_mem _ List.mem_cons_self) x hx).mpr (by show sh c x - sh c x = c.ah - c.ah; omega)
  have e2 : emp (midsQ c c) = false := by
    cases h : emp (midsQ c c) with
    | false => rfl
    | true => exact absurd (s2 0 (Int.le_refl _)) ((emp_iff b2.v).mp h 0 (Int.le_refl _))
  unfold apA rowsA
  simp only [List.filter_cons, e1, e2, e3, List.filter_nil, Bool.not_true, Bool.not_false, if_true]
  show [(c.ah - c.ah, redQ (midsQ c c))] = _
  rw [red_all b2.v s2, Int.sub_self]
/-! ### lists of hours -/
theorem ls_v {a : Sl} {l : List Int} {i : Nat} {env : SEnv} (h : LS a l) (e : env[i]? = some a) : ∃ w, evE Φ (.v i) env = .ok w env ∧ look env w = some (iL l) := by
  rcases h with rfl | rfl
  · exact ⟨.late i, by simp only [evE, e], by simp only [look, e]⟩
  · exact ⟨.now (iL l), by simp only [evE, e], rfl⟩
theorem ls_nb {a : Sl} {l : List Int} (h : LS a l) : nb a = true := by
  rcases h with rfl | rfl <;> rfl
/-- l + [..] -/
theorem ls_add {a : Sl} {l l2 : List Int} {i n : Nat} {env : SEnv} {es : IEs} (h : LS a l) (e : env[i]? = some a) (h2 : evE Φ (.lst es) env = .ok (.tmp (l2.map .int)) env) (hz : l.length + l2.length ≤ 1000) : evS Φ n (.asg i (.bin .Add (.v i) (.lst es))) env = .nxt (env.set i (.own ((l ++ l2).map .int))) := by
  obtain ⟨w, e1, e2⟩ := ls_v (Φ := Φ) h e
  have : evE Φ (.bin .Add (.v i) (.lst es)) env = .ok (.tmp ((l ++ l2).map .int)) env := by
    refine bin_vw (w := w) (w2 := .tmp (l2.map .int)) e1 h2 e2 rfl ?_
    show (if szOk ((l.map PyData.int).length + (l2.map PyData.int).length) then some (Vw.tmp (l.map PyData.int ++ l2.map PyData.int)) else none) = _
    rw [List.length_map, List.length_map, show szOk (l.length + l2.length) = true from decide_eq_true (by omega), List.map_append]
    rfl
  exact asg_tmp this e (ls_nb h)
theorem ls_seq {a : Sl} {l : List Int} {i : Nat} {env : SEnv} (h : LS a l) (e : env[i]? = some a) : evI Φ (.seq (.v i)) env = .ok (l.map .int) (env.set i (.sh (iL l))) := by
  rcases h with rfl | rfl
  · simp only [evI, evE, e, Rs.bind, keepF]
    rfl
  · simp only [evI, evE, e, Rs.bind, keepF]
    have : env.set i (.sh (iL l)) = env := by
      refine List.ext_getElem? fun j => ?_
      rw [List.getElem?_set]
      by_cases hj : i = j
      · subst hj
        rw [if_pos rfl, e]
        have := (List.getElem?_eq_some_iff.mp e).1
        rw [if_pos this]
      · rw [if_neg hj]
    rw [this]
    rfl
theorem ne_iL (a : List Int) : cmpD .NotEq (iL a) (iL a) = some false := by
  have e : ∀ a : List Int, PyData.eqvAll (a.map PyData.int) (a.map PyData.int) = true := by
    intro a
    induction a with
    | nil => rfl
    | cons x xs ih =>
      show (PyData.eqv (.int x) (.int x) && PyData.eqvAll (xs.map PyData.int) (xs.map PyData.int)) = true
      rw [eqv_ii, beq_self_eq_true, ih]
      rfl
  have s : SeqAt.shaped (iL a) = true := by
    have := shaped_iT a
    unfold SeqAt.shaped at this ⊢
    exact this
  show (if SeqAt.shaped (iL a) && SeqAt.shaped (iL a) then some (!PyData.eqvAll (a.map PyData.int) (a.map PyData.int)) else none) = _
  rw [s, e]
  rfl
/-! ### the turn's slots -/
def eZ (L : D) (i s : Int) (c d : Ck) (a5 x6 x7 x8 x9 x10 x11 : Sl) : SEnv := [.sh L, .sh (.int i), .own [.int s], .sh (cT c), .sh (cT d), a5, x6, x7, x8, x9, x10, x11, .no]
def Rg (l : List Int) : Prop := ∀ x ∈ l, 0 ≤ x ∧ x ≤ 100000
variable {L : D} {i s : Int} {a5 x6 x7 x8 x9 x10 x11 : Sl} {l : List Int}
theorem for_eqF {n : Nat} {tg : Tg} {it : II} {b : ISs} {env e1 : SEnv} {ds : List D} (h : evI Φ it env = .ok ds e1) : evS Φ n (.for_ tg it b) env = forL (fun x e => match putT e tg x with
      | some e2 => evSs Φ n b e2
      | none => .stuck) ds e1 := by
  simp only [evS, h, Rs.toF] <;> rfl
/-- look about each hour -/
theorem each_about (o : c.Ok) (hl : Rg l) (h5 : LS a5 l) (h6 : nb x6 = true) : ∃ y6, nb y6 = true ∧ evS (Phi T (m + 8)) 100 (.for_ (.one 6) (.seq (.v 5)) (.cons (.ite (.nt (.call "_law_about" (.cons (.v 3) (.cons (.v 6) .nil)))) (.cons (.ret (.k (.bool false))) .nil) .nil) .nil)) (eZ L i s c d a5 x6 x7 x8 x9 x10 x11) = .nxt (eZ L i s c d (.sh (iL l)) y6 x7 x8 x9 x10 x11) := by
  obtain ⟨e, he, y6, g6, rfl⟩ := forL_inv (f := fun x e => match putT e (.one 6) x with
      | some e2 => evSs (Phi T (m + 8)) 100 (.cons (.ite (.nt (.call "_law_about" (.cons (.v 3) (.cons (.v 6) .nil)))) (.cons (.ret (.k (.bool false))) .nil) .nil) .nil) e2
      | none => .stuck) (P := fun e => ∃ x6, nb x6 = true ∧ e = eZ L i s c d (.sh (iL l)) x6 x7 x8 x9 x10 x11) (xs := l.map .int) (env := eZ L i s c d (.sh (iL l)) x6 x7 x8 x9 x10 x11) ⟨x6, h6, rfl⟩ (fun x hx env hP => by
    obtain ⟨h, hh, rfl⟩ := List.mem_map.mp hx
    obtain ⟨r0, r1⟩ := hl h hh
    obtain ⟨x6, h6, rfl⟩ := hP
    have hp : putT (eZ L i s c d (.sh (iL l)) x6 x7 x8 x9 x10 x11) (.one 6) (.int h) = some (eZ L i s c d (.sh (iL l)) (.sh (.int h)) x7 x8 x9 x10 x11) := by
      show putS _ 6 _ = _
      rw [putS_nb (x := x6) rfl h6]
      rfl
    simp only [hp]
    have ca : evE (Phi T (m + 8)) (.call "_law_about" (.cons (.v 3) (.cons (.v 6) .nil))) (eZ L i s c d (.sh (iL l)) (.sh (.int h)) x7 x8 x9 x10 x11) = .ok (.now (.bool true)) (eZ L i s c d (.sh (iL l)) (.sh (.int h)) x7 x8 x9 x10 x11) := callN (fs := runDf (Phi T (m + 7)) d__law_about) (ws := [.now (cT c), .now (.int h)]) rfl rfl rfl rfl rfl (b := []) (about_run (m := m + 2) o r0 (by omega))
    exact ⟨_, by rw [ite_0 (tst (nt_now ca))]; rfl, .sh (.int h), rfl, rfl⟩)
  exact ⟨y6, g6, (for_eqF (ls_seq (i := 5) h5 rfl)).trans he⟩
/-- among, hour by hour -/
theorem each_among {r : Int × Q} (bz : Bz r.2) (hS : ∀ x, 0 ≤ x → (S r.2 x ↔ sh d x - sh c x = r.1)) (hl : Rg l) (h5 : LS a5 l) (h6 : nb x6 = true) : ∃ y6, nb y6 = true ∧ evS (Phi T (m + 8)) 100 (.for_ (.one 6) (.seq (.v 5)) (.cons (.ite (.cmp .NotEq (.call "among" (.cons (.v 10) (.cons (.v 6) .nil))) (.cmp .Eq (.bin .Sub (.call "_law_shows" (.cons (.v 4) (.cons (.v 6) .nil))) (.call "_law_shows" (.cons (.v 3) (.cons (.v 6) .nil)))) (.v 9))) (.cons (.ret (.k (.bool false))) .nil) .nil) .nil)) (eZ L i s c d a5 x6 x7 x8 (.sh (.int r.1)) (.sh (qT r.2)) x11) = .nxt (eZ L i s c d (.sh (iL l)) y6 x7 x8 (.sh (.int r.1)) (.sh (qT r.2)) x11) := by
  obtain ⟨e, he, y6, g6, rfl⟩ := forL_inv (f := fun x e => match putT e (.one 6) x with
      | some e2 => evSs (Phi T (m + 8)) 100 (.cons (.ite (.cmp .NotEq (.call "among" (.cons (.v 10) (.cons (.v 6) .nil))) (.cmp .Eq (.bin .Sub (.call "_law_shows" (.cons (.v 4) (.cons (.v 6) .nil))) (.call "_law_shows" (.cons (.v 3) (.cons (.v 6) .nil)))) (.v 9))) (.cons (.ret (.k (.bool false))) .nil) .nil) .nil) e2
      | none => .stuck) (P := fun e => ∃ x6, nb x6 = true ∧ e = eZ L i s c d (.sh (iL l)) x6 x7 x8 (.sh (.int r.1)) (.sh (qT r.2)) x11) (xs := l.map .int) (env := eZ L i s c d (.sh (iL l)) x6 x7 x8 (.sh (.int r.1)) (.sh (qT r.2)) x11) ⟨x6, h6, rfl⟩ (fun x hx env hP => by
    obtain ⟨h, hh, rfl⟩ := List.mem_map.mp hx
    obtain ⟨r0, r1⟩ := hl h hh
    obtain ⟨x6, h6, rfl⟩ := hP
    have hp : putT (eZ L i s c d (.sh (iL l)) x6 x7 x8 (.sh (.int r.1)) (.sh (qT r.2)) x11) (.one 6) (.int h) = some (eZ L i s c d (.sh (iL l)) (.sh (.int h)) x7 x8 (.sh (.int r.1)) (.sh (qT r.2)) x11) := by
      show putS _ 6 _ = _
      rw [putS_nb (x := x6) rfl h6]
      rfl
    simp only [hp]
    have ca : evE (Phi T (m + 8)) (.call "among" (.cons (.v 10) (.cons (.v 6) .nil))) (eZ L i s c d (.sh (iL l)) (.sh (.int h)) x7 x8 (.sh (.int r.1)) (.sh (qT r.2)) x11) = .ok (.now (.bool (hasB r.2 h))) (eZ L i s c d (.sh (iL l)) (.sh (.int h)) x7 x8 (.sh (.int r.1)) (.sh (qT r.2)) x11) := callN (fs := runDf (Phi T (m + 7)) d_among) (ws := [.now (qT r.2), .now (.int h)]) rfl rfl rfl rfl rfl (b := []) (among_run (m := m + 1) bz r0 (by omega))
    have cb : evE (Phi T (m + 8)) (.cmp .Eq (.bin .Sub (.call "_law_shows" (.cons (.v 4) (.cons (.v 6) .nil))) (.call "_law_shows" (.cons (.v 3) (.cons (.v 6) .nil)))) (.v 9)) (eZ L i s c d (.sh (iL l)) (.sh (.int h)) x7 x8 (.sh (.int r.1)) (.sh (qT r.2)) x11) = .ok (.now (.bool (sh d h - sh c h == r.1))) (eZ L i s c d (.sh (iL l)) (.sh (.int h)) x7 x8 (.sh (.int r.1)) (.sh (qT r.2)) x11) :=
      cmp_nows (d := .int (sh d h - sh c h)) (d' := .int r.1) (bin_now (d := .int (sh d h)) (d' := .int (sh c h)) (lsh_call (m := m + 7) rfl) (lsh_call (m := m + 7) rfl) rfl) rfl (ceq_int _ _)
    have eq : hasB r.2 h = (sh d h - sh c h == r.1) := by
      rw [Bool.eq_iff_iff, hasB_iff bz.v, hS h r0, beq_iff_eq]
    exact ⟨_, by rw [ite_0 (tst (cmp_nows ca cb (by rw [eq, cne_bool, bne_self_eq_false])))]; rfl, .sh (.int h), rfl, rfl⟩)
  exact ⟨y6, g6, (for_eqF (ls_seq (i := 5) h5 rfl)).trans he⟩
end
end K03

set_option Elab.async false
set_option linter.all false
set_option autoImplicit false
set_option maxRecDepth 100000
set_option maxHeartbeats 4000000
/-! # k03: the law -/
namespace K03
open PySem PyE L2 PyV PySem.W Sp
section
def lawB : ISs := (.cons (.asg 2 (.lst (.cons (.ix (.call "_law_numbers" (.cons (.v 0) (.cons (.v 1) (.cons (.k (.int 1)) .nil)))) (.k (.int 0))) .nil))) (.cons (.par [3, 4] (.cons (.callb "_law_clock" 2 .nil) (.cons (.callb "_law_clock" 2 .nil) .nil))) (.cons (.ite (.or (.nt (.call "is_clock" (.cons (.v 3) .nil))) (.or (.call "is_clock" (.cons (.tup (.cons (.k (.int 15)) (.cons (.k .none) .nil))) .nil)) (.or (.call "is_clock" (.cons (.tup (.cons (.k (.int 0)) (.cons (.tup (.cons (.k (.int 5)) (.cons (.k (.int 5)) .nil))) .nil))) .nil)) (.or (.call "is_clock" (.cons (.tup (.cons (.k (.int 0)) (.cons (.tup (.cons (.k (.int 0)) (.cons (.k (.int 5)) .nil))) .nil))) .nil)) (.call "is_clock" (.cons (.tup (.cons (.ix (.v 3) (.k (.int 0))) .nil)) .nil)))))) (.cons (.ret (.k (.bool false))) .nil) .nil) (.cons (.asg 5 (.lst (.cons (.k (.int 30)) (.cons (.callb "_law_draw" 2 (.cons (.k (.int 30000)) .nil)) .nil)))) (.cons (.ite (.cmp .IsNot (.ix (.v 3) (.k (.int 1))) (.k .none)) (.cons (.asg 5 (.bin .Add (.v 5) (.lst (.cons (.bin .Sub (.ix (.ix (.v 3) (.k (.int 1))) (.k (.int 0))) (.k (.int 1))) (.cons (.ix (.ix (.v 3) (.k (.int 1))) (.k (.int 0))) (.cons (.bin .Sub (.ix (.ix (.v 3) (.k (.int 1))) (.k (.int 1))) (.k (.int 1))) (.cons (.ix (.ix (.v 3) (.k (.int 1))) (.k (.int 1))) (.cons (.bin .Add (.ix (.ix (.v 3) (.k (.int 1))) (.k (.int 1))) (.k (.int 8640))) .nil)))))))) .nil) .nil) (.cons (.for_ (.one 6) (.seq (.v 5)) (.cons (.ite (.nt (.call "_law_about" (.cons (.v 3) (.cons (.v 6) .nil)))) (.cons (.ret (.k (.bool false))) .nil) .nil) .nil)) (.cons (.ite (.nt (.call "_law_turns" (.cons (.v 3) .nil))) (.cons (.ret (.k (.bool false))) .nil) .nil) (.cons (.asg 7 (.g "EMPTY" c_EMPTY)) (.cons (.for_ (.one 8) (.seq (.tup (.cons (.v 3) (.cons (.v 4) .nil)))) (.cons (.ite (.cmp .IsNot (.ix (.v 8) (.k (.int 1))) (.k .none)) (.cons (.asg 5 (.bin .Add (.v 5) (.lst (.cons (.bin .Sub (.ix (.ix (.v 8) (.k (.int 1))) (.k (.int 0))) (.k (.int 1))) (.cons (.ix (.ix (.v 8) (.k (.int 1))) (.k (.int 0))) (.cons (.bin .Sub (.ix (.ix (.v 8) (.k (.int 1))) (.k (.int 1))) (.k (.int 1))) (.cons (.ix (.ix (.v 8) (.k (.int 1))) (.k (.int 1))) .nil))))))) .nil) .nil) .nil)) (.cons (.for_ (.many [9, 10]) (.seq (.call "apart" (.cons (.v 3) (.cons (.v 4) .nil)))) (.cons (.ite (.or (.cmp .NotEq (.call "both" (.cons (.v 7) (.cons (.v 10) .nil))) (.g "EMPTY" c_EMPTY)) (.cmp .Eq (.v 10) (.g "EMPTY" c_EMPTY))) (.cons (.ret (.k (.bool false))) .nil) .nil) (.cons (.asg 7 (.call "either" (.cons (.v 7) (.cons (.v 10) .nil)))) (.cons (.for_ (.one 6) (.seq (.v 5)) (.cons (.ite (.cmp .NotEq (.call "among" (.cons (.v 10) (.cons (.v 6) .nil))) (.cmp .Eq (.bin .Sub (.call "_law_shows" (.cons (.v 4) (.cons (.v 6) .nil))) (.call "_law_shows" (.cons (.v 3) (.cons (.v 6) .nil)))) (.v 9))) (.cons (.ret (.k (.bool false))) .nil) .nil) .nil)) .nil)))) (.cons (.asg 11 (.lc (.ix (.v 12) (.k (.int 0))) (.one 12) (.seq (.call "apart" (.cons (.v 3) (.cons (.v 4) .nil)))) .none [12])) (.cons (.ite (.or (.cmp .NotEq (.v 7) (.g "ALWAYS" c_ALWAYS)) (.or (.cmp .NotEq (.v 11) (.sset (.v 11))) (.cmp .NotEq (.call "apart" (.cons (.v 3) (.cons (.v 3) .nil))) (.tup (.cons (.tup (.cons (.k (.int 0)) (.cons (.g "ALWAYS" c_ALWAYS) .nil))) .nil))))) (.cons (.ret (.k (.bool false))) .nil) .nil) .nil))))))))))))
variable {m : Nat} {c d : Ck} {L : D} {i s : Int} {a5 x6 x7 x8 x9 x10 x11 : Sl} {l : List Int}
/-- hours at a clock's turns are added -/
def add4 (c : Ck) : List Int := match c.tn with
  | none => []
  | some r => [r.1 - 1, r.1, r.2 - 1, r.2]
def adT : ISs := (.cons (.ite (.cmp .IsNot (.ix (.v 8) (.k (.int 1))) (.k .none)) (.cons (.asg 5 (.bin .Add (.v 5) (.lst (.cons (.bin .Sub (.ix (.ix (.v 8) (.k (.int 1))) (.k (.int 0))) (.k (.int 1))) (.cons (.ix (.ix (.v 8) (.k (.int 1))) (.k (.int 0))) (.cons (.bin .Sub (.ix (.ix (.v 8) (.k (.int 1))) (.k (.int 1))) (.k (.int 1))) (.cons (.ix (.ix (.v 8) (.k (.int 1))) (.k (.int 1))) .nil))))))) .nil) .nil) .nil)
theorem add4_rg {k : Ck} (o : k.Ok) : Rg (add4 k) ∧ (add4 k).length ≤ 4 := by
  unfold add4
  cases e : k.tn with
  | none => exact ⟨fun x h => (by cases h), by decide⟩
  | some r =>
    obtain ⟨t1, t2, t3⟩ := o.t r e
    refine ⟨fun x h => ?_, by show 4 ≤ 4; decide⟩
    simp only [List.mem_cons, List.not_mem_nil, or_false] at h
    omega
theorem ad_turn {k : Ck} (h5 : LS a5 l) (hz : l.length + 4 ≤ 1000) : ∃ b5, LS b5 (l ++ add4 k) ∧ evSs (Phi T (m + 8)) 100 adT (eZ L i s c d a5 x6 x7 (.sh (cT k)) x9 x10 x11) = .nxt (eZ L i s c d b5 x6 x7 (.sh (cT k)) x9 x10 x11) := by
  obtain ⟨ah, tn⟩ := k
  unfold adT
  cases tn with
  | none =>
    refine ⟨a5, by show LS a5 (l ++ []); rw [List.append_nil]; exact h5, ?_⟩
    rw [ite_0 (e1 := eZ L i s c d a5 x6 x7 (.sh (cT ⟨ah, none⟩)) x9 x10 x11) rfl]
    rfl
  | some r =>
    refine ⟨.own ((l ++ [r.1 - 1, r.1, r.2 - 1, r.2]).map .int), .inl rfl, ?_⟩
    have t : evT (Phi T (m + 8)) (.cmp .IsNot (.ix (.v 8) (.k (.int 1))) (.k .none)) (eZ L i s c d a5 x6 x7 (.sh (cT ⟨ah, some r⟩)) x9 x10 x11) = .ok true (eZ L i s c d a5 x6 x7 (.sh (cT ⟨ah, some r⟩)) x9 x10 x11) := rfl
    rw [if_tn t (e2 := eZ L i s c d (.own ((l ++ [r.1 - 1, r.1, r.2 - 1, r.2]).map .int)) x6 x7 (.sh (cT ⟨ah, some r⟩)) x9 x10 x11) (by
      rw [seq_nxt (ls_add (l2 := [r.1 - 1, r.1, r.2 - 1, r.2]) h5 rfl rfl (by show l.length + 4 ≤ 1000; exact hz))]
      rfl)]
    rfl
/-- the times of each difference -/
def apB : ISs := (.cons (.ite (.or (.cmp .NotEq (.call "both" (.cons (.v 7) (.cons (.v 10) .nil))) (.g "EMPTY" c_EMPTY)) (.cmp .Eq (.v 10) (.g "EMPTY" c_EMPTY))) (.cons (.ret (.k (.bool false))) .nil) .nil) (.cons (.asg 7 (.call "either" (.cons (.v 7) (.cons (.v 10) .nil)))) (.cons (.for_ (.one 6) (.seq (.v 5)) (.cons (.ite (.cmp .NotEq (.call "among" (.cons (.v 10) (.cons (.v 6) .nil))) (.cmp .Eq (.bin .Sub (.call "_law_shows" (.cons (.v 4) (.cons (.v 6) .nil))) (.call "_law_shows" (.cons (.v 3) (.cons (.v 6) .nil)))) (.v 9))) (.cons (.ret (.k (.bool false))) .nil) .nil) .nil)) .nil)))
theorem ap_loop (hl : Rg l) : ∀ (rs : List (Int × Q)) (t : Q) (P : Int → Prop) (a5 x6 x9 x10 : Sl), (∀ r ∈ rs, Bz r.2 ∧ (∀ x, 0 ≤ x → (S r.2 x ↔ sh d x - sh c x = r.1)) ∧ (∃ x, 0 ≤ x ∧ S r.2 x)) → (rs.Pairwise fun a b => a.1 < b.1) → Bz t → (∀ x, 0 ≤ x → (S t x ↔ P x)) → (∀ x, 0 ≤ x → P x → ∀ r ∈ rs, sh d x - sh c x < r.1) → LS a5 l → nb x6 = true → nb x9 = true → nb x10 = true →
    ∃ t' b5 y6 y9 y10, Bz t' ∧ (∀ x, 0 ≤ x → (S t' x ↔ P x ∨ ∃ r ∈ rs, sh d x - sh c x = r.1)) ∧ LS b5 l ∧ nb y6 = true ∧ nb y9 = true ∧ nb y10 = true ∧ forL (fun x e => match putT e (.many [9, 10]) x with
      | some e2 => evSs (Phi T (m + 8)) 100 apB e2
      | none => .stuck) (rs.map gT) (eZ L i s c d a5 x6 (.sh (qT (redQ t))) x8 x9 x10 x11) = .nxt (eZ L i s c d b5 y6 (.sh (qT (redQ t'))) x8 y9 y10 x11)
  | [], t, P, a5, x6, x9, x10, _, _, bt, hP, _, h5, h6, h9, h10 => ⟨t, a5, x6, x9, x10, bt, fun x hx => by rw [hP x hx]; simp, h5, h6, h9, h10, rfl⟩
  | r :: rs, t, P, a5, x6, x9, x10, hr, pw, bt, hP, hd, h5, h6, h9, h10 => by
    obtain ⟨bz, hS, y, hy, sy⟩ := hr r List.mem_cons_self
    obtain ⟨pw1, pw2⟩ := List.pairwise_cons.mp pw
    have hp : putT (eZ L i s c d a5 x6 (.sh (qT (redQ t))) x8 x9 x10 x11) (.many [9, 10]) (gT r) = some (eZ L i s c d a5 x6 (.sh (qT (redQ t))) x8 (.sh (.int r.1)) (.sh (qT r.2)) x11) := by
      show (putS _ 9 (.sh (.int r.1))).bind _ = _
      rw [putS_nb (x := x9) rfl h9]
      show (putS _ 10 (.sh (qT r.2))).bind _ = _
      rw [putS_nb (x := x10) rfl h10]
      rfl
    have bt' := bt.red
    have ht : ∀ x, 0 ≤ x → (S (redQ t) x ↔ P x) := fun x hx => by rw [(nf_red bt.v).2 x hx]; exact hP x hx
    -- both is none
    have cb : evE (Phi T (m + 8)) (.call "both" (.cons (.v 7) (.cons (.v 10) .nil))) (eZ L i s c d a5 x6 (.sh (qT (redQ t))) x8 (.sh (.int r.1)) (.sh (qT r.2)) x11) = .ok (.now (qT noneQ)) (eZ L i s c d a5 x6 (.sh (qT (redQ t))) x8 (.sh (.int r.1)) (.sh (qT r.2)) x11) := by
      have b := bt'.comm bz
      have := both_run (m := m) bt'.ti bz.ti b.red.ti
      rw [red_none b.v fun x hx sx => by
        obtain ⟨u1, u2⟩ := ((comm_spec bt'.v bz.v).2 x hx).mp sx
        have := hd x hx ((ht x hx).mp u1) r List.mem_cons_self
        have := (hS x hx).mp u2
        omega] at this
      exact callN (fs := runDf (Phi T (m + 7)) d_both) (ws := [.now (qT (redQ t)), .now (qT r.2)]) rfl rfl rfl rfl rfl (b := []) this
    have c1 : evE (Phi T (m + 8)) (.cmp .NotEq (.call "both" (.cons (.v 7) (.cons (.v 10) .nil))) (.g "EMPTY" c_EMPTY)) (eZ L i s c d a5 x6 (.sh (qT (redQ t))) x8 (.sh (.int r.1)) (.sh (qT r.2)) x11) = .ok (.now (.bool false)) (eZ L i s c d a5 x6 (.sh (qT (redQ t))) x8 (.sh (.int r.1)) (.sh (qT r.2)) x11) := cmp_nows (d' := qT noneQ) cb rfl (by rw [cne_q, decide_eq_true rfl]; rfl)
    have c2 : evE (Phi T (m + 8)) (.cmp .Eq (.v 10) (.g "EMPTY" c_EMPTY)) (eZ L i s c d a5 x6 (.sh (qT (redQ t))) x8 (.sh (.int r.1)) (.sh (qT r.2)) x11) = .ok (.now (.bool false)) (eZ L i s c d a5 x6 (.sh (qT (redQ t))) x8 (.sh (.int r.1)) (.sh (qT r.2)) x11) := cmp_nows (d := qT r.2) (d' := qT noneQ) rfl rfl (by rw [ceq_q, decide_eq_false fun z => S_none y (by rw [← z]; exact sy)])
    have ce : evE (Phi T (m + 8)) (.call "either" (.cons (.v 7) (.cons (.v 10) .nil))) (eZ L i s c d a5 x6 (.sh (qT (redQ t))) x8 (.sh (.int r.1)) (.sh (qT r.2)) x11) = .ok (.now (qT (redQ (joinQ (redQ t) r.2)))) (eZ L i s c d a5 x6 (.sh (qT (redQ t))) x8 (.sh (.int r.1)) (.sh (qT r.2)) x11) :=
      callN (fs := runDf (Phi T (m + 7)) d_either) (ws := [.now (qT (redQ t)), .now (qT r.2)]) rfl rfl rfl rfl rfl (b := []) (either_run (m := m) bt'.ti bz.ti (bt'.join bz).red.ti)
    obtain ⟨z6, g6, ea⟩ := each_among (m := m) (L := L) (i := i) (s := s) (c := c) (d := d) (x7 := .sh (qT (redQ (joinQ (redQ t) r.2)))) (x8 := x8) (x11 := x11) bz hS hl h5 h6
    have turn : evSs (Phi T (m + 8)) 100 apB (eZ L i s c d a5 x6 (.sh (qT (redQ t))) x8 (.sh (.int r.1)) (.sh (qT r.2)) x11) = .nxt (eZ L i s c d (.sh (iL l)) z6 (.sh (qT (redQ (joinQ (redQ t) r.2)))) x8 (.sh (.int r.1)) (.sh (qT r.2)) x11) := by
      unfold apB
      rw [ite_0 (tst ((or_f c1).trans c2))]
      rw [seq_nxt (e1 := eZ L i s c d a5 x6 (.sh (qT (redQ (joinQ (redQ t) r.2)))) x8 (.sh (.int r.1)) (.sh (qT r.2)) x11) (asg_now ce (x := .sh (qT (redQ t))) rfl rfl)]
      rw [seq_nxt ea]
      rfl
    obtain ⟨t', b5, y6, y9, y10, q1, q2, q3, q4, q5, q6, q7⟩ := ap_loop hl rs (joinQ (redQ t) r.2) (fun x => P x ∨ sh d x - sh c x = r.1) (.sh (iL l)) z6 (.sh (.int r.1)) (.sh (qT r.2)) (fun r' hr' => hr r' (List.mem_cons_of_mem _ hr')) pw2 (bt'.join bz) (fun x hx => by rw [(join_spec bt'.v bz.v).2 x hx, ht x hx, hS x hx]) (fun x hx hp r' hr' => by
      rcases hp with z | z
      · exact hd x hx z r' (List.mem_cons_of_mem _ hr')
      · rw [z]
        exact pw1 r' hr') (.inr rfl) g6 rfl rfl
    refine ⟨t', b5, y6, y9, y10, q1, fun x hx => ?_, q3, q4, q5, q6, ?_⟩
    · rw [q2 x hx]
      constructor
      · rintro ((z | z) | ⟨r', h1, h2⟩)
        · exact .inl z
        · exact .inr ⟨r, List.mem_cons_self, z⟩
        · exact .inr ⟨r', List.mem_cons_of_mem _ h1, h2⟩
      · rintro (z | ⟨r', h1, h2⟩)
        · exact .inl (.inl z)
        · rcases List.mem_cons.mp h1 with w | w
          · rw [w] at h2; exact .inl (.inr h2)
          · exact .inr ⟨r', w, h2⟩
    · rw [List.map_cons]
      unfold forL
      simp only [hp]
      rw [turn]
      exact q7
theorem apart_call {es : IEs} {env e1 : SEnv} (o : c.Ok) (o2 : d.Ok) (hes : evEs (Phi T (m + 9)) es env = .ok [.now (cT c), .now (cT d)] e1) : evE (Phi T (m + 9)) (.call "apart" es) env = .ok (.now (.tuple ((apA c d).map gT))) e1 :=
  callN (fs := runDf (Phi T (m + 8)) d_apart) rfl hes rfl rfl rfl (b := []) (apart_run o o2)
theorem rg_app {l1 l2 : List Int} (h1 : Rg l1) (h2 : Rg l2) : Rg (l1 ++ l2) := fun x hx => (List.mem_append.mp hx).elim (h1 x) (h2 x)
def add5 (c : Ck) : List Int := match c.tn with
  | none => []
  | some r => [r.1 - 1, r.1, r.2 - 1, r.2, r.2 + 8640]
theorem add5_rg {k : Ck} (o : k.Ok) : Rg (add5 k) ∧ (add5 k).length ≤ 5 := by
  unfold add5
  cases e : k.tn with
  | none => exact ⟨fun x h => (by cases h), by decide⟩
  | some r =>
    obtain ⟨t1, t2, t3⟩ := o.t r e
    refine ⟨fun x h => ?_, by show 5 ≤ 5; decide⟩
    simp only [List.mem_cons, List.not_mem_nil, or_false] at h
    omega
theorem law_turn {ns : List Int} (hL : L = .list (ns.map .int)) {i : Nat} {x2 x3 x4 a5 x6 x7 x8 x9 x10 x11 : Sl} (n2 : nb x2 = true) (n3 : nb x3 = true) (n4 : nb x4 = true) (n5 : nb a5 = true) (n6 : nb x6 = true) (n7 : nb x7 = true) (n8 : nb x8 = true) (n9 : nb x9 = true) (n10 : nb x10 = true) (n11 : nb x11 = true) :
    ∃ y2 y3 y4 y5 y6 y7 y8 y9 y10 y11, nb y2 = true ∧ nb y3 = true ∧ nb y4 = true ∧ nb y5 = true ∧ nb y6 = true ∧ nb y7 = true ∧ nb y8 = true ∧ nb y9 = true ∧ nb y10 = true ∧ nb y11 = true ∧
      evSs (Phi T (m + 9)) 100 lawB [.sh L, .sh (.int (i : Nat)), x2, x3, x4, a5, x6, x7, x8, x9, x10, x11, .no] = .nxt [.sh L, .sh (.int (i : Nat)), y2, y3, y4, y5, y6, y7, y8, y9, y10, y11, .no] := by
  subst hL
  obtain ⟨xs, xl, _, hn⟩ := numbers_run (Phi T (m + 8)) ns i 1 (by decide)
  obtain ⟨s0, rfl⟩ : ∃ s0, xs = [s0] := by
    match xs, xl with
    | [a], _ => exact ⟨a, rfl⟩
  generalize hL : PyData.list (ns.map .int) = L at hn
  have cn : evE (Phi T (m + 9)) (.call "_law_numbers" (.cons (.v 0) (.cons (.v 1) (.cons (.k (.int 1)) .nil)))) [.sh L, .sh (.int (i : Nat)), x2, x3, x4, a5, x6, x7, x8, x9, x10, x11, .no] = .ok (.now (.list [.int s0])) [.sh L, .sh (.int (i : Nat)), x2, x3, x4, a5, x6, x7, x8, x9, x10, x11, .no] :=
    callN (fs := runDf (Phi T (m + 8)) d__law_numbers) (ws := [.now L, .now (.int (i : Nat)), .now (.int 1)]) rfl rfl rfl rfl rfl (b := []) hn
  unfold lawB
  have s2 : evS (Phi T (m + 9)) 100 (.asg 2 (.lst (.cons (.ix (.call "_law_numbers" (.cons (.v 0) (.cons (.v 1) (.cons (.k (.int 1)) .nil)))) (.k (.int 0))) .nil))) [.sh L, .sh (.int (i : Nat)), x2, x3, x4, a5, x6, x7, x8, x9, x10, x11, .no] = .nxt [.sh L, .sh (.int (i : Nat)), .own [.int s0], x3, x4, a5, x6, x7, x8, x9, x10, x11, .no] := by
    rw [asg_tmp (lst_of (es_cons (ix_now (z := .int s0) cn rfl rfl) rfl) rfl rfl) (x := x2) rfl n2]
    rfl
  rw [seq_nxt s2]
  obtain ⟨c, t1, tp, oc⟩ := clock_cb (m := m + 7) (s := s0) (env := [.sh L, .sh (.int (i : Nat)), .own [.int s0], x3, x4, a5, x6, x7, x8, x9, x10, x11, .no]) (i := 2) rfl
  obtain ⟨d, t2, tq, od⟩ := clock_cb (m := m + 7) (s := t1) (env := [.sh L, .sh (.int (i : Nat)), .own [.int t1], x3, x4, a5, x6, x7, x8, x9, x10, x11, .no]) (i := 2) rfl
  have s3 : evS (Phi T (m + 9)) 100 (.par [3, 4] (.cons (.callb "_law_clock" 2 .nil) (.cons (.callb "_law_clock" 2 .nil) .nil))) [.sh L, .sh (.int (i : Nat)), .own [.int s0], x3, x4, a5, x6, x7, x8, x9, x10, x11, .no] = .nxt (eZ L i t2 c d a5 x6 x7 x8 x9 x10 x11) := by
    refine par_n (ws := [.now (cT c), .now (cT d)]) (ds := [cT c, cT d]) (e1 := [.sh L, .sh (.int (i : Nat)), .own [.int t2], x3, x4, a5, x6, x7, x8, x9, x10, x11, .no]) (e2 := [.sh L, .sh (.int (i : Nat)), .own [.int t2], x3, x4, a5, x6, x7, x8, x9, x10, x11, .no]) (es_cons tp (es_cons tq rfl)) rfl ?_
    show (putS _ 3 (.sh (cT c))).bind _ = _
    rw [putS_nb (x := x3) rfl n3]
    show (putS _ 4 (.sh (cT d))).bind _ = _
    rw [putS_nb (x := x4) rfl n4]
    rfl
  rw [seq_nxt s3]
  have k1 : evE (Phi T (m + 9)) (.call "is_clock" (.cons (.v 3) .nil)) (eZ L i t2 c d a5 x6 x7 x8 x9 x10 x11) = .ok (.now (.bool true)) (eZ L i t2 c d a5 x6 x7 x8 x9 x10 x11) := callN (fs := runDf (Phi T (m + 8)) d_is_clock) (ws := [.now (cT c)]) rfl rfl rfl rfl rfl (b := []) (is_clock_run (m := m + 4) oc)
  have kc : ∀ (es : IEs) (x : D), evEs (Phi T (m + 9)) es (eZ L i t2 c d a5 x6 x7 x8 x9 x10 x11) = .ok [.now x] (eZ L i t2 c d a5 x6 x7 x8 x9 x10 x11) → (runDf (Phi T (m + 8)) d_is_clock).run [x] = .ret (.bool false) [] → evE (Phi T (m + 9)) (.call "is_clock" es) (eZ L i t2 c d a5 x6 x7 x8 x9 x10 x11) = .ok (.now (.bool false)) (eZ L i t2 c d a5 x6 x7 x8 x9 x10 x11) := fun es x h1 h2 => callN (fs := runDf (Phi T (m + 8)) d_is_clock) rfl h1 rfl rfl rfl (b := []) h2
  have k2 := kc (.cons (.tup (.cons (.k (.int 15)) (.cons (.k .none) .nil))) .nil) (.tuple [.int 15, .none]) rfl (by kernel_rfl)
  have k3 := kc (.cons (.tup (.cons (.k (.int 0)) (.cons (.tup (.cons (.k (.int 5)) (.cons (.k (.int 5)) .nil))) .nil))) .nil) (.tuple [.int 0, .tuple [.int 5, .int 5]]) rfl (by kernel_rfl)
  have k4 := kc (.cons (.tup (.cons (.k (.int 0)) (.cons (.tup (.cons (.k (.int 0)) (.cons (.k (.int 5)) .nil))) .nil))) .nil) (.tuple [.int 0, .tuple [.int 0, .int 5]]) rfl (by kernel_rfl)
  have k5 := kc (.cons (.tup (.cons (.ix (.v 3) (.k (.int 0))) .nil)) .nil) (.tuple [.int c.ah]) rfl (by kernel_rfl)
  rw [ite_0 (tst ((or_f (nt_now k1)).trans ((or_f k2).trans ((or_f k3).trans ((or_f k4).trans k5)))))]
  obtain ⟨v0, v1⟩ := val_range t2 (show (0 : Int) < 30000 by decide)
  have kd : evE (Phi T (m + 9)) (.callb "_law_draw" 2 (.cons (.k (.int 30000)) .nil)) (eZ L i t2 c d a5 x6 x7 x8 x9 x10 x11) = .ok (.now (.int (valS t2 30000))) (eZ L i (nxtS t2) c d a5 x6 x7 x8 x9 x10 x11) :=
    callbN (fs := runDf (Phi T (m + 8)) d__law_draw) (ws := [.now (.int 30000)]) (ds := [.int 30000]) (bs := [.int t2]) (bo := [.int (nxtS t2)]) (e1 := eZ L i t2 c d a5 x6 x7 x8 x9 x10 x11) (e2 := eZ L i t2 c d a5 x6 x7 x8 x9 x10 x11) rfl rfl rfl rfl rfl rfl rfl (draw_run (Phi T (m + 8)) t2 30000 (by decide))
  generalize hv : valS t2 30000 = v at v0 v1 kd
  generalize hs : nxtS t2 = s4 at kd
  rw [seq_nxt (e1 := eZ L i s4 c d (.own ([30, v].map .int)) x6 x7 x8 x9 x10 x11) (asg_tmpF (ds := [.int 30, .int v]) (lst_of (ws := [.now (.int 30), .now (.int v)]) (e2 := eZ L i s4 c d a5 x6 x7 x8 x9 x10 x11) (es_cons (w := .now (.int 30)) rfl (es_cons kd rfl)) rfl rfl) (x := a5) rfl n5)]
  -- the hours of the first clock's turns
  have rg1 : Rg ([30, v] ++ add5 c) := rg_app (fun x hx => by
    rcases List.mem_cons.mp hx with z | z
    · omega
    · have := List.mem_singleton.mp z
      omega) (add5_rg oc).1
  have l5 := (add5_rg oc).2
  obtain ⟨b5, hb5, sb5⟩ : ∃ b5, LS b5 ([30, v] ++ add5 c) ∧ ∀ r, evSs (Phi T (m + 9)) 100 (.cons (.ite (.cmp .IsNot (.ix (.v 3) (.k (.int 1))) (.k .none)) (.cons (.asg 5 (.bin .Add (.v 5) (.lst (.cons (.bin .Sub (.ix (.ix (.v 3) (.k (.int 1))) (.k (.int 0))) (.k (.int 1))) (.cons (.ix (.ix (.v 3) (.k (.int 1))) (.k (.int 0))) (.cons (.bin .Sub (.ix (.ix (.v 3) (.k (.int 1))) (.k (.int 1))) (.k (.int 1))) (.cons (.ix (.ix (.v 3) (.k (.int 1))) (.k (.int 1))) (.cons (.bin .Add (.ix (.ix (.v 3) (.k (.int 1))) (.k (.int 1))) (.k (.int 8640))) .nil)))))))) .nil) .nil) r) (eZ L i s4 c d (.own ([30, v].map .int)) x6 x7 x8 x9 x10 x11) = evSs (Phi T (m + 9)) 100 r (eZ L i s4 c d b5 x6 x7 x8 x9 x10 x11) := by
    obtain ⟨ah, tn⟩ := c
    cases tn with
    | none =>
      refine ⟨.own ([30, v].map .int), .inl rfl, fun r => ?_⟩
      rw [ite_0 (e1 := eZ L i s4 ⟨ah, none⟩ d (.own ([30, v].map .int)) x6 x7 x8 x9 x10 x11) rfl]
    | some q =>
      refine ⟨.own (([30, v] ++ [q.1 - 1, q.1, q.2 - 1, q.2, q.2 + 8640]).map .int), .inl rfl, fun r => ?_⟩
      have t : evT (Phi T (m + 9)) (.cmp .IsNot (.ix (.v 3) (.k (.int 1))) (.k .none)) (eZ L i s4 ⟨ah, some q⟩ d (.own ([30, v].map .int)) x6 x7 x8 x9 x10 x11) = .ok true (eZ L i s4 ⟨ah, some q⟩ d (.own ([30, v].map .int)) x6 x7 x8 x9 x10 x11) := rfl
      rw [if_tn t (e2 := eZ L i s4 ⟨ah, some q⟩ d (.own (([30, v] ++ [q.1 - 1, q.1, q.2 - 1, q.2, q.2 + 8640]).map .int)) x6 x7 x8 x9 x10 x11) (by
        rw [seq_nxt (ls_add (l := [30, v]) (l2 := [q.1 - 1, q.1, q.2 - 1, q.2, q.2 + 8640]) (.inl rfl) rfl rfl (by show 2 + 5 ≤ 1000; decide))]
        rfl)]
  rw [sb5]
  generalize hl1 : [30, v] ++ add5 c = l1 at rg1 hb5
  have ll1 : l1.length ≤ 7 := by rw [← hl1, List.length_append]; simp; omega
  obtain ⟨z6, g6, ea⟩ := each_about (m := m + 1) (L := L) (i := i) (s := s4) (d := d) (x7 := x7) (x8 := x8) (x9 := x9) (x10 := x10) (x11 := x11) oc rg1 hb5 n6
  rw [seq_nxt ea]
  have kt : evE (Phi T (m + 9)) (.call "_law_turns" (.cons (.v 3) .nil)) (eZ L i s4 c d (.sh (iL l1)) z6 x7 x8 x9 x10 x11) = .ok (.now (.bool true)) (eZ L i s4 c d (.sh (iL l1)) z6 x7 x8 x9 x10 x11) := callN (fs := runDf (Phi T (m + 8)) d__law_turns) (ws := [.now (cT c)]) rfl rfl rfl rfl rfl (b := []) (turns_run (m := m + 3) oc)
  rw [ite_0 (tst (nt_now kt))]
  have s7 : evS (Phi T (m + 9)) 100 (.asg 7 (.g "EMPTY" c_EMPTY)) (eZ L i s4 c d (.sh (iL l1)) z6 x7 x8 x9 x10 x11) = .nxt (eZ L i s4 c d (.sh (iL l1)) z6 (.sh (qT (redQ noneQ))) x8 x9 x10 x11) := by
    rw [asg_now (d := qT noneQ) (e1 := eZ L i s4 c d (.sh (iL l1)) z6 x7 x8 x9 x10 x11) rfl (x := x7) rfl n7, red_nf nf_none]
    rfl
  rw [seq_nxt s7]
  -- the hours of both clocks' turns
  have f4 := add4_rg oc
  have f4d := add4_rg od
  obtain ⟨c5, hc5, t8⟩ := ad_turn (m := m + 1) (L := L) (i := i) (s := s4) (c := c) (d := d) (k := c) (x6 := z6) (x7 := .sh (qT (redQ noneQ))) (x9 := x9) (x10 := x10) (x11 := x11) (a5 := .sh (iL l1)) (.inr rfl) (by omega)
  obtain ⟨d5, hd5, t9⟩ := ad_turn (m := m + 1) (L := L) (i := i) (s := s4) (c := c) (d := d) (k := d) (x6 := z6) (x7 := .sh (qT (redQ noneQ))) (x9 := x9) (x10 := x10) (x11 := x11) hc5 (by rw [List.length_append]; omega)
  have s8 : evS (Phi T (m + 9)) 100 (.for_ (.one 8) (.seq (.tup (.cons (.v 3) (.cons (.v 4) .nil)))) adT) (eZ L i s4 c d (.sh (iL l1)) z6 (.sh (qT (redQ noneQ))) x8 x9 x10 x11) = .nxt (eZ L i s4 c d d5 z6 (.sh (qT (redQ noneQ))) (.sh (cT d)) x9 x10 x11) := by
    rw [for_eq (ds := [cT c, cT d]) rfl]
    have p1 : putT (eZ L i s4 c d (.sh (iL l1)) z6 (.sh (qT (redQ noneQ))) x8 x9 x10 x11) (.one 8) (cT c) = some (eZ L i s4 c d (.sh (iL l1)) z6 (.sh (qT (redQ noneQ))) (.sh (cT c)) x9 x10 x11) := by
      show putS _ 8 _ = _
      rw [putS_nb (x := x8) rfl n8]
      rfl
    have p2 : putT (eZ L i s4 c d c5 z6 (.sh (qT (redQ noneQ))) (.sh (cT c)) x9 x10 x11) (.one 8) (cT d) = some (eZ L i s4 c d c5 z6 (.sh (qT (redQ noneQ))) (.sh (cT d)) x9 x10 x11) := rfl
    simp only [forL, p1, t8, p2, t9]
  unfold adT at s8
  rw [seq_nxt s8]
  have rg2 : Rg (l1 ++ add4 c ++ add4 d) := rg_app (rg_app rg1 f4.1) f4d.1
  obtain ⟨t', b5, y6, y9, y10, q1, q2, q3, q4, q5, q6, q7⟩ := ap_loop (m := m + 1) (L := L) (i := i) (s := s4) (c := c) (d := d) (x8 := .sh (cT d)) (x11 := x11) rg2 (apA c d) noneQ (fun _ => False) d5 z6 x9 x10 (ap_S oc od) ap_asc bz_none (fun x _ => ⟨fun z => S_none x z, fun z => z.elim⟩) (fun x _ z => z.elim) hd5 g6 n9 n10
  have ia : evI (Phi T (m + 9)) (.seq (.call "apart" (.cons (.v 3) (.cons (.v 4) .nil)))) (eZ L i s4 c d d5 z6 (.sh (qT (redQ noneQ))) (.sh (cT d)) x9 x10 x11) = .ok ((apA c d).map gT) (eZ L i s4 c d d5 z6 (.sh (qT (redQ noneQ))) (.sh (cT d)) x9 x10 x11) := by
    have ca := apart_call (m := m) (es := .cons (.v 3) (.cons (.v 4) .nil)) (env := eZ L i s4 c d d5 z6 (.sh (qT (redQ noneQ))) (.sh (cT d)) x9 x10 x11) (e1 := eZ L i s4 c d d5 z6 (.sh (qT (redQ noneQ))) (.sh (cT d)) x9 x10 x11) oc od rfl
    simp only [evI, ca, Rs.bind, keepF]
    rfl
  unfold apB at q7
  rw [seq_nxt ((for_eq ia).trans q7)]
  have hall : redQ t' = allQ := red_all q1.v fun x hx => (q2 x hx).mpr (.inr (ap_all oc od hx))
  rw [hall]
  -- the rows
  have la : (apA c d).length ≤ 3 := by
    unfold apA
    rw [List.length_map]
    exact List.length_filter_le _ _
  have lc := lc_map (Φ := Phi T (m + 9)) (e := .ix (.v 12) (.k (.int 0))) (tg := .one 12) (it := .seq (.call "apart" (.cons (.v 3) (.cons (.v 4) .nil)))) (own := [12]) (env := eZ L i s4 c d b5 y6 (.sh (qT allQ)) (.sh (cT d)) y9 y10 x11) (e1 := eZ L i s4 c d b5 y6 (.sh (qT allQ)) (.sh (cT d)) y9 y10 x11) (xs := apA c d) (enc := gT) (f := fun r => .int r.1) (by
    have ca := apart_call (m := m) (es := .cons (.v 3) (.cons (.v 4) .nil)) (env := eZ L i s4 c d b5 y6 (.sh (qT allQ)) (.sh (cT d)) y9 y10 x11) (e1 := eZ L i s4 c d b5 y6 (.sh (qT allQ)) (.sh (cT d)) y9 y10 x11) oc od rfl
    simp only [evI, ca, Rs.bind, keepF]
    rfl) rfl rfl (fun r _ => rfl) (by omega)
  have hrl : (apA c d).map (fun r => PyData.int r.1) = ((apA c d).map (·.1)).map PyData.int := by
    rw [List.map_map]
    rfl
  rw [hrl] at lc
  have asc : ((apA c d).map (·.1)).Pairwise (· < ·) := by
    rw [List.pairwise_map]
    exact ap_asc
  have us : usort ((apA c d).map (·.1)) = (apA c d).map (·.1) := asc_uniq (usort_asc _) asc fun k => usort_mem _ k
  have ul : ((apA c d).map (·.1)).length ≤ 3 := by rw [List.length_map]; exact la
  generalize (apA c d).map (·.1) = rl at lc us ul
  rw [seq_nxt (e1 := eZ L i s4 c d b5 y6 (.sh (qT allQ)) (.sh (cT d)) y9 y10 (.own (rl.map .int))) (asg_tmp lc (x := x11) rfl n11)]
  have k7 : evE (Phi T (m + 9)) (.cmp .NotEq (.v 7) (.g "ALWAYS" c_ALWAYS)) (eZ L i s4 c d b5 y6 (.sh (qT allQ)) (.sh (cT d)) y9 y10 (.own (rl.map .int))) = .ok (.now (.bool false)) (eZ L i s4 c d b5 y6 (.sh (qT allQ)) (.sh (cT d)) y9 y10 (.own (rl.map .int))) := cmp_nows (d := qT allQ) (d' := qT allQ) rfl rfl (by rw [cne_q, decide_eq_true rfl]; rfl)
  have k8 : evE (Phi T (m + 9)) (.cmp .NotEq (.v 11) (.sset (.v 11))) (eZ L i s4 c d b5 y6 (.sh (qT allQ)) (.sh (cT d)) y9 y10 (.own (rl.map .int))) = .ok (.now (.bool false)) (eZ L i s4 c d b5 y6 (.sh (qT allQ)) (.sh (cT d)) y9 y10 (.own (rl.map .int))) := by
    have v11 : evE (Phi T (m + 9)) (.v 11) (eZ L i s4 c d b5 y6 (.sh (qT allQ)) (.sh (cT d)) y9 y10 (.own (rl.map .int))) = .ok (.late 11) (eZ L i s4 c d b5 y6 (.sh (qT allQ)) (.sh (cT d)) y9 y10 (.own (rl.map .int))) := rfl
    have lk : look (eZ L i s4 c d b5 y6 (.sh (qT allQ)) (.sh (cT d)) y9 y10 (.own (rl.map .int))) (.late 11) = some (iL rl) := rfl
    have ss : evE (Phi T (m + 9)) (.sset (.v 11)) (eZ L i s4 c d b5 y6 (.sh (qT allQ)) (.sh (cT d)) y9 y10 (.own (rl.map .int))) = .ok (.tmp (rl.map .int)) (eZ L i s4 c d b5 y6 (.sh (qT allQ)) (.sh (cT d)) y9 y10 (.own (rl.map .int))) := by
      simp only [evE, v11, Rs.bind, lk]
      show Rs.opt ((intsD (rl.map PyData.int)).bind fun ns => if decide (ns.length < 64) then some (Vw.tmp ((usort ns).map .int)) else none) _ = _
      rw [ints_some]
      show Rs.opt (if decide (rl.length < 64) then some (Vw.tmp ((usort rl).map .int)) else none) _ = _
      rw [decide_eq_true (by omega), us]
      rfl
    exact cmp_vw (w := .late 11) (w2 := .tmp (rl.map .int)) v11 ss lk rfl (ne_iL rl)
  have k9 : evE (Phi T (m + 9)) (.cmp .NotEq (.call "apart" (.cons (.v 3) (.cons (.v 3) .nil))) (.tup (.cons (.tup (.cons (.k (.int 0)) (.cons (.g "ALWAYS" c_ALWAYS) .nil))) .nil))) (eZ L i s4 c d b5 y6 (.sh (qT allQ)) (.sh (cT d)) y9 y10 (.own (rl.map .int))) = .ok (.now (.bool false)) (eZ L i s4 c d b5 y6 (.sh (qT allQ)) (.sh (cT d)) y9 y10 (.own (rl.map .int))) := by
    have := apart_call (m := m) (es := .cons (.v 3) (.cons (.v 3) .nil)) (env := eZ L i s4 c d b5 y6 (.sh (qT allQ)) (.sh (cT d)) y9 y10 (.own (rl.map .int))) (e1 := eZ L i s4 c d b5 y6 (.sh (qT allQ)) (.sh (cT d)) y9 y10 (.own (rl.map .int))) oc oc rfl
    rw [ap_self oc] at this
    exact cmp_nows (d' := .tuple [gT (0, allQ)]) this rfl rfl
  rw [ite_0 (tst ((or_f k7).trans ((or_f k8).trans k9)))]
  exact ⟨.own [.int s4], .sh (cT c), .sh (cT d), b5, y6, .sh (qT allQ), .sh (cT d), y9, y10, .own (rl.map .int), rfl, rfl, rfl, ls_nb q3, q4, rfl, rfl, q5, q6, rfl, rfl⟩
theorem plain : ∀ ns : List Int, ns.length ≤ 63 → ∃ b, (runDf (Phi T 20) d_law).run [.list (ns.map .int)] = .ret (.bool true) b := fun ns _ => by
  refine ⟨[], ?_⟩
  show frR (evSs (Phi T 20) 100 b_law [.sh (.list (ns.map .int)), .no, .no, .no, .no, .no, .no, .no, .no, .no, .no, .no, .no]) = _
  unfold b_law
  generalize hL : PyData.list (ns.map .int) = L
  obtain ⟨e, he, x1, x2, x3, x4, x5, x6, x7, x8, x9, x10, x11, _, _, _, _, _, _, _, _, _, _, _, rfl⟩ := forL_inv (f := fun x e => match putT e (.one 1) x with
      | some e2 => evSs (Phi T 20) 100 lawB e2
      | none => .stuck) (P := fun e => ∃ x1 x2 x3 x4 x5 x6 x7 x8 x9 x10 x11, nb x1 = true ∧ nb x2 = true ∧ nb x3 = true ∧ nb x4 = true ∧ nb x5 = true ∧ nb x6 = true ∧ nb x7 = true ∧ nb x8 = true ∧ nb x9 = true ∧ nb x10 = true ∧ nb x11 = true ∧ e = [.sh L, x1, x2, x3, x4, x5, x6, x7, x8, x9, x10, x11, .no])
    (xs := rgD 0 8) (env := [.sh L, .no, .no, .no, .no, .no, .no, .no, .no, .no, .no, .no, .no]) ⟨.no, .no, .no, .no, .no, .no, .no, .no, .no, .no, .no, rfl, rfl, rfl, rfl, rfl, rfl, rfl, rfl, rfl, rfl, rfl, rfl⟩ (fun x hx env hP => by
      obtain ⟨i, hi, rfl⟩ := rgD_mem hx
      obtain ⟨x1, x2, x3, x4, x5, x6, x7, x8, x9, x10, x11, n1, n2, n3, n4, n5, n6, n7, n8, n9, n10, n11, rfl⟩ := hP
      have hp : putT [.sh L, x1, x2, x3, x4, x5, x6, x7, x8, x9, x10, x11, .no] (.one 1) (.int (i : Nat)) = some [.sh L, .sh (.int (i : Nat)), x2, x3, x4, x5, x6, x7, x8, x9, x10, x11, .no] := by
        show putS _ 1 _ = _
        rw [putS_nb (x := x1) rfl n1]
        rfl
      simp only [hp]
      obtain ⟨y2, y3, y4, y5, y6, y7, y8, y9, y10, y11, k2, k3, k4, k5, k6, k7, k8, k9, k10, k11, h⟩ := law_turn (m := 11) hL.symm (i := i) n2 n3 n4 n5 n6 n7 n8 n9 n10 n11
      exact ⟨_, h, .sh (.int (i : Nat)), y2, y3, y4, y5, y6, y7, y8, y9, y10, y11, rfl, k2, k3, k4, k5, k6, k7, k8, k9, k10, k11, rfl⟩)
  unfold lawB at he
  rw [seq_nxt ((for_eq (ds := rgD 0 8) rfl).trans he)]
  rfl
end
end K03

set_option Elab.async false
set_option linter.all false
open PySem PySem.W PyProof.Rows
set_option maxRecDepth 100000 in
set_option maxHeartbeats 0 in
theorem PySem.Challenge.cw_suitday_k03_clocks_that_turn_holds : PySem.Challenge.rw_suitday_k03_clocks_that_turn.Holds := by
  w_on; o_law; k_head; (case hw => w_witness2)
  k_fill
  refine PyE.walk (l := PySem.Challenge.rw_suitday_k03_clocks_that_turn) (m := 20) rfl rfl ⟨rfl, by decide, by decide⟩ (fun w h Y => PySem.W.kIn_of Y) ?F
  case F =>
    intro w mg fa h KX G hmg0
    have hmg : mg ("law" : PySem.Str) = some (.ref fa) := hmg0
    clear hmg0
    refine' PyE.law_fn (P := PySem.Challenge.rw_suitday_k03_clocks_that_turn.prog) (w := w) (T := K03.T) (con := K03.con) (mb := K03.mb) (m := 20) (d := K03.d_law) (PyE.TopOk.mk ?t1 ?t4 ?t2 ?t5 ?t3) (by simp [K03.T]) rfl hmg rfl K03.plain
    case t1 =>
      refine' (PyE.all_cons ?e0 (PyE.all_cons ?e1 (PyE.all_cons ?e2 (PyE.all_cons ?e3 (PyE.all_cons ?e4 (PyE.all_cons ?e5 (PyE.all_cons ?e6 (PyE.all_cons ?e7 (PyE.all_cons ?e8 (PyE.all_cons ?e9 (PyE.all_cons ?e10 (PyE.all_cons ?e11 (PyE.all_cons ?e12 (PyE.all_cons ?e13 (PyE.all_cons ?e14 (PyE.all_cons ?e15 (PyE.all_cons ?e16 (PyE.all_cons ?e17 (PyE.all_cons ?e18 (PyE.all_cons ?e19 (PyE.all_cons ?e20 (PyE.all_cons ?e21 (PyE.all_cons ?e22 (PyE.all_cons ?e23 (PyE.all_cons ?e24 (PyE.all_cons ?e25 (PyE.all_cons ?e26 (PyE.all_cons ?e27 (PyE.all_cons ?e28 (PyE.all_cons ?e29 (PyE.all_cons ?e30 (PyE.all_cons ?e31 (PyE.all_cons ?e32 (PyE.all_cons ?e33 (PyE.all_cons ?e34 (PyE.all_cons ?e35 (PyE.all_cons ?e36 (PyE.all_cons ?e37 (PyE.all_cons ?e38 (PyE.all_cons ?e39 (PyE.all_cons ?e40 (PyE.all_cons ?e41 (PyE.all_cons ?e42 (PyE.all_cons ?e43 (PyE.all_cons ?e44 (PyE.all_cons ?e45 (PyE.all_cons ?e46 (PyE.all_cons ?e47 (PyE.all_cons ?e48 (PyE.all_cons ?e49 (PyE.all_cons ?e50 (PyE.all_cons ?e51 (PyE.all_cons ?e52 PyE.all_nil)))))))))))))))))))))))))))))))))))))))))))))))))))))
      (case e0 => (refine' PyE.df_ok (x := "ends_by") (st := K03.top 9) KX G rfl ?a ?l ?c ?k K03.bnd_ends_by K03.scp_ends_by K03.chk_ends_by (by decide)); (case a => k_is); (case l => k_is); (case c => k_is); (case k => k_is))
      (case e1 => (refine' PyE.df_ok (x := "in_runs") (st := K03.top 10) KX G rfl ?a ?l ?c ?k K03.bnd_in_runs K03.scp_in_runs K03.chk_in_runs (by decide)); (case a => k_is); (case l => k_is); (case c => k_is); (case k => k_is))
      (case e2 => (refine' PyE.df_ok (x := "has") (st := K03.top 11) KX G rfl ?a ?l ?c ?k K03.bnd_has K03.scp_has K03.chk_has (by decide)); (case a => k_is); (case l => k_is); (case c => k_is); (case k => k_is))
      (case e3 => (refine' PyE.df_ok (x := "is_empty") (st := K03.top 12) KX G rfl ?a ?l ?c ?k K03.bnd_is_empty K03.scp_is_empty K03.chk_is_empty (by decide)); (case a => k_is); (case l => k_is); (case c => k_is); (case k => k_is))
      (case e4 => (refine' PyE.df_ok (x := "is_full") (st := K03.top 13) KX G rfl ?a ?l ?c ?k K03.bnd_is_full K03.scp_is_full K03.chk_is_full (by decide)); (case a => k_is); (case l => k_is); (case c => k_is); (case k => k_is))
      (case e5 => (refine' PyE.df_ok (x := "add_run") (st := K03.top 14) KX G rfl ?a ?l ?c ?k K03.bnd_add_run K03.scp_add_run K03.chk_add_run (by decide)); (case a => k_is); (case l => k_is); (case c => k_is); (case k => k_is))
      (case e6 => (refine' PyE.df_ok (x := "runs_of") (st := K03.top 15) KX G rfl ?a ?l ?c ?k K03.bnd_runs_of K03.scp_runs_of K03.chk_runs_of (by decide)); (case a => k_is); (case l => k_is); (case c => k_is); (case k => k_is))
      (case e7 => (refine' PyE.df_ok (x := "built") (st := K03.top 16) KX G rfl ?a ?l ?c ?k K03.bnd_built K03.scp_built K03.chk_built (by decide)); (case a => k_is); (case l => k_is); (case c => k_is); (case k => k_is))
      (case e8 => (refine' PyE.df_ok (x := "united") (st := K03.top 17) KX G rfl ?a ?l ?c ?k K03.bnd_united K03.scp_united K03.chk_united (by decide)); (case a => k_is); (case l => k_is); (case c => k_is); (case k => k_is))
      (case e9 => (refine' PyE.df_ok (x := "crossed") (st := K03.top 18) KX G rfl ?a ?l ?c ?k K03.bnd_crossed K03.scp_crossed K03.chk_crossed (by decide)); (case a => k_is); (case l => k_is); (case c => k_is); (case k => k_is))
      (case e10 => (refine' PyE.df_ok (x := "holes") (st := K03.top 19) KX G rfl ?a ?l ?c ?k K03.bnd_holes K03.scp_holes K03.chk_holes (by decide)); (case a => k_is); (case l => k_is); (case c => k_is); (case k => k_is))
      (case e11 => (refine' PyE.df_ok (x := "joined") (st := K03.top 20) KX G rfl ?a ?l ?c ?k K03.bnd_joined K03.scp_joined K03.chk_joined (by decide)); (case a => k_is); (case l => k_is); (case c => k_is); (case k => k_is))
      (case e12 => (refine' PyE.df_ok (x := "common") (st := K03.top 21) KX G rfl ?a ?l ?c ?k K03.bnd_common K03.scp_common K03.chk_common (by decide)); (case a => k_is); (case l => k_is); (case c => k_is); (case k => k_is))
      (case e13 => (refine' PyE.df_ok (x := "rest") (st := K03.top 22) KX G rfl ?a ?l ?c ?k K03.bnd_rest K03.scp_rest K03.chk_rest (by decide)); (case a => k_is); (case l => k_is); (case c => k_is); (case k => k_is))
      (case e14 => (refine' PyE.df_ok (x := "minus") (st := K03.top 23) KX G rfl ?a ?l ?c ?k K03.bnd_minus K03.scp_minus K03.chk_minus (by decide)); (case a => k_is); (case l => k_is); (case c => k_is); (case k => k_is))
      (case e15 => (refine' PyE.df_ok (x := "repeats") (st := K03.top 24) KX G rfl ?a ?l ?c ?k K03.bnd_repeats K03.scp_repeats K03.chk_repeats (by decide)); (case a => k_is); (case l => k_is); (case c => k_is); (case k => k_is))
      (case e16 => (refine' PyE.df_ok (x := "least_period") (st := K03.top 25) KX G rfl ?a ?l ?c ?k K03.bnd_least_period K03.scp_least_period K03.chk_least_period (by decide)); (case a => k_is); (case l => k_is); (case c => k_is); (case k => k_is))
      (case e17 => (refine' PyE.df_ok (x := "least_start") (st := K03.top 26) KX G rfl ?a ?l ?c ?k K03.bnd_least_start K03.scp_least_start K03.chk_least_start (by decide)); (case a => k_is); (case l => k_is); (case c => k_is); (case k => k_is))
      (case e18 => (refine' PyE.df_ok (x := "reduced") (st := K03.top 27) KX G rfl ?a ?l ?c ?k K03.bnd_reduced K03.scp_reduced K03.chk_reduced (by decide)); (case a => k_is); (case l => k_is); (case c => k_is); (case k => k_is))
      (case e19 => (refine' PyE.df_ok (x := "tell") (st := K03.top 28) KX G rfl ?a ?l ?c ?k K03.bnd_tell K03.scp_tell K03.chk_tell (by decide)); (case a => k_is); (case l => k_is); (case c => k_is); (case k => k_is))
      (case e20 => (refine' PyE.df_ok (x := "too_deep") (st := K03.top 31) KX G rfl ?a ?l ?c ?k K03.bnd_too_deep K03.scp_too_deep K03.chk_too_deep (by decide)); (case a => k_is); (case l => k_is); (case c => k_is); (case k => k_is))
      (case e21 => (refine' PyE.df_ok (x := "as_tuples") (st := K03.top 32) KX G rfl ?a ?l ?c ?k K03.bnd_as_tuples K03.scp_as_tuples K03.chk_as_tuples (by decide)); (case a => k_is); (case l => k_is); (case c => k_is); (case k => k_is))
      (case e22 => (refine' PyE.df_ok (x := "plain") (st := K03.top 33) KX G rfl ?a ?l ?c ?k K03.bnd_plain K03.scp_plain K03.chk_plain (by decide)); (case a => k_is); (case l => k_is); (case c => k_is); (case k => k_is))
      (case e23 => (refine' PyE.df_ok (x := "is_int") (st := K03.top 34) KX G rfl ?a ?l ?c ?k K03.bnd_is_int K03.scp_is_int K03.chk_is_int (by decide)); (case a => k_is); (case l => k_is); (case c => k_is); (case k => k_is))
      (case e24 => (refine' PyE.df_ok (x := "in_range") (st := K03.top 35) KX G rfl ?a ?l ?c ?k K03.bnd_in_range K03.scp_in_range K03.chk_in_range (by decide)); (case a => k_is); (case l => k_is); (case c => k_is); (case k => k_is))
      (case e25 => (refine' PyE.df_ok (x := "is_tuple") (st := K03.top 36) KX G rfl ?a ?l ?c ?k K03.bnd_is_tuple K03.scp_is_tuple K03.chk_is_tuple (by decide)); (case a => k_is); (case l => k_is); (case c => k_is); (case k => k_is))
      (case e26 => (refine' PyE.df_ok (x := "need") (st := K03.top 37) KX G rfl ?a ?l ?c ?k K03.bnd_need K03.scp_need K03.chk_need (by decide)); (case a => k_is); (case l => k_is); (case c => k_is); (case k => k_is))
      (case e27 => (refine' PyE.df_ok (x := "clock_form") (st := K03.top 41) KX G rfl ?a ?l ?c ?k K03.bnd_clock_form K03.scp_clock_form K03.chk_clock_form (by decide)); (case a => k_is); (case l => k_is); (case c => k_is); (case k => k_is))
      (case e28 => (refine' PyE.df_ok (x := "is_clock") (st := K03.top 42) KX G rfl ?a ?l ?c ?k K03.bnd_is_clock K03.scp_is_clock K03.chk_is_clock (by decide)); (case a => k_is); (case l => k_is); (case c => k_is); (case k => k_is))
      (case e29 => (refine' PyE.df_ok (x := "shown_at") (st := K03.top 43) KX G rfl ?a ?l ?c ?k K03.bnd_shown_at K03.scp_shown_at K03.chk_shown_at (by decide)); (case a => k_is); (case l => k_is); (case c => k_is); (case k => k_is))
      (case e30 => (refine' PyE.df_ok (x := "reached_by") (st := K03.top 44) KX G rfl ?a ?l ?c ?k K03.bnd_reached_by K03.scp_reached_by K03.chk_reached_by (by decide)); (case a => k_is); (case l => k_is); (case c => k_is); (case k => k_is))
      (case e31 => (refine' PyE.df_ok (x := "shows") (st := K03.top 45) KX G rfl ?a ?l ?c ?k K03.bnd_shows K03.scp_shows K03.chk_shows (by decide)); (case a => k_is); (case l => k_is); (case c => k_is); (case k => k_is))
      (case e32 => (refine' PyE.df_ok (x := "hours_at") (st := K03.top 46) KX G rfl ?a ?l ?c ?k K03.bnd_hours_at K03.scp_hours_at K03.chk_hours_at (by decide)); (case a => k_is); (case l => k_is); (case c => k_is); (case k => k_is))
      (case e33 => (refine' PyE.df_ok (x := "reached") (st := K03.top 47) KX G rfl ?a ?l ?c ?k K03.bnd_reached K03.scp_reached K03.chk_reached (by decide)); (case a => k_is); (case l => k_is); (case c => k_is); (case k => k_is))
      (case e34 => (refine' PyE.df_ok (x := "yearly") (st := K03.top 48) KX G rfl ?a ?l ?c ?k K03.bnd_yearly K03.scp_yearly K03.chk_yearly (by decide)); (case a => k_is); (case l => k_is); (case c => k_is); (case k => k_is))
      (case e35 => (refine' PyE.df_ok (x := "put_on_hours") (st := K03.top 49) KX G rfl ?a ?l ?c ?k K03.bnd_put_on_hours K03.scp_put_on_hours K03.chk_put_on_hours (by decide)); (case a => k_is); (case l => k_is); (case c => k_is); (case k => k_is))
      (case e36 => (refine' PyE.df_ok (x := "never") (st := K03.top 50) KX G rfl ?a ?l ?c ?k K03.bnd_never K03.scp_never K03.chk_never (by decide)); (case a => k_is); (case l => k_is); (case c => k_is); (case k => k_is))
      (case e37 => (refine' PyE.df_ok (x := "twice") (st := K03.top 51) KX G rfl ?a ?l ?c ?k K03.bnd_twice K03.scp_twice K03.chk_twice (by decide)); (case a => k_is); (case l => k_is); (case c => k_is); (case k => k_is))
      (case e38 => (refine' PyE.df_ok (x := "apart") (st := K03.top 52) KX G rfl ?a ?l ?c ?k K03.bnd_apart K03.scp_apart K03.chk_apart (by decide)); (case a => k_is); (case l => k_is); (case c => k_is); (case k => k_is))
      (case e39 => (refine' PyE.df_ok (x := "pieces_form") (st := K03.top 60) KX G rfl ?a ?l ?c ?k K03.bnd_pieces_form K03.scp_pieces_form K03.chk_pieces_form (by decide)); (case a => k_is); (case l => k_is); (case c => k_is); (case k => k_is))
      (case e40 => (refine' PyE.df_ok (x := "times_form") (st := K03.top 61) KX G rfl ?a ?l ?c ?k K03.bnd_times_form K03.scp_times_form K03.chk_times_form (by decide)); (case a => k_is); (case l => k_is); (case c => k_is); (case k => k_is))
      (case e41 => (refine' PyE.df_ok (x := "checked") (st := K03.top 62) KX G rfl ?a ?l ?c ?k K03.bnd_checked K03.scp_checked K03.chk_checked (by decide)); (case a => k_is); (case l => k_is); (case c => k_is); (case k => k_is))
      (case e42 => (refine' PyE.df_ok (x := "two_checked") (st := K03.top 63) KX G rfl ?a ?l ?c ?k K03.bnd_two_checked K03.scp_two_checked K03.chk_two_checked (by decide)); (case a => k_is); (case l => k_is); (case c => k_is); (case k => k_is))
      (case e43 => (refine' PyE.df_ok (x := "among") (st := K03.top 64) KX G rfl ?a ?l ?c ?k K03.bnd_among K03.scp_among K03.chk_among (by decide)); (case a => k_is); (case l => k_is); (case c => k_is); (case k => k_is))
      (case e44 => (refine' PyE.df_ok (x := "either") (st := K03.top 65) KX G rfl ?a ?l ?c ?k K03.bnd_either K03.scp_either K03.chk_either (by decide)); (case a => k_is); (case l => k_is); (case c => k_is); (case k => k_is))
      (case e45 => (refine' PyE.df_ok (x := "both") (st := K03.top 66) KX G rfl ?a ?l ?c ?k K03.bnd_both K03.scp_both K03.chk_both (by decide)); (case a => k_is); (case l => k_is); (case c => k_is); (case k => k_is))
      (case e46 => (refine' PyE.df_ok (x := "_law_numbers") (st := K03.top 68) KX G rfl ?a ?l ?c ?k K03.bnd__law_numbers K03.scp__law_numbers K03.chk__law_numbers (by decide)); (case a => k_is); (case l => k_is); (case c => k_is); (case k => k_is))
      (case e47 => (refine' PyE.df_ok (x := "_law_draw") (st := K03.top 69) KX G rfl ?a ?l ?c ?k K03.bnd__law_draw K03.scp__law_draw K03.chk__law_draw (by decide)); (case a => k_is); (case l => k_is); (case c => k_is); (case k => k_is))
      (case e48 => (refine' PyE.df_ok (x := "_law_clock") (st := K03.top 70) KX G rfl ?a ?l ?c ?k K03.bnd__law_clock K03.scp__law_clock K03.chk__law_clock (by decide)); (case a => k_is); (case l => k_is); (case c => k_is); (case k => k_is))
      (case e49 => (refine' PyE.df_ok (x := "_law_shows") (st := K03.top 71) KX G rfl ?a ?l ?c ?k K03.bnd__law_shows K03.scp__law_shows K03.chk__law_shows (by decide)); (case a => k_is); (case l => k_is); (case c => k_is); (case k => k_is))
      (case e50 => (refine' PyE.df_ok (x := "_law_about") (st := K03.top 72) KX G rfl ?a ?l ?c ?k K03.bnd__law_about K03.scp__law_about K03.chk__law_about (by decide)); (case a => k_is); (case l => k_is); (case c => k_is); (case k => k_is))
      (case e51 => (refine' PyE.df_ok (x := "_law_turns") (st := K03.top 73) KX G rfl ?a ?l ?c ?k K03.bnd__law_turns K03.scp__law_turns K03.chk__law_turns (by decide)); (case a => k_is); (case l => k_is); (case c => k_is); (case k => k_is))
      (case e52 => (refine' PyE.df_ok (x := "law") (st := K03.top 74) KX G rfl ?a ?l ?c ?k K03.bnd_law K03.scp_law K03.chk_law (by decide)); (case a => k_is); (case l => k_is); (case c => k_is); (case k => k_is))
    case t2 =>
      refine' (PyE.all_cons (PySem.W.mg_none_of KX G ?e0) (PyE.all_cons (PySem.W.mg_none_of KX G ?e1) (PyE.all_cons (PySem.W.mg_none_of KX G ?e2) (PyE.all_cons (PySem.W.mg_none_of KX G ?e3) (PyE.all_cons (PySem.W.mg_none_of KX G ?e4) (PyE.all_cons (PySem.W.mg_none_of KX G ?e5) (PyE.all_cons (PySem.W.mg_none_of KX G ?e6) (PyE.all_cons (PySem.W.mg_none_of KX G ?e7) (PyE.all_cons (PySem.W.mg_none_of KX G ?e8) (PyE.all_cons (PySem.W.mg_none_of KX G ?e9) (PyE.all_cons (PySem.W.mg_none_of KX G ?e10) (PyE.all_cons (PySem.W.mg_none_of KX G ?e11) (PyE.all_cons (PySem.W.mg_none_of KX G ?e12) (PyE.all_cons (PySem.W.mg_none_of KX G ?e13) (PyE.all_cons (PySem.W.mg_none_of KX G ?e14) (PyE.all_cons (PySem.W.mg_none_of KX G ?e15) (PyE.all_cons (PySem.W.mg_none_of KX G ?e16) (PyE.all_cons (PySem.W.mg_none_of KX G ?e17) (PyE.all_cons (PySem.W.mg_none_of KX G ?e18) (PyE.all_cons (PySem.W.mg_none_of KX G ?e19) (PyE.all_cons (PySem.W.mg_none_of KX G ?e20) PyE.all_nil)))))))))))))))))))))
      (case e0 => k_is); (case e1 => k_is); (case e2 => k_is); (case e3 => k_is); (case e4 => k_is); (case e5 => k_is); (case e6 => k_is); (case e7 => k_is); (case e8 => k_is); (case e9 => k_is); (case e10 => k_is); (case e11 => k_is); (case e12 => k_is); (case e13 => k_is); (case e14 => k_is); (case e15 => k_is); (case e16 => k_is); (case e17 => k_is); (case e18 => k_is); (case e19 => k_is); (case e20 => k_is)
    case t5 =>
      intro f hf
      cases f
      · exact absurd hf (by decide +kernel)
      · exact PySem.W.mg_of KX G (by k_is)
    case t3 =>
      refine' PyE.bad_mk KX G ?aC ?xL ?sa ?ga ?gg ?nb ?a1 ?t1 ?l1 ?c1 ?kC ?eC ?tC ?hC ?iC ?sC
      (case aC => k_is); (case xL => k_is); (case sa => k_is); (case ga => k_is); (case gg => k_is); (case nb => k_is); (case a1 => k_is); (case t1 => k_is); (case l1 => k_is); (case c1 => k_is); (case kC => k_is); (case eC => k_is); (case tC => k_is); (case hC => k_is); (case iC => k_is); (case sC => first | rfl | k_is)
    case t4 =>
      refine' (PyE.con_cons (PyE.con1 (v := (.ref _)) KX G ?c0 ?r0 ?p0) (PyE.con_cons (PyE.con1 (v := (.int 40)) KX G ?c1 ?r1 ?p1) (PyE.con_cons (PyE.con1 (v := (.ref _)) KX G ?c2 ?r2 ?p2) (PyE.con_cons (PyE.con1 (v := (.int 1000000000000)) KX G ?c3 ?r3 ?p3) (PyE.con_cons (PyE.con1 (v := (.int 1000000)) KX G ?c4 ?r4 ?p4) (PyE.con_cons (PyE.con1 (v := (.int 1000000000)) KX G ?c5 ?r5 ?p5) (PyE.con_cons (PyE.con1 (v := (.int 20000)) KX G ?c6 ?r6 ?p6) (PyE.con_cons (PyE.con1 (v := (.int 20000)) KX G ?c7 ?r7 ?p7) (PyE.con_cons (PyE.con1 (v := (.int 1000000)) KX G ?c8 ?r8 ?p8) (PyE.con_cons (PyE.con1 (v := (.ref _)) KX G ?c9 ?r9 ?p9) (PyE.con_cons (PyE.con1 (v := (.int 60480)) KX G ?c10 ?r10 ?p10) (PyE.con_cons (PyE.con1 (v := (.int 8640)) KX G ?c11 ?r11 ?p11) PyE.con_nil))))))))))))
      (case c0 => k_is); (case r0 => exact rfl); (case p0 => (refine' (PyE.con_tup (vs := [(.ref _), (.int 0), (.int 1), (.ref _)]) ?l1 ?z1 ?v1 (.cons (PyE.con_tup (vs := []) ?l2 ?z2 ?v2 .nil) (.cons (.int _) (.cons (.int _) (.cons (PyE.con_tup (vs := [(.ref _)]) ?l3 ?z3 ?v3 (.cons (PyE.con_tup (vs := [(.int 0), (.int 1)]) ?l4 ?z4 ?v4 (.cons (.int _) (.cons (.int _) .nil))) .nil)) .nil))))); (case l1 => k_is); (case z1 => decide); (case v1 => exact (.cons rfl (.cons ⟨_, rfl⟩ (.cons ⟨_, rfl⟩ (.cons rfl .nil))))); (case l2 => k_is); (case z2 => decide); (case v2 => exact .nil); (case l3 => k_is); (case z3 => decide); (case v3 => exact (.cons rfl .nil)); (case l4 => k_is); (case z4 => decide); (case v4 => exact (.cons ⟨_, rfl⟩ (.cons ⟨_, rfl⟩ .nil)))))
      (case c1 => k_is); (case r1 => exact ⟨_, rfl⟩); (case p1 => (refine' (.int _)))
      (case c2 => k_is); (case r2 => exact rfl); (case p2 => (refine' (PyE.con_tup (vs := [(.ref _), (.int 0), (.int 1), (.ref _)]) ?l5 ?z5 ?v5 (.cons (PyE.con_tup (vs := []) ?l6 ?z6 ?v6 .nil) (.cons (.int _) (.cons (.int _) (.cons (PyE.con_tup (vs := []) ?l7 ?z7 ?v7 .nil) .nil))))); (case l5 => k_is); (case z5 => decide); (case v5 => exact (.cons rfl (.cons ⟨_, rfl⟩ (.cons ⟨_, rfl⟩ (.cons rfl .nil))))); (case l6 => k_is); (case z6 => decide); (case v6 => exact .nil); (case l7 => k_is); (case z7 => decide); (case v7 => exact .nil)))
      (case c3 => k_is); (case r3 => exact ⟨_, rfl⟩); (case p3 => (refine' (.int _)))
      (case c4 => k_is); (case r4 => exact ⟨_, rfl⟩); (case p4 => (refine' (.int _)))
      (case c5 => k_is); (case r5 => exact ⟨_, rfl⟩); (case p5 => (refine' (.int _)))
      (case c6 => k_is); (case r6 => exact ⟨_, rfl⟩); (case p6 => (refine' (.int _)))
      (case c7 => k_is); (case r7 => exact ⟨_, rfl⟩); (case p7 => (refine' (.int _)))
      (case c8 => k_is); (case r8 => exact ⟨_, rfl⟩); (case p8 => (refine' (.int _)))
      (case c9 => k_is); (case r9 => exact rfl); (case p9 => (refine' (PyE.con_tup (vs := [(.ref _), (.int 0), (.int 1), (.ref _)]) ?l8 ?z8 ?v8 (.cons (PyE.con_tup (vs := []) ?l9 ?z9 ?v9 .nil) (.cons (.int _) (.cons (.int _) (.cons (PyE.con_tup (vs := []) ?l10 ?z10 ?v10 .nil) .nil))))); (case l8 => k_is); (case z8 => decide); (case v8 => exact (.cons rfl (.cons ⟨_, rfl⟩ (.cons ⟨_, rfl⟩ (.cons rfl .nil))))); (case l9 => k_is); (case z9 => decide); (case v9 => exact .nil); (case l10 => k_is); (case z10 => decide); (case v10 => exact .nil)))
      (case c10 => k_is); (case r10 => exact ⟨_, rfl⟩); (case p10 => (refine' (.int _)))
      (case c11 => k_is); (case r11 => exact ⟨_, rfl⟩); (case p11 => (refine' (.int _)))
#print axioms PySem.Challenge.cw_suitday_k03_clocks_that_turn_holds
