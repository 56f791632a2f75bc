import PyProof.Rows.All
import Wide.All
import OpenK.AllK
import Wide.FinOn
import HandS.ForMost
import HandS.ForExc
import HandS.Flow
import HandS.Style
import HandS.IsInst
import HandS.Wide
import HandS.TupAny
import HandS.TupLe
import HandS.Conv
import HandS.RaiseMore
import HandS.Zip
import KE.DataMinMax
import KE.DataCmp
import HandS.TupMul
import KE.SortData
import HandS.TupSets
import HandS.Gcd
import KE.KMathGC
import KE.GoesMore
import Open.SpecLaws
import KE.OsGo
import HandS.ForSpec
import HandS.WordsExc
import HandS.Ends
import HandS.EndBits
import PySem.Challenge.RW_suitday_k11_chosen_and_gained

set_option Elab.async false
set_option linter.all false
set_option autoImplicit false
set_option maxRecDepth 100000
set_option maxHeartbeats 4000000
/-! # An evaluator for a part of Python, over data (PyData): states and what they stand for -/
namespace PyE
open PySem PySem.Spec PyProof.Rows L2

abbrev D := PyData
abbrev Frag := PySem.W.Frag

/-- everything tracked stays -/
def Ex (H H' : Hp) : Prop := ∀ a o, H a = some o → H' a = some o
theorem Ex.refl (H : Hp) : Ex H H := fun _ _ h => h
theorem Ex.trans {H H1 H2 : Hp} (a : Ex H H1) (b : Ex H1 H2) : Ex H H2 := fun x o h => b x o (a x o h)
theorem Ex.put {H : Hp} {p : Addr} {o : HO} (h : H p = none) : Ex H (upd H p o) := fun a u e => by
  rw [upd_ne (ne_of_none e h)]; exact e
theorem Ex.rd {H H' : Hp} {a : Addr} {u : HO} (e : Ex H H') (h : Rd H a u) : Rd H' a u := by
  rcases h with h | ⟨o, h⟩
  · exact .inl (e a _ h)
  · exact .inr ⟨o, e a _ h⟩
theorem Ex.sql {K : Frag} {H H' : Hp} {a : Addr} {xs : List V} (e : Ex H H') (h : SqL K H a xs) : SqL K H' a xs := by
  rcases h with h | h
  · exact .inl (e.rd h)
  · exact .inr h
theorem Ex.sqt {K : Frag} {H H' : Hp} {a : Addr} {xs : List V} (e : Ex H H') (h : SqT K H a xs) : SqT K H' a xs := by
  rcases h with h | h
  · exact .inl (e.rd h)
  · exact .inr h
section
variable {ba : Addr} {K : Frag} {F F' H H' : Hp}
mutual
theorem dp_ex (e : Ex F F') : ∀ (d : D) (v : V), Dp K F v d → Dp K F' v d
  | .none, _, h => by cases h; exact .non
  | .bool b, _, h => by cases h; exact .bl b
  | .int i, _, h => by cases h; exact .int i
  | .str x, _, h => by cases h; exact .str x
  | .list ds, _, h => by cases h with | lst s a => exact .lst (e.sql s) (dpa_ex e ds _ a)
  | .tuple ds, _, h => by cases h with | tup s a => exact .tup (e.sqt s) (dpa_ex e ds _ a)
  | .dict _, _, h => by cases h
theorem dpa_ex (e : Ex F F') : ∀ (ds : List D) (vs : List V), DpAll K F vs ds → DpAll K F' vs ds
  | [], _, h => by cases h; exact .nil
  | d :: ds, _, h => by cases h with | cons a b => exact .cons (dp_ex e d _ a) (dpa_ex e ds _ b)
end
theorem dpa_len : ∀ {vs : List V} {ds : List D}, DpAll K F vs ds → vs.length = ds.length
  | _, _, .nil => rfl
  | _, _, .cons _ t => by simp [dpa_len t]
theorem dpa_get : ∀ {vs : List V} {ds : List D} {i : Nat} {d : D}, DpAll K F vs ds → ds[i]? = some d → ∃ v, vs[i]? = some v ∧ Dp K F v d
  | _, _, _, _, .nil, e => by simp at e
  | _, _, 0, d, .cons r _, e => by simp at e; subst e; exact ⟨_, rfl, r⟩
  | _, _, i + 1, d, .cons _ t, e => by
    obtain ⟨v, h1, h2⟩ := dpa_get (i := i) t (by simpa using e)
    exact ⟨v, by simpa using h1, h2⟩
theorem dpa_getV : ∀ {vs : List V} {ds : List D} {i : Nat} {v : V}, DpAll K F vs ds → vs[i]? = some v → ∃ d, ds[i]? = some d ∧ Dp K F v d
  | _, _, _, _, .nil, e => by simp at e
  | _, _, 0, d, .cons r _, e => by simp at e; subst e; exact ⟨_, rfl, r⟩
  | _, _, i + 1, d, .cons _ t, e => by
    obtain ⟨v, h1, h2⟩ := dpa_getV (i := i) t (by simpa using e)
    exact ⟨v, by simpa using h1, h2⟩
theorem dpa_app : ∀ {vs ws : List V} {ds es : List D}, DpAll K F vs ds → DpAll K F ws es → DpAll K F (vs ++ ws) (ds ++ es)
  | _, _, _, _, .nil, s => s
  | _, _, _, _, .cons r t, s => .cons r (dpa_app t s)
theorem dpa_take : ∀ {vs : List V} {ds : List D} (n : Nat), DpAll K F vs ds → DpAll K F (vs.take n) (ds.take n)
  | _, _, 0, _ => .nil
  | _, _, _ + 1, .nil => .nil
  | _, _, n + 1, .cons r t => .cons r (dpa_take n t)
theorem dpa_drop : ∀ {vs : List V} {ds : List D} (n : Nat), DpAll K F vs ds → DpAll K F (vs.drop n) (ds.drop n)
  | _, _, 0, s => s
  | _, _, _ + 1, .nil => .nil
  | _, _, n + 1, .cons _ t => dpa_drop n t
theorem dpa_set {v : V} {d : D} (r : Dp K F v d) : ∀ {vs : List V} {ds : List D} (i : Nat), DpAll K F vs ds → DpAll K F (vs.set i v) (ds.set i d)
  | _, _, _, .nil => .nil
  | _, _, 0, .cons _ t => .cons r t
  | _, _, i + 1, .cons q t => .cons q (dpa_set r i t)
theorem dpa_ints : ∀ {vs : List V} {ns : List Int}, DpAll K F vs (ns.map PyData.int) → vs = ns.map V.int
  | _, [], h => by cases h; rfl
  | _, n :: ns, h => by
    cases h with
    | cons a b => cases a; rw [dpa_ints b]; rfl
theorem dpa_ofInts : ∀ (ns : List Int), DpAll K F (ns.map V.int) (ns.map PyData.int)
  | [] => .nil
  | n :: ns => .cons (.int n) (dpa_ofInts ns)
end

/-! ### slots -/
inductive Sl where
  | no | sh (d : D) | own (ds : List D) | bor (ds : List D)
abbrev SEnv := List Sl
/-- slot i holds a list of this frame's alone (or one lent to it) -/
def Mine (env : SEnv) (i : Nat) (ds : List D) : Prop := env[i]? = some (Sl.own ds) ∨ env[i]? = some (Sl.bor ds)
/-- an address of such a list -/
def O (σ : L2.St) (env : SEnv) (a : Addr) : Prop := ∃ i ds, Mine env i ds ∧ σ[i]? = some (some (.ref a))
/-- F, the part of the heap H that never changes; σ the slots; env what they are -/
structure Sim (ba : Addr) (K : Frag) (F H : Hp) (σ : L2.St) (env : SEnv) : Prop where
  sub : Ex F H
  len : env.length = σ.length
  sh : ∀ (i : Nat) (d : D), env[i]? = some (Sl.sh d) → ∃ v, σ[i]? = some (some v) ∧ Dp K F v d
  own : ∀ (i : Nat) (ds : List D), Mine env i ds → ∃ a vs, σ[i]? = some (some (.ref a)) ∧ H a = some (.lst vs) ∧ F a = none ∧ DpAll K F vs ds
  lent : ∀ (i : Nat) (ds : List D), env[i]? = some (Sl.bor ds) → σ[i]? = some (some (.ref ba))
  dis : ∀ (i j : Nat) (a : Addr) (ds es : List D), Mine env i ds → Mine env j es → σ[i]? = some (some (.ref a)) → σ[j]? = some (some (.ref a)) → i = j
/-- from (F, H) to (F', H'), where only M's addresses (and new ones) may change or be frozen -/
structure Go (M : Addr → Prop) (F H F' H' : Hp) : Prop where
  ex : Ex F F'
  keep : ∀ b o, ¬ M b → H b = some o → H' b = some o
  fz : ∀ b, ¬ M b → H b ≠ none → F b = none → F' b = none
  liv : ∀ b, H b ≠ none → H' b ≠ none
theorem Go.refl (M : Addr → Prop) (F H : Hp) : Go M F H F H := ⟨Ex.refl _, fun _ _ _ h => h, fun _ _ _ h => h, fun _ h => h⟩
theorem Go.trans {M M' : Addr → Prop} {F H F1 H1 F2 H2 : Hp} (a : Go M F H F1 H1) (b : Go M' F1 H1 F2 H2) (h : ∀ x, M' x → M x ∨ H x = none) : Go M F H F2 H2 := by
  have nm : ∀ x, ¬ M x → H x ≠ none → ¬ M' x := fun x n q z => (h x z).elim n q
  refine ⟨a.ex.trans b.ex, fun x o n e => ?_, fun x n e f => ?_, fun x e => b.liv x (a.liv x e)⟩
  · exact b.keep x o (nm x n (by rw [e]; simp)) (a.keep x o n e)
  · exact b.fz x (nm x n e) (a.liv x e) (a.fz x n e f)
theorem Go.mono {M M' : Addr → Prop} {F H F1 H1 : Hp} (a : Go M F H F1 H1) (h : ∀ x, M x → M' x ∨ H x = none) : Go M' F H F1 H1 :=
  Go.trans (Go.refl M' F H) a h
theorem Go.fresh {M : Addr → Prop} {F H F1 H1 : Hp} (a : Go M F H F1 H1) {x : Addr} (e : H1 x = none) : H x = none := by
  cases q : H x with
  | none => rfl
  | some o => exact absurd e (a.liv x (by rw [q]; simp))
/-- a new object that never changes -/
theorem Go.new {M : Addr → Prop} {F H : Hp} {p : Addr} {o : HO} (s : Ex F H) (h : H p = none) : Go M F H (upd F p o) (upd H p o) := by
  have hf : F p = none := by
    cases q : F p with
    | none => rfl
    | some u => rw [s p u q] at h; cases h
  refine ⟨Ex.put hf, fun b u _ e => by rw [upd_ne (ne_of_none e h)]; exact e, fun b _ e f => ?_, fun b e => ?_⟩
  · rw [upd_ne (fun (z : b = p) => e (z ▸ h))]; exact f
  · rw [upd_ne (fun (z : b = p) => e (z ▸ h))]; exact e
/-- a new object that may change -/
theorem Go.newM {M : Addr → Prop} {F H : Hp} {p : Addr} {o : HO} (h : H p = none) : Go M F H F (upd H p o) :=
  ⟨Ex.refl _, fun b u _ e => by rw [upd_ne (ne_of_none e h)]; exact e, fun b _ _ f => f, fun b e => by rw [upd_ne (fun (z : b = p) => e (z ▸ h))]; exact e⟩
/-- one of M's is frozen -/
theorem Go.freeze {M : Addr → Prop} {F H : Hp} {p : Addr} {o : HO} (m : M p) (hf : F p = none) : Go M F H (upd F p o) H :=
  ⟨Ex.put hf, fun b u _ e => e, fun b n _ f => by rw [upd_ne (fun (z : b = p) => n (z ▸ m))]; exact f, fun b e => e⟩
/-- one of M's is written -/
theorem Go.write {M : Addr → Prop} {F H : Hp} {p : Addr} {o : HO} (m : M p) : Go M F H F (upd H p o) :=
  ⟨Ex.refl _, fun b u n e => by rw [upd_ne (fun (z : b = p) => n (z ▸ m))]; exact e, fun b _ _ f => f, fun b e => by
    by_cases z : b = p
    · rw [z, upd_same]; simp
    · rw [upd_ne z]; exact e⟩
section
variable {ba : Addr} {K : Frag} {F F' H H' : Hp} {σ : L2.St} {env env' : SEnv}
theorem Sim.ofree (s : Sim ba K F H σ env) {a : Addr} (h : O σ env a) : F a = none ∧ ∃ vs, H a = some (.lst vs) := by
  obtain ⟨i, ds, m, e⟩ := h
  obtain ⟨b, vs, e2, h1, h2, _⟩ := s.own i ds m
  rw [e] at e2
  cases e2
  exact ⟨h2, vs, h1⟩
/-- the same slots behind a step that leaves this frame's lists as they are -/
theorem Sim.go {M : Addr → Prop} (s : Sim ba K F H σ env) (g : Go M F H F' H') (sub : Ex F' H') (hm : ∀ a, O σ env a → ¬ M a) : Sim ba K F' H' σ env := by
  refine ⟨sub, s.len, fun i d e => ?_, fun i ds m => ?_, s.lent, s.dis⟩
  · obtain ⟨v, h1, h2⟩ := s.sh i d e
    exact ⟨v, h1, dp_ex g.ex _ _ h2⟩
  · obtain ⟨a, vs, h1, h2, h3, h4⟩ := s.own i ds m
    have n := hm a ⟨i, ds, m, h1⟩
    exact ⟨a, vs, h1, g.keep a _ n h2, g.fz a n (by rw [h2]; simp) h3, dpa_ex g.ex _ _ h4⟩
end

/-! ### values on the way: a datum, a slot that is looked at later, a list just made -/
inductive Vw where
  | now (d : D) | late (i : Nat) | tmp (ds : List D)
def VwR (K : Frag) (F H H0 : Hp) (σ : L2.St) (env : SEnv) : Vw → V → Prop
  | .now d, v => Dp K F v d
  | .late i, v => σ[i]? = some (some v) ∧ i < env.length
  | .tmp ds, v => ∃ a vs, v = .ref a ∧ H a = some (.lst vs) ∧ F a = none ∧ ¬ O σ env a ∧ H0 a = none ∧ DpAll K F vs ds
def look (env : SEnv) : Vw → Option D
  | .now d => some d
  | .tmp ds => some (.list ds)
  | .late i => match env[i]? with
    | some (.sh d) => some d
    | some (.own ds) => some (.list ds)
    | some (.bor ds) => some (.list ds)
    | _ => none
/-- v is to be read as d: a list's items never change -/
def VR (K : Frag) (F H : Hp) (v : V) : D → Prop
  | .list ds => ∃ a vs, v = .ref a ∧ SqL K H a vs ∧ DpAll K F vs ds
  | d => Dp K F v d
section
variable {ba : Addr} {K : Frag} {F F' H H' H0 : Hp} {σ : L2.St} {env env' : SEnv} {v : V}
theorem VR.of {d : D} (s : Ex F H) (h : Dp K F v d) : VR K F H v d := by
  cases d with
  | list ds => cases h with | lst q a => exact ⟨_, _, rfl, s.sql q, a⟩
  | _ => exact h
theorem VR.dp {d : D} (s : Ex F H) (h : VR K F H v d) : Dp K H v d := by
  cases d with
  | list ds =>
    obtain ⟨a, vs, rfl, q, al⟩ := h
    exact .lst q (dpa_ex s _ _ al)
  | _ => exact dp_ex s _ _ h
theorem look_vr (s : Sim ba K F H σ env) {w : Vw} {d : D} (r : VwR K F H H0 σ env w v) (e : look env w = some d) : VR K F H v d := by
  cases w with
  | now d' => cases e; exact VR.of s.sub r
  | tmp ds =>
    cases e
    obtain ⟨a, vs, rfl, h1, _, _, _, h2⟩ := r
    exact ⟨a, vs, rfl, .inl (.inl h1), h2⟩
  | late i =>
    obtain ⟨r, _⟩ := r
    cases q : env[i]? with
    | none => simp [look, q] at e
    | some sl =>
      cases sl with
      | no => simp [look, q] at e
      | sh d' =>
        simp only [look, q, Option.some.injEq] at e
        subst e
        obtain ⟨v', h1, h2⟩ := s.sh i _ q
        rw [r] at h1
        cases h1
        exact VR.of s.sub h2
      | own ds =>
        simp only [look, q, Option.some.injEq] at e
        subst e
        obtain ⟨a, vs, h1, h2, _, h3⟩ := s.own i ds (.inl q)
        rw [r] at h1
        cases h1
        exact ⟨a, vs, rfl, .inl (.inl h2), h3⟩
      | bor ds =>
        simp only [look, q, Option.some.injEq] at e
        subst e
        obtain ⟨a, vs, h1, h2, _, h3⟩ := s.own i ds (.inr q)
        rw [r] at h1
        cases h1
        exact ⟨a, vs, rfl, .inl (.inl h2), h3⟩
/-- a value on the way behind a further step -/
theorem VwR.go {w : Vw} (g : Go (O σ env) F H F' H') (ho : ∀ a, O σ env' a → O σ env a) (hl : env'.length = env.length) (r : VwR K F H H0 σ env w v) : VwR K F' H' H0 σ env' w v := by
  cases w with
  | now d => exact dp_ex g.ex _ _ r
  | late i => exact ⟨r.1, hl ▸ r.2⟩
  | tmp ds =>
    obtain ⟨a, vs, e, h1, h2, h3, h4, h5⟩ := r
    exact ⟨a, vs, e, g.keep a _ h3 h1, g.fz a h3 (by rw [h1]; simp) h2, fun z => h3 (ho a z), h4, dpa_ex g.ex _ _ h5⟩
/-- .. from an earlier start -/
theorem VwR.early {M : Addr → Prop} {w : Vw} {H1 F1 : Hp} (g : Go M F1 H1 F' H') (r : VwR K F H H' σ env w v) : VwR K F H H1 σ env w v := by
  cases w with
  | now d => exact r
  | late i => exact r
  | tmp ds =>
    obtain ⟨a, vs, e, h1, h2, h3, h4, h5⟩ := r
    exact ⟨a, vs, e, h1, h2, h3, g.fresh h4, h5⟩
/-- a value on the way is kept as a datum: a list just made is frozen -/
def keepD : Vw → Option D
  | .now d => some d
  | .tmp ds => some (.list ds)
  | .late _ => none
theorem VwR.keep {M : Addr → Prop} (s : Sim ba K F H σ env) {w : Vw} {d : D} (r : VwR K F H H0 σ env w v) (e : keepD w = some d) (hm : ∀ a, H0 a = none → M a) :
    ∃ F', Go M F H F' H ∧ Sim ba K F' H σ env ∧ Dp K F' v d := by
  cases w with
  | now d' => cases e; exact ⟨F, Go.refl _ _ _, s, r⟩
  | late i => cases e
  | tmp ds =>
    cases e
    obtain ⟨a, vs, rfl, h1, h2, h3, h4, h5⟩ := r
    have g : Go M F H (upd F a (.lst vs)) H := Go.freeze (hm a h4) h2
    have g' : Go (fun b => b = a) F H (upd F a (.lst vs)) H := Go.freeze rfl h2
    have sub : Ex (upd F a (.lst vs)) H := fun b o z => by
      by_cases hb : b = a
      · subst hb; rw [upd_same] at z; cases z; exact h1
      · rw [upd_ne hb] at z; exact s.sub b o z
    exact ⟨_, g, s.go g' sub (fun b ob (z : b = a) => h3 (z ▸ ob)), .lst (.inl (.inl upd_same)) (dpa_ex g.ex _ _ h5)⟩
end
end PyE

set_option Elab.async false
set_option linter.all false
set_option autoImplicit false
set_option maxRecDepth 100000
set_option maxHeartbeats 4000000
/-! # The evaluator: a small language (IE, IS ..), what it comes to -/
namespace PyE
open PySem PySem.Spec L2

inductive Rs (α : Type) where
  | ok (a : α) (env : SEnv) | exc (c : Str) (x : D) (env : SEnv) | stuck
@[reducible] def Rs.bind {α β : Type} (r : Rs α) (f : α → SEnv → Rs β) : Rs β := match r with
  | .ok a e => f a e
  | .exc c x e => .exc c x e
  | .stuck => .stuck
@[reducible] def Rs.opt {α : Type} (o : Option α) (env : SEnv) : Rs α := match o with
  | some a => .ok a env
  | none => .stuck
/-- within a comprehension nothing may be raised -/
@[reducible] def Rs.calm {α : Type} (r : Rs α) : Rs α := match r with
  | .ok a e => .ok a e
  | _ => .stuck

inductive FR where
  | nxt (env : SEnv) | brk (env : SEnv) | cnt (env : SEnv) | ret (d : D) (env : SEnv) | exc (c : Str) (x : D) (env : SEnv) | stuck
@[reducible] def FR.bind (r : FR) (f : SEnv → FR) : FR := match r with
  | .nxt e => f e
  | r => r
@[reducible] def Rs.toF {α : Type} (r : Rs α) (f : α → SEnv → FR) : FR := match r with
  | .ok a e => f a e
  | .exc c x e => .exc c x e
  | .stuck => .stuck

/-- a def as the others see it: how many arguments, whether the first one is a list that is lent and may be changed, what it comes to (bs: the lent list's items behind it) -/
inductive FRes where
  | ret (d : D) (bs : List D) | exc (c : Str) (x : D) (bs : List D) | stuck
structure FnSem where
  arity : Nat
  bor : Bool
  run : List D → FRes
abbrev Fns := Str → Option FnSem

inductive Bf where
  | len | sum | all | any | tuple | list | int | abs | min | max | bool | sorted | dvm
  deriving DecidableEq
/-- functions of math, taken at the top -/
inductive Mf where
  | gcd | lcm
  deriving DecidableEq
inductive Ty where
  | int | bool | str | tuple | list
  deriving DecidableEq
inductive Tg where
  | one (i : Nat) | many (is : List Nat)

mutual
inductive IE where
  | k (d : D) | v (i : Nat) | g (x : Str) (d : D)
  | bin (op : Operator) (a b : IE) | neg (a : IE)
  | cmp (op : CmpOp) (a b : IE) | cmp2 (o o' : CmpOp) (a b c : IE)
  | and (a b : IE) | or (a b : IE) | nt (a : IE) | ife (t a b : IE)
  | tup (es : IEs) | lst (es : IEs)
  | ix (a b : IE) | sl (a : IE) (lo hi : IO)
  | call (f : Str) (es : IEs) | callb (f : Str) (i : Nat) (es : IEs)
  | bf (f : Bf) (es : IEs)
  | isi (a : IE) (ts : List Ty) (tupled : Bool)
  | cnt (a e : IE)
  | lnset (a : IE) | mth (f : Mf) (a b : IE)
  | lc (e : IE) (tg : Tg) (it : II) (c : IO) (own : List Nat)
  | lc2 (e : IE) (tg : Tg) (it : II) (c : IO) (tg2 : Tg) (it2 : II) (c2 : IO) (own own2 : List Nat)
inductive IEs where
  | nil | cons (e : IE) (es : IEs)
inductive IO where
  | none | some (e : IE)
inductive II where
  | seq (e : IE) | r1 (a : IE) | r2 (a b : IE) | r3 (a b c : IE) | enum (e : IE)
end

mutual
inductive IS where
  | asg (i : Nat) (e : IE) | asgT (is : List Nat) (e : IE) | par (is : List Nat) (es : IEs) | asg2 (i j : Nat) (e : IE) | aug (i : Nat) (op : Operator) (e : IE)
  | app (i : Nat) (e : IE) | set (i : Nat) (a e : IE) | ex (e : IE)
  | ret (e : IE) | retN | ite (t : IE) (a b : ISs) | for_ (tg : Tg) (it : II) (b : ISs) | whl (t : IE) (b : ISs)
  | pop (i : Nat) | raise0
  | brk | cnt | pass | raise (c : Str) (e : IE) | tryAt (b : ISs) (c : Str) (i : Nat) (e : IE)
inductive ISs where
  | nil | cons (s : IS) (r : ISs)
end

/-! ### operations on data -/
/-- between -k - 1 and k (the kernel must not count down from such a number) -/
def inB (k : Nat) : Int → Bool
  | .ofNat n => Nat.ble n k
  | .negSucc n => Nat.ble n k
theorem inB_of {k : Nat} {i : Int} (h : inB k i = true) : -((k : Int) + 1) ≤ i ∧ i ≤ k := by
  cases i with
  | ofNat n =>
    have h : n ≤ k := Nat.le_of_ble_eq_true h
    constructor <;> simp only [Int.ofNat_eq_natCast] <;> omega
  | negSucc n =>
    have h : n ≤ k := Nat.le_of_ble_eq_true h
    constructor <;> omega
def smallI (i : Int) : Bool := inB 18446744073709551614 i
theorem smallI_of {i : Int} (h : smallI i = true) : -(2 ^ 64) < i ∧ i < 2 ^ 64 := by
  have := inB_of h
  omega
def mulOk (i j : Int) : Bool := smallI i || smallI j || decide (i.natAbs.log2 + j.natAbs.log2 < 1000000)
def divOk (j : Int) : Bool := decide (0 < j) && decide (j.natAbs.log2 < 9000)
def powOk (i : Int) : Int → Bool
  | .ofNat n => Nat.ble n 1000000 && decide (i.natAbs < 2 ^ 64)
  | .negSucc _ => false
theorem powOk_of {i j : Int} (h : powOk i j = true) : 0 ≤ j ∧ j ≤ 1000000 ∧ i.natAbs < 2 ^ 64 := by
  cases j with
  | ofNat n =>
    unfold powOk at h
    rw [Bool.and_eq_true, decide_eq_true_eq] at h
    have h1 : n ≤ 1000000 := Nat.le_of_ble_eq_true h.1
    exact ⟨Int.natCast_nonneg n, by simp only [Int.ofNat_eq_natCast]; omega, h.2⟩
  | negSucc n => cases h
def szOk (n : Nat) : Bool := decide (n ≤ 16777216)
def binD : Operator → D → D → Option Vw
  | .Add, .int i, .int j => some (.now (.int (i + j)))
  | .Add, .str a, .str b => if szOk (a.length + b.length) then some (.now (.str (a ++ b))) else none
  | .Add, .tuple a, .tuple b => if szOk (a.length + b.length) then some (.now (.tuple (a ++ b))) else none
  | .Add, .list a, .list b => if szOk (a.length + b.length) then some (.tmp (a ++ b)) else none
  | .Sub, .int i, .int j => some (.now (.int (i - j)))
  | .Mult, .int i, .int j => if mulOk i j then some (.now (.int (i * j))) else none
  | .Mult, .tuple a, .int k => if !a.isEmpty && decide (a.length ≤ 1000) && decide (1 ≤ k) && inB 1000 k then some (.now (.tuple (List.replicate k.toNat a).flatten)) else none
  | .FloorDiv, .int i, .int j => if divOk j then some (.now (.int (i / j))) else none
  | .Mod, .int i, .int j => if decide (0 < j) then some (.now (.int (i % j))) else none
  | .Pow, .int i, .int j => if powOk i j then some (.now (.int (i ^ j.toNat))) else none
  | _, _, _ => none
def isAtom : D → Bool
  | .none | .bool _ | .int _ | .str _ => true
  | _ => false
def flatD : D → Bool
  | .none | .bool _ | .int _ | .str _ => true
  | _ => false
def eqA : D → D → Bool
  | .int i, .int j => i == j
  | .str a, .str b => a == b
  | x, y => PyData.eqv x y
def inD (x : D) (xs : List D) : Bool := xs.any fun y => PyData.eqv y x
def ordOk (x y : D) : Bool := PySem.W.alike x y && (match x with | .none => false | _ => true) && decide (x.depth ≤ 60)
def cmpD : CmpOp → D → D → Option Bool
  | .Eq, x, y => if SeqAt.shaped x && SeqAt.shaped y then some (PyData.eqv x y) else none
  | .NotEq, x, y => if SeqAt.shaped x && SeqAt.shaped y then some (!PyData.eqv x y) else none
  | .Lt, .int i, .int j => some (decide (i < j))
  | .LtE, .int i, .int j => some (decide (i ≤ j))
  | .Gt, .int i, .int j => some (decide (j < i))
  | .GtE, .int i, .int j => some (decide (j ≤ i))
  | .Lt, x, y => if ordOk x y then some (PySem.W.dataLt x y) else none
  | .LtE, x, y => if ordOk x y then some (!PySem.W.dataLt y x) else none
  | .Gt, x, y => if ordOk x y then some (PySem.W.dataLt y x) else none
  | .GtE, x, y => if ordOk x y then some (!PySem.W.dataLt x y) else none
  | .Is, .none, .none => some true
  | .Is, _, .none => some false
  | .Is, .bool a, .bool b => some (decide (a = b))
  | .IsNot, .none, .none => some false
  | .IsNot, _, .none => some true
  | .IsNot, .bool a, .bool b => some (!decide (a = b))
  | .In, x, .list ys => if flatD x && ys.all flatD then some (inD x ys) else none
  | .In, x, .tuple ys => if flatD x && ys.all flatD then some (inD x ys) else none
  | .NotIn, x, .list ys => if flatD x && ys.all flatD then some (!inD x ys) else none
  | .NotIn, x, .tuple ys => if flatD x && ys.all flatD then some (!inD x ys) else none
  | _, _, _ => none
def truD : D → Option Bool
  | .none => some false
  | .bool b => some b
  | .int i => some (i != 0)
  | .str x => if szOk x.length then some (x.length != 0) else none
  | .list xs => some (!xs.isEmpty)
  | .tuple xs => some (!xs.isEmpty)
  | .dict _ => none
def ixD : D → D → Option D
  | .list xs, .int i => atI xs i
  | .tuple xs, .int i => atI xs i
  | .str z, .int i => if szOk z.length then (atI z.cps.toList i).map fun c => .str ⟨#[c]⟩ else none
  | _, _ => none
def cutD (xs : List D) (lo hi : Option Int) : List D := (xs.drop (HT.sIx xs.length 0 lo)).take (HT.sIx xs.length xs.length hi - HT.sIx xs.length 0 lo)
def slD : D → Option Int → Option Int → Option Vw
  | .list xs, lo, hi => some (.tmp (cutD xs lo hi))
  | .tuple xs, lo, hi => some (.now (.tuple (cutD xs lo hi)))
  | _, _, _ => none
def boolsD : List D → Option (List Bool)
  | [] => some []
  | .bool b :: r => (boolsD r).map (b :: ·)
  | _ :: _ => none
def intsD : List D → Option (List Int)
  | [] => some []
  | .int i :: r => (intsD r).map (i :: ·)
  | _ :: _ => none
/-- all of them can be compared, and none is None -/
def alikeL (xs : List D) : Bool := (xs.all fun x => xs.all fun y => PySem.W.alike x y) && (xs.all fun x => match x with | .none => false | _ => true) && decide (PyData.depthAll xs ≤ 40) && (xs.all fun x => x.canLay0)
def isTup1 : D → Bool
  | .tuple (_ :: _) => true
  | _ => false
def isPl : D → Bool
  | .none => false
  | .tuple _ => false
  | _ => true
def sortB (xs : List D) : Bool := xs.all isTup1 || xs.all isPl
def sortD (xs : List D) : List D := xs.mergeSort fun a b => !PySem.W.dataLt b a
def bfD : Bf → List D → Option Vw
  | .len, [.list xs] => some (.now (.int xs.length))
  | .len, [.tuple xs] => some (.now (.int xs.length))
  | .len, [.str z] => if szOk z.length then some (.now (.int z.length)) else none
  | .sum, [.list xs] => (intsD xs).map fun ns => .now (.int ns.sum)
  | .all, [.list xs] => (boolsD xs).map fun bs => .now (.bool (bs.all id))
  | .any, [.list xs] => (boolsD xs).map fun bs => .now (.bool (bs.any id))
  | .tuple, [.list xs] => some (.now (.tuple xs))
  | .tuple, [.tuple xs] => some (.now (.tuple xs))
  | .list, [.list xs] => some (.tmp xs)
  | .list, [.tuple xs] => some (.tmp xs)
  | .int, [.int i] => some (.now (.int i))
  | .int, [.bool b] => some (.now (.int (if b then 1 else 0)))
  | .bool, [.int i] => some (.now (.bool (i != 0)))
  | .bool, [.bool b] => some (.now (.bool b))
  | .abs, [.int i] => some (.now (.int (if i < 0 then -i else i)))
  | .min, [.list (x :: xs)] => if alikeL (x :: xs) then some (.now (PySem.W.minD x xs)) else none
  | .min, [.tuple (x :: xs)] => if alikeL (x :: xs) then some (.now (PySem.W.minD x xs)) else none
  | .max, [.list (x :: xs)] => if alikeL (x :: xs) then some (.now (PySem.W.maxD x xs)) else none
  | .max, [.tuple (x :: xs)] => if alikeL (x :: xs) then some (.now (PySem.W.maxD x xs)) else none
  | .sorted, [.list xs] => if alikeL xs && sortB xs then some (.tmp (sortD xs)) else none
  | .min, [.int i, .int j] => some (.now (.int (if j < i then j else i)))
  | .max, [.int i, .int j] => some (.now (.int (if j > i then j else i)))
  | .dvm, [.int i, .int j] => if decide (0 < j) && inB 1073741822 j then some (.now (.tuple [.int (i / j), .int (i % j)])) else none
  | _, _ => none
def mthD : Mf → D → D → Option Vw
  | .gcd, .int i, .int j => some (.now (.int ((Nat.gcd i.natAbs j.natAbs : Nat) : Int)))
  | .lcm, .int i, .int j => if smallI i && smallI j then some (.now (.int ((i.natAbs.lcm j.natAbs : Nat) : Int))) else none
  | _, _, _ => none
/-- the different ones -/
def tupI : D → Option (List Int)
  | .tuple ds => intsD ds
  | _ => none
def tupsI : List D → Option (List (List Int))
  | [] => some []
  | d :: ds => (tupI d).bind fun k => (tupsI ds).bind fun ks => some (k :: ks)
def ndup : List (List Int) → List (List Int)
  | [] => []
  | x :: xs => if xs.contains x then ndup xs else x :: ndup xs
def lnsetD : D → Option Vw
  | .list xs => (tupsI xs).bind fun ks => if decide (ks.length < 64) then some (.now (.int (ndup ks).length)) else none
  | .tuple xs => (tupsI xs).bind fun ks => if decide (ks.length < 64) then some (.now (.int (ndup ks).length)) else none
  | _ => none
def isTy : D → Ty → Bool
  | .int _, .int => true
  | .bool _, .int => true
  | .bool _, .bool => true
  | .str _, .str => true
  | .tuple _, .tuple => true
  | .list _, .list => true
  | _, _ => false

/-! ### slots -/
def wipeE (env : SEnv) : List Nat → SEnv
  | [] => env
  | v :: vs => (wipeE env vs).set v .no
/-- behind a block: its own names' slots as they were -/
def backE (old env : SEnv) : List Nat → SEnv
  | [] => env
  | v :: vs => (backE old env vs).set v (old.getD v .no)
/-- slot i gets s; a lent list's slot is never written -/
def putS (env : SEnv) (i : Nat) (s : Sl) : Option SEnv := match env[i]? with
  | some (.bor _) => none
  | some _ => some (env.set i s)
  | none => none
def putN : SEnv → List Nat → List D → Option SEnv
  | env, [], [] => some env
  | env, i :: is, d :: ds => (putS env i (.sh d)).bind fun e => putN e is ds
  | _, _, _ => none
def putT (env : SEnv) : Tg → D → Option SEnv
  | .one i, d => putS env i (.sh d)
  | .many is, .tuple ds => putN env is ds
  | .many _, _ => none
/-- a value on the way is kept: a list of this frame's is frozen -/
def keepF (env : SEnv) : Vw → Option (D × SEnv)
  | .now d => some (d, env)
  | .tmp ds => some (.list ds, env)
  | .late i => match env[i]? with
    | some (.sh d) => some (d, env)
    | some (.own ds) => some (.list ds, env.set i (.sh (.list ds)))
    | _ => none
def keepN (env : SEnv) : List Vw → Option (List D × SEnv)
  | [] => some ([], env)
  | w :: ws => (keepF env w).bind fun p => (keepN p.2 ws).bind fun q => some (p.1 :: q.1, q.2)
def rgD (lo : Int) (n : Nat) : List D := (List.range n).map fun i => .int (lo + (i : Nat))
def rgC (lo c : Int) (n : Nat) : List D := (List.range n).map fun i => .int (lo + (i : Nat) * c)
def rOk (i : Int) : Bool := inB 4611686018427387903 i
def enumD : Nat → List D → List D
  | _, [] => []
  | n, d :: ds => .tuple [.int n, d] :: enumD (n + 1) ds
def seqD : D → Option (List D)
  | .list xs => some xs
  | .tuple xs => some xs
  | _ => none
def looks (env : SEnv) : List Vw → Option (List D)
  | [] => some []
  | w :: ws => (look env w).bind fun d => (looks env ws).bind fun ds => some (d :: ds)

/-! ### expressions -/
/-- a comprehension's turns -/
def lcL (f : D → SEnv → Rs (List D)) : List D → SEnv → Rs (List D)
  | [], env => .ok [] env
  | x :: xs, env => (f x env).bind fun a e => (lcL f xs e).bind fun b e' => .ok (a ++ b) e'
def cntD (d : D) (xs : List D) : Nat := xs.countP fun z => PyData.eqv z d
def truR (env : SEnv) (w : Vw) : Option Bool := (look env w).bind truD

/-- one turn of a comprehension -/
def lcStep (evc : SEnv → Rs Bool) (eve : SEnv → Rs Vw) (tg : Tg) (own : List Nat) (x : D) (en : SEnv) : Rs (List D) := match putT en tg x with
  | none => .stuck
  | some en1 => (evc en1).bind fun ok en2 => if ok then (eve en2).bind fun w en3 => match keepF en3 w with
      | some (d, en4) => .ok [d] (wipeE en4 own)
      | none => .stuck
    else .ok [] (wipeE en2 own)
/-- .. with a second clause -/
def lc2Step (evc : SEnv → Rs Bool) (evi2 : SEnv → Rs (List D)) (evc2 : SEnv → Rs Bool) (eve : SEnv → Rs Vw) (tg tg2 : Tg) (own own2 : List Nat) (x : D) (en : SEnv) : Rs (List D) := match putT en tg x with
  | none => .stuck
  | some en1 => (evc en1).bind fun ok en2 => if ok then (evi2 en2).bind fun ds2 en3 =>
      match lcL (lcStep evc2 eve tg2 own2) ds2 (wipeE en3 own2) with
      | .ok out en4 => .ok out (wipeE en4 own)
      | _ => .stuck
    else .ok [] (wipeE en2 own)
def lcEnd (e1 : SEnv) (own : List Nat) (r : Rs (List D)) : Rs Vw := match r with
  | .ok out en => if szOk out.length then .ok (.tmp out) (backE e1 en own) else .stuck
  | _ => .stuck
def enumK (d : D) (env : SEnv) : Rs (List D) := match d with
  | .list xs => .ok (enumD 0 xs) env
  | .tuple xs => .ok (enumD 0 xs) env
  | _ => .stuck
/-- a call: the arguments are there -/
def callK (fs : FnSem) (ds : List D) (env : SEnv) : Rs Vw :=
  if !fs.bor && ds.length == fs.arity then match fs.run ds with
    | .ret d _ => .ok (.now d) env
    | .exc c x _ => .exc c x env
    | .stuck => .stuck
  else .stuck
def isMine (env : SEnv) (i : Nat) : Bool := match env[i]? with
  | some (.own _) => true
  | some (.bor _) => true
  | _ => false
/-- a call that is lent slot i's list -/
def callbK (fs : FnSem) (i : Nat) (ds : List D) (env : SEnv) : Rs Vw :=
  if fs.bor && ds.length + 1 == fs.arity then match env[i]? with
    | some (.own bs) => match fs.run (.list bs :: ds) with
      | .ret d b => .ok (.now d) (env.set i (.own b))
      | .exc c x b => .exc c x (env.set i (.own b))
      | .stuck => .stuck
    | some (.bor bs) => match fs.run (.list bs :: ds) with
      | .ret d b => .ok (.now d) (env.set i (.bor b))
      | .exc c x b => .exc c x (env.set i (.bor b))
      | .stuck => .stuck
    | _ => .stuck
  else .stuck
mutual
def evE (Φ : Fns) : IE → SEnv → Rs Vw
  | .k d, env => .ok (.now d) env
  | .v i, env => match env[i]? with
    | some (.sh d) => .ok (.now d) env
    | some .no => .stuck
    | some _ => .ok (.late i) env
    | none => .stuck
  | .g _ d, env => .ok (.now d) env
  | .bin op a b, env => (evE Φ a env).bind fun x e1 => (evE Φ b e1).bind fun y e2 => match look e2 x, look e2 y with
    | some d, some d' => .opt (binD op d d') e2
    | _, _ => .stuck
  | .neg a, env => (evE Φ a env).bind fun x e1 => match look e1 x with
    | some (.int i) => .ok (.now (.int (-i))) e1
    | _ => .stuck
  | .cmp op a b, env => (evE Φ a env).bind fun x e1 => (evE Φ b e1).bind fun y e2 => match look e2 x, look e2 y with
    | some d, some d' => .opt ((cmpD op d d').map fun b => .now (.bool b)) e2
    | _, _ => .stuck
  | .cmp2 o o' a b c, env => (evE Φ a env).bind fun x e1 => (evE Φ b e1).bind fun y e2 => match look e2 x, look e2 y with
    | some d, some d' => match cmpD o d d' with
      | some true => (evE Φ c e2).bind fun z e3 => match look e3 y, look e3 z with
        | some d2, some d3 => .opt ((cmpD o' d2 d3).map fun b => .now (.bool b)) e3
        | _, _ => .stuck
      | some false => .ok (.now (.bool false)) e2
      | none => .stuck
    | _, _ => .stuck
  | .and a b, env => (evE Φ a env).bind fun x e1 => match truR e1 x with
    | some true => evE Φ b e1
    | some false => .ok x e1
    | none => .stuck
  | .or a b, env => (evE Φ a env).bind fun x e1 => match truR e1 x with
    | some true => .ok x e1
    | some false => evE Φ b e1
    | none => .stuck
  | .nt a, env => (evE Φ a env).bind fun x e1 => match truR e1 x with
    | some b => .ok (.now (.bool (!b))) e1
    | none => .stuck
  | .ife t a b, env => (evE Φ t env).bind fun x e1 => match truR e1 x with
    | some true => evE Φ a e1
    | some false => evE Φ b e1
    | none => .stuck
  | .tup es, env => (evEs Φ es env).bind fun ws e1 => match keepN e1 ws with
    | some (ds, e2) => if szOk ds.length then .ok (.now (.tuple ds)) e2 else .stuck
    | none => .stuck
  | .lst es, env => (evEs Φ es env).bind fun ws e1 => match keepN e1 ws with
    | some (ds, e2) => if szOk ds.length then .ok (.tmp ds) e2 else .stuck
    | none => .stuck
  | .ix a b, env => (evE Φ a env).bind fun x e1 => (evE Φ b e1).bind fun y e2 => match look e2 x, look e2 y with
    | some d, some d' => .opt ((ixD d d').map .now) e2
    | _, _ => .stuck
  | .sl a lo hi, env => (evE Φ a env).bind fun x e1 => (evO Φ lo e1).bind fun l e2 => (evO Φ hi e2).bind fun h e3 => match look e3 x with
    | some d => .opt (slD d l h) e3
    | none => .stuck
  | .call f es, env => match Φ f with
    | none => .stuck
    | some fs => (evEs Φ es env).bind fun ws e1 => match keepN e1 ws with
      | some (ds, e2) => callK fs ds e2
      | none => .stuck
  | .callb f i es, env => match Φ f, isMine env i with
    | some fs, true => (evEs Φ es env).bind fun ws e1 => match keepN e1 ws with
      | some (ds, e2) => callbK fs i ds e2
      | none => .stuck
    | _, _ => .stuck
  | .bf f es, env => (evEs Φ es env).bind fun ws e1 => match looks e1 ws with
    | some ds => .opt (bfD f ds) e1
    | none => .stuck
  | .isi a ts _, env => (evE Φ a env).bind fun x e1 => match look e1 x with
    | some (.dict _) => .stuck
    | some d => .ok (.now (.bool (ts.any (isTy d)))) e1
    | none => .stuck
  | .cnt a e, env => (evE Φ a env).bind fun x e1 => match look e1 x with
    | some (.list _) => (evE Φ e e1).bind fun y e2 => match look e2 x, look e2 y with
      | some (.list xs), some d => if flatD d && xs.all flatD then .ok (.now (.int (cntD d xs))) e2 else .stuck
      | _, _ => .stuck
    | _ => .stuck
  | .lnset a, env => (evE Φ a env).bind fun x e1 => match look e1 x with
    | some d => .opt (lnsetD d) e1
    | none => .stuck
  | .mth f a b, env => (evE Φ a env).bind fun x e1 => (evE Φ b e1).bind fun y e2 => match look e2 x, look e2 y with
    | some d, some d' => .opt (mthD f d d') e2
    | _, _ => .stuck
  | .lc e tg it c own, env => (evI Φ it env).bind fun ds e1 => lcEnd e1 own (lcL (lcStep (evC Φ c) (evE Φ e) tg own) ds (wipeE e1 own))
  | .lc2 e tg it c tg2 it2 c2 own own2, env => (evI Φ it env).bind fun ds e1 => lcEnd e1 own (lcL (lc2Step (evC Φ c) (evI Φ it2) (evC Φ c2) (evE Φ e) tg tg2 own own2) ds (wipeE e1 own))
def evEs (Φ : Fns) : IEs → SEnv → Rs (List Vw)
  | .nil, env => .ok [] env
  | .cons e es, env => (evE Φ e env).bind fun w e1 => (evEs Φ es e1).bind fun ws e2 => .ok (w :: ws) e2
def evO (Φ : Fns) : IO → SEnv → Rs (Option Int)
  | .none, env => .ok none env
  | .some e, env => (evE Φ e env).bind fun w e1 => match look e1 w with
    | some (.int i) => .ok (some i) e1
    | _ => .stuck
/-- a comprehension's test -/
def evC (Φ : Fns) : IO → SEnv → Rs Bool
  | .none, env => .ok true env
  | .some e, env => (evE Φ e env).bind fun w e1 => .opt (truR e1 w) e1
def evI (Φ : Fns) : II → SEnv → Rs (List D)
  | .seq e, env => (evE Φ e env).bind fun w e1 => match keepF e1 w with
    | some (d, e2) => .opt (seqD d) e2
    | none => .stuck
  | .r1 a, env => (evE Φ a env).bind fun x e1 => match look e1 x with
    | some (.int j) => if rOk j then .ok (rgD 0 j.toNat) e1 else .stuck
    | _ => .stuck
  | .r2 a b, env => (evE Φ a env).bind fun x e1 => (evE Φ b e1).bind fun y e2 => match look e2 x, look e2 y with
    | some (.int i), some (.int j) => if rOk i && rOk j then .ok (rgD i (j - i).toNat) e2 else .stuck
    | _, _ => .stuck
  | .r3 a b c, env => (evE Φ a env).bind fun x e1 => (evE Φ b e1).bind fun y e2 => (evE Φ c e2).bind fun z e3 => match look e3 x, look e3 y, look e3 z with
    | some (.int i), some (.int j), some (.int s) => if s != 0 && decide (s.natAbs < 1073741824) && Builtin.Range.small i j s && decide (0 ≤ Builtin.Range.rangeSize i j s) then .ok (rgC i s (Builtin.Range.rangeSize i j s).toNat) e3 else .stuck
    | _, _, _ => .stuck
  | .enum e, env => (evE Φ e env).bind fun w e1 => match keepF e1 w with
    | some (d, e2) => enumK d e2
    | none => .stuck
end
def evT (Φ : Fns) (e : IE) (env : SEnv) : Rs Bool := (evE Φ e env).bind fun w e1 => .opt (truR e1 w) e1

/-! ### statements -/
def forL (f : D → SEnv → FR) : List D → SEnv → FR
  | [], env => .nxt env
  | x :: xs, env => match f x env with
    | .nxt e => forL f xs e
    | .cnt e => forL f xs e
    | .brk e => .nxt e
    | r => r
def whlL (t : SEnv → Rs Bool) (f : SEnv → FR) : Nat → SEnv → FR
  | 0, _ => .stuck
  | n + 1, env => (t env).toF fun b e => if b then match f e with
      | .nxt e' => whlL t f n e'
      | .cnt e' => whlL t f n e'
      | .brk e' => .nxt e'
      | r => r
    else .nxt e
/-- x = w -/
def putW (env : SEnv) (i : Nat) : Vw → Option SEnv
  | .tmp ds => putS env i (.own ds)
  | w => (keepF env w).bind fun p => putS p.2 i (.sh p.1)

def appK (e2 : SEnv) (i : Nat) (d : D) : FR := match e2[i]? with
  | some (.own ds) => if szOk (ds.length + 1) then .nxt (e2.set i (.own (ds ++ [d]))) else .stuck
  | some (.bor ds) => if szOk (ds.length + 1) then .nxt (e2.set i (.bor (ds ++ [d]))) else .stuck
  | _ => .stuck
def setK (e3 : SEnv) (i : Nat) (j : Int) (d : D) : FR := match e3[i]? with
  | some (.own ds) => match ixN ds.length j with
    | some m => .nxt (e3.set i (.own (ds.set m d)))
    | none => .stuck
  | some (.bor ds) => match ixN ds.length j with
    | some m => .nxt (e3.set i (.bor (ds.set m d)))
    | none => .stuck
  | _ => .stuck
def popK (e : SEnv) (i : Nat) : FR := match e[i]? with
  | some (.own ds) => if ds.isEmpty then .stuck else .nxt (e.set i (.own ds.dropLast))
  | some (.bor ds) => if ds.isEmpty then .stuck else .nxt (e.set i (.bor ds.dropLast))
  | _ => .stuck
mutual
def evS (Φ : Fns) (n : Nat) : IS → SEnv → FR
  | .asg i e, env => (evE Φ e env).toF fun w e1 => match putW e1 i w with
    | some e2 => .nxt e2
    | none => .stuck
  | .asgT is e, env => (evE Φ e env).toF fun w e1 => match keepF e1 w with
    | some (d, e2) => match putT e2 (.many is) d with
      | some e3 => .nxt e3
      | none => .stuck
    | none => .stuck
  | .par is es, env => (evEs Φ es env).toF fun ws e1 => match keepN e1 ws with
    | some (ds, e2) => match putN e2 is ds with
      | some e3 => .nxt e3
      | none => .stuck
    | none => .stuck
  | .asg2 i j e, env => (evE Φ e env).toF fun w e1 => match keepF e1 w with
    | some (d, e2) => match putN e2 [i, j] [d, d] with
      | some e3 => .nxt e3
      | none => .stuck
    | none => .stuck
  | .aug i op e, env => match env[i]? with
    | some (.sh d) => (evE Φ e env).toF fun w e1 => match d, look e1 w with
      | .int a, some (.int b) => match binD op (.int a) (.int b) with
        | some (.now d') => match putS e1 i (.sh d') with
          | some e2 => .nxt e2
          | none => .stuck
        | _ => .stuck
      | _, _ => .stuck
    | _ => .stuck
  | .app i e, env => if isMine env i then (evE Φ e env).toF fun w e1 => match keepF e1 w with
    | some (d, e2) => appK e2 i d
    | none => .stuck else .stuck
  | .set i a e, env => if isMine env i then (evE Φ e env).toF fun w e1 => match keepF e1 w with
    | some (d, e2) => (evE Φ a e2).toF fun x e3 => match look e3 x with
      | some (.int j) => setK e3 i j d
      | _ => .stuck
    | none => .stuck else .stuck
  | .ex e, env => (evE Φ e env).toF fun _ e1 => .nxt e1
  | .ret e, env => (evE Φ e env).toF fun w e1 => match keepF e1 w with
    | some (d, e2) => .ret d e2
    | none => .stuck
  | .retN, env => .ret .none env
  | .ite t a b, env => (evT Φ t env).toF fun c e1 => if c then evSs Φ n a e1 else evSs Φ n b e1
  | .for_ tg it b, env => (evI Φ it env).toF fun ds e1 => forL (fun x e => match putT e tg x with
      | some e2 => evSs Φ n b e2
      | none => .stuck) ds e1
  | .whl t b, env => whlL (evT Φ t) (evSs Φ n b) n env
  | .pop i, env => popK env i
  | .raise0, _ => .stuck
  | .brk, env => .brk env
  | .cnt, env => .cnt env
  | .pass, env => .nxt env
  | .raise c e, env => (evE Φ e env).toF fun w e1 => match keepF e1 w with
    | some (d, e2) => .exc c d e2
    | none => .stuck
  | .tryAt b c i e, env => match evSs Φ n b env with
    | .exc c' x e1 => if c == c' && decide (i < e1.length) then match e with
        | .k d => (match cmpD .Eq x d with | some b => FR.ret (.bool b) e1 | none => .stuck)
        | .v j => match e1[j]? with
          | some (.sh d) => if i == j then .stuck else (match cmpD .Eq x d with | some b => FR.ret (.bool b) e1 | none => .stuck)
          | _ => .stuck
        | _ => .stuck
      else .stuck
    | r => r
def evSs (Φ : Fns) (n : Nat) : ISs → SEnv → FR
  | .nil, env => .nxt env
  | .cons s r, env => (evS Φ n s env).bind fun e => evSs Φ n r e
end
end PyE
namespace PyE
open PySem
-- does it reduce?
example : evE (fun _ => none) (.lc (.bin .Add (.v 1) (.k (.int 1))) (.one 1) (.r1 (.v 0)) .none [1]) [.sh (.int 3), .no] = .ok (.tmp [.int 1, .int 2, .int 3]) [.sh (.int 3), .no] := by rfl
end PyE

set_option Elab.async false
set_option linter.all false
set_option autoImplicit false
set_option maxRecDepth 100000
set_option maxHeartbeats 4000000
/-! # tuple * 1 -/
namespace PyE
open PySem PySem.Spec PyProof.Rows L2
theorem tuple_mul1 (l : Addr) (items : Array Value) (n : Nat) (dd : Option Addr) (sl : Array (Option Value)) (u : Tok) :
    Meets (Builtin.«tuple.__mul__» ⟨[.ref l, .int 1 u], []⟩) (fun _ R s => s.heap.get? l = some { cls := .type "tuple", dict := dd, data := .seq items n, slots := sl } ∧ R (.ok (.ret (Value.ref l))) s) :=
  .of_wp fun prog w A R s h => by
    obtain ⟨hp, g, d, tk, os⟩ := s
    obtain ⟨hl, h⟩ := h
    have f1 := AutoSeq1.idx_int
    have c0 : (decide ((1 : Int) < -(2 ^ 63)) || decide ((1 : Int) ≥ 2 ^ 63)) = false := by decide
    have c1 : (items.isEmpty || (1 : Int) == 1) = true := by simp
    wp_walk using PySem.AutoSeq1.wpAny_loadPart' hl
    repeat (first
      | (refine wpAny_ite_false (decide_eq_false (by rw [c0]; exact Bool.false_ne_true)) ?_; wp_walk using PySem.AutoSeq1.wpAny_loadPart' hl)
      | (refine wpAny_ite_true (decide_eq_true (by rw [c1])) ?_; wp_walk using PySem.AutoSeq1.wpAny_loadPart' hl))
    exact ⟨_, rfl, h⟩
section
variable {X : Cx}
theorem op_rep1 : OpR X (binaryOp .Mult) (fun x y H Q => ∃ l xs, x = .ref l ∧ y = .int 1 ∧ SqT X.K H l xs ∧ Q (.ref l) H) := by
  intro pins s σ H x y v u Q I rx ry h
  obtain ⟨l, xs, rfl, rfl, hT, q⟩ := h
  cases rx
  obtain ⟨t, rfl⟩ := ry
  obtain ⟨its, r, ⟨⟨cls, dd, data, sl⟩, ho, hc, n, hd⟩, hs⟩ := I.tuple hT
  simp only at hc hd
  subst hc hd
  exact wpAny_binaryOp_repeat_ref (T := "tuple") (U := "int") (by decide) ⟨_, ho, rfl⟩ (fun s' => typeIs_int s' 1 t) noFill_tuple_mul PySem.F.fills_int_mul PySem.F.slot_int_rmul repeat_tuple PySem.F.slot_int_index.lookup
    (call_meets PySem.F.slot_int_rmul (typeIs_int s 1 t) PySem.F.entry_int_rmul (PySem.F.args_int_rmul_2 _ _) (int_rmul_tuple 1 t l its.toArray n dd sl)
      ⟨ho, rfl, ⟨_, ho, rfl⟩, call_meets PySem.F.slot_tuple_mul ⟨_, ho, rfl⟩ PySem.F.entry_tuple_mul (PySem.F.args_tuple_mul_2 _ _) (tuple_mul1 l its.toArray n dd sl t) ⟨ho, ⟨.ref l, H, I.tok _, rfl, q⟩⟩⟩)
end
end PyE

set_option Elab.async false
set_option linter.all false
set_option autoImplicit false
set_option maxRecDepth 100000
set_option maxHeartbeats 4000000
/-! # The operations on data are the model's -/
namespace PyE
open PySem PySem.Spec PyProof.Rows L2

def VwN (K : Frag) (F' H' H0 : Hp) : Vw → V → Prop
  | .now d, v => Dp K F' v d
  | .tmp ds, v => ∃ a vs, v = .ref a ∧ H' a = some (.lst vs) ∧ F' a = none ∧ H0 a = none ∧ DpAll K F' vs ds
  | .late _, _ => False
/-- whatever stands for w, with new objects alone, is what Q wants -/
def RN (K : Frag) (F H : Hp) (w : Vw) (Q : VK) : Prop := ∀ v F' H', Go (fun _ => False) F H F' H' → Ex F' H' → VwN K F' H' H w v → Q v H'
section
variable {K : Frag} {F H : Hp} {Q : VK}
theorem Ex.none {F H : Hp} (s : Ex F H) {p : Addr} (h : H p = Option.none) : F p = Option.none := by
  cases q : F p with
  | none => rfl
  | some u => rw [s p u q] at h; cases h
theorem Ex.both {F H : Hp} (s : Ex F H) (p : Addr) (o : HO) : Ex (upd F p o) (upd H p o) := fun b u z => by
  by_cases hb : b = p
  · subst hb; rw [upd_same] at z ⊢; exact z
  · rw [upd_ne hb] at z ⊢; exact s b u z
theorem Ex.right {F H : Hp} (s : Ex F H) {p : Addr} {o : HO} (h : F p = Option.none) : Ex F (upd H p o) := fun b u z => by
  rw [upd_ne (ne_of_none z h)]; exact s b u z
theorem RN.now {d : D} {v : V} (h : RN K F H (.now d) Q) (s : Ex F H) (r : Dp K F v d) : Q v H := h v F H (Go.refl _ _ _) s r
theorem RN.tup {ds : List D} {vs : List V} (h : RN K F H (.now (.tuple ds)) Q) (s : Ex F H) (r : DpAll K F vs ds) {p : Addr} (hp : H p = none) : Q (.ref p) (upd H p (.tup vs)) :=
  h _ (upd F p (.tup vs)) _ (Go.new s hp) (s.both p _) (.tup (.inl (.inl upd_same)) (dpa_ex (Ex.put (s.none hp)) _ _ r))
theorem RN.lst {ds : List D} {vs : List V} (h : RN K F H (.tmp ds) Q) (s : Ex F H) (r : DpAll K F vs ds) {p : Addr} (hp : H p = none) : Q (.ref p) (upd H p (.lst vs)) :=
  h _ F _ (Go.newM hp) (s.right (s.none hp)) ⟨p, vs, rfl, upd_same, s.none hp, hp, r⟩
theorem szOk_le {n : Nat} (h : szOk n = true) : n ≤ sizeLine := by
  rw [sizeLine_eq]; exact of_decide_eq_true h
theorem VR.lst {v : V} {ds : List D} (h : VR K F H v (.list ds)) : ∃ a vs, v = .ref a ∧ SqL K H a vs ∧ DpAll K F vs ds := h
theorem VR.tup {v : V} {ds : List D} (s : Ex F H) (h : VR K F H v (.tuple ds)) : ∃ a vs, v = .ref a ∧ SqT K H a vs ∧ DpAll K F vs ds := by
  have h : Dp K F v (.tuple ds) := h
  cases h with | tup q a => exact ⟨_, _, rfl, s.sqt q, a⟩
theorem VR.int {v : V} {i : Int} (h : VR K F H v (.int i)) : v = .int i := by
  have h : Dp K F v (.int i) := h
  cases h; rfl
theorem VR.bl {v : V} {i : Bool} (h : VR K F H v (.bool i)) : v = .bl i := by
  have h : Dp K F v (.bool i) := h
  cases h; rfl
theorem VR.str {v : V} {i : Str} (h : VR K F H v (.str i)) : v = .str i := by
  have h : Dp K F v (.str i) := h
  cases h; rfl
theorem VR.non {v : V} (h : VR K F H v .none) : v = .non := by
  have h : Dp K F v .none := h
  cases h; rfl
end

section
variable {X : Cx}
theorem op_catL : OpR X (binaryOp .Add) (fun x y H Q => ∃ l b xs zs, x = .ref l ∧ y = .ref b ∧ SqL X.K H l xs ∧ SqL X.K H b zs ∧ xs.length + zs.length ≤ sizeLine ∧ ∀ p, H p = none → Q (.ref p) (upd H p (.lst (xs ++ zs)))) := by
  intro pins s σ H x y v u Q I rx ry h
  obtain ⟨l, b, xs, zs, rfl, rfl, hl, hb, hz, q⟩ := h
  cases rx
  cases ry
  obtain ⟨vs, r1, ⟨⟨cls, dd, data, sl⟩, n, ho, hc, _, hd⟩, _⟩ := I.list hl
  obtain ⟨ws, r2, ⟨⟨cls2, dd2, data2, sl2⟩, n2, ho2, hc2, _, hd2⟩, _⟩ := I.list hb
  simp only at hc hd hc2 hd2
  subst hc hd hc2 hd2
  have e : vs.toArray ++ ws.toArray = (vs ++ ws).toArray := by simp
  have e1 := r1.length
  have e2 := r2.length
  refine concat_meets ⟨_, ho, rfl⟩ ⟨_, ho2, rfl⟩ noFill_list_add seq_list_add PySem.F.slot_list_add PySem.F.entry_list_add (PySem.F.args_list_add_2 _ _) (list_addW l b vs.toArray ws.toArray n n2 dd dd2 sl sl2 (by rw [List.size_toArray, List.size_toArray]; omega)) ⟨ho, ho2, ?_⟩
  rw [e]
  exact ⟨.ref _, _, I.lnew (t' := s.toks) (r1.append r2) (by rw [List.length_append]; omega), rfl, q _ I.fresh⟩

theorem dpa_rep {K : Frag} {F : Hp} {vs : List V} {ds : List D} (h : DpAll K F vs ds) : ∀ n : Nat, DpAll K F (List.replicate n vs).flatten (List.replicate n ds).flatten
  | 0 => .nil
  | n + 1 => by
    rw [List.replicate_succ, List.replicate_succ, List.flatten_cons, List.flatten_cons]
    exact dpa_app h (dpa_rep h n)
/-! ### two-place operators -/
def rBin (K : Frag) (op : Operator) : R2 := fun x y H Q => ∃ F d d' w, Ex F H ∧ VR K F H x d ∧ VR K F H y d' ∧ binD op d d' = some w ∧ RN K F H w Q
theorem opBin (op : Operator) : OpR X (binaryOp op) (rBin X.K op) := by
  intro pins s σ H x y v u Q I rx ry h
  obtain ⟨F, d, d', w, sub, r1, r2, e, q⟩ := h
  unfold binD at e
  split at e
  · have e1 := r1.int; have e2 := r2.int; subst e1 e2; cases e
    exact op_add pins s σ H _ _ v u Q I rx ry ⟨_, _, rfl, rfl, q.now sub (.int _)⟩
  · have e1 := r1.str; have e2 := r2.str; subst e1 e2
    split at e
    · rename_i hz
      cases e
      exact op_add_str pins s σ H _ _ v u Q I rx ry ⟨_, _, rfl, rfl, szOk_le hz, q.now sub (.str _)⟩
    · cases e
  · split at e
    · rename_i as bs hz
      cases e
      obtain ⟨a, xs, rfl, h1, a1⟩ := r1.tup sub
      obtain ⟨b, ys, rfl, h2, a2⟩ := r2.tup sub
      have l1 := dpa_len a1
      have l2 := dpa_len a2
      have z := szOk_le hz
      rename_i hz'
      refine op_catA pins s σ H _ _ v u Q I rx ry ⟨a, b, xs, ys, rfl, rfl, h1, h2, by omega, fun z => ?_, fun _ z => ?_, fun _ _ p hp => ?_⟩
      · subst z
        cases a1
        refine q.now sub ?_
        rw [List.nil_append]
        have := r2; exact this
      · subst z
        cases a2
        refine q.now sub ?_
        rw [List.append_nil]
        have := r1; exact this
      · exact q.tup sub (dpa_app a1 a2) hp
    · cases e
  · split at e
    · rename_i hz
      cases e
      obtain ⟨a, xs, rfl, h1, a1⟩ := r1.lst
      obtain ⟨b, ys, rfl, h2, a2⟩ := r2.lst
      have l1 := dpa_len a1
      have l2 := dpa_len a2
      have z := szOk_le hz
      exact op_catL pins s σ H _ _ v u Q I rx ry ⟨a, b, xs, ys, rfl, rfl, h1, h2, by omega, fun p hp => q.lst sub (dpa_app a1 a2) hp⟩
    · cases e
  · have e1 := r1.int; have e2 := r2.int; subst e1 e2; cases e
    exact op_sub pins s σ H _ _ v u Q I rx ry ⟨_, _, rfl, rfl, q.now sub (.int _)⟩
  · have e1 := r1.int; have e2 := r2.int; subst e1 e2
    split at e
    · rename_i hz
      cases e
      have qq := q.now sub (.int _)
      unfold mulOk at hz
      simp only [Bool.or_eq_true, decide_eq_true_eq] at hz
      rcases hz with (hz | hz) | hz
      · exact op_mul pins s σ H _ _ v u Q I rx ry ⟨_, _, rfl, rfl, .inl (smallI_of hz), qq⟩
      · exact op_mul pins s σ H _ _ v u Q I rx ry ⟨_, _, rfl, rfl, .inr (smallI_of hz), qq⟩
      · exact op_mulW pins s σ H _ _ v u Q I rx ry ⟨_, _, rfl, rfl, hz, qq⟩
    · cases e
  · split at e
    · rename_i as k hz
      cases e
      simp only [Bool.and_eq_true, decide_eq_true_eq, Bool.not_eq_true'] at hz
      obtain ⟨⟨⟨z1, z2⟩, z3⟩, z4⟩ := hz
      have z4 := inB_of z4
      have r1' : Dp X.K F x (.tuple as) := r1
      obtain ⟨a, xs, rfl, h1, a1⟩ := r1.tup sub
      have e2 := r2.int; subst e2
      have l1 := dpa_len a1
      rcases Classical.em (k = 1) with e1 | e1
      · subst e1
        have e3 : (List.replicate (1 : Int).toNat as).flatten = as := by simp
        rw [e3] at q
        exact op_rep1 pins s σ H _ _ v u Q I rx ry ⟨a, xs, rfl, rfl, h1, q.now sub r1'⟩
      · refine op_repT pins s σ H _ _ v u Q I rx ry ⟨a, k, xs, rfl, rfl, h1, fun z => ?_, by omega, by omega, by omega, fun p hp => q.tup sub (dpa_rep a1 _) hp⟩
        subst z
        cases a1
        cases z1
    · cases e
  · have e1 := r1.int; have e2 := r2.int; subst e1 e2
    split at e
    · rename_i hz
      cases e
      unfold divOk at hz
      simp only [Bool.and_eq_true, decide_eq_true_eq] at hz
      exact op_fdivW pins s σ H _ _ v u Q I rx ry ⟨_, _, rfl, rfl, hz, q.now sub (.int _)⟩
    · cases e
  · have e1 := r1.int; have e2 := r2.int; subst e1 e2
    split at e
    · rename_i hz
      cases e
      exact op_mod pins s σ H _ _ v u Q I rx ry ⟨_, _, rfl, rfl, of_decide_eq_true hz, q.now sub (.int _)⟩
    · cases e
  · have e1 := r1.int; have e2 := r2.int; subst e1 e2
    split at e
    · rename_i hz
      cases e
      exact op_pow pins s σ H _ _ v u Q I rx ry ⟨_, _, rfl, rfl, powOk_of hz, q.now sub (.int _)⟩
    · cases e
  · cases e
theorem unNeg : UnR X (unaryOp .USub) (fun x H Q => ∃ F i, VR X.K F H x (.int i) ∧ Q (.int (-i)) H) := by
  intro pins s σ H x v Q I rx h
  obtain ⟨F, i, r, q⟩ := h
  have e := r.int; subst e
  exact un_neg pins s σ H _ v Q I rx ⟨_, rfl, q⟩

/-! ### comparisons -/
theorem flatV_of {K : Frag} {F : Hp} {d : D} {v : V} (h : Dp K F v d) (f : flatD d = true) : flatV v = true := by
  cases h <;> first | rfl | cases f
theorem flatAll_of {K : Frag} {F : Hp} : ∀ {ds : List D} {vs : List V}, DpAll K F vs ds → ds.all flatD = true → vs.all flatV = true
  | _, _, .nil, _ => rfl
  | _, _, .cons a b, f => by
    rw [List.all_cons, Bool.and_eq_true] at f
    rw [List.all_cons, flatV_of a f.1, flatAll_of b f.2]; rfl
theorem eqV_of {K : Frag} {F F' : Hp} {d e : D} {v u : V} (h : Dp K F v d) (h' : Dp K F' u e) (f : flatD d = true) (f' : flatD e = true) : eqV v u = PyData.eqv d e := by
  cases h <;> first | cases f | skip
  all_goals (cases h' <;> first | cases f' | rfl | skip)
  all_goals simp [eqV, PyData.eqv]
theorem inV_of {K : Frag} {F F' : Hp} {d : D} {v : V} (h : Dp K F v d) (f : flatD d = true) : ∀ {ds : List D} {vs : List V}, DpAll K F' vs ds → ds.all flatD = true → inV v vs = inD d ds
  | _, _, .nil, _ => rfl
  | _, _, .cons a b, g => by
    rw [List.all_cons, Bool.and_eq_true] at g
    have ih := inV_of h f b g.2
    unfold inV inD at ih ⊢
    rw [List.any_cons, List.any_cons, ih, eqV_of a h g.1 f]
theorem ordOk_of {x y : D} (h : ordOk x y = true) : PySem.W.alike x y = true ∧ x ≠ .none ∧ x.depth ≤ 60 := by
  unfold ordOk at h
  simp only [Bool.and_eq_true, decide_eq_true_eq] at h
  refine ⟨h.1.1, ?_, h.2⟩
  rintro rfl
  exact absurd h.1.2 (by simp)
def rCmp (K : Frag) (op : CmpOp) : R2 := fun x y H Q => ∃ F d d' b, Ex F H ∧ VR K F H x d ∧ VR K F H y d' ∧ cmpD op d d' = some b ∧ Q (.bl b) H
theorem opCmp (hu : X.A.units + 64 < cLine) (op : CmpOp) : OpR X (compareOp op) (rCmp X.K op) := by
  intro pins s σ H x y v u Q I rx ry h
  obtain ⟨F, d, d', w, sub, r1, r2, e, q⟩ := h
  have ord : ∀ (hd : ordOk d d' = true), ∃ as bs, Reads s.heap v d as ∧ Reads s.heap u d' bs ∧ PySem.W.alike d d' = true ∧ d ≠ .none ∧ X.A.units + min d.depth d'.depth < cLine := fun hd => by
    obtain ⟨h1, h2, h3⟩ := ordOk_of hd
    obtain ⟨as, q1⟩ := Dp.reads I d x v (r1.dp sub) rx
    obtain ⟨bs, q2⟩ := Dp.reads I d' y u (r2.dp sub) ry
    have : min d.depth d'.depth ≤ d.depth := Nat.min_le_left _ _
    exact ⟨as, bs, q1, q2, h1, h2, by omega⟩
  have fin : ∀ {b : Bool}, Q (.bl b) H → EP X pins σ Q (.bool b) s := fun q => ⟨.bl _, H, I, rfl, q⟩
  unfold cmpD at e
  split at e
  · split at e
    · rename_i hz
      rw [Bool.and_eq_true] at hz
      cases e
      exact op_eqD hu pins s σ H _ _ v u Q I rx ry ⟨_, _, r1.dp sub, r2.dp sub, hz.1, hz.2, q⟩
    · cases e
  · split at e
    · rename_i hz
      rw [Bool.and_eq_true] at hz
      cases e
      exact op_neD hu pins s σ H _ _ v u Q I rx ry ⟨_, _, r1.dp sub, r2.dp sub, hz.1, hz.2, q⟩
    · cases e
  · have e1 := r1.int; have e2 := r2.int; subst e1 e2; cases e
    exact op_lt pins s σ H _ _ v u Q I rx ry ⟨_, _, rfl, rfl, q⟩
  · have e1 := r1.int; have e2 := r2.int; subst e1 e2; cases e
    exact op_le pins s σ H _ _ v u Q I rx ry ⟨_, _, rfl, rfl, q⟩
  · have e1 := r1.int; have e2 := r2.int; subst e1 e2; cases e
    exact op_gt pins s σ H _ _ v u Q I rx ry ⟨_, _, rfl, rfl, q⟩
  · have e1 := r1.int; have e2 := r2.int; subst e1 e2; cases e
    exact op_ge pins s σ H _ _ v u Q I rx ry ⟨_, _, rfl, rfl, q⟩
  · split at e
    · rename_i hz
      cases e
      obtain ⟨as, bs, q1, q2, h1, h2, h3⟩ := ord hz
      exact PySem.W.lt_data q1 q2 h1 h2 h3 (fin q)
    · cases e
  · split at e
    · rename_i hz
      cases e
      obtain ⟨as, bs, q1, q2, h1, h2, h3⟩ := ord hz
      exact PySem.W.le_data q1 q2 h1 h2 h3 (fin q)
    · cases e
  · split at e
    · rename_i hz
      cases e
      obtain ⟨as, bs, q1, q2, h1, h2, h3⟩ := ord hz
      exact PySem.W.gt_data q1 q2 h1 h2 h3 (fin q)
    · cases e
  · split at e
    · rename_i hz
      cases e
      obtain ⟨as, bs, q1, q2, h1, h2, h3⟩ := ord hz
      exact PySem.W.ge_data q1 q2 h1 h2 h3 (fin q)
    · cases e
  · have e1 := r1.non; have e2 := r2.non; subst e1 e2; cases e
    exact op_isN pins s σ H _ _ v u Q I rx ry ⟨rfl, q⟩
  · rename_i hn
    have e2 := r2.non; subst e2; cases e
    refine op_isN pins s σ H _ _ v u Q I rx ry ⟨rfl, ?_⟩
    have hx : ¬ x = .non := fun z => by
      subst z
      have h := r1.dp sub
      cases h
      exact hn rfl
    rw [decide_eq_false hx]
    exact q
  · have e1 := r1.bl; have e2 := r2.bl; subst e1 e2; cases e
    exact op_isBl pins s σ H _ _ v u Q I rx ry ⟨_, _, rfl, rfl, q⟩
  · have e1 := r1.non; have e2 := r2.non; subst e1 e2; cases e
    exact op_notN pins s σ H _ _ v u Q I rx ry ⟨rfl, q⟩
  · rename_i hn
    have e2 := r2.non; subst e2; cases e
    refine op_notN pins s σ H _ _ v u Q I rx ry ⟨rfl, ?_⟩
    have hx : ¬ x = .non := fun z => by
      subst z
      have h := r1.dp sub
      cases h
      exact hn rfl
    rw [decide_eq_false hx]
    exact q
  · have e1 := r1.bl; have e2 := r2.bl; subst e1 e2; cases e
    exact op_notBl pins s σ H _ _ v u Q I rx ry ⟨_, _, rfl, rfl, q⟩
  · split at e
    · rename_i hz
      rw [Bool.and_eq_true] at hz
      cases e
      obtain ⟨a, vs, rfl, h1, al⟩ := r2.lst
      have r1' := r1.dp sub
      exact op_in_seq pins s σ H _ _ v u Q I rx ry ⟨a, vs, rfl, .inl h1, flatV_of r1' hz.1, flatAll_of al hz.2, by rw [inV_of r1' hz.1 al hz.2]; exact q⟩
    · cases e
  · split at e
    · rename_i hz
      rw [Bool.and_eq_true] at hz
      cases e
      obtain ⟨a, vs, rfl, h1, al⟩ := r2.tup sub
      have r1' := r1.dp sub
      exact op_in_seq pins s σ H _ _ v u Q I rx ry ⟨a, vs, rfl, .inr h1, flatV_of r1' hz.1, flatAll_of al hz.2, by rw [inV_of r1' hz.1 al hz.2]; exact q⟩
    · cases e
  · split at e
    · rename_i hz
      rw [Bool.and_eq_true] at hz
      cases e
      obtain ⟨a, vs, rfl, h1, al⟩ := r2.lst
      have r1' := r1.dp sub
      exact op_notIn_seq pins s σ H _ _ v u Q I rx ry ⟨a, vs, rfl, .inl h1, flatV_of r1' hz.1, flatAll_of al hz.2, by rw [inV_of r1' hz.1 al hz.2]; exact q⟩
    · cases e
  · split at e
    · rename_i hz
      rw [Bool.and_eq_true] at hz
      cases e
      obtain ⟨a, vs, rfl, h1, al⟩ := r2.tup sub
      have r1' := r1.dp sub
      exact op_notIn_seq pins s σ H _ _ v u Q I rx ry ⟨a, vs, rfl, .inr h1, flatV_of r1' hz.1, flatAll_of al hz.2, by rw [inV_of r1' hz.1 al hz.2]; exact q⟩
    · cases e
  · cases e

/-! ### truth -/
theorem tru_of {K : Frag} {F H : Hp} {x : V} {d : D} {b : Bool} (sub : Ex F H) (r : VR K F H x d) (e : truD d = some b) : TruV K x H b := by
  cases d with
  | none => cases e; have := r.non; subst this; rfl
  | bool c => cases e; have := r.bl; subst this; rfl
  | int i => cases e; have := r.int; subst this; rfl
  | str z =>
    have := r.str; subst this
    change (if szOk z.length = true then some (z.length != 0) else Option.none) = some b at e
    split at e
    · rename_i hz
      cases e
      refine ⟨szOk_le hz, ?_⟩
      cases hl : z.length with
      | zero => rfl
      | succ n =>
        have : ((n + 1 : Nat) : Int) ≠ 0 := by omega
        rw [show ((n + 1 != 0) : Bool) = true from rfl]
        exact (bne_iff_ne.mpr this).symm
    · cases e
  | list ds =>
    cases e
    obtain ⟨a, vs, rfl, h1, al⟩ := r.lst
    refine .inl ⟨vs, h1, ?_⟩
    cases al <;> rfl
  | tuple ds =>
    cases e
    obtain ⟨a, vs, rfl, h1, al⟩ := r.tup sub
    refine .inr (.inl ⟨vs, h1, ?_⟩)
    cases al <;> rfl
  | dict _ => cases e

/-! ### subscripts, slices -/
theorem atI_dp {K : Frag} {F : Hp} {vs : List V} {ds : List D} {i : Int} {d : D} (al : DpAll K F vs ds) (h : atI ds i = some d) : ∃ v, atI vs i = some v ∧ Dp K F v d := by
  unfold atI at h ⊢
  rw [dpa_len al]
  cases e : ixN ds.length i with
  | none => rw [e] at h; cases h
  | some j =>
    rw [e] at h
    obtain ⟨v, h1, h2⟩ := dpa_get al h
    exact ⟨v, h1, h2⟩
def rIxD (K : Frag) : R2 := fun x y H Q => ∃ F d d' w, Ex F H ∧ VR K F H x d ∧ VR K F H y d' ∧ ixD d d' = some w ∧ ∀ v, Dp K F v w → Q v H
theorem ixAll : IxR X (rIxD X.K) := by
  intro value slice pins s σ H x y v u Q I rx ry h hs
  obtain ⟨F, d, d', w, sub, r1, r2, e, q⟩ := h
  unfold ixD at e
  split at e
  · obtain ⟨a, vs, rfl, h1, al⟩ := r1.lst
    have e2 := r2.int; subst e2
    obtain ⟨v', h2, h3⟩ := atI_dp al e
    exact ix_list value slice pins s σ H _ _ v u Q I rx ry ⟨a, vs, _, v', rfl, rfl, h1, h2, q _ h3⟩ hs
  · obtain ⟨a, vs, rfl, h1, al⟩ := r1.tup sub
    have e2 := r2.int; subst e2
    obtain ⟨v', h2, h3⟩ := atI_dp al e
    exact ix_tup value slice pins s σ H _ _ v u Q I rx ry ⟨a, vs, _, v', rfl, rfl, h1, h2, q _ h3⟩ hs
  · have e1 := r1.str; have e2 := r2.int; subst e1 e2
    split at e
    · rename_i z i hz
      cases hc : atI z.cps.toList i with
      | none => rw [hc] at e; cases e
      | some c =>
        rw [hc] at e
        cases e
        exact ix_str value slice pins s σ H _ _ v u Q I rx ry ⟨_, _, c, rfl, rfl, szOk_le hz, hc, q _ (.str _)⟩ hs
    · cases e
  · cases e
def rSlD (K : Frag) : V → Option Int → Option Int → Hp → VK → Prop := fun x lo hi H Q => ∃ F d w, Ex F H ∧ VR K F H x d ∧ slD d lo hi = some w ∧ RN K F H w Q
theorem cut_dp {K : Frag} {F : Hp} {vs : List V} {ds : List D} {lo hi : Option Int} (al : DpAll K F vs ds) : DpAll K F (cutV vs lo hi) (cutD ds lo hi) := by
  unfold cutV cutD
  rw [dpa_len al]
  exact dpa_take _ (dpa_drop _ al)
theorem slAll : SlR X (rSlD X.K) := by
  intro pins s σ H x v vl vu lo hi sl Q I rx hs pl pu h
  obtain ⟨F, d, w, sub, r1, e, q⟩ := h
  unfold slD at e
  split at e
  · cases e
    obtain ⟨a, vs, rfl, h1, al⟩ := r1.lst
    exact sl_list pins s σ H _ v vl vu lo hi sl Q I rx hs pl pu ⟨a, vs, rfl, h1, fun p hp => q.lst sub (cut_dp al) hp⟩
  · cases e
    rename_i ds
    have r1' : Dp X.K F x (.tuple ds) := r1
    obtain ⟨a, vs, rfl, h1, al⟩ := r1.tup sub
    refine sl_tupA pins s σ H _ v vl vu lo hi sl Q I rx hs pl pu ⟨a, vs, rfl, h1, fun hw => ?_, fun _ p hp => q.tup sub (cut_dp al) hp⟩
    have hl := dpa_len al
    refine q.now sub ?_
    have e2 : cutD ds lo hi = ds := by
      unfold cutD
      rw [← hl, hw.1, hw.2, Nat.sub_zero, List.drop_zero, hl, List.take_length]
    rw [e2]
    exact r1'
  · cases e
/-! ### built-in functions -/
theorem boolsD_of {K : Frag} {F : Hp} : ∀ {ds : List D} {vs : List V} {bs : List Bool}, DpAll K F vs ds → boolsD ds = some bs → vs = bs.map V.bl
  | _, _, _, .nil, e => by cases e; rfl
  | _, _, bs, .cons (d := d) (ds := ds) a b, e => by
    cases d with
    | bool c =>
      cases a
      cases h : boolsD ds with
      | none => rw [boolsD, h] at e; cases e
      | some r =>
        rw [boolsD, h] at e
        cases e
        rw [boolsD_of b h]; rfl
    | _ => cases e
theorem intsD_of {K : Frag} {F : Hp} : ∀ {ds : List D} {vs : List V} {bs : List Int}, DpAll K F vs ds → intsD ds = some bs → vs = bs.map V.int
  | _, _, _, .nil, e => by cases e; rfl
  | _, _, bs, .cons (d := d) (ds := ds) a b, e => by
    cases d with
    | int c =>
      cases a
      cases h : intsD ds with
      | none => rw [intsD, h] at e; cases e
      | some r =>
        rw [intsD, h] at e
        cases e
        rw [intsD_of b h]; rfl
    | _ => cases e
theorem alikeL_of {xs : List D} (h : alikeL xs = true) : PySem.W.AlikeAll xs ∧ PyData.depthAll xs ≤ 40 ∧ ∀ x ∈ xs, x.canLay0 = true := by
  unfold alikeL at h
  simp only [Bool.and_eq_true, decide_eq_true_eq, List.all_eq_true] at h
  refine ⟨⟨fun x hx y hy => h.1.1.1 x hx y hy, fun x hx z => ?_⟩, h.1.2, h.2⟩
  subst z
  exact absurd (h.1.1.2 _ hx) (by simp)
theorem foldl_mem (f : D → D → D) (hf : ∀ a b, f a b = a ∨ f a b = b) : ∀ (xs : List D) (x : D), xs.foldl f x ∈ x :: xs
  | [], x => by simp
  | y :: ys, x => by
    have ih := foldl_mem f hf ys (f x y)
    rw [List.foldl_cons]
    rcases List.mem_cons.mp ih with h | h
    · rw [h]
      rcases hf x y with e | e <;> rw [e] <;> simp
    · exact List.mem_cons_of_mem _ (List.mem_cons_of_mem _ h)
theorem minD_mem (x : D) (xs : List D) : PySem.W.minD x xs ∈ x :: xs := foldl_mem _ (fun a b => by
  show (if PySem.W.dataLt b a = true then b else a) = a ∨ (if PySem.W.dataLt b a = true then b else a) = b
  split <;> simp) _ _
theorem maxD_mem (x : D) (xs : List D) : PySem.W.maxD x xs ∈ x :: xs := foldl_mem _ (fun a b => by
  show (if PySem.W.dataLt a b = true then b else a) = a ∨ (if PySem.W.dataLt a b = true then b else a) = b
  split <;> simp) _ _
/-- the i-th item, read as m, is m -/
theorem pick {pins : List (Addr × Obj)} {s : Shared} {σ : L2.St} {F H : Hp} {vs : List V} {us : List Value} {ds : List D} {m : D} {h' : Heap} {i : Nat} {u : Value} {bs : List Addr} (I : Inv X pins σ H s) (sub : Ex F H) (al : DpAll X.K F vs ds) (rv : Vals vs us)
    (hi : us[i]? = some u) (hr : Reads h' u m bs) (k : ∀ b o, s.heap.get? b = some o → h'.get? b = some o) (hm : m.canLay0 = true) : ∃ v, RelV v u ∧ Dp X.K F v m := by
  have hl := rv.length
  have hlt : i < vs.length := by
    have := (List.getElem?_eq_some_iff.mp hi).1
    omega
  obtain ⟨d, e1, e2⟩ := dpa_getV al (List.getElem?_eq_getElem hlt)
  obtain ⟨u', e3, e4⟩ := rv.get (List.getElem?_eq_getElem hlt)
  rw [hi] at e3
  cases e3
  obtain ⟨as, q⟩ := Dp.reads I d _ u (dp_ex sub _ _ e2) e4
  have q' := Reads.keeps k q
  have := PySem.SeqAt.Reads.unique m d u bs as hm hr q'
  subst this
  exact ⟨_, e4, e2⟩
theorem sortB_of {xs : List D} (h : sortB xs = true) : PySem.W.Sortable xs := by
  unfold sortB at h
  rw [Bool.or_eq_true] at h
  rcases h with h | h
  · refine .inl fun d hd => ?_
    have := List.all_eq_true.mp h d hd
    unfold isTup1 at this
    split at this
    · exact ⟨_, _, rfl⟩
    · cases this
  · refine .inr fun d hd => ?_
    have := List.all_eq_true.mp h d hd
    refine ⟨fun z => ?_, fun xs z => ?_⟩ <;> (subst z; cases this)
theorem zip_dp {K : Frag} {F : Hp} : ∀ {vs : List V} {ds : List D}, DpAll K F vs ds → ∀ p ∈ vs.zip ds, Dp K F p.1 p.2
  | _, _, .nil => fun _ h => by cases h
  | _, _, .cons a b => fun p h => by
    rcases List.mem_cons.mp h with e | e
    · subst e; exact a
    · exact zip_dp b p e
theorem dp_zip {K : Frag} {F : Hp} : ∀ {l : List (V × D)}, (∀ p ∈ l, Dp K F p.1 p.2) → DpAll K F (l.map (·.1)) (l.map (·.2))
  | [], _ => .nil
  | p :: l, h => .cons (h p List.mem_cons_self) (dp_zip fun q hq => h q (List.mem_cons_of_mem _ hq))
theorem each_rel {K : Frag} {F : Hp} : ∀ {vs : List V} {us : List Value} {ds : List D}, Vals vs us → DpAll K F vs ds → PySem.W.EachIs (fun (u : Value) (b : V × D) => RelV b.1 u) us (vs.zip ds)
  | _, _, _, .nil, .nil => .nil
  | _, _, _, .cons r t, .cons _ b => .cons r (each_rel t b)
theorem each_reads {X : Cx} {pins : List (Addr × Obj)} {s : Shared} {σ : L2.St} {F H : Hp} (I : Inv X pins σ H s) (sub : Ex F H) : ∀ {vs : List V} {us : List Value} {ds : List D}, Vals vs us → DpAll X.K F vs ds → PySem.W.EachIs (fun (u : Value) (b : V × D) => ∃ as, Reads s.heap u b.2 as) us (vs.zip ds)
  | _, _, _, .nil, .nil => .nil
  | _, _, _, .cons r t, .cons a b => .cons (Dp.reads I _ _ _ (dp_ex sub _ _ a) r) (each_reads I sub t b)
theorem vals_each : ∀ {us : List Value} {l : List (V × D)}, PySem.W.EachIs (fun (u : Value) (b : V × D) => RelV b.1 u) us l → Vals (l.map (·.1)) us
  | _, _, .nil => .nil
  | _, _, .cons r t => .cons r (vals_each t)
theorem zip_snd {K : Frag} {F : Hp} : ∀ {vs : List V} {ds : List D}, DpAll K F vs ds → (vs.zip ds).map (·.2) = ds
  | _, _, .nil => rfl
  | _, _, .cons _ b => by
    rw [List.zip_cons_cons, List.map_cons, zip_snd b]
theorem depth_le : ∀ {ds : List D} {d : D}, d ∈ ds → d.depth ≤ PyData.depthAll ds
  | e :: ds, d, h => by
    rw [PyData.depthAll]
    rcases List.mem_cons.mp h with z | z
    · subst z; exact Nat.le_max_left _ _
    · exact Nat.le_trans (depth_le z) (Nat.le_max_right _ _)
theorem call_sortD {X : Cx} (hu : X.A.units + 64 < cLine) : CallR X (.builtin "sorted") (fun xs H Q => ∃ a vs F ds, xs = [V.ref a] ∧ Ex F H ∧ SqL X.K H a vs ∧ DpAll X.K F vs ds ∧ alikeL ds = true ∧ sortB ds = true ∧ RN X.K F H (.tmp (sortD ds)) Q) := by
  intro pins s σ H xs us Q I r h
  obtain ⟨a, vs, F, ds, rfl, sub, hs, al, hal, hsb, q⟩ := h
  rw [Vals.ref1 r]
  obtain ⟨its, rv, pl, hz⟩ := I.list hs
  obtain ⟨hA, hd, _⟩ := alikeL_of hal
  have hl := rv.length
  have hb : (vs.zip ds).length = its.length := by rw [List.length_zip, dpa_len al, Nat.min_self, ← dpa_len al, hl]
  have hsnd := zip_snd al
  have hfresh : H (s.heap.objs.size + 1) = none := I.hok.fresh (Nat.le_succ _)
  refine PySem.W.sorted_data (bs := vs.zip ds) (enc := fun p => p.2) (R := fun (u : Value) (b : V × D) => RelV b.1 u) pl.isList (each_rel rv al) (each_reads I sub rv al) (by rw [hsnd]; exact fun x hx y hy => hA.1 x hx y hy) (by rw [hsnd]; exact sortB_of hsb) (by rw [hb]; omega)
    (fun b hb => ?_) fun out ho he => ?_
  · have hm : b.2 ∈ ds := by rw [← hsnd]; exact List.mem_map.mpr ⟨b, hb, rfl⟩
    have : b.2.depth ≤ PyData.depthAll ds := depth_le hm
    omega
  · obtain ⟨c, hc⟩ := sortedAll_at s.heap its out.toArray
    have hv := vals_each he
    have hlen : ((vs.zip ds).mergeSort (PySem.W.dataLe false fun p => p.2)).length ≤ sizeLine := by rw [List.length_mergeSort, hb]; omega
    refine ⟨.ref (s.heap.objs.size + 1), upd H (s.heap.objs.size + 1) (.lst (((vs.zip ds).mergeSort (PySem.W.dataLe false fun p => p.2)).map (·.1))), I.laid (t' := s.toks) (fun _ _ => sortedAll_old) (Nat.le_succ _) ⟨by rw [List.length_map]; exact hlen, out, c, hv, hc⟩, rfl, ?_⟩
    refine q.lst sub ?_ hfresh
    have e : ((vs.zip ds).mergeSort (PySem.W.dataLe false fun p => p.2)).map (·.2) = sortD ds := by
      have z := List.map_mergeSort (l := vs.zip ds) (f := fun p : V × D => p.2) (r := PySem.W.dataLe false fun p => p.2) (s := fun a b => !PySem.W.dataLt b a) fun a _ b _ => rfl
      rw [z, hsnd]
      rfl
    rw [← e]
    exact dp_zip fun p hp => zip_dp al p (List.mem_mergeSort.mp hp)
/-- what each built-in function comes to -/
def rBf (K : Frag) (f : Bf) : List V → Hp → VK → Prop := fun xs H Q => ∃ F ds w, Ex F H ∧ (∃ n, n = ds.length ∧ xs.length = n ∧ ∀ (i : Nat) d v, ds[i]? = some d → xs[i]? = some v → VR K F H v d) ∧ bfD f ds = some w ∧ RN K F H w Q
def bfV : Bf → Value
  | .len => .builtin "len" | .sum => .builtin "sum" | .all => .builtin "all" | .any => .builtin "any" | .abs => .builtin "abs" | .min => .builtin "min" | .max => .builtin "max"
  | .tuple => .type "tuple" | .list => .type "list" | .int => .type "int" | .bool => .type "bool" | .sorted => .builtin "sorted" | .dvm => .builtin "divmod"
theorem one_vr {K : Frag} {F H : Hp} {xs : List V} {d : D} (h : ∃ n, n = [d].length ∧ xs.length = n ∧ ∀ (i : Nat) d' v, [d][i]? = some d' → xs[i]? = some v → VR K F H v d') : ∃ v, xs = [v] ∧ VR K F H v d := by
  obtain ⟨n, rfl, h2, h3⟩ := h
  match xs, h2 with
  | [v], _ => exact ⟨v, rfl, h3 0 d v rfl rfl⟩
theorem two_vr {K : Frag} {F H : Hp} {xs : List V} {d e : D} (h : ∃ n, n = [d, e].length ∧ xs.length = n ∧ ∀ (i : Nat) d' v, [d, e][i]? = some d' → xs[i]? = some v → VR K F H v d') : ∃ v u, xs = [v, u] ∧ VR K F H v d ∧ VR K F H u e := by
  obtain ⟨n, rfl, h2, h3⟩ := h
  match xs, h2 with
  | [v, u], _ => exact ⟨v, u, rfl, h3 0 d v rfl rfl, h3 1 e u rfl rfl⟩
theorem bfAll (hc : X.calm = true) (hu : X.A.units + 64 < cLine) (f : Bf) : CallR X (bfV f) (rBf X.K f) := by
  intro pins s σ H xs us Q I rx h
  obtain ⟨F, ds, w, sub, h1, e, q⟩ := h
  have hh := I.ok.hd hc
  unfold bfD at e
  split at e
  · cases e
    obtain ⟨v, rfl, r⟩ := one_vr h1
    obtain ⟨a, vs, rfl, h1, al⟩ := r.lst
    exact call_len_seq pins s σ H _ us Q I rx ⟨a, vs, rfl, .inl h1, by rw [dpa_len al]; exact q.now sub (.int _)⟩
  · cases e
    obtain ⟨v, rfl, r⟩ := one_vr h1
    obtain ⟨a, vs, rfl, h1, al⟩ := r.tup sub
    exact call_len_seq pins s σ H _ us Q I rx ⟨a, vs, rfl, .inr h1, by rw [dpa_len al]; exact q.now sub (.int _)⟩
  · split at e
    · rename_i hz
      cases e
      obtain ⟨v, rfl, r⟩ := one_vr h1
      have := r.str; subst this
      exact call_len_str pins s σ H _ us Q I rx ⟨_, rfl, szOk_le hz, q.now sub (.int _)⟩
    · cases e
  · rename_i ds
    obtain ⟨v, rfl, r⟩ := one_vr h1
    obtain ⟨a, vs, rfl, h1, al⟩ := r.lst
    cases hb : intsD ds with
    | none => rw [hb] at e; cases e
    | some bs =>
      rw [hb] at e
      cases e
      have := intsD_of al hb; subst this
      exact cr_sum hc pins s σ H _ us Q I rx ⟨a, bs, rfl, h1, q.now sub (.int _)⟩
  · rename_i ds
    obtain ⟨v, rfl, r⟩ := one_vr h1
    obtain ⟨a, vs, rfl, h1, al⟩ := r.lst
    cases hb : boolsD ds with
    | none => rw [hb] at e; cases e
    | some bs =>
      rw [hb] at e
      cases e
      have := boolsD_of al hb; subst this
      exact cr_all hc pins s σ H _ us Q I rx ⟨a, bs, rfl, h1, q.now sub (.bl _)⟩
  · rename_i ds
    obtain ⟨v, rfl, r⟩ := one_vr h1
    obtain ⟨a, vs, rfl, h1, al⟩ := r.lst
    cases hb : boolsD ds with
    | none => rw [hb] at e; cases e
    | some bs =>
      rw [hb] at e
      cases e
      have := boolsD_of al hb; subst this
      exact cr_any hc pins s σ H _ us Q I rx ⟨a, bs, rfl, h1, q.now sub (.bl _)⟩
  · cases e
    obtain ⟨v, rfl, r⟩ := one_vr h1
    obtain ⟨a, vs, rfl, h1, al⟩ := r.lst
    exact call_tuple_of pins s σ H _ us Q I rx ⟨a, vs, rfl, .inl ⟨h1, fun p hp => q.tup sub al hp⟩⟩
  · cases e
    obtain ⟨v, rfl, r⟩ := one_vr h1
    have r' := r
    obtain ⟨a, vs, rfl, h1, al⟩ := r.tup sub
    exact call_tuple_of pins s σ H _ us Q I rx ⟨a, vs, rfl, .inr ⟨h1, q.now sub r'⟩⟩
  · cases e
    obtain ⟨v, rfl, r⟩ := one_vr h1
    obtain ⟨a, vs, rfl, h1, al⟩ := r.lst
    exact call_list_of pins s σ H _ us Q I rx ⟨a, vs, rfl, .inl h1, fun p hp => q.lst sub al hp⟩
  · cases e
    obtain ⟨v, rfl, r⟩ := one_vr h1
    obtain ⟨a, vs, rfl, h1, al⟩ := r.tup sub
    exact call_list_of pins s σ H _ us Q I rx ⟨a, vs, rfl, .inr h1, fun p hp => q.lst sub al hp⟩
  · cases e
    obtain ⟨v, rfl, r⟩ := one_vr h1
    have := r.int; subst this
    exact call_int1 pins s σ H _ us Q I rx (.inl ⟨_, rfl, q.now sub (.int _)⟩)
  · cases e
    obtain ⟨v, rfl, r⟩ := one_vr h1
    have := r.bl; subst this
    exact call_int1 pins s σ H _ us Q I rx (.inr ⟨_, rfl, q.now sub (.int _)⟩)
  · cases e
    obtain ⟨v, rfl, r⟩ := one_vr h1
    have := r.int; subst this
    exact call_bool1 pins s σ H _ us Q I rx (.inl ⟨_, rfl, q.now sub (.bl _)⟩)
  · cases e
    obtain ⟨v, rfl, r⟩ := one_vr h1
    have := r.bl; subst this
    exact call_bool1 pins s σ H _ us Q I rx (.inr ⟨_, rfl, q.now sub (.bl _)⟩)
  · cases e
    obtain ⟨v, rfl, r⟩ := one_vr h1
    have := r.int; subst this
    exact call_abs pins s σ H _ us Q I rx ⟨_, rfl, q.now sub (.int _)⟩
  · split at e
    · rename_i x xs' hz
      cases e
      obtain ⟨hA, hd, hcl⟩ := alikeL_of hz
      obtain ⟨v, rfl, r⟩ := one_vr h1
      obtain ⟨a, vs, rfl, h1, al⟩ := r.lst
      obtain ⟨u, rfl, ru⟩ := vals1 rx
      cases ru
      obtain ⟨its, rv, pl, hz⟩ := I.list h1
      obtain ⟨as, hr⟩ := Dp.readsAll I _ _ its (dpa_ex sub _ _ al) rv
      exact PySem.W.min_list_data hh pl.isList (by simpa using hr) hA (by omega) fun i v' h' tk bs hi hrd k => by
        obtain ⟨y, r1, r2⟩ := pick I sub al rv (by simpa using hi) hrd k (hcl _ (minD_mem _ _))
        exact ⟨y, H, I.kept k, r1, q.now sub r2⟩
    · cases e
  · split at e
    · rename_i x xs' hz
      cases e
      obtain ⟨hA, hd, hcl⟩ := alikeL_of hz
      obtain ⟨v, rfl, r⟩ := one_vr h1
      obtain ⟨a, vs, rfl, h1, al⟩ := r.tup sub
      obtain ⟨u, rfl, ru⟩ := vals1 rx
      cases ru
      obtain ⟨its, rv, pl, hz⟩ := I.tuple h1
      obtain ⟨as, hr⟩ := Dp.readsAll I _ _ its (dpa_ex sub _ _ al) rv
      exact PySem.W.min_tuple_data hh pl (by simpa using hr) hA (by omega) fun i v' h' tk bs hi hrd k => by
        obtain ⟨y, r1, r2⟩ := pick I sub al rv (by simpa using hi) hrd k (hcl _ (minD_mem _ _))
        exact ⟨y, H, I.kept k, r1, q.now sub r2⟩
    · cases e
  · split at e
    · rename_i x xs' hz
      cases e
      obtain ⟨hA, hd, hcl⟩ := alikeL_of hz
      obtain ⟨v, rfl, r⟩ := one_vr h1
      obtain ⟨a, vs, rfl, h1, al⟩ := r.lst
      obtain ⟨u, rfl, ru⟩ := vals1 rx
      cases ru
      obtain ⟨its, rv, pl, hz⟩ := I.list h1
      obtain ⟨as, hr⟩ := Dp.readsAll I _ _ its (dpa_ex sub _ _ al) rv
      exact PySem.W.max_list_data hh pl.isList (by simpa using hr) hA (by omega) fun i v' h' tk bs hi hrd k => by
        obtain ⟨y, r1, r2⟩ := pick I sub al rv (by simpa using hi) hrd k (hcl _ (maxD_mem _ _))
        exact ⟨y, H, I.kept k, r1, q.now sub r2⟩
    · cases e
  · split at e
    · rename_i x xs' hz
      cases e
      obtain ⟨hA, hd, hcl⟩ := alikeL_of hz
      obtain ⟨v, rfl, r⟩ := one_vr h1
      obtain ⟨a, vs, rfl, h1, al⟩ := r.tup sub
      obtain ⟨u, rfl, ru⟩ := vals1 rx
      cases ru
      obtain ⟨its, rv, pl, hz⟩ := I.tuple h1
      obtain ⟨as, hr⟩ := Dp.readsAll I _ _ its (dpa_ex sub _ _ al) rv
      exact PySem.W.max_tuple_data hh pl (by simpa using hr) hA (by omega) fun i v' h' tk bs hi hrd k => by
        obtain ⟨y, r1, r2⟩ := pick I sub al rv (by simpa using hi) hrd k (hcl _ (maxD_mem _ _))
        exact ⟨y, H, I.kept k, r1, q.now sub r2⟩
    · cases e
  · split at e
    · rename_i xs' hz
      cases e
      rw [Bool.and_eq_true] at hz
      obtain ⟨v, rfl, r⟩ := one_vr h1
      obtain ⟨a, vs, rfl, h1, al⟩ := r.lst
      exact call_sortD hu pins s σ H _ us Q I rx ⟨a, vs, F, _, rfl, sub, h1, al, hz.1, hz.2, q⟩
    · cases e
  · cases e
    obtain ⟨v, u, rfl, r1, r2⟩ := two_vr h1
    have := r1.int; subst this
    have := r2.int; subst this
    exact call_min2 hc pins s σ H _ us Q I rx ⟨_, _, rfl, q.now sub (.int _)⟩
  · cases e
    obtain ⟨v, u, rfl, r1, r2⟩ := two_vr h1
    have := r1.int; subst this
    have := r2.int; subst this
    exact call_max2 hc pins s σ H _ us Q I rx ⟨_, _, rfl, q.now sub (.int _)⟩
  · split at e
    · rename_i i j hz
      cases e
      rw [Bool.and_eq_true] at hz
      obtain ⟨v, u, rfl, r1, r2⟩ := two_vr h1
      have := r1.int; subst this
      have := r2.int; subst this
      exact call_divmod pins s σ H _ us Q I rx ⟨_, _, rfl, ⟨of_decide_eq_true hz.1, by have := inB_of hz.2; omega⟩, fun p hp => q.tup sub (.cons (.int _) (.cons (.int _) .nil)) hp⟩
    · cases e
  · cases e
/-! ### isinstance -/
def tyN : Ty → String
  | .int => "int" | .bool => "bool" | .str => "str" | .tuple => "tuple" | .list => "list"
theorem ty_bl (b : Bool) (t : Ty) : kitB "bool" (tyN t) = some (isTy (.bool b) t) := by
  have h : ∀ t, kitB "bool" (tyN t) = some (isTy (.bool true) t) := by intro t; cases t <;> decide +kernel
  rw [h t]; cases t <;> rfl
theorem ty_int (b : Int) (t : Ty) : kitB "int" (tyN t) = some (isTy (.int b) t) := by
  have h : ∀ t, kitB "int" (tyN t) = some (isTy (.int 0) t) := by intro t; cases t <;> decide +kernel
  rw [h t]; cases t <;> rfl
theorem ty_str (b : Str) (t : Ty) : kitB "str" (tyN t) = some (isTy (.str b) t) := by
  have h : ∀ t, kitB "str" (tyN t) = some (isTy (.str ⟨#[]⟩) t) := by intro t; cases t <;> decide +kernel
  rw [h t]; cases t <;> rfl
theorem ty_list (b : List D) (t : Ty) : kitB "list" (tyN t) = some (isTy (.list b) t) := by
  have h : ∀ t, kitB "list" (tyN t) = some (isTy (.list []) t) := by intro t; cases t <;> decide +kernel
  rw [h t]; cases t <;> rfl
theorem ty_tuple (b : List D) (t : Ty) : kitB "tuple" (tyN t) = some (isTy (.tuple b) t) := by
  have h : ∀ t, kitB "tuple" (tyN t) = some (isTy (.tuple []) t) := by intro t; cases t <;> decide +kernel
  rw [h t]; cases t <;> rfl
theorem tyx_of {K : Frag} {F H : Hp} {v : V} {d : D} (sub : Ex F H) (r : VR K F H v d) (hd : ∀ kvs, d ≠ .dict kvs) : ∃ n, TyX K H v (.type n) ∧ ∀ t, kitB n (tyN t) = some (isTy d t) := by
  cases d with
  | none => have := r.non; subst this; exact ⟨_, .base .non, fun t => by cases t <;> decide +kernel⟩
  | bool b => have := r.bl; subst this; exact ⟨_, .base (.bl _), ty_bl b⟩
  | int b => have := r.int; subst this; exact ⟨_, .base (.int _), ty_int b⟩
  | str b => have := r.str; subst this; exact ⟨_, .base (.str _), ty_str b⟩
  | list ds =>
    obtain ⟨a, vs, rfl, h1, al⟩ := r.lst
    refine ⟨"list", ?_, ty_list ds⟩
    rcases h1 with (h1 | ⟨o, h1⟩) | ⟨o, its, n, h1, h2, _⟩
    · exact .base (.lst h1)
    · exact .base (.frz h1)
    · exact .kList h1 h2
  | tuple ds =>
    obtain ⟨a, vs, rfl, h1, al⟩ := r.tup sub
    refine ⟨"tuple", ?_, ty_tuple ds⟩
    rcases h1 with (h1 | ⟨o, h1⟩) | ⟨o, its, n, h1, h2, _⟩
    · exact .base (.tup h1)
    · exact .fTuple h1
    · exact .kTuple h1 h2
  | dict kvs => exact absurd rfl (hd kvs)
/-! ### xs.count(x) -/
def rCnt (K : Frag) : V → List V → Hp → VK → Prop := fun x xs H Q => ∃ (a : Addr) (ys : List V) (y : V), x = .ref a ∧ xs = [y] ∧ SqL K H a ys ∧ flatV y = true ∧ ys.all flatV = true ∧ Q (.int (ys.countP (fun z => eqV z y) : Nat)) H
theorem cnt_of {y : V} : ∀ {ys : List V} {us : List Value}, Vals ys us → ys.all flatV = true → us.countP (eqU y) = ys.countP (fun z => eqV z y)
  | _, _, .nil, _ => rfl
  | z :: ys, u :: us, .cons r t, f => by
    rw [List.all_cons, Bool.and_eq_true] at f
    rw [List.countP_cons, List.countP_cons, cnt_of t f.2, eqU_of r f.1]
theorem mt_cnt : MtR X "list.count" (rCnt X.K) := by
  intro pins s σ H x xs v us Q I rx rxs h
  obtain ⟨a, ys, y, rfl, rfl, hs, fy, fys, q⟩ := h
  cases rx
  obtain ⟨uy, rfl, ry⟩ := rxs.one
  obtain ⟨its, rv, ⟨⟨cls, dd, data, sl⟩, n, ho, hc, _, hd⟩, _⟩ := I.list hs
  simp only at hc hd
  subst hc hd
  refine call_meets PySem.F.slot_list_count ⟨_, ho, rfl⟩ PySem.F.entry_list_count (PySem.F.args_list_count_2 _ _) (SeqAt.list_countAt a its.toArray n dd sl uy (eqU y)) ⟨ho, fun u hu => mem_eqAt ry fy rv fys u (by simpa using hu), ?_⟩
  refine ⟨.int (ys.countP (fun z => eqV z y) : Nat), H, I.tok _, ⟨s.toks, ?_⟩, q⟩
  rw [← cnt_of rv fys]
theorem cntD_of {K : Frag} {F F' : Hp} {d : D} {v : V} (r : Dp K F v d) (f : flatD d = true) : ∀ {ds : List D} {vs : List V}, DpAll K F' vs ds → ds.all flatD = true → vs.countP (fun z => eqV z v) = cntD d ds
  | _, _, .nil, _ => rfl
  | _, _, .cons (v := z) a b, g => by
    rw [List.all_cons, Bool.and_eq_true] at g
    unfold cntD
    rw [List.countP_cons, List.countP_cons, cntD_of r f b g.2, eqV_of a r g.1 f]
    rfl
end
end PyE

set_option Elab.async false
set_option linter.all false
set_option autoImplicit false
set_option maxRecDepth 100000
set_option maxHeartbeats 4000000
/-! # len(set(x)), x a list or a tuple of tuples of ints -/
namespace L2
open PySem PySem.Spec PyProof.Rows
section
variable {P : Program} {w : World} {A : Around} {E : Value → Shared → Prop} {s : Shared}
set_option maxHeartbeats 3200000 in
/-- set(xs), xs a tuple -/
theorem call_set_tupsU {l : Addr} {items : Array Value} (ks : List (Addr × List Int)) {Q : Value → Shared → Prop} (hh : A.handled = none) (hl : s.heap.IsTuple l items) (hit : items.toList = ks.map fun p => Value.ref p.1)
    (hk : ∀ p ∈ ks, IsT P w s.heap p.2 p.1) (hfew : ks.length < 64) (hu : A.units + 3 < cLine)
    (h : ∀ (h' : Heap) (tk : Nat) L es ep t, SetTR P w h' s.heap.objs.size L es ep t → Got ks ks.length L → (∀ b o, s.heap.get? b = some o → h'.get? b = some o) → Q (.ref s.heap.objs.size) { s with heap := h', toks := tk }) :
    wpAny (model P w) A (call (.type "set") [.ref l]) Q E s := by
  have hisz : items.size = ks.length := by
    have q := congrArg List.length hit
    rw [Array.length_toList, List.length_map] at q
    exact q
  obtain ⟨c, tl, hmro⟩ := F.called_set.mro
  have hmade := F.called_set.made
  have hsub := F.called_set.sub
  refine wpAny_call (codeAny_of_tree ?_)
  show wpAny _ _ (callAny (.type "set") _) _ _ _
  refine wpAny_pure ⟨Code.quiet_builtin _ (by decide +kernel), codeAny_builtin F.entry_type_call ?_⟩
  rw [Around.under_plain (weight_type_call_type "set" [.ref l] []) rfl]
  have h1 := F.called_set.notType
  have h2 := F.called_set.canCreate
  have hct := F.typeCall_set_1 (.ref l)
  repeat (any_goals (first | assumption | wp_step))

  refine codeAny_mono (code_set_led1 (.ref l) (E := E) (Q₁ := fun obj s₁ => obj = .ref s.heap.objs.size ∧ s₁ = { s with heap := s.heap.push { cls := .type "set", dict := none, data := .set #[] 0 (.fresh 0 0 (!w.params.followText "set-order")) } }) ⟨rfl, rfl⟩) fun r s₁ hr => ?_
  cases r with
  | error e => exact hr
  | ok fl =>
    cases fl with
    | ret obj =>
      obtain ⟨rfl, rfl⟩ := hr
      have hS : (s.heap.push { cls := .type "set", dict := none, data := .set #[] 0 (.fresh 0 0 (!w.params.followText "set-order")) }).get? s.heap.objs.size = some { cls := .type "set", dict := none, data := .set #[] 0 (.fresh 0 0 (!w.params.followText "set-order")) } := Heap.get?_push_size _ rfl
      have hT : Shared.TypeIs { s with heap := s.heap.push { cls := .type "set", dict := none, data := .set #[] 0 (.fresh 0 0 (!w.params.followText "set-order")) } } (.ref s.heap.objs.size) "set" := ⟨_, hS, rfl⟩
      have hli := F.called_set.init.lookup
      have hbi := F.called_set.init.bind (.ref s.heap.objs.size)
      repeat (any_goals (first | assumption | wp_step))

      refine codeAny_mono (codeAny_call_builtin (R := wants (fun r s₂ => r = .none ∧ ∃ h' tk L es ep t, s₂ = { s with heap := h', toks := tk } ∧ SetTR P w h' s.heap.objs.size L es ep t ∧ Got ks ks.length L ∧
          (∀ b o, s.heap.get? b = some o → h'.get? b = some o)) E) F.called_set.init.plain F.entry_set_init (check_set_init_1 hT ?_)) fun r₂ s₂ hr₂ => ?_
      · obtain ⟨ol, hol, hcl, nl, hdl⟩ := hl
        obtain ⟨ocls, odict, odata, oslots⟩ := ol
        simp only at hcl hdl
        subst hcl; subst hdl
        have hol' : (s.heap.push { cls := .type "set", dict := none, data := .set #[] 0 (.fresh 0 0 (!w.params.followText "set-order")) }).get? l = some { cls := .type "tuple", dict := odict, data := .seq items nl, slots := oslots } := Heap.get?_push_of_some _ hol
        have hsls := F.sub_tuple_set
        have hslf := F.sub_tuple_frozenset
        have hne : (Value.type "tuple" == Value.type "dict") = false := by decide
        have hl1 : (s.heap.push { cls := .type "set", dict := none, data := .set #[] 0 (.fresh 0 0 (!w.params.followText "set-order")) }).IsTuple l items := ⟨_, hol', rfl, nl, rfl⟩
        unfold Builtin.«set.__init__» noKeywords Builtin.Frozenset.updateFrom
        generalize hPI : pyIter = PI
        wp_walk
        subst hPI

        refine wpAny_pyIter_tuple hl1 ?_
        refine wpAny_bind (wpAny_runValue ?_)
        have hlS : l < s.heap.objs.size := Heap.lt_size hol
        have hh3 : A.in1.in1.in1.handled = none := by simp [hh]
        have hz1 : (s.heap.push { cls := .type "set", dict := none, data := .set #[] 0 (.fresh 0 0 (!w.params.followText "set-order")) }).objs.size = s.heap.objs.size + 1 := Heap.size_push ..
        have hneI : l ≠ (s.heap.push { cls := .type "set", dict := none, data := .set #[] 0 (.fresh 0 0 (!w.params.followText "set-order")) }).objs.size := by
          rw [Heap.size_push]; exact Nat.ne_of_lt (Nat.lt_succ_of_lt hlS)
        have hSf : s.heap.objs.size ∉ [(s.heap.push { cls := .type "set", dict := none, data := .set #[] 0 (.fresh 0 0 (!w.params.followText "set-order")) }).objs.size, l] := by
          rw [Heap.size_push]; simp only [List.mem_cons, List.mem_singleton, List.not_mem_nil, or_false, not_or]
          exact ⟨Nat.ne_of_lt (Nat.lt_succ_self _), Nat.ne_of_gt hlS⟩
        have hval : ∀ (i : Nat) (v : Value), items[i]? = some v → ∃ p, ks[i]? = some p ∧ v = .ref p.1 := fun i v hv => by
          have q : items.toList[i]? = some v := by rw [Array.getElem?_toList]; exact hv
          rw [hit, List.getElem?_map] at q
          cases hq : ks[i]? with
          | none => rw [hq] at q; cases q
          | some p =>
            rw [hq] at q
            exact ⟨p, rfl, (Option.some.inj q).symm⟩
        have none_of : ∀ b, s.heap.objs.size ≤ b → s.heap.get? b = none := fun b hb => by
          cases q : s.heap.get? b with
          | none => rfl
          | some o => exact absurd (Nat.lt_of_lt_of_le (Heap.lt_size q) hb) (Nat.lt_irrefl _)
        refine set_update_tups ((Walks.tuple hh3 _ l hneI items).toS) s.heap.objs.size
          hSf ks hisz hfew hval s.heap hk (none_of _ (Nat.le_refl _)) (fun b hb => none_of b (by
            rw [List.mem_singleton.mp hb, Heap.size_push]
            exact Nat.le_succ _)) hu (items.size - 0) 0 _ (by omega) (Nat.zero_le _)
          ⟨⟨_, Heap.get?_push_size _ rfl, rfl, rfl⟩, (hl1.push _)⟩ (fun b o e => Heap.get?_push_of_some _ (Heap.get?_push_of_some _ e)) ?hS0 ?hR
        case hS0 =>
          have hget : ((s.heap.push { cls := .type "set", dict := none, data := .set #[] 0 (.fresh 0 0 (!w.params.followText "set-order")) }).push { cls := .type "tuple_iterator", data := .fields #[.ref l, .int 0 0] }).get? s.heap.objs.size
              = some { cls := .type "set", dict := none, data := .set #[] 0 (.fresh 0 0 (!w.params.followText "set-order")) } := Heap.get?_push_of_some _ hS
          exact ⟨[], #[], 0, _, setTR_fresh hget, Got.zero ks⟩
        case hR =>
          intro s' L es ep t hm hS' g' hkp
          obtain ⟨h', g2, d', tk', os'⟩ := s'
          have eg : g2 = s.gens := hm.gens
          have ed : d' = s.drawn := hm.drawn
          have eo : os' = s.os := hm.os
          subst eg; subst ed; subst eo
          show wpAny _ _ _ _ _ _
          refine wpAny_pure ?_
          show wpAny _ _ (ret Value.none) _ _ _
          rw [hisz] at g'
          exact wpAny_pure ⟨rfl, h', tk', L, es, ep, t, rfl, hS', g', hkp⟩

      · cases r₂ with
        | error e => exact hr₂
        | ok fl₂ =>
          cases fl₂ with
          | ret r =>
            obtain ⟨rfl, h', tk, L, es, ep, t, rfl, hS', g', hk'⟩ := hr₂
            repeat (any_goals (first | assumption | wp_step))
            exact h _ _ _ _ _ _ hS' g' hk'
          | _ => exact hr₂.elim
    | _ => exact hr.elim
end
end L2
namespace PyE
open PySem PySem.Spec PyProof.Rows L2
section
variable {X : Cx}
def rSetTT (K : Frag) (P : Program) (w : World) : List V → Hp → VK → Prop := fun xs H Q => ∃ (l : Addr) (ks : List (Addr × List Int)), xs = [V.ref l] ∧ (SqL K H l (ks.map fun p => V.ref p.1) ∨ SqT K H l (ks.map fun p => V.ref p.1)) ∧ (∀ p ∈ ks, SqT K H p.1 (p.2.map V.int)) ∧ ks.length < 64 ∧
  ∀ a L, H a = none → (∀ p ∈ L, p ∈ ks) → (∀ p ∈ ks, p.2 ∈ L.map (·.2)) → (L.map (·.2)).Nodup → Q (.ref a) (upd H a (SetTO P w a L))
theorem cr_setTT (hc : X.calm = true) (hu : X.A.units + 64 < cLine) : CallR X (.type "set") (rSetTT X.K X.prog X.w) := by
  intro pins s σ H xs us Q I r h
  obtain ⟨l, ks, rfl, hl, hk, hf, q⟩ := h
  rw [Vals.ref1 r]
  have hn : H s.heap.objs.size = none := I.hok.fresh (Nat.le_refl _)
  have fin : ∀ (h' : Heap) (tk : Nat) L es ep t, SetTR X.prog X.w h' s.heap.objs.size L es ep t → Got ks ks.length L → (∀ b o, s.heap.get? b = some o → h'.get? b = some o) → EP X pins σ Q (.ref s.heap.objs.size) { s with heap := h', toks := tk } :=
    fun h' tk L es ep t R g k => ⟨.ref s.heap.objs.size, upd H s.heap.objs.size (SetTO X.prog X.w s.heap.objs.size L), I.laid (t' := tk) k (Nat.le_refl _) (setTO_new R.t0), rfl, q _ L hn (fun p hp => List.mem_of_mem_take (g.sub p hp)) (fun p hp => g.all p (by rw [List.take_length]; exact hp)) R.nd⟩
  rcases hl with hl | hl
  · obtain ⟨its, rv, pl, hz⟩ := I.list hl
    exact call_set_tups (P := X.prog) (w := X.w) ks (I.ok.hd hc) pl.isList (by simpa using refs_of_vals rv) (fun p hp => I.isT (hk p hp)) hf (by omega) fin
  · obtain ⟨its, rv, pl, hz⟩ := I.tuple hl
    exact call_set_tupsU (P := X.prog) (w := X.w) ks (I.ok.hd hc) pl (by simpa using refs_of_vals rv) (fun p hp => I.isT (hk p hp)) hf (by omega) fin
theorem cr_lenSetT : CallR X (.builtin "len") (fun xs H Q => ∃ (a : Addr) (L : List (Addr × List Int)), xs = [V.ref a] ∧ H a = some (SetTO X.prog X.w a L) ∧ (∀ p ∈ L, SqT X.K H p.1 (p.2.map V.int)) ∧ Q (.int (L.length : Nat)) H) := by
  intro pins s σ H vs us Q I r h
  obtain ⟨a, L, rfl, ha, hk, q⟩ := h
  have R0 : SetT0 X.prog X.w s.heap a L := (I.hok a _ ha).1
  obtain ⟨es, ep, t, R⟩ := R0.full fun p hp => I.isT (hk p hp)
  rw [Vals.ref1 r]
  obtain ⟨o, ho, hex, hd⟩ := R.ob
  have hs := R.size
  have hf := R.few
  refine call_len_set ho hex hd R.fits (by omega) ?_
  rw [hs]
  exact ⟨.int (L.length : Nat), H, I.tok _, ⟨_, rfl⟩, q⟩
end
section
variable {X : Cx}
def rMth (K : Frag) (f : Mf) : List V → Hp → VK → Prop := fun vs H Q => ∃ F d d' w v1 v2, vs = [v1, v2] ∧ Ex F H ∧ VR K F H v1 d ∧ VR K F H v2 d' ∧ mthD f d d' = some w ∧ RN K F H w Q
theorem cr_mth (f : Mf) : CallR X (.builtin (match f with | .gcd => "math.gcd" | .lcm => "math.lcm")) (rMth X.K f) := by
  intro pins s σ H vs us Q I r h
  obtain ⟨F, d, d', w, v1, v2, rfl, sub, r1, r2, e, q⟩ := h
  unfold mthD at e
  split at e
  · have := r1.int; have := r2.int; subst v1 v2; cases e
    exact cr_gcd pins s σ H _ us Q I r ⟨_, _, rfl, q.now sub (.int _)⟩
  · have := r1.int; have := r2.int; subst v1 v2
    split at e
    · rename_i i j hz
      cases e
      rw [Bool.and_eq_true] at hz
      obtain ⟨t, u, rfl⟩ := Vals.int2 r
      have h1 := smallI_of hz.1
      have h2 := smallI_of hz.2
      exact PySem.W.mc_lcm (by omega) (by omega) fun _ => ⟨.int _, H, I.tok _, ⟨_, rfl⟩, q.now sub (.int _)⟩
    · cases e
  · cases e
end
/-! ### the keys -/
theorem ndup_mem : ∀ (xs : List (List Int)) (x : List Int), x ∈ ndup xs ↔ x ∈ xs
  | [], x => Iff.rfl
  | y :: ys, x => by
    unfold ndup
    split
    · rename_i h
      rw [ndup_mem ys x, List.mem_cons]
      refine ⟨.inr, fun z => z.elim (fun z => ?_) id⟩
      rw [z]
      exact List.contains_iff_mem.mp h
    · rw [List.mem_cons, List.mem_cons, ndup_mem ys x]
theorem ndup_nodup : ∀ xs : List (List Int), (ndup xs).Nodup
  | [] => List.nodup_nil
  | y :: ys => by
    unfold ndup
    split
    · exact ndup_nodup ys
    · rename_i h
      refine List.nodup_cons.mpr ⟨fun z => h ?_, ndup_nodup ys⟩
      rw [ndup_mem] at z
      exact List.contains_iff_mem.mpr z
theorem ndup_len {L ks : List (List Int)} (nd : L.Nodup) (h : ∀ k, k ∈ L ↔ k ∈ ks) : L.length = (ndup ks).length :=
  ((List.perm_ext_iff_of_nodup nd (ndup_nodup ks)).mpr fun k => (h k).trans (ndup_mem ks k).symm).length_eq
theorem tupsI_of {K : Frag} {F H : Hp} (sub : Ex F H) : ∀ {vs : List V} {ds : List D} {ks : List (List Int)}, DpAll K F vs ds → tupsI ds = some ks → ∃ ps : List (Addr × List Int), vs = ps.map (fun p => V.ref p.1) ∧ ps.map (·.2) = ks ∧ ∀ p ∈ ps, SqT K H p.1 (p.2.map V.int)
  | _, _, ks, .nil, e => by
    cases e
    exact ⟨[], rfl, rfl, fun p h => by cases h⟩
  | _, _, ks, .cons (d := d) (ds := ds) a b, e => by
    unfold tupsI at e
    cases e1 : tupI d with
    | none => rw [e1] at e; cases e
    | some k =>
      rw [e1] at e
      have e : (tupsI ds).bind (fun ks => some (k :: ks)) = some ks := e
      cases e2 : tupsI ds with
      | none => rw [e2] at e; cases e
      | some ks' =>
        rw [e2] at e
        have e : some (k :: ks') = some ks := e
        cases e
        obtain ⟨ps, q1, q2, q3⟩ := tupsI_of sub b e2
        cases d with
        | tuple es =>
          cases a with
          | tup s al =>
            have := intsD_of al e1
            subst this
            refine ⟨(_, k) :: ps, by rw [q1]; rfl, by rw [List.map_cons, q2], fun p hp => ?_⟩
            rcases List.mem_cons.mp hp with z | z
            · subst z; exact sub.sqt s
            · exact q3 p z
        | _ => cases e1
end PyE

set_option Elab.async false
set_option linter.all false
set_option autoImplicit false
set_option maxRecDepth 100000
set_option maxHeartbeats 4000000
/-! # What an evaluation promises -/
namespace PyE
open PySem PySem.Spec PyProof.Rows L2

def Own (σ : L2.St) (env env' : SEnv) : Prop := ∀ a, O σ env' a → O σ env a
/-- an error's own dict, at d: its place is x -/
def XAt (K : Frag) (F H : Hp) (d : Addr) (x : D) : Prop := F d = none ∧ ∃ v, H d = some (.xd [((Str.ofString "at"), v)]) ∧ Dp K F v x
section
variable {ba : Addr} {K : Frag} {mg : Str → Option Value} {W : WX} {σ : L2.St} {α β γ δ : Type}
def Post (ba : Addr) (K : Frag) (mg : Str → Option Value) (W : WX) (σ : L2.St) (Rel : Hp → Hp → SEnv → α → β → Prop) (F H : Hp) (env : SEnv) (r : Rs α) (Q : β → Hp → Prop) : Prop :=
  match r with
  | .ok a env' => ∀ b F' H', Go (O σ env) F H F' H' → Own σ env env' → Sim ba K F' H' σ env' → Rel F' H' env' a b → Q b H'
  | .exc c x env' => ∀ d F' H', Go (O σ env) F H F' H' → Own σ env env' → Sim ba K F' H' σ env' → XAt K F' H' d x → ∀ C, mg c = some (.ref C) → W (.ref C) (some d) σ H'
  | .stuck => False
theorem Post.imp {Rel : Hp → Hp → SEnv → α → β → Prop} {F H : Hp} {env : SEnv} {r : Rs α} {Q Q' : β → Hp → Prop} (h : Post ba K mg W σ Rel F H env r Q) (hq : ∀ b H, Q b H → Q' b H) : Post ba K mg W σ Rel F H env r Q' := by
  cases r with
  | ok a e => exact fun b F' H' g o s q => hq _ _ (h b F' H' g o s q)
  | exc c x e => exact h
  | stuck => exact h
theorem Post.rel {Rel Rel' : Hp → Hp → SEnv → α → β → Prop} {F H : Hp} {env : SEnv} {r : Rs α} {Q : β → Hp → Prop} (h : Post ba K mg W σ Rel F H env r Q)
    (hr : ∀ F' H' env' a b, Rel' F' H' env' a b → Rel F' H' env' a b) : Post ba K mg W σ Rel' F H env r Q := by
  cases r with
  | ok a e => exact fun b F' H' g o s q => h b F' H' g o s (hr _ _ _ _ _ q)
  | exc c x e => exact h
  | stuck => exact h
/-- the first part of a bind; what is left is behind it -/
theorem Post.bind {Rel1 : Hp → Hp → SEnv → α → β → Prop} {Rel2 : Hp → Hp → SEnv → γ → δ → Prop} {F H : Hp} {env : SEnv} {r : Rs α} {f : α → SEnv → Rs γ} {Q : δ → Hp → Prop} (h : Post ba K mg W σ Rel2 F H env (r.bind f) Q) :
    Post ba K mg W σ Rel1 F H env r (fun b H1 => ∃ a env1 F1, Go (O σ env) F H F1 H1 ∧ Own σ env env1 ∧ Sim ba K F1 H1 σ env1 ∧ Rel1 F1 H1 env1 a b ∧ Post ba K mg W σ Rel2 F1 H1 env1 (f a env1) Q) := by
  cases r with
  | ok a env1 =>
    intro b F1 H1 g o s q
    refine ⟨a, env1, F1, g, o, s, q, ?_⟩
    have h : Post ba K mg W σ Rel2 F H env (f a env1) Q := h
    cases e : f a env1 with
    | ok a2 env2 =>
      rw [e] at h
      exact fun b F' H' g' o' s' q' => h b F' H' (g.trans g' fun x hx => .inl (o x hx)) (fun x hx => o x (o' x hx)) s' q'
    | exc c x env2 =>
      rw [e] at h
      exact fun d F' H' g' o' s' q' => h d F' H' (g.trans g' fun x hx => .inl (o x hx)) (fun x hx => o x (o' x hx)) s' q'
    | stuck => rw [e] at h; exact h
  | exc c x e => exact h
  | stuck => exact h
theorem Post.go {Rel : Hp → Hp → SEnv → α → β → Prop} {F H F1 H1 : Hp} {env env1 : SEnv} {r : Rs α} {Q : β → Hp → Prop} (h : Post ba K mg W σ Rel F H env r Q) (g : Go (O σ env) F H F1 H1) (o : Own σ env env1) : Post ba K mg W σ Rel F1 H1 env1 r Q := by
  cases r with
  | ok a e => exact fun b F' H' g' o' s' q' => h b F' H' (g.trans g' fun x hx => .inl (o x hx)) (fun x hx => o x (o' x hx)) s' q'
  | exc c x e => exact fun d F' H' g' o' s' q' => h d F' H' (g.trans g' fun x hx => .inl (o x hx)) (fun x hx => o x (o' x hx)) s' q'
  | stuck => exact h
/-- a reading of an evaluation -/
def tR (ba : Addr) (K : Frag) (mg : Str → Option Value) (W : WX) (Rel : L2.St → Hp → Hp → Hp → SEnv → α → β → Prop) (ev : SEnv → Rs α) : L2.St → Hp → (β → Hp → Prop) → Prop := fun σ H Q => ∃ F env, Sim ba K F H σ env ∧ Post ba K mg W σ (Rel σ H) F H env (ev env) Q
end
/-- a value; several; nothing but itself -/
def RE (K : Frag) (σ : L2.St) (H0 F H : Hp) (env : SEnv) (w : Vw) (v : V) : Prop := VwR K F H H0 σ env w v
def isTmp : Vw → Bool
  | .tmp _ => true
  | _ => false
/-- none of these is a list just made that stands at a -/
def NoTmp (a : Addr) : List Vw → List V → Prop
  | w :: ws, v :: vs => (isTmp w = true → v ≠ .ref a) ∧ NoTmp a ws vs
  | _, _ => True
def REs (K : Frag) (σ : L2.St) (H0 F H : Hp) (env : SEnv) : List Vw → List V → Prop
  | [], [] => True
  | w :: ws, v :: vs => VwR K F H H0 σ env w v ∧ (∀ a, isTmp w = true → v = .ref a → NoTmp a ws vs) ∧ REs K σ H0 F H env ws vs
  | _, _ => False
theorem REs.fresh {K : Frag} {σ : L2.St} {H0 F H : Hp} {env : SEnv} {a : Addr} (ha : H0 a ≠ none) : ∀ {ws : List Vw} {vs : List V}, REs K σ H0 F H env ws vs → NoTmp a ws vs
  | [], [], _ => trivial
  | [], _ :: _, _ => trivial
  | _ :: _, [], _ => trivial
  | w :: ws, v :: vs, h => by
    refine ⟨fun t z => ?_, REs.fresh ha h.2.2⟩
    cases w with
    | tmp ds =>
      obtain ⟨b, _, e, _, _, _, h5, _⟩ := h.1
      rw [z] at e
      cases e
      exact ha h5
    | now d => cases t
    | late i => cases t
def RI {α : Type} (σ : L2.St) (H0 F H : Hp) (env : SEnv) (a b : α) : Prop := a = b
/-- what is walked yields just these -/
def Yld (K : Frag) (F0 : Hp) (ds : List D) (J : It) : Prop := ∀ (i : Nat) (F H : Hp), Ex F0 F → Ex F H →
  (∀ d, ds[i]? = some d → J.go i H ∧ ∀ x H', J.yld i H x H' → ∃ F', Go (fun _ => False) F H F' H' ∧ Ex F' H' ∧ Dp K F' x d) ∧ (i = ds.length → J.stop i H)
def RY (K : Frag) (σ : L2.St) (H0 F H : Hp) (env : SEnv) (ds : List D) (J : It) : Prop := Yld K F ds J
abbrev tE (ba : Addr) (K : Frag) (mg : Str → Option Value) (W : WX) (ev : SEnv → Rs Vw) : TE := tR ba K mg W (RE K) ev
abbrev tEs (ba : Addr) (K : Frag) (mg : Str → Option Value) (W : WX) (ev : SEnv → Rs (List Vw)) : TA := tR ba K mg W (REs K) ev
abbrev tB' (ba : Addr) (K : Frag) (mg : Str → Option Value) (W : WX) (ev : SEnv → Rs Bool) : TT := tR ba K mg W RI ev
abbrev tO (ba : Addr) (K : Frag) (mg : Str → Option Value) (W : WX) (ev : SEnv → Rs (Option Int)) : TO := tR ba K mg W RI ev
abbrev tI (ba : Addr) (K : Frag) (mg : Str → Option Value) (W : WX) (ev : SEnv → Rs (List D)) : TI := tR ba K mg W (RY K) ev

section
variable {ba : Addr} {K : Frag} {F F' H H' H0 : Hp} {σ : L2.St} {env env' : SEnv}
theorem Sim.eqlen (s : Sim ba K F H σ env) (s' : Sim ba K F' H' σ env') : env'.length = env.length := s'.len.trans s.len.symm
theorem RE.go {w : Vw} {v : V} (s : Sim ba K F H σ env) (s' : Sim ba K F' H' σ env') (g : Go (O σ env) F H F' H') (o : Own σ env env') (r : RE K σ H0 F H env w v) : RE K σ H0 F' H' env' w v := VwR.go g o (s.eqlen s') r
theorem REs.go (s : Sim ba K F H σ env) (s' : Sim ba K F' H' σ env') (g : Go (O σ env) F H F' H') (o : Own σ env env') : ∀ {ws : List Vw} {vs : List V}, REs K σ H0 F H env ws vs → REs K σ H0 F' H' env' ws vs
  | [], [], _ => trivial
  | _ :: _, _ :: _, h => ⟨VwR.go g o (s.eqlen s') h.1, h.2.1, REs.go s s' g o h.2.2⟩
  | [], _ :: _, h => h.elim
  | _ :: _, [], h => h.elim
theorem RE.early {M : Addr → Prop} {w : Vw} {v : V} {F1 H1 : Hp} (g : Go M F1 H1 F' H') (r : RE K σ H' F H env w v) : RE K σ H1 F H env w v := VwR.early g r
theorem REs.early {M : Addr → Prop} {F1 H1 : Hp} (g : Go M F1 H1 F' H') : ∀ {ws : List Vw} {vs : List V}, REs K σ H' F H env ws vs → REs K σ H1 F H env ws vs
  | [], [], _ => trivial
  | _ :: _, _ :: _, h => ⟨VwR.early g h.1, h.2.1, REs.early g h.2.2⟩
  | [], _ :: _, h => h.elim
  | _ :: _, [], h => h.elim
/-- an operation's end: new objects alone -/
theorem fin (s : Sim ba K F H σ env) (g : Go (fun _ => False) F H F' H') (sub : Ex F' H') : Go (O σ env) F H F' H' ∧ Sim ba K F' H' σ env :=
  ⟨g.mono fun _ h => h.elim, s.go g sub fun _ _ h => h⟩
theorem VwN.vw {w : Vw} {v : V} (s : Sim ba K F H σ env) (g : Go (fun _ => False) F H F' H') (r : VwN K F' H' H w v) (h0 : ∀ a, H a = none → H0 a = none) : VwR K F' H' H0 σ env w v := by
  cases w with
  | now d => exact r
  | late i => exact r.elim
  | tmp ds =>
    obtain ⟨a, vs, e, h1, h2, h3, h4⟩ := r
    refine ⟨a, vs, e, h1, h2, fun z => ?_, h0 a h3, h4⟩
    obtain ⟨_, vs', e'⟩ := s.ofree z
    rw [h3] at e'
    cases e'
/-- a slot is set -/
theorem mine_set {i j : Nat} {sl : Sl} {es : List D} (h : Mine (env.set i sl) j es) : (j = i ∧ (sl = .own es ∨ sl = .bor es)) ∨ (j ≠ i ∧ Mine env j es) := by
  by_cases hj : i = j
  · subst hj
    left
    refine ⟨rfl, ?_⟩
    unfold Mine at h
    by_cases hl : i < env.length
    · rw [List.getElem?_set_self hl] at h
      simpa using h
    · rw [List.getElem?_eq_none (by simpa using hl)] at h
      simp at h
  · right
    refine ⟨Ne.symm hj, ?_⟩
    unfold Mine at h ⊢
    rw [List.getElem?_set_ne hj] at h
    exact h
theorem lent_set {i j : Nat} {sl : Sl} {es : List D} (h : ∀ (i : Nat) (ds : List D), env[i]? = some (Sl.bor ds) → σ[i]? = some (some (.ref ba))) (hn : sl ≠ .bor es) (e : (env.set i sl)[j]? = some (.bor es)) : σ[j]? = some (some (.ref ba)) := by
  by_cases hj : i = j
  · subst hj
    by_cases hl : i < env.length
    · rw [List.getElem?_set_self hl] at e
      exact absurd (Option.some.inj e) hn
    · rw [List.getElem?_eq_none (by simpa using hl)] at e
      cases e
  · rw [List.getElem?_set_ne hj] at e
    exact h j es e
/-- .. where the slots change alike -/
theorem lent_set2 {i j : Nat} {sl : Sl} {x : Option V} {es : List D} (h : ∀ (i : Nat) (ds : List D), env[i]? = some (Sl.bor ds) → σ[i]? = some (some (.ref ba))) (hn : sl ≠ .bor es) (e : (env.set i sl)[j]? = some (.bor es)) : (σ.set i x)[j]? = some (some (.ref ba)) := by
  by_cases hj : i = j
  · subst hj
    by_cases hl : i < env.length
    · rw [List.getElem?_set_self hl] at e
      exact absurd (Option.some.inj e) hn
    · rw [List.getElem?_eq_none (by simpa using hl)] at e
      cases e
  · rw [List.getElem?_set_ne hj] at e ⊢
    exact h j es e
theorem Sim.freeze (s : Sim ba K F H σ env) {i : Nat} {ds : List D} (e : Mine env i ds) : ∃ F', Go (O σ env) F H F' H ∧ Own σ env (env.set i (.sh (.list ds))) ∧ Sim ba K F' H σ (env.set i (.sh (.list ds))) ∧ (∃ v, σ[i]? = some (some v) ∧ Dp K F' v (.list ds)) ∧ ∀ x, F' x = F x ∨ O σ env x := by
  obtain ⟨a, vs, h1, h2, h3, h4⟩ := s.own i ds e
  have mem : O σ env a := ⟨i, ds, e, h1⟩
  have g : Go (O σ env) F H (upd F a (.lst vs)) H := Go.freeze mem h3
  have gx := g.ex
  have dp : Dp K (upd F a (.lst vs)) (.ref a) (.list ds) := .lst (.inl (.inl upd_same)) (dpa_ex gx _ _ h4)
  have hl : i < env.length := by
    rcases e with e | e <;> exact (List.getElem?_eq_some_iff.mp e).1
  refine ⟨_, g, fun b hb => ?_, ⟨fun b o z => ?_, by rw [List.length_set]; exact s.len, fun j d ej => ?_, fun j es m => ?_, fun j es ej => lent_set s.lent (by intro z; cases z) ej, fun j k b es fs m m' => ?_⟩, ⟨_, h1, dp⟩, fun x => ?_⟩
  · obtain ⟨j, es, m, ej⟩ := hb
    rcases mine_set m with ⟨_, z | z⟩ | ⟨_, m⟩
    · cases z
    · cases z
    · exact ⟨j, es, m, ej⟩
  · by_cases hb : b = a
    · subst hb; rw [upd_same] at z; cases z; exact h2
    · rw [upd_ne hb] at z; exact s.sub b o z
  · by_cases hj : i = j
    · subst hj
      rw [List.getElem?_set_self hl] at ej
      cases ej
      exact ⟨_, h1, dp⟩
    · rw [List.getElem?_set_ne hj] at ej
      obtain ⟨v, q1, q2⟩ := s.sh j d ej
      exact ⟨v, q1, dp_ex gx _ _ q2⟩
  · rcases mine_set m with ⟨_, z | z⟩ | ⟨hj, m⟩
    · cases z
    · cases z
    · obtain ⟨b, ws, q1, q2, q3, q4⟩ := s.own j es m
      refine ⟨b, ws, q1, q2, ?_, dpa_ex gx _ _ q4⟩
      rw [upd_ne (fun (z : b = a) => hj (s.dis j i a es ds m e (z ▸ q1) h1))]
      exact q3
  · rcases mine_set m with ⟨_, z | z⟩ | ⟨_, m⟩
    · cases z
    · cases z
    · rcases mine_set m' with ⟨_, z | z⟩ | ⟨_, m'⟩
      · cases z
      · cases z
      · exact s.dis j k b es fs m m'
  · by_cases hx : x = a
    · exact .inr (hx ▸ mem)
    · exact .inl (upd_ne hx)
theorem keepF_ok {M : Addr → Prop} (s : Sim ba K F H σ env) {w : Vw} {v : V} {d : D} (r : VwR K F H H0 σ env w v) (e : keepF env w = some (d, env')) (hm : ∀ a, (H0 a = none → M a) ∧ (O σ env a → M a)) :
    ∃ F', Go M F H F' H ∧ Own σ env env' ∧ Sim ba K F' H σ env' ∧ Dp K F' v d ∧ ∀ x, F' x = F x ∨ O σ env x ∨ (isTmp w = true ∧ v = .ref x) := by
  cases w with
  | now d' =>
    cases e
    exact ⟨F, Go.refl _ _ _, fun _ h => h, s, r, fun x => .inl rfl⟩
  | tmp ds =>
    cases e
    obtain ⟨a, vs, rfl, h1, h2, h3, h4, h5⟩ := r
    have g : Go M F H (upd F a (.lst vs)) H := Go.freeze ((hm a).1 h4) h2
    have g' : Go (fun b => b = a) F H (upd F a (.lst vs)) H := Go.freeze rfl h2
    have sub : Ex (upd F a (.lst vs)) H := fun b o z => by
      by_cases hb : b = a
      · subst hb; rw [upd_same] at z; cases z; exact h1
      · rw [upd_ne hb] at z; exact s.sub b o z
    refine ⟨_, g, fun _ h => h, s.go g' sub (fun b ob (z : b = a) => h3 (z ▸ ob)), .lst (.inl (.inl upd_same)) (dpa_ex g.ex _ _ h5), fun x => ?_⟩
    by_cases hx : x = a
    · exact .inr (.inr ⟨rfl, by rw [hx]⟩)
    · exact .inl (upd_ne hx)
  | late i =>
    obtain ⟨r, _⟩ := r
    cases q : env[i]? with
    | none => simp [keepF, q] at e
    | some sl =>
      cases sl with
      | no => simp [keepF, q] at e
      | bor ds => simp [keepF, q] at e
      | sh d' =>
        simp only [keepF, q, Option.some.injEq, Prod.mk.injEq] at e
        obtain ⟨rfl, rfl⟩ := e
        obtain ⟨v', h1, h2⟩ := s.sh i _ q
        rw [r] at h1
        cases h1
        exact ⟨F, Go.refl _ _ _, fun _ h => h, s, h2, fun x => .inl rfl⟩
      | own ds =>
        simp only [keepF, q, Option.some.injEq, Prod.mk.injEq] at e
        obtain ⟨rfl, rfl⟩ := e
        obtain ⟨F', g, o, s', ⟨v', h1, h2⟩, hx⟩ := s.freeze (i := i) (.inl q)
        rw [r] at h1
        cases h1
        exact ⟨F', g.mono fun a h => .inl ((hm a).2 h), o, s', h2, fun x => (hx x).elim .inl fun z => .inr (.inl z)⟩
/-- a list just made, where another one is frozen -/
theorem VwR.kept {w : Vw} {v : V} (r : VwR K F H H0 σ env w v) (ex : Ex F F') (o : Own σ env env') (hl : env'.length = env.length) (hx : ∀ a, isTmp w = true → v = .ref a → F' a = F a) : VwR K F' H H0 σ env' w v := by
  cases w with
  | now d => exact dp_ex ex _ _ r
  | late i => exact ⟨r.1, hl ▸ r.2⟩
  | tmp ds =>
    obtain ⟨a, vs, e, h1, h2, h3, h4, h5⟩ := r
    exact ⟨a, vs, e, h1, (hx a rfl e).trans h2, fun z => h3 (o a z), h4, dpa_ex ex _ _ h5⟩
theorem VwR.notO {w : Vw} {v : V} (r : VwR K F H H0 σ env w v) (t : isTmp w = true) {a : Addr} (e : v = .ref a) : ¬ O σ env a := by
  cases w with
  | now d => cases t
  | late i => cases t
  | tmp ds =>
    obtain ⟨b, vs, e', _, _, h3, _⟩ := r
    rw [e] at e'
    cases e'
    exact h3
theorem keepN_ok {M : Addr → Prop} : ∀ {ws : List Vw} {vs : List V} {ds : List D} {F : Hp} {env env' : SEnv}, Sim ba K F H σ env → REs K σ H0 F H env ws vs → keepN env ws = some (ds, env') → (∀ a, (H0 a = none → M a) ∧ (O σ env a → M a)) →
    ∃ F', Go M F H F' H ∧ Own σ env env' ∧ Sim ba K F' H σ env' ∧ DpAll K F' vs ds
  | [], [], ds, F, env, env', s, _, e, _ => by
    cases e
    exact ⟨F, Go.refl _ _ _, fun _ h => h, s, .nil⟩
  | [], _ :: _, _, _, _, _, _, h, _, _ => h.elim
  | _ :: _, [], _, _, _, _, _, h, _, _ => h.elim
  | w :: ws, v :: vs, ds, F, env, env', s, h, e, hm => by
    obtain ⟨h1, h2, h3⟩ := h
    unfold keepN at e
    cases e1 : keepF env w with
    | none => rw [e1] at e; cases e
    | some p =>
      obtain ⟨d, env1⟩ := p
      rw [e1] at e
      have e : (keepN env1 ws).bind (fun q => some (d :: q.1, q.2)) = some (ds, env') := e
      cases e2 : keepN env1 ws with
      | none => rw [e2] at e; cases e
      | some q =>
        obtain ⟨ds', env2⟩ := q
        rw [e2] at e
        have e : some (d :: ds', env2) = some (ds, env') := e
        cases e
        obtain ⟨F1, g1, o1, s1, p1, hx⟩ := keepF_ok (M := M) s h1 e1 hm
        have rest : ∀ {ws : List Vw} {vs : List V}, REs K σ H0 F H env ws vs → (∀ a, isTmp w = true → v = .ref a → NoTmp a ws vs) → REs K σ H0 F1 H env1 ws vs := by
          intro ws
          induction ws with
          | nil => intro vs r _; cases vs <;> exact r
          | cons w' ws ih =>
            intro vs r n
            cases vs with
            | nil => exact r
            | cons v' vs =>
              refine ⟨VwR.kept r.1 g1.ex o1 (s.eqlen s1) fun a t z => ?_, r.2.1, ih r.2.2 fun a t z => (n a t z).2⟩
              rcases hx a with q | q | ⟨q, q'⟩
              · exact q
              · exact absurd q (VwR.notO r.1 t z)
              · exact absurd z ((n a q q').1 t)
        obtain ⟨F2, g2, o2, s2, p2⟩ := keepN_ok (M := M) s1 (rest h3 h2) e2 fun a => ⟨(hm a).1, fun z => (hm a).2 (o1 a z)⟩
        exact ⟨F2, g1.trans g2 fun x h => .inl h, fun a z => o1 a (o2 a z), s2, .cons (dp_ex g2.ex _ _ p1) p2⟩
theorem look_keep {w : Vw} {d : D} (e : keepF env w = some (d, env')) : True := trivial
end
end PyE

set_option Elab.async false
set_option linter.all false
set_option autoImplicit false
set_option maxRecDepth 100000
set_option maxHeartbeats 4000000
/-! # Slots set and forgotten; a comprehension's loop -/
namespace PyE
open PySem PySem.Spec PyProof.Rows L2

section
variable {ba : Addr} {K : Frag} {F F' H H' H0 : Hp} {σ τ : L2.St} {env env' : SEnv}
theorem set_len {i : Nat} {x : Option V} : (σ.set i x).length = σ.length := List.length_set
/-- slot i: a datum that stays -/
theorem Sim.setSh (s : Sim ba K F H σ env) {i : Nat} {v : V} {d : D} (hi : i < env.length) (r : Dp K F v d) : Sim ba K F H (σ.set i (some v)) (env.set i (.sh d)) := by
  have hs : i < σ.length := by rw [← s.len]; exact hi
  have oth : ∀ {j : Nat} {es : List D}, Mine (env.set i (.sh d)) j es → j ≠ i ∧ Mine env j es := fun m => by
    rcases mine_set m with ⟨_, z | z⟩ | h
    · cases z
    · cases z
    · exact h
  refine ⟨s.sub, by rw [List.length_set, List.length_set]; exact s.len, fun j d' e => ?_, fun j es m => ?_, fun j es e => lent_set2 s.lent (by intro z; cases z) e, fun j k a es fs m m' e1 e2 => ?_⟩
  · by_cases hj : i = j
    · subst hj
      rw [List.getElem?_set_self hi] at e
      cases e
      exact ⟨v, List.getElem?_set_self hs, r⟩
    · rw [List.getElem?_set_ne hj] at e ⊢
      exact s.sh j d' e
  · obtain ⟨hj, m⟩ := oth m
    obtain ⟨a, vs, q1, q2⟩ := s.own j es m
    exact ⟨a, vs, by rw [List.getElem?_set_ne (Ne.symm hj)]; exact q1, q2⟩
  · obtain ⟨hj, m⟩ := oth m
    obtain ⟨hk, m'⟩ := oth m'
    rw [List.getElem?_set_ne (Ne.symm hj)] at e1
    rw [List.getElem?_set_ne (Ne.symm hk)] at e2
    exact s.dis j k a es fs m m' e1 e2
theorem own_setSh (s : Sim ba K F H σ env) {i : Nat} {v : Option V} {d : D} : ∀ a, O (σ.set i v) (env.set i (.sh d)) a → O σ env a := by
  rintro a ⟨j, es, m, e⟩
  rcases mine_set m with ⟨_, z | z⟩ | ⟨hj, m⟩
  · cases z
  · cases z
  · rw [List.getElem?_set_ne (Ne.symm hj)] at e
    exact ⟨j, es, m, e⟩
/-- slot i: nothing -/
theorem Sim.setNo (s : Sim ba K F H σ env) {i : Nat} : Sim ba K F H (σ.set i none) (env.set i .no) := by
  have oth : ∀ {j : Nat} {es : List D}, Mine (env.set i .no) j es → j ≠ i ∧ Mine env j es := fun m => by
    rcases mine_set m with ⟨_, z | z⟩ | h
    · cases z
    · cases z
    · exact h
  refine ⟨s.sub, by rw [List.length_set, List.length_set]; exact s.len, fun j d' e => ?_, fun j es m => ?_, fun j es e => lent_set2 s.lent (by intro z; cases z) e, fun j k a es fs m m' e1 e2 => ?_⟩
  · by_cases hj : i = j
    · subst hj
      by_cases hl : i < env.length
      · rw [List.getElem?_set_self hl] at e
        cases e
      · rw [List.getElem?_eq_none (by simpa using hl)] at e
        cases e
    · rw [List.getElem?_set_ne hj] at e ⊢
      exact s.sh j d' e
  · obtain ⟨hj, m⟩ := oth m
    obtain ⟨a, vs, q1, q2⟩ := s.own j es m
    exact ⟨a, vs, by rw [List.getElem?_set_ne (Ne.symm hj)]; exact q1, q2⟩
  · obtain ⟨hj, m⟩ := oth m
    obtain ⟨hk, m'⟩ := oth m'
    rw [List.getElem?_set_ne (Ne.symm hj)] at e1
    rw [List.getElem?_set_ne (Ne.symm hk)] at e2
    exact s.dis j k a es fs m m' e1 e2
theorem own_setNo {i : Nat} {v : Option V} : ∀ a, O (σ.set i v) (env.set i .no) a → O σ env a := by
  rintro a ⟨j, es, m, e⟩
  rcases mine_set m with ⟨_, z | z⟩ | ⟨hj, m⟩
  · cases z
  · cases z
  · rw [List.getElem?_set_ne (Ne.symm hj)] at e
    exact ⟨j, es, m, e⟩
/-- slot i: a list just made -/
theorem Sim.setOwn (s : Sim ba K F H σ env) {i : Nat} {a : Addr} {vs : List V} {ds : List D} (hi : i < env.length) (h1 : H a = some (.lst vs)) (h2 : F a = none) (h3 : ¬ O σ env a) (h4 : DpAll K F vs ds) : Sim ba K F H (σ.set i (some (.ref a))) (env.set i (.own ds)) := by
  have hs : i < σ.length := by rw [← s.len]; exact hi
  have oth : ∀ {j : Nat} {es : List D}, Mine (env.set i (.own ds)) j es → (j = i ∧ es = ds) ∨ (j ≠ i ∧ Mine env j es) := fun m => by
    rcases mine_set m with ⟨e, z | z⟩ | h
    · cases z; exact .inl ⟨e, rfl⟩
    · cases z
    · exact .inr h
  refine ⟨s.sub, by rw [List.length_set, List.length_set]; exact s.len, fun j d' e => ?_, fun j es m => ?_, fun j es e => lent_set2 s.lent (by intro z; cases z) e, fun j k b es fs m m' e1 e2 => ?_⟩
  · by_cases hj : i = j
    · subst hj
      rw [List.getElem?_set_self hi] at e
      cases e
    · rw [List.getElem?_set_ne hj] at e ⊢
      exact s.sh j d' e
  · rcases oth m with ⟨rfl, rfl⟩ | ⟨hj, m⟩
    · exact ⟨a, vs, List.getElem?_set_self hs, h1, h2, h4⟩
    · obtain ⟨b, ws, q1, q2⟩ := s.own j es m
      exact ⟨b, ws, by rw [List.getElem?_set_ne (Ne.symm hj)]; exact q1, q2⟩
  · rcases oth m with ⟨rfl, rfl⟩ | ⟨hj, m⟩
    · rw [List.getElem?_set_self hs] at e1
      cases e1
      rcases oth m' with ⟨rfl, rfl⟩ | ⟨hk, m'⟩
      · rfl
      · rw [List.getElem?_set_ne (Ne.symm hk)] at e2
        exact absurd ⟨k, fs, m', e2⟩ h3
    · rw [List.getElem?_set_ne (Ne.symm hj)] at e1
      have hO : O σ env b := ⟨j, es, m, e1⟩
      have hM : Mine env j es := m
      rcases oth m' with ⟨hki, hkd⟩ | ⟨hk, m'⟩
      · rw [hki, List.getElem?_set_self hs] at e2
        cases e2
        exact absurd hO h3
      · rw [List.getElem?_set_ne (Ne.symm hk)] at e2
        exact s.dis j k b es fs hM m' e1 e2
theorem own_setOwn {i : Nat} {a : Addr} {ds : List D} : ∀ b, O (σ.set i (some (.ref a))) (env.set i (.own ds)) b → O σ env b ∨ b = a := by
  rintro b ⟨j, es, m, e⟩
  rcases mine_set m with ⟨rfl, _⟩ | ⟨hj, m⟩
  · by_cases hs : j < σ.length
    · rw [List.getElem?_set_self hs] at e
      cases e
      exact .inr rfl
    · rw [List.getElem?_eq_none (by simpa using hs)] at e
      cases e
  · rw [List.getElem?_set_ne (Ne.symm hj)] at e
    exact .inl ⟨j, es, m, e⟩
/-- this frame's list at slot i is written -/
theorem Sim.setMine (s : Sim ba K F H σ env) {i : Nat} {a : Addr} {vs : List V} {ds es : List D} {sl : Sl} (m : Mine env i ds) (hsl : (env[i]? = some (.own ds) ∧ sl = .own es) ∨ (env[i]? = some (.bor ds) ∧ sl = .bor es)) (ha : σ[i]? = some (some (.ref a))) (h4 : DpAll K F vs es) :
    Go (O σ env) F H F (upd H a (.lst vs)) ∧ Sim ba K F (upd H a (.lst vs)) σ (env.set i sl) ∧ Own σ env (env.set i sl) := by
  have hi : i < env.length := by rcases m with e | e <;> exact (List.getElem?_eq_some_iff.mp e).1
  obtain ⟨a', vs', q1, q2, q3, q4⟩ := s.own i ds m
  rw [ha] at q1
  cases q1
  have oth : ∀ {j : Nat} {fs : List D}, Mine (env.set i sl) j fs → (j = i ∧ fs = es) ∨ (j ≠ i ∧ Mine env j fs) := fun mm => by
    rcases mine_set mm with ⟨e, z⟩ | h
    · left
      refine ⟨e, ?_⟩
      rcases hsl with ⟨_, r⟩ | ⟨_, r⟩ <;> subst r <;> rcases z with z | z <;> cases z <;> rfl
    · exact .inr h
  have mo : ∀ b, O σ (env.set i sl) b → O σ env b := by
    rintro b ⟨j, fs, mm, e⟩
    rcases oth mm with ⟨rfl, rfl⟩ | ⟨_, mm⟩
    · exact ⟨j, ds, m, e⟩
    · exact ⟨j, fs, mm, e⟩
  refine ⟨Go.write ⟨i, ds, m, ha⟩, ⟨s.sub.right q3, by rw [List.length_set]; exact s.len, fun j d' e => ?_, fun j fs mm => ?_, fun j fs e => ?_, fun j k b fs gs mm mm' e1 e2 => ?_⟩, mo⟩
  · by_cases hj : i = j
    · subst hj
      rw [List.getElem?_set_self hi] at e
      rcases hsl with ⟨_, r⟩ | ⟨_, r⟩ <;> subst r <;> cases e
    · rw [List.getElem?_set_ne hj] at e
      exact s.sh j d' e
  · rcases oth mm with ⟨rfl, rfl⟩ | ⟨hj, mm⟩
    · exact ⟨a, vs, ha, upd_same, q3, h4⟩
    · obtain ⟨b, ws, p1, p2, p3, p4⟩ := s.own j fs mm
      refine ⟨b, ws, p1, ?_, p3, p4⟩
      rw [upd_ne (fun (z : b = a) => hj (s.dis j i a fs ds mm m (z ▸ p1) ha))]
      exact p2
  · by_cases hj : i = j
    · subst hj
      rcases hsl with ⟨_, r⟩ | ⟨q, r⟩
      · subst r
        rw [List.getElem?_set_self hi] at e
        cases e
      · exact s.lent i ds q
    · rw [List.getElem?_set_ne hj] at e
      exact s.lent j fs e
  · rcases oth mm with ⟨rfl, rfl⟩ | ⟨hj, mm⟩
    · rcases oth mm' with ⟨rfl, rfl⟩ | ⟨hk, mm'⟩
      · rfl
      · exact s.dis j k b ds gs m mm' e1 e2
    · have hM : Mine env j fs := mm
      rcases oth mm' with ⟨hki, hkd⟩ | ⟨hk, mm'⟩
      · rw [hki] at e2 ⊢
        exact s.dis j i b fs ds hM m e1 e2
      · exact s.dis j k b fs gs hM mm' e1 e2
theorem Sim.wipe (s : Sim ba K F H σ env) : ∀ own : List Nat, Sim ba K F H (L2.wipe σ own) (wipeE env own)
  | [] => s
  | i :: own => (Sim.wipe s own).setNo
theorem own_wipe : ∀ (own : List Nat) (a : Addr), O (L2.wipe σ own) (wipeE env own) a → O σ env a
  | [], _, h => h
  | i :: own, a, h => own_wipe own a (own_setNo a h)
theorem wipeE_len : ∀ own : List Nat, (wipeE env own).length = env.length
  | [] => rfl
  | i :: own => by unfold wipeE; rw [List.length_set, wipeE_len own]
theorem putS_ok {i : Nat} {sl : Sl} (e : putS env i sl = some env') : env' = env.set i sl ∧ i < env.length := by
  unfold putS at e
  cases q : env[i]? with
  | none => rw [q] at e; cases e
  | some x =>
    rw [q] at e
    have hl := (List.getElem?_eq_some_iff.mp q).1
    cases x with
    | bor _ => cases e
    | no => cases e; exact ⟨rfl, hl⟩
    | sh _ => cases e; exact ⟨rfl, hl⟩
    | own _ => cases e; exact ⟨rfl, hl⟩
/-- a target: what the slots are behind it -/
def gT (K : Frag) : Tg → TG
  | .one i => gName i
  | .many is => gTup K is.length (gN is)
where gN : List Nat → TGs
  | [] => gNil
  | i :: is => gCons (gName i) (gN is)
theorem setN_ok : ∀ {is : List Nat} {ds : List D} {vs : List V} {σ : L2.St} {env env' : SEnv} {Q : L2.St → Hp → Prop}, Sim ba K F H σ env → DpAll K F vs ds → putN env is ds = some env' →
    (∀ σ', Sim ba K F H σ' env' → (∀ a, O σ' env' a → O σ env a) → (∀ own : List Nat, (∀ i ∈ is, i ∈ own) → L2.wipe σ' own = L2.wipe σ own) → Q σ' H) → gT.gN is vs σ H Q
  | [], [], _, σ, env, env', Q, s, r, e, h => by
    cases r
    cases e
    exact ⟨rfl, h σ s (fun _ h => h) fun _ _ => rfl⟩
  | i :: is, d :: ds, _, σ, env, env', Q, s, r, e, h => by
    cases r with
    | @cons v vs _ _ r1 r2 =>
      unfold putN at e
      cases e1 : putS env i (.sh d) with
      | none => rw [e1] at e; cases e
      | some env1 =>
        rw [e1] at e
        obtain ⟨rfl, hi⟩ := putS_ok e1
        refine ⟨v, vs, rfl, ?_⟩
        refine setN_ok (s.setSh hi r1) r2 e fun σ' s' o' w' => h σ' s' (fun a z => own_setSh s a (o' a z)) fun own hm => ?_
        rw [w' own fun j hj => hm j (List.mem_cons_of_mem _ hj)]
        exact wipe_set _ _ _ (hm i List.mem_cons_self)
  | [], _ :: _, _, _, _, _, _, _, _, e, _ => by cases e
  | _ :: _, [], _, _, _, _, _, _, _, e, _ => by cases e
where
  wipe_set (σ : L2.St) {i : Nat} (x : Option V) : ∀ own : List Nat, i ∈ own → L2.wipe (σ.set i x) own = L2.wipe σ own
  | [], h => by cases h
  | j :: own, h => by
    show (L2.wipe (σ.set i x) own).set j none = (L2.wipe σ own).set j none
    by_cases hj : i ∈ own
    · rw [wipe_set σ x own hj]
    · have hij : i = j := by
        rcases List.mem_cons.mp h with e | e
        · exact e
        · exact absurd e hj
      subst hij
      rw [wipe_out σ x own hj, List.set_set]
  wipe_out (σ : L2.St) {i : Nat} (x : Option V) : ∀ own : List Nat, i ∉ own → L2.wipe (σ.set i x) own = (L2.wipe σ own).set i x
  | [], _ => rfl
  | j :: own, h => by
    show (L2.wipe (σ.set i x) own).set j none = ((L2.wipe σ own).set j none).set i x
    have hij : i ≠ j := fun e => h (e ▸ List.mem_cons_self)
    rw [wipe_out σ x own fun z => h (List.mem_cons_of_mem _ z), List.set_comm _ _ hij]
def tgS : Tg → List Nat
  | .one i => [i]
  | .many is => is
theorem putT_ok {tg : Tg} {d : D} {v : V} {Q : L2.St → Hp → Prop} (s : Sim ba K F H σ env) (r : Dp K F v d) (e : putT env tg d = some env')
    (h : ∀ σ', Sim ba K F H σ' env' → (∀ a, O σ' env' a → O σ env a) → (∀ own : List Nat, (∀ i ∈ tgS tg, i ∈ own) → L2.wipe σ' own = L2.wipe σ own) → Q σ' H) : gT K tg v σ H Q := by
  cases tg with
  | one i =>
    obtain ⟨rfl, hi⟩ := putS_ok e
    exact h _ (s.setSh hi r) (own_setSh s) fun own hm => setN_ok.wipe_set _ _ _ (hm i List.mem_cons_self)
  | many is =>
    cases d with
    | tuple ds =>
      cases r with
      | tup q al =>
        have hl : ∀ {is : List Nat} {ds : List D} {env : SEnv}, putN env is ds = some env' → ds.length = is.length := by
          intro is
          induction is with
          | nil => intro ds env e; cases ds with
            | nil => rfl
            | cons _ _ => cases e
          | cons i is ih => intro ds env e; cases ds with
            | nil => cases e
            | cons d ds =>
              unfold putN at e
              cases e1 : putS env i (.sh d) with
              | none => rw [e1] at e; cases e
              | some env1 =>
                rw [e1] at e
                rw [List.length_cons, List.length_cons, ih e]
        exact ⟨_, _, rfl, s.sub.sqt q, (dpa_len al).trans (hl e), setN_ok s al e h⟩
    | _ => cases e
/-- .. where the slot's rule is to be known of every slot -/
theorem backE_len (old : SEnv) : ∀ own : List Nat, (backE old env own).length = env.length
  | [] => rfl
  | i :: own => by unfold backE; rw [List.length_set, backE_len old own]

/-! ### the loop of a comprehension -/
/-- between two turns: the new list at A holds os -/
structure LI (ba : Addr) (K : Frag) (M : Addr → Prop) (F0 H0 : Hp) (τ : L2.St) (A : Addr) (os : List D) (F H : Hp) (env : SEnv) : Prop where
  sim : Sim ba K F H τ env
  go : Go M F0 H0 F H
  own : ∀ a, O τ env a → M a
  acc : ∃ vs, H A = some (.lst vs) ∧ DpAll K F vs os
  fa : F A = none
  no : ¬ M A
theorem lc_loop {M : Addr → Prop} {F0 H0 : Hp} {τ : L2.St} {A : Addr} {step : D → SEnv → Rs (List D)} {J : It} {G : V → Hp → (Hp → Prop) → Prop} {QEnd : Hp → Prop} {ds os0 out : List D} {en env1 : SEnv} {F1 H1 : Hp}
    (y : Yld K F1 ds J) (e : lcL step ds env1 = .ok out en) (i0 : LI ba K M F0 H0 τ A os0 F1 H1 env1)
    (turn : ∀ (d : D) (a : List D) (env env' : SEnv) (os : List D) (F H : Hp) (x : V) (Nx : Hp → Prop), step d env = .ok a env' → os.length + a.length ≤ (os0 ++ out).length → LI ba K M F0 H0 τ A os F H env → Dp K F x d → (∀ F' H', LI ba K M F0 H0 τ A (os ++ a) F' H' env' → Ex F F' → Nx H') → G x H Nx)
    (hend : ∀ F H, LI ba K M F0 H0 τ A (os0 ++ out) F H en → Ex F1 F → QEnd H) :
    ∃ W : Nat → Nat → Hp → Prop, (∃ m, W 0 m H1) ∧ ∀ i m H, W i m H → (J.stop i H ∧ QEnd H) ∨ (J.go i H ∧ ∃ Nx : Hp → Prop, (∀ H', Nx H' → ∃ m', m' < m ∧ W (i + 1) m' H') ∧ ∀ x H', J.yld i H x H' → G x H' Nx) := by
  refine ⟨fun i m H => m = ds.length - i ∧ i ≤ ds.length ∧ ∃ F env os rest, Ex F1 F ∧ lcL step (ds.drop i) env = .ok rest en ∧ os ++ rest = os0 ++ out ∧ LI ba K M F0 H0 τ A os F H env, ⟨_, rfl, Nat.zero_le _, F1, env1, os0, out, Ex.refl _, e, rfl, i0⟩, ?_⟩
  rintro i m H ⟨rfl, hi, F, env, os, rest, ex, el, eo, li⟩
  by_cases hlt : i < ds.length
  · right
    have hd : ds[i]? = some ds[i] := List.getElem?_eq_getElem hlt
    obtain ⟨hgo, hy⟩ := (y i F H ex li.sim.sub).1 _ hd
    rw [List.drop_eq_getElem_cons hlt] at el
    unfold lcL at el
    cases e1 : step ds[i] env with
    | exc c x e2 => rw [e1] at el; cases el
    | stuck => rw [e1] at el; cases el
    | ok a env2 =>
      rw [e1] at el
      have el : (lcL step (ds.drop (i + 1)) env2).bind (fun b e' => .ok (a ++ b) e') = .ok rest en := el
      cases e3 : lcL step (ds.drop (i + 1)) env2 with
      | exc c x e2 => rw [e3] at el; cases el
      | stuck => rw [e3] at el; cases el
      | ok b en' =>
        rw [e3] at el
        have el : (Rs.ok (a ++ b) en' : Rs (List D)) = .ok rest en := el
        cases el
        refine ⟨hgo, fun H' => ∃ F', LI ba K M F0 H0 τ A (os ++ a) F' H' env2 ∧ Ex F F', fun H' ⟨F', li', ex'⟩ => ⟨ds.length - (i + 1), by omega, rfl, hlt, F', env2, os ++ a, b, ex.trans ex', e3, by rw [List.append_assoc]; exact eo, li'⟩, fun x H' hx => ?_⟩
        obtain ⟨F', g, sub, dp⟩ := hy x H' hx
        obtain ⟨vs, h1, h2⟩ := li.acc
        refine turn ds[i] a env env2 os F' H' x _ e1 (by rw [← eo, List.length_append, List.length_append]; omega) ⟨li.sim.go g sub fun _ _ h => h, li.go.trans g fun _ h => h.elim, li.own, ⟨vs, g.keep _ _ (fun h => h) h1, dpa_ex g.ex _ _ h2⟩, g.fz _ (fun h => h) (by rw [h1]; simp) li.fa, li.no⟩ dp fun F2 H2 li2 ex2 => ⟨F2, li2, g.ex.trans ex2⟩
  · have hi' : i = ds.length := by omega
    subst hi'
    rw [List.drop_length] at el
    cases el
    refine .inl ⟨(y _ F H ex li.sim.sub).2 rfl, hend F H ?_ ex⟩
    rw [List.append_nil] at eo
    rw [← eo]
    exact li
/-- an item goes onto the new list -/
theorem LI.push {M : Addr → Prop} {F0 H0 : Hp} {A : Addr} {os : List D} {d : D} {v : V} (hA : H0 A = none) (li : LI ba K M F0 H0 τ A os F H env) (r : Dp K F v d) : ∃ vs, H A = some (.lst vs) ∧ vs.length = os.length ∧ LI ba K M F0 H0 τ A (os ++ [d]) F (upd H A (.lst (vs ++ [v]))) env := by
  obtain ⟨vs, h1, h2⟩ := li.acc
  have nO : ¬ O τ env A := fun z => li.no (li.own A z)
  refine ⟨vs, h1, dpa_len h2, ⟨⟨li.sim.sub.right li.fa, li.sim.len, li.sim.sh, fun i es m => ?_, li.sim.lent, li.sim.dis⟩, ?_, li.own, ⟨_, upd_same, dpa_app h2 (.cons r .nil)⟩, li.fa, li.no⟩⟩
  · obtain ⟨a, ws, q1, q2, q3, q4⟩ := li.sim.own i es m
    refine ⟨a, ws, q1, ?_, q3, q4⟩
    rw [upd_ne (fun (z : a = A) => nO ⟨i, es, m, z ▸ q1⟩)]
    exact q2
  · exact li.go.trans (Go.write (M := fun x => x = A) rfl) fun x (hx : x = A) => .inr (hx ▸ hA)
end
end PyE

set_option Elab.async false
set_option linter.all false
set_option autoImplicit false
set_option maxRecDepth 100000
set_option maxHeartbeats 4000000
/-! # What is walked: a list or a tuple; enumerate of a tuple -/
namespace PySem
open Builtin
set_option maxHeartbeats 1000000 in
theorem meets_enumerate_newT (l : Addr) (items : Array Value) (n : Nat) (dct : Option Addr) (sl : Array (Option Value)) :
    Meets (Builtin.«enumerate.__new__» ⟨[.type "enumerate", .ref l], []⟩) (fun _ R s => s.heap.get? l = some { cls := .type "tuple", dict := dct, data := .seq items n, slots := sl } ∧
      R (.ok (.ret (.ref (s.heap.push { cls := .type "tuple_iterator", data := .fields #[.ref l, .int 0 0] }).objs.size)))
        { s with heap := (s.heap.push { cls := .type "tuple_iterator", data := .fields #[.ref l, .int 0 0] }).push { cls := .type "enumerate", data := .fields #[.none, .bool false, .ref s.heap.objs.size, rawInt 0, .none, .none] } }) :=
  .of_wp fun prog w A R s h => by
    obtain ⟨hp, g, d, tk, os⟩ := s; obtain ⟨hl, h⟩ := h
    have hsub := sub_enumerate
    have hL : Heap.IsTuple (Shared.heap ⟨hp, g, d, tk, os⟩) l items := ⟨_, hl, rfl, n, rfl⟩
    wp_walk using PySem.AutoSeq1.wpAny_loadPart' hl
    refine wpAny_stack_any fun st => wpAny_pure ?_
    split
    · rename_i c _ _ _ _ _
      cases (c == Value.type "enumerate")
      · wp_walk using PySem.AutoSeq1.wpAny_loadPart' hl, wpAny_pyIter_tuple hL
        exact ⟨_, rfl, h⟩
      · wp_walk using PySem.AutoSeq1.wpAny_loadPart' hl, wpAny_pyIter_tuple hL
        exact ⟨_, rfl, h⟩
    · wp_walk using PySem.AutoSeq1.wpAny_loadPart' hl, wpAny_pyIter_tuple hL
      exact ⟨_, rfl, h⟩
section
variable {prog : Program} {w : World} {A : Around} {E : Value → Shared → Prop} {s : Shared}
theorem call_enumerate_tuple {l : Addr} {items : Array Value} {Q : Value → Shared → Prop} (hL : s.heap.IsTuple l items)
    (h : ∀ h', IsEnum h' (s.heap.objs.size + 1) s.heap.objs.size 0 .none → h'.IsTupleIter s.heap.objs.size l 0 → h'.objs.size = s.heap.objs.size + 2 →
      (∀ b o, s.heap.get? b = some o → h'.get? b = some o) → Q (.ref (s.heap.objs.size + 1)) { s with heap := h' }) :
    wpAny (model prog w) A (call (.type "enumerate") [.ref l]) Q E s := by
  obtain ⟨⟨c, dct, dt, sl⟩, hl, hc, n, hd⟩ := hL
  replace hc : c = .type "tuple" := hc
  replace hd : dt = .seq items n := hd
  subst hc hd
  refine callType_new F.called_enumerate (by decide) (F.typeCall_enumerate_1 _) (F.newCall_enumerate_1 _) (fun obj => F.args_object_init_2 obj _) F.entry_enumerate_new
    (meets_enumerate_newT l items n dct sl) ⟨hl, ?_⟩
  have hz : (s.heap.push { cls := .type "tuple_iterator", data := .fields #[.ref l, .int 0 0] }).objs.size = s.heap.objs.size + 1 := Heap.size_push ..
  show _ ∧ _
  rw [hz]
  have he : IsEnum ((s.heap.push { cls := .type "tuple_iterator", data := .fields #[.ref l, .int 0 0] }).push
      { cls := .type "enumerate", data := .fields #[.none, .bool false, .ref s.heap.objs.size, rawInt 0, .none, .none] }) (s.heap.objs.size + 1) s.heap.objs.size 0 .none := by
    have := Heap.get?_push_size (s.heap.push { cls := .type "tuple_iterator", data := .fields #[.ref l, .int 0 0] })
      (o := { cls := .type "enumerate", data := .fields #[.none, .bool false, .ref s.heap.objs.size, rawInt 0, .none, .none] }) rfl
    rw [hz] at this; exact this
  refine ⟨⟨_, he, rfl⟩, h _ he ⟨_, Heap.get?_push_of_some _ (Heap.get?_push_size _ rfl), rfl, rfl⟩ (by rw [Heap.size_push, hz]) fun b o x => Heap.get?_push_of_some _ (Heap.get?_push_of_some _ x)⟩
end
end PySem
namespace PyE
open PySem PySem.Spec PyProof.Rows L2
/-- the tuple at a, each item in a new pair -/
def IteT (K : Frag) (a : Addr) : It :=
  ⟨fun i H => ∃ (xs : List V) (x : V), SqT K H a xs ∧ xs[i]? = some x, fun i H v H' => ∃ T x, v = .ref T ∧ H T = none ∧ H' = upd H T (.tup [.int (i : Nat), x]) ∧ ∀ xs, SqT K H a xs → xs[i]? = some x, fun i H => ∃ xs : List V, SqT K H a xs ∧ xs.length = i⟩
theorem turn_enumT {P : Program} {w : World} {K : Frag} {elts : List Expr} {kk : Nat} {tpos : Pos} (a e it : Addr) :
    Turn P w K (.Tuple elts kk tpos) (IteT K a) [e, it] e (fun i h => (∃ old, IsEnum h e it ((i : Nat) : Int) old) ∧ h.IsTupleIter it a i ∧ e ≠ it ∧ a ≠ it ∧ a ≠ e) where
  mem := by simp
  obj := fun i h st b hb => by
    obtain ⟨⟨old, he⟩, ⟨o, ho, hc, hd⟩, _⟩ := st
    have e' : b = e ∨ b = it := by simpa using hb
    rcases e' with z | z
    · rw [z]; exact ⟨_, he, fun v q => nomatch q⟩
    · rw [z]; exact ⟨o, ho, fun v q => by rw [hd] at q; cases q⟩
  keep := fun i h h' st k => let ⟨⟨old, he⟩, hi, hne⟩ := st; ⟨⟨old, k e (by simp) _ he⟩, hi.at fun o q => k it (by simp) o q, hne⟩
  item := by
    intro X hP hw hK hc i pins s σ H E I hf st hg
    subst hP hw hK
    obtain ⟨⟨old, he⟩, hit, hne, hai, hae⟩ := st
    obtain ⟨xs, x, hq, hx⟩ := hg
    obtain ⟨its, rv, p, hz⟩ := I.tuple hq
    obtain ⟨u, hu, ru⟩ := rv.get hx
    have hel : e < s.heap.objs.size := Heap.lt_size he
    have hil : it < s.heap.objs.size := by obtain ⟨_, q, _⟩ := hit; exact Heap.lt_size q
    have hlt : i < its.toArray.size := by
      have := (List.getElem?_eq_some_iff.mp hu).1
      simpa using this
    refine wpAny_pyNext_enum_itemD (Draws.tuple (A := X.A.in1) (I.ok.hd hc) it a hai its.toArray) he ⟨hit, p⟩ hlt hne (by simp only [List.mem_cons, List.not_mem_nil, or_false, not_or]; exact ⟨hne, Ne.symm hae⟩) fun x0 h' tk hx0 ho hst' hT hsz hk => ?_
    have ex0 : x0 = u := by
      have h1 : its[i]? = some x0 := by simpa using hx0
      rw [hu] at h1
      exact (Option.some.inj h1).symm
    subst ex0
    obtain ⟨hit', p'⟩ := hst'
    refine ⟨_, rfl, wpAny_letOwnedTupleGo_enum (s := { s with heap := h', toks := tk + 1 }) ho fun h'' he' sb => ?_⟩
    have hT2 : h''.get? s.heap.objs.size = some { cls := .type "tuple", data := .seq #[.int i tk, x0] } := (sb.2 _ (Nat.ne_of_gt hel)).trans hT
    have new : ObjOk X.prog X.w (upd H s.heap.objs.size (.tup [.int (i : Nat), x])) h'' s.heap.objs.size (.tup [.int (i : Nat), x]) :=
      ⟨by show 2 ≤ sizeLine; decide, [.int i tk, x0], .cons ⟨_, rfl⟩ (.cons ru .nil), ⟨_, hT2, rfl, _, rfl⟩⟩
    have I1 : Inv X pins σ (upd H s.heap.objs.size (.tup [.int (i : Nat), x])) { s with heap := h'', toks := tk + 1 } :=
      I.turnedNew (ch := [e, it]) (fun b ob hb q => (sb.2 b (fun z => hb (by simp [z]))).trans (hk b ob (fun z => hb (by simp [z])) (fun z => hb (by simp [z])) q)) hf (Nat.le_refl _) new
    refine ⟨.ref s.heap.objs.size, _, I1, rfl, ⟨_, x, rfl, I.hok.fresh (Nat.le_refl _), rfl, fun ys hy => by rw [I.tuple_inj hy hq]; exact hx⟩, ⟨⟨x0, ?_⟩, hit'.at fun o q => (sb.2 it (Ne.symm hne)).trans q, hne, hai, hae⟩, fun b hb => ?_⟩
    · have e1 : ((i + 1 : Nat) : Int) = (i : Int) + 1 := by omega
      rw [e1]; exact he'
    · have hb' : b < s.heap.objs.size := by
        have e' : b = e ∨ b = it := by simpa using hb
        rcases e' with z | z
        · rw [z]; exact hel
        · rw [z]; exact hil
      rw [upd_ne (Nat.ne_of_lt hb')]
      exact (hf b hb).1
  done := by
    intro X hP hw hK hc i pins s σ H E I hf st hg
    subst hP hw hK
    obtain ⟨⟨old, he⟩, hit, hne, hai, hae⟩ := st
    obtain ⟨xs, hq, hx⟩ := hg
    obtain ⟨its, rv, p, hz⟩ := I.tuple hq
    obtain ⟨f0, f1, f2, f3, f4, f5⟩ := hf it (by simp)
    have hl := rv.length
    have ei : i = its.toArray.size := by rw [List.size_toArray, ← hl, hx]
    exact wpAny_pyNext_enum_endD (Draws.tuple (A := X.A.in1) (I.ok.hd hc) it a hai its.toArray) he (by rw [← ei]; exact ⟨hit, p⟩) fun h' eb => ⟨rfl, I.turned (t' := s.toks) (fun b o hb q => eb b o hb q) f0 f1 f3 f4 f5⟩
  self := fun A i s Q E st h => let ⟨⟨_, he⟩, _⟩ := st; wpAny_pyIter_enum he h
section
variable {X : Cx}
/-- enumerate(e), e a list or a tuple -/
theorem pi_enumB {e : Expr} {ta : TA} {p pos tpos : Pos} {elts : List Expr} {kk : Nat} (hg : Gl X "enumerate") (hm : X.mg "enumerate" = none) (ha : PA X [e] ta) (hs : starEach [e] X.env = [(false, eval e X.env)]) :
    PI X (.Tuple elts kk tpos) (.Call (.Name "enumerate" p) [e] [] pos) (fun σ H R => ta σ H fun vs H1 => ∃ x, vs = [x] ∧ ((∃ a, x = .ref a ∧ (∃ xs, SqL X.K H1 a xs) ∧ R (Ite X.K a) H1) ∨ (∃ a, x = .ref a ∧ (∃ xs, SqT X.K H1 a xs) ∧ R (IteT X.K a) H1))) := by
  refine ⟨fun pins s σ H R I h => ?_⟩
  refine Call_ (ld_blt I hg hm boot_enumerate (PyProof.Rows.callWith_type1 (thn (ha.run pos pins s σ H _ I h) fun us s1 ⟨vs, H1, I1, r1, q1⟩ => ?_) hs rfl))
  obtain ⟨x, ex, q1⟩ := q1
  subst ex
  cases r1 with
  | cons r rr =>
    cases rr
    rcases q1 with ⟨a, e, ⟨xs, hq⟩, q⟩ | ⟨a, e, ⟨xs, hq⟩, q⟩
    · subst e
      cases r
      obtain ⟨its, rv, p', hz⟩ := I1.list hq
      refine call_enumerate_list p'.isList fun h' he hit hsz hk => wpAny_pyIter_enum he ?_
      have I2 : Inv X pins σ H1 { s1 with heap := h' } := I1.kept (t' := s1.toks) hk
      refine ⟨s1.heap.objs.size + 1, [s1.heap.objs.size + 1, s1.heap.objs.size], _, _, H1, rfl, I2, turn_enum a (s1.heap.objs.size + 1) s1.heap.objs.size, ⟨⟨.none, he⟩, hit, Nat.succ_ne_self _⟩, fun b hb => ?_, q⟩
      have e' : b = s1.heap.objs.size + 1 ∨ b = s1.heap.objs.size := by simpa using hb
      have hle : s1.heap.objs.size ≤ b := by
        rcases e' with z | z
        · rw [z]; exact Nat.le_succ _
        · rw [z]; exact Nat.le_refl _
      exact I1.fpOk hle (I1.hok.fresh hle)
    · subst e
      cases r
      obtain ⟨its, rv, p', hz⟩ := I1.tuple hq
      have hlt : a < s1.heap.objs.size := p'.lt
      refine call_enumerate_tuple (show s1.heap.IsTuple a its.toArray from p') fun h' he hit hsz hk => wpAny_pyIter_enum he ?_
      have I2 : Inv X pins σ H1 { s1 with heap := h' } := I1.kept (t' := s1.toks) hk
      refine ⟨s1.heap.objs.size + 1, [s1.heap.objs.size + 1, s1.heap.objs.size], _, _, H1, rfl, I2, turn_enumT a (s1.heap.objs.size + 1) s1.heap.objs.size, ⟨⟨.none, he⟩, hit, Nat.succ_ne_self _, Nat.ne_of_lt hlt, Nat.ne_of_lt (Nat.lt_succ_of_lt hlt)⟩, fun b hb => ?_, q⟩
      have e' : b = s1.heap.objs.size + 1 ∨ b = s1.heap.objs.size := by simpa using hb
      have hle : s1.heap.objs.size ≤ b := by
        rcases e' with z | z
        · rw [z]; exact Nat.le_succ _
        · rw [z]; exact Nat.le_refl _
      exact I1.fpOk hle (I1.hok.fresh hle)
theorem pi_seq {e tg : Expr} {te : TE} (he : PE X e te) : PI X tg e (fun σ H R => te σ H fun x H1 => (∃ a, x = .ref a ∧ (∃ xs, SqL X.K H1 a xs) ∧ R (Itl X.K a) H1) ∨ (∃ a, x = .ref a ∧ (∃ xs, SqT X.K H1 a xs) ∧ R (Itt X.K a) H1)) := by
  refine ⟨fun pins s σ H R I h => ?_⟩
  refine thn (he.run pins s σ H _ I h) fun v s1 ⟨x, H1, I1, r1, q1⟩ => ?_
  rcases q1 with ⟨a, e, ⟨xs, hq⟩, q⟩ | ⟨a, e, ⟨xs, hq⟩, q⟩
  · subst e
    cases r1
    obtain ⟨its, rv, p, hz⟩ := I1.list hq
    refine wpAny_pyIter_list p.isList ?_
    refine ⟨s1.heap.objs.size, [s1.heap.objs.size], _, _, H1, rfl, I1.kept (t' := s1.toks) fun b o e => Heap.get?_push_of_some _ e, turn_list a _, ⟨_, Heap.get?_push_size _ rfl, rfl, rfl⟩, fun b hb => ?_, q⟩
    have e : b = s1.heap.objs.size := by simpa using hb
    subst e
    exact I1.fpOk (Nat.le_refl _) (I1.hok.fresh (Nat.le_refl _))
  · subst e
    cases r1
    obtain ⟨its, rv, p, hz⟩ := I1.tuple hq
    refine wpAny_pyIter_tuple (show s1.heap.IsTuple a its.toArray from p) ?_
    refine ⟨s1.heap.objs.size, [s1.heap.objs.size], _, _, H1, rfl, I1.kept (t' := s1.toks) fun b o e => Heap.get?_push_of_some _ e, turn_tuple a _, ⟨_, Heap.get?_push_size _ rfl, rfl, rfl⟩, fun b hb => ?_, q⟩
    have e : b = s1.heap.objs.size := by simpa using hb
    subst e
    exact I1.fpOk (Nat.le_refl _) (I1.hok.fresh (Nat.le_refl _))
end
end PyE

set_option Elab.async false
set_option linter.all false
set_option autoImplicit false
set_option maxRecDepth 100000
set_option maxHeartbeats 4000000
/-! # The text and the small language: a checker, and that what it takes is run as the evaluator says -/
namespace PyE
open PySem PySem.Spec PyProof.Rows L2

/-! ### equality of data, decided -/
mutual
def sameD : D → D → Bool
  | .none, .none => true
  | .bool a, .bool b => a == b
  | .int a, .int b => a == b
  | .str a, .str b => a == b
  | .list xs, .list ys => sameL xs ys
  | .tuple xs, .tuple ys => sameL xs ys
  | _, _ => false
def sameL : List D → List D → Bool
  | [], [] => true
  | x :: xs, y :: ys => sameD x y && sameL xs ys
  | _, _ => false
end
mutual
theorem sameD_eq : ∀ (a b : D), sameD a b = true → a = b
  | .none, b, h => by cases b <;> first | rfl | (simp [sameD] at h)
  | .bool a, b, h => by cases b <;> simp [sameD] at h; subst h; rfl
  | .int a, b, h => by cases b <;> simp [sameD] at h; subst h; rfl
  | .str a, b, h => by cases b <;> simp [sameD] at h; subst h; rfl
  | .list xs, b, h => by
    cases b <;> simp [sameD] at h
    rw [sameL_eq xs _ h]
  | .tuple xs, b, h => by
    cases b <;> simp [sameD] at h
    rw [sameL_eq xs _ h]
  | .dict _, b, h => by cases b <;> simp [sameD] at h
theorem sameL_eq : ∀ (a b : List D), sameL a b = true → a = b
  | [], b, h => by cases b <;> simp [sameL] at h; rfl
  | x :: xs, b, h => by
    cases b with
    | nil => simp [sameL] at h
    | cons y ys =>
      simp only [sameL, Bool.and_eq_true] at h
      rw [sameD_eq x y h.1, sameL_eq xs ys h.2]
end

/-! ### the checker -/
structure Gam where
  N : List Str
  con : List (Str × D)
  mb : List Str
structure Sc where
  sc : Scope
  fn : Str → Bool
def visB (sc : Scope) (x : Str) : Bool := match sc.names.lookup x with
  | some .local => true
  | some .cell => true
  | some .free => true
  | _ => false
def locB (S : Sc) (x : Str) : Bool := match S.sc.names.lookup x with
  | some .local => true
  | some .cell => S.fn x
  | _ => false
def glB (sc : Scope) (x : Str) : Bool := match sc.names.lookup x with
  | some .globalImplicit => true
  | _ => false
def okName (x : Str) : Bool := !(x == ("__debug__" : Str)) && !(x == ("__classdict__" : Str)) && !(x == ("__name__" : Str))
def notStar : Expr → Bool
  | .Starred _ _ => false
  | _ => true
def notSet : Expr → Bool
  | .Set _ _ _ => false
  | _ => true
def notCall : Expr → Bool
  | .Call _ _ _ _ => false
  | _ => true
def notSlice : Expr → Bool
  | .Slice _ _ _ _ => false
  | _ => true
/-- isTrue takes the value's truth -/
def plainB : Expr → Bool
  | .UnaryOp .Not _ _ => false
  | .BoolOp _ _ _ => false
  | .IfExp _ _ _ _ => false
  | .Compare _ _ _ _ => false
  | _ => true
def noComp : Expr → Bool
  | .ListComp _ _ _ _ => false
  | .SetComp _ _ _ _ => false
  | .DictComp _ _ _ _ _ => false
  | _ => true
def constOk : D → Const → Bool
  | .none, .none => true
  | .bool a, .bool b => a == b
  | .int a, .int b => a == b
  | .str a, .str b => a == b
  | _, _ => false
def bfName : Bf → Str
  | .len => "len" | .sum => "sum" | .all => "all" | .any => "any" | .abs => "abs" | .min => "min" | .max => "max"
  | .tuple => "tuple" | .list => "list" | .int => "int" | .bool => "bool" | .sorted => "sorted" | .dvm => "divmod"
def mfName : Mf → Str
  | .gcd => "gcd" | .lcm => "lcm"
def mfId : Mf → String
  | .gcd => "math.gcd" | .lcm => "math.lcm"
def tyS : Ty → Str
  | .int => "int" | .bool => "bool" | .str => "str" | .tuple => "tuple" | .list => "list"
def chkNm (Γ : Gam) (S : Sc) : List Nat → List Expr → Bool
  | [], [] => true
  | i :: is, .Name x _ :: es => decide (Γ.N[i]? = some x) && locB S x && chkNm Γ S is es
  | _, _ => false
def chkTg (Γ : Gam) (S : Sc) : Tg → Expr → Bool
  | .one i, .Name x _ => decide (Γ.N[i]? = some x) && locB S x
  | .many is, .Tuple es _ _ => chkNm Γ S is es
  | _, _ => false
def chkTy (S : Sc) : List Ty → List Expr → Bool
  | [], [] => true
  | t :: ts, .Name x _ :: es => (x == tyS t) && glB S.sc x && chkTy S ts es
  | _, _ => false
def ownP (N : List Str) (own : List Nat) : List (Str × Nat) := own.map fun i => ((N[i]?).getD default, i)
/-- the scope that runs in a comprehension's block -/
def blkS (S : Sc) (scope : Scope) : Sc := ⟨relS scope S.sc, fun x => scope.names.lookup x == some .cell⟩

mutual
def chkE (Γ : Gam) (S : Sc) : IE → Expr → Bool
  | .k d, x => match x with
    | .Constant c _ _ => constOk d c
    | _ => false
  | .v i, x => match x with
    | .Name x _ => decide (Γ.N[i]? = some x) && visB S.sc x && okName x
    | _ => false
  | .g n d, x => match x with
    | .Name x _ => (n == x) && glB S.sc x && okName x && (match Γ.con.lookup x with
      | some d' => sameD d d'
      | none => false)
    | _ => false
  | .bin op a b, x => match x with
    | .BinOp y o z _ => decide (op = o) && chkE Γ S a y && chkE Γ S b z
    | _ => false
  | .neg a, x => match x with
    | .UnaryOp .USub y _ => chkE Γ S a y
    | _ => false
  | .cmp op a b, x => match x with
    | .Compare y [o] [z] _ => decide (op = o) && notSet z && chkE Γ S a y && chkE Γ S b z
    | _ => false
  | .cmp2 op op' a b c, x => match x with
    | .Compare y [o, o'] [z, w] _ => decide (op = o) && decide (op' = o') && notSet w && chkE Γ S a y && chkE Γ S b z && chkE Γ S c w
    | _ => false
  | .and a b, x => match x with
    | .BoolOp .And (y :: z :: r) pos => chkE Γ S a y && (match r with
      | [] => chkE Γ S b z
      | _ => chkE Γ S b (.BoolOp .And (z :: r) pos))
    | _ => false
  | .or a b, x => match x with
    | .BoolOp .Or (y :: z :: r) pos => chkE Γ S a y && (match r with
      | [] => chkE Γ S b z
      | _ => chkE Γ S b (.BoolOp .Or (z :: r) pos))
    | _ => false
  | .nt a, x => match x with
    | .UnaryOp .Not y _ => chkE Γ S a y
    | _ => false
  | .ife t a b, x => match x with
    | .IfExp y z w _ => chkE Γ S t y && chkE Γ S a z && chkE Γ S b w
    | _ => false
  | .tup es, x => match x with
    | .Tuple ys _ _ => chkEs Γ S es ys
    | _ => false
  | .lst es, x => match x with
    | .List ys _ => chkEs Γ S es ys
    | _ => false
  | .ix a b, x => match x with
    | .Subscript y z _ => notSlice z && chkE Γ S a y && chkE Γ S b z
    | _ => false
  | .sl a lo hi, x => match x with
    | .Subscript y (.Slice l h none _) _ => chkE Γ S a y && chkO Γ S lo l && chkO Γ S hi h
    | _ => false
  | .call f es, x => match x with
    | .Call (.Name g _) ys [] _ => (f == g) && glB S.sc g && okName g && chkEs Γ S es ys
    | _ => false
  | .callb f i es, x => match x with
    | .Call (.Name g _) (.Name y _ :: ys) [] _ => (f == g) && glB S.sc g && okName g && decide (Γ.N[i]? = some y) && visB S.sc y && okName y && chkEs Γ S es ys
    | _ => false
  | .bf f es, x => match x with
    | .Call (.Name g _) (y :: ys) [] _ => (bfName f == g) && glB S.sc g && chkEs Γ S es (y :: ys)
    | _ => false
  | .isi a ts tupled, x => match x with
    | .Call (.Name g _) [y, z] [] _ => (g == ("isinstance" : Str)) && glB S.sc g && chkE Γ S a y && (match tupled, ts, z with
      | false, [t], .Name n _ => (n == tyS t) && glB S.sc n
      | true, ts, .Tuple ns _ _ => chkTy S ts ns && decide (ts.length ≤ 1000)
      | _, _, _ => false) && notStar y
    | _ => false
  | .cnt a e, x => match x with
    | .Call (.Attribute y m ap) [z] [] cp => (m == ("count" : Str)) && ap.endLine == cp.line && notStar z && notCall y && chkE Γ S a y && chkE Γ S e z
    | _ => false
  | .lnset a, x => match x with
    | .Call (.Name g _) [.Call (.Name h _) [y] [] _] [] _ => (g == ("len" : Str)) && glB S.sc g && (h == ("set" : Str)) && glB S.sc h && notStar y && chkE Γ S a y
    | _ => false
  | .mth f a b, x => match x with
    | .Call (.Name g _) [y, z] [] _ => (g == mfName f) && glB S.sc g && Γ.mb.contains g && notStar y && notStar z && chkE Γ S a y && chkE Γ S b z
    | _ => false
  | .lc e tg it c own, x => match x with
    | .ListComp y [⟨tgx, itx, ifs, 0⟩] scope _ => blkC Γ.N S.sc scope (ownP Γ.N own) && notSet itx && chkI Γ S it tgx itx && chkTg Γ (blkS S scope) tg tgx && (tgS tg).all (fun i => own.contains i) && chkC Γ (blkS S scope) c ifs && chkE Γ (blkS S scope) e y
    | _ => false
  | .lc2 e tg it c tg2 it2 c2 own own2, x => match x with
    | .ListComp y [⟨tgx, itx, ifs, 0⟩, ⟨tgx2, itx2, ifs2, 0⟩] scope _ => blkC Γ.N S.sc scope (ownP Γ.N own) && notSet itx && notSet itx2 && chkI Γ S it tgx itx && chkTg Γ (blkS S scope) tg tgx && (tgS tg).all (fun i => own.contains i) && chkC Γ (blkS S scope) c ifs &&
        own2.all (fun i => own.contains i) && chkI Γ (blkS S scope) it2 tgx2 itx2 && chkTg Γ (blkS S scope) tg2 tgx2 && (tgS tg2).all (fun i => own2.contains i) && chkC Γ (blkS S scope) c2 ifs2 && chkE Γ (blkS S scope) e y
    | _ => false
def chkEs (Γ : Gam) (S : Sc) : IEs → List Expr → Bool
  | .nil, xs => match xs with
    | [] => true
    | _ => false
  | .cons e es, xs => match xs with
    | x :: ys => notStar x && chkE Γ S e x && chkEs Γ S es ys
    | _ => false
def chkO (Γ : Gam) (S : Sc) : IO → Option Expr → Bool
  | .none, x => match x with
    | none => true
    | _ => false
  | .some e, x => match x with
    | some y => chkE Γ S e y
    | _ => false
def chkC (Γ : Gam) (S : Sc) : IO → List Expr → Bool
  | .none, xs => match xs with
    | [] => true
    | _ => false
  | .some e, xs => match xs with
    | [y] => chkE Γ S e y
    | _ => false
def chkI (Γ : Gam) (S : Sc) : II → Expr → Expr → Bool
  | .seq e, _, x => chkE Γ S e x
  | .r1 a, _, x => match x with
    | .Call (.Name g _) [y] [] _ => (g == ("range" : Str)) && glB S.sc g && notStar y && chkE Γ S a y
    | _ => false
  | .r2 a b, _, x => match x with
    | .Call (.Name g _) [y, z] [] _ => (g == ("range" : Str)) && glB S.sc g && notStar y && notStar z && chkE Γ S a y && chkE Γ S b z
    | _ => false
  | .r3 a b c, _, x => match x with
    | .Call (.Name g _) [y, z, w] [] _ => (g == ("range" : Str)) && glB S.sc g && notStar y && notStar z && notStar w && chkE Γ S a y && chkE Γ S b z && chkE Γ S c w
    | _ => false
  | .enum e, tg, x => match tg, x with
    | .Tuple _ _ _, .Call (.Name g _) [y] [] _ => (g == ("enumerate" : Str)) && glB S.sc g && notStar y && chkE Γ S e y
    | _, _ => false
end

/-! ### small facts of the text -/
theorem star_of {e : Expr} {es : List Expr} {env : Env} (h : notStar e = true) : starEach (e :: es) env = (false, eval e env) :: starEach es env := by
  cases e <;> first | rfl | (exact absurd h (by simp [notStar]))
theorem noStars {Γ : Gam} {S : Sc} : ∀ {es : IEs} {xs : List Expr}, chkEs Γ S es xs = true → ∀ (pos : Pos) (env : Env), (backTo pos (starEach xs env)).any (·.1) = false
  | .nil, [], _, _, _ => rfl
  | .nil, _ :: _, h, _, _ => by simp [chkEs] at h
  | .cons e es, [], h, _, _ => by simp [chkEs] at h
  | .cons e es, x :: xs, h, pos, env => by
    simp only [chkEs, Bool.and_eq_true] at h
    rw [star_of h.1.1]
    have ih := noStars h.2 pos env
    simpa [backTo] using ih
theorem base_of {e : Expr} {f : Str} {env : Env} (h : notCall e = true) : attributeBase e f env (eval e env) = eval e env := by
  cases e <;> first | rfl | (exact absurd h (by simp [notCall]))
theorem plainIx_of {b : Expr} (h : notSlice b = true) : PlainIx b := by
  intro o i
  cases b <;> first | rfl | (exact absurd h (by simp [notSlice]))
theorem marks_of {b : Expr} (op : CmpOp) (h : notSet b = true) : behindInMarks op b = false := by
  cases b <;> first | rfl | (exact absurd h (by simp [notSet]))
theorem folded_of {e : Expr} {env : Env} (h : notSet e = true) (x : Value) : foldedSetIterable e env x = pure x := by
  cases e <;> first | rfl | (exact absurd h (by simp [notSet]))
theorem plain_of {e : Expr} {env : Env} (h : plainB e = true) (whole : Sem Value) : isTrue e env whole = (do let v ← whole; standAt e.pos; holding [v] (truthy v)) := by
  cases e with
  | UnaryOp op x p => cases op <;> first | rfl | (exact absurd h (by simp [plainB]))
  | BoolOp _ _ _ => exact absurd h (by simp [plainB])
  | IfExp _ _ _ _ => exact absurd h (by simp [plainB])
  | Compare _ _ _ _ => exact absurd h (by simp [plainB])
  | _ => rfl
theorem swaps_of {e : Expr} {t : Option Expr} {l : Nat} {env : Env} (h : noComp e = true) : swapsWith e t l env = pure false := by
  cases e <;> first | rfl | (exact absurd h (by simp [noComp]))
theorem okName_of {x : Str} (h : okName x = true) : (x == ("__debug__" : Str)) = false ∧ (x == ("__classdict__" : Str)) = false ∧ x ≠ ("__name__" : Str) := by
  unfold okName at h
  simp only [Bool.and_eq_true, Bool.not_eq_true'] at h
  exact ⟨h.1.1, h.1.2, by simpa using h.2⟩
theorem visB_of {sc : Scope} {x : Str} (h : visB sc x = true) : Vis sc x := by
  unfold visB at h
  split at h
  · rename_i e; exact .inl e
  · rename_i e; exact .inr (.inl e)
  · rename_i e; exact .inr (.inr e)
  · cases h
theorem ownP_snd {N : List Str} (own : List Nat) : (ownP N own).map (·.2) = own := by
  unfold ownP
  rw [List.map_map]
  exact List.map_id _
end PyE

set_option Elab.async false
set_option linter.all false
set_option autoImplicit false
set_option maxRecDepth 100000
set_option maxHeartbeats 4000000
/-! # What the checker takes is run as the evaluator says: expressions -/
namespace PyE
open PySem PySem.Spec PyProof.Rows L2

/-- what a def promises the others -/
def spF (K : Frag) (mg : Str → Option Value) (fs : FnSem) : Sp := fun vs H Q E => vs.length = fs.arity ∧
  ((fs.bor = false ∧ ∃ F ds, Ex F H ∧ DpAll K F vs ds ∧ match fs.run ds with
    | .ret d _ => ∀ v F' H', Go (fun _ => False) F H F' H' → Ex F' H' → Dp K F' v d → Q v H'
    | .exc c x _ => ∀ dd F' H', Go (fun _ => False) F H F' H' → Ex F' H' → XAt K F' H' dd x → ∀ C, mg c = some (.ref C) → E (.ref C) (some dd) H'
    | .stuck => False) ∨
   (fs.bor = true ∧ ∃ F a vr ws bs ds, vs = .ref a :: vr ∧ Ex F H ∧ H a = some (.lst ws) ∧ F a = none ∧ DpAll K F ws bs ∧ DpAll K F vr ds ∧ match fs.run (.list bs :: ds) with
    | .ret d b' => ∀ v F' H' ws', Go (fun x => x = a) F H F' H' → Ex F' H' → H' a = some (.lst ws') → F' a = none → DpAll K F' ws' b' → Dp K F' v d → Q v H'
    | .exc c x b' => ∀ dd F' H' ws', Go (fun x => x = a) F H F' H' → Ex F' H' → H' a = some (.lst ws') → F' a = none → DpAll K F' ws' b' → XAt K F' H' dd x → ∀ C, mg c = some (.ref C) → E (.ref C) (some dd) H'
    | .stuck => False))
def blts : List Str := ["len", "sum", "all", "any", "abs", "min", "max", "tuple", "list", "int", "bool", "str", "isinstance", "range", "enumerate", "zip", "sorted", "set", "dict", "reversed", "divmod"]
structure Cok (Φ : Fns) (Γ : Gam) (S : Sc) (m : Nat) (W : WX) (X : Cx) : Prop where
  hN : X.N = Γ.N
  nd : Γ.N.Nodup
  hsc : X.env.scope = S.sc
  hfn : X.fn = S.fn
  calm : X.calm = true
  room : Room m X.A
  tk : Takes X W
  con : ∀ x d, Γ.con.lookup x = some d → ∃ u v, X.mg x = some u ∧ RelV v u ∧ Dp X.K (fun _ => none) v d
  fn : ∀ f fs, Φ f = some fs → ∃ fa fd ps, X.mg f = some (.ref fa) ∧ PySem.W.keepIn X.K (.ref fa) = true ∧ Binds X.K fd ps [] ∧ FnOk X.prog X.w X.K X.mg X.base (L2.CX X.prog X.w) m fa fd ps (spF X.K X.mg fs)
  blt : ∀ x ∈ blts, X.mg x = none
  mb : ∀ f : Mf, Γ.mb.contains (mfName f) = true → X.mg (mfName f) = some (.builtin (mfId f))
abbrev W0 : WX := fun _ _ _ _ => False
section
variable {ba : Addr} {Φ : Fns} {Γ : Gam} {S : Sc} {m : Nat} {W : WX} {X : Cx}
theorem Cok.blk (C : Cok Φ Γ S m W X) (scope : Scope) (s : Shared) (H : Hp) (A : Addr) (cl : List (Str × Addr)) (fp : List Addr) : Cok Φ Γ (blkS S scope) m W0 (X.blk s H scope (compEnvC scope cl A X.env) fp) :=
  ⟨C.hN, C.nd, by show relS scope X.env.scope = _; rw [C.hsc]; rfl, rfl, C.calm, C.room, takes0, C.con, C.fn, C.blt, C.mb⟩
theorem Cok.ix (C : Cok Φ Γ S m W X) {i : Nat} {x : Str} (h : Γ.N[i]? = some x) : X.N[i]? = some x := by rw [C.hN]; exact h
theorem Cok.vis (C : Cok Φ Γ S m W X) {x : Str} (h : visB S.sc x = true) : Vis X.env.scope x := by rw [C.hsc]; exact visB_of h
theorem Cok.gl (C : Cok Φ Γ S m W X) {x : Str} (h : glB S.sc x = true) : Gl X x := by
  show X.env.scope.names.lookup x = _
  rw [C.hsc]
  unfold glB at h
  split at h
  · assumption
  · cases h
theorem Cok.loc (C : Cok Φ Γ S m W X) {x : Str} (h : locB S x = true) : L2.Loc X.env.scope x ∧ (X.fn x = true ∨ X.env.scope.names.lookup x = some .local) := by
  unfold locB at h
  unfold L2.Loc
  rw [C.hsc, C.hfn]
  split at h
  · rename_i e; exact ⟨.inl e, .inr e⟩
  · rename_i e; exact ⟨.inr e, .inl h⟩
  · cases h
theorem Cok.hu (C : Cok Φ Γ S m W X) : X.A.units + 64 < cLine := C.room.units
theorem pe_imp {e : Expr} {t t' : TE} (h : PE X e t) (hi : ∀ σ H Q, t' σ H Q → t σ H Q) : PE X e t' := ⟨fun pins s σ H Q I q => h.run pins s σ H Q I (hi σ H Q q)⟩
theorem pt_imp {e : Expr} {t t' : TT} (h : PT X e t) (hi : ∀ σ H Q, t' σ H Q → t σ H Q) : PT X e t' := ⟨fun pins s σ H Q I q => h.run pins s σ H Q I (hi σ H Q q)⟩
theorem pw_imp {e : Expr} {t t' : TT} (h : PW X e t) (hi : ∀ σ H Q, t' σ H Q → t σ H Q) : PW X e t' := ⟨fun wh pins s σ H Q I q => h.run wh pins s σ H Q I (hi σ H Q q)⟩
theorem pa_imp {e : List Expr} {t t' : TA} (h : PA X e t) (hi : ∀ σ H Q, t' σ H Q → t σ H Q) : PA X e t' := ⟨fun pos pins s σ H Q I q => h.run pos pins s σ H Q I (hi σ H Q q)⟩
theorem pi_imp {tg e : Expr} {t t' : TI} (h : PI X tg e t) (hi : ∀ σ H Q, t' σ H Q → t σ H Q) : PI X tg e t' := ⟨fun pins s σ H Q I q => h.run pins s σ H Q I (hi σ H Q q)⟩
theorem po_imp {e : Option Expr} {t t' : TO} (h : PO X e t) (hi : ∀ σ H Q, t' σ H Q → t σ H Q) : PO X e t' := ⟨fun pins s σ H Q I q => h.run pins s σ H Q I (hi σ H Q q)⟩
theorem pts_imp {e : List Expr} {t t' : TT} (h : PTs X e t) (hi : ∀ σ H Q, t' σ H Q → t σ H Q) : PTs X e t' := ⟨fun pins s σ H Q I q => h.run pins s σ H Q I (hi σ H Q q)⟩
end
section
variable {ba : Addr} {K : Frag} {mg : Str → Option Value} {W : WX} {σ : L2.St} {F H : Hp} {env : SEnv}
theorem one {γ δ : Type} {Rel : Hp → Hp → SEnv → γ → δ → Prop} {A : SEnv → Rs Vw} {k : Vw → SEnv → Rs γ} {Q : δ → Hp → Prop} (s : Sim ba K F H σ env) (h : Post ba K mg W σ Rel F H env ((A env).bind k) Q) :
    tE ba K mg W A σ H (fun v1 H1 => ∃ x env1 F1, Go (O σ env) F H F1 H1 ∧ Own σ env env1 ∧ Sim ba K F1 H1 σ env1 ∧ RE K σ H F1 H1 env1 x v1 ∧ Post ba K mg W σ Rel F1 H1 env1 (k x env1) Q) :=
  ⟨F, env, s, Post.bind (Rel1 := RE K σ H) h⟩
theorem two {γ δ : Type} {Rel : Hp → Hp → SEnv → γ → δ → Prop} {A B : SEnv → Rs Vw} {k : Vw → Vw → SEnv → Rs γ} {Q : δ → Hp → Prop} (s : Sim ba K F H σ env)
    (h : Post ba K mg W σ Rel F H env ((A env).bind fun x e1 => (B e1).bind fun y e2 => k x y e2) Q) :
    tE ba K mg W A σ H (fun v1 H1 => tE ba K mg W B σ H1 (fun v2 H2 => ∃ x y env2 F2, Go (O σ env) F H F2 H2 ∧ Own σ env env2 ∧ Sim ba K F2 H2 σ env2 ∧ RE K σ H F2 H2 env2 x v1 ∧ RE K σ H F2 H2 env2 y v2 ∧ Post ba K mg W σ Rel F2 H2 env2 (k x y env2) Q)) := by
  refine ⟨F, env, s, (Post.bind (Rel1 := RE K σ H) h).imp ?_⟩
  rintro v1 H1 ⟨x, env1, F1, g1, o1, s1, r1, h1⟩
  refine ⟨F1, env1, s1, (Post.bind (Rel1 := RE K σ H1) h1).imp ?_⟩
  rintro v2 H2 ⟨y, env2, F2, g2, o2, s2, r2, h2⟩
  exact ⟨x, y, env2, F2, g1.trans g2 (fun a z => .inl (o1 a z)), fun a z => o1 a (o2 a z), s2, RE.go s1 s2 g2 o2 r1, RE.early g1 r2, h2⟩
/-- an operation that ends an evaluation -/
theorem post_rn {w : Vw} {H0 : Hp} {Q : VK} (s : Sim ba K F H σ env) (h : Post ba K mg W σ (RE K σ H0) F H env (.ok w env) Q) (h0 : ∀ a, H a = none → H0 a = none) : RN K F H w Q := fun v F' H' g sub r =>
  let ⟨g', s'⟩ := fin s g sub
  h v F' H' g' (fun _ z => z) s' (VwN.vw s g r h0)
theorem post_now {w : Vw} {v : V} {H0 : Hp} {Q : VK} (s : Sim ba K F H σ env) (h : Post ba K mg W σ (RE K σ H0) F H env (.ok w env) Q) (r : RE K σ H0 F H env w v) : Q v H := h v F H (Go.refl _ _ _) (fun _ z => z) s r
theorem post_it {α : Type} {a : α} {Q : α → Hp → Prop} {H0 : Hp} (s : Sim ba K F H σ env) (h : Post ba K mg W σ (RI σ H0) F H env (.ok a env) Q) : Q a H := h a F H (Go.refl _ _ _) (fun _ z => z) s rfl
theorem noK {d : D} {v : V} (h : Dp K (fun _ => none) v d) : Dp K F v d := dp_ex (fun _ _ (z : (none : Option HO) = some _) => by cases z) _ _ h
end
section
variable {ba : Addr} {Φ : Fns} {Γ : Gam} {S : Sc} {m : Nat} {W : WX} {X : Cx}
abbrev TE' (ba : Addr) (X : Cx) (W : WX) (ev : SEnv → Rs Vw) : TE := tE ba X.K X.mg W ev

/-! ### names and constants -/
theorem p_now {v : V} {d : D} {x : Expr} (h : PE X x (tC v)) (r : ∀ F, Dp X.K F v d) : PE X x (TE' ba X W fun env => .ok (.now d) env) := by
  refine pe_imp h fun σ H Q q => ?_
  obtain ⟨F, env, s, q⟩ := q
  exact post_now (H0 := H) s q (r F)
theorem p_k {d : D} {x : Expr} (hc : chkE Γ S (.k d) x = true) : PE X x (TE' ba X W (evE Φ (.k d))) := by
  show PE X x (TE' ba X W fun env => .ok (.now d) env)
  unfold chkE at hc
  split at hc
  · rename_i c j pos
    unfold constOk at hc
    split at hc
    · exact p_now pe_non fun F => .non
    · have := eq_of_beq hc; subst this; exact p_now pe_bl fun F => .bl _
    · have := eq_of_beq hc; subst this; exact p_now pe_int fun F => .int _
    · have := eq_of_beq hc; subst this; exact p_now pe_str fun F => .str _
    · cases hc
  · cases hc
theorem p_v (C : Cok Φ Γ S m W X) {i : Nat} {x : Expr} (hc : chkE Γ S (.v i) x = true) : PE X x (TE' ba X W (evE Φ (.v i))) := by
  unfold chkE at hc
  split at hc
  · rename_i n pos
    simp only [Bool.and_eq_true, decide_eq_true_eq] at hc
    obtain ⟨o1, o2, o3⟩ := okName_of hc.2
    refine pe_imp (pe_var (C.ix hc.1.1) (C.vis hc.1.2) o1 o2) fun σ H Q ⟨F, env, s, q⟩ => ?_
    unfold evE at q
    cases e : env[i]? with
    | none => rw [e] at q; exact q.elim
    | some sl =>
      rw [e] at q
      have hl := (List.getElem?_eq_some_iff.mp e).1
      cases sl with
      | no => exact q.elim
      | sh d =>
        obtain ⟨v, h1, h2⟩ := s.sh i d e
        exact ⟨v, h1, post_now (H0 := H) s q h2⟩
      | own ds =>
        obtain ⟨a, vs, h1, _⟩ := s.own i ds (.inl e)
        exact ⟨_, h1, post_now (H0 := H) (w := .late i) s q ⟨h1, hl⟩⟩
      | bor ds =>
        obtain ⟨a, vs, h1, _⟩ := s.own i ds (.inr e)
        exact ⟨_, h1, post_now (H0 := H) (w := .late i) s q ⟨h1, hl⟩⟩
  · cases hc
theorem p_g (C : Cok Φ Γ S m W X) {n : Str} {d : D} {x : Expr} (hc : chkE Γ S (.g n d) x = true) : PE X x (TE' ba X W (evE Φ (.g n d))) := by
  unfold chkE at hc
  split at hc
  · rename_i y pos
    simp only [Bool.and_eq_true] at hc
    obtain ⟨⟨⟨h1, h2⟩, h3⟩, h4⟩ := hc
    obtain ⟨o1, o2, o3⟩ := okName_of h3
    split at h4
    · rename_i d' e
      have := sameD_eq _ _ h4
      subst this
      obtain ⟨u, v, q1, q2, q3⟩ := C.con _ _ e
      exact p_now (pe_glob (C.gl h2) q1 q2 o1) fun F => noK q3
    · cases h4
  · cases hc

/-! ### operators -/
theorem p_bin (C : Cok Φ Γ S m W X) {op : Operator} {a b : IE} {xa xb : Expr} {pos : Pos} (ha : PE X xa (TE' ba X W (evE Φ a))) (hb : PE X xb (TE' ba X W (evE Φ b))) : PE X (.BinOp xa op xb pos) (TE' ba X W (evE Φ (.bin op a b))) := by
  refine pe_imp (pe_op (opBin op) ha hb) fun σ H Q ⟨F, env, s, q⟩ => ?_
  obtain ⟨F1, env1, s1, q1⟩ := two s q
  refine ⟨F1, env1, s1, q1.imp fun v1 H1 ⟨F2, env2, s2, q2⟩ => ⟨F2, env2, s2, q2.imp ?_⟩⟩
  rintro v2 H2 ⟨x, y, env2, F2, g, o, s2, r1, r2, p⟩
  cases e1 : look env2 x with
  | none => rw [e1] at p; exact p.elim
  | some d =>
    cases e2 : look env2 y with
    | none => rw [e1, e2] at p; exact p.elim
    | some d' =>
      rw [e1, e2] at p
      have p : Post ba X.K X.mg W σ (RE X.K σ H) F2 H2 env2 (Rs.opt (binD op d d') env2) Q := p
      cases e3 : binD op d d' with
      | none => rw [e3] at p; exact p.elim
      | some w =>
        rw [e3] at p
        exact ⟨F2, d, d', w, s2.sub, look_vr s2 r1 e1, look_vr s2 r2 e2, e3, post_rn s2 p fun a z => g.fresh z⟩
theorem p_neg (C : Cok Φ Γ S m W X) {a : IE} {xa : Expr} {pos : Pos} (ha : PE X xa (TE' ba X W (evE Φ a))) : PE X (.UnaryOp .USub xa pos) (TE' ba X W (evE Φ (.neg a))) := by
  refine pe_imp (pe_un unNeg ha) fun σ H Q ⟨F, env, s, q⟩ => ?_
  obtain ⟨F1, env1, s1, q1⟩ := one s q
  refine ⟨F1, env1, s1, q1.imp ?_⟩
  rintro v1 H1 ⟨x, env2, F2, g, o, s2, r1, p⟩
  cases e1 : look env2 x with
  | none => rw [e1] at p; exact p.elim
  | some d =>
    rw [e1] at p
    cases d with
    | int i => exact ⟨F2, i, look_vr s2 r1 e1, post_now s2 p (.int _)⟩
    | _ => exact p.elim
theorem cmp_end {op : CmpOp} {σ : L2.St} {H0 F H : Hp} {env : SEnv} {x y : Vw} {v1 v2 : V} {Q : VK} (s : Sim ba X.K F H σ env) (r1 : RE X.K σ H0 F H env x v1) (r2 : RE X.K σ H0 F H env y v2)
    (p : Post ba X.K X.mg W σ (RE X.K σ H0) F H env (match look env x, look env y with
      | some d, some d' => .opt ((cmpD op d d').map fun b => .now (.bool b)) env
      | _, _ => .stuck) Q) : rCmp X.K op v1 v2 H Q := by
  cases e1 : look env x with
  | none => rw [e1] at p; exact p.elim
  | some d =>
    cases e2 : look env y with
    | none => rw [e1, e2] at p; exact p.elim
    | some d' =>
      rw [e1, e2] at p
      have p : Post ba X.K X.mg W σ (RE X.K σ H0) F H env (Rs.opt ((cmpD op d d').map fun b => .now (.bool b)) env) Q := p
      cases e3 : cmpD op d d' with
      | none => rw [e3] at p; exact p.elim
      | some b =>
        rw [e3] at p
        exact ⟨F, d, d', b, s.sub, look_vr s r1 e1, look_vr s r2 e2, e3, post_now s p (.bl _)⟩
theorem cmp_two {op : CmpOp} {a b : IE} {σ : L2.St} {H : Hp} {Q : VK} (q : TE' ba X W (evE Φ (.cmp op a b)) σ H Q) : tOp (rCmp X.K op) (TE' ba X W (evE Φ a)) (TE' ba X W (evE Φ b)) σ H Q := by
  obtain ⟨F, env, s, q⟩ := q
  obtain ⟨F1, env1, s1, q1⟩ := two s q
  refine ⟨F1, env1, s1, q1.imp fun v1 H1 ⟨F2, env2, s2, q2⟩ => ⟨F2, env2, s2, q2.imp ?_⟩⟩
  rintro v2 H2 ⟨x, y, env2, F2, g, o, s2, r1, r2, p⟩
  exact cmp_end s2 r1 r2 p
theorem p_cmp (C : Cok Φ Γ S m W X) {op : CmpOp} {a b : IE} {xa xb : Expr} {pos : Pos} (hs : notSet xb = true) (ha : PE X xa (TE' ba X W (evE Φ a))) (hb : PE X xb (TE' ba X W (evE Φ b))) : PE X (.Compare xa [op] [xb] pos) (TE' ba X W (evE Φ (.cmp op a b))) :=
  pe_imp (pe_cmpR (opCmp C.hu op) ha hb (marks_of op hs)) fun σ H Q q => cmp_two q
theorem evT_of {e : IE} {σ : L2.St} {H : Hp} {Q : Bool → Hp → Prop} (q : tB' ba X.K X.mg W (evT Φ e) σ H Q) : TE' ba X W (evE Φ e) σ H (fun v H' => ∃ k, TruV X.K v H' k ∧ Q k H') := by
  obtain ⟨F, env, s, q⟩ := q
  obtain ⟨F1, env1, s1, q1⟩ := one s q
  refine ⟨F1, env1, s1, q1.imp ?_⟩
  rintro v1 H1 ⟨x, env2, F2, g, o, s2, r1, p⟩
  cases e1 : look env2 x with
  | none =>
    have : truR env2 x = none := by unfold truR; rw [e1]; rfl
    rw [this] at p
    exact p.elim
  | some d =>
    cases e2 : truD d with
    | none =>
      have : truR env2 x = none := by unfold truR; rw [e1]; exact e2
      rw [this] at p
      exact p.elim
    | some b =>
      have : truR env2 x = some b := by unfold truR; rw [e1]; exact e2
      rw [this] at p
      exact ⟨b, tru_of s2.sub (look_vr s2 r1 e1) e2, post_it s2 p⟩
/-- a test whose text isTrue takes by the value -/
theorem t_plain {e : IE} {x : Expr} (hp : plainB x = true) (h : PE X x (TE' ba X W (evE Φ e))) : PT X x (tB' ba X.K X.mg W (evT Φ e)) :=
  pt_imp (pt_truth h (plain_of hp)) fun σ H Q q => evT_of q
theorem t_cmp (C : Cok Φ Γ S m W X) {op : CmpOp} {a b : IE} {xa xb : Expr} {pos : Pos} (hs : notSet xb = true) (ha : PE X xa (TE' ba X W (evE Φ a))) (hb : PE X xb (TE' ba X W (evE Φ b))) : PT X (.Compare xa [op] [xb] pos) (tB' ba X.K X.mg W (evT Φ (.cmp op a b))) := by
  refine pt_imp (pt_cmpR (opCmp C.hu op) ha hb (marks_of op hs)) fun σ H Q q => ?_
  obtain ⟨F, env, s, q⟩ := evT_of q
  obtain ⟨F1, env1, s1, q1⟩ := two s q
  refine ⟨F1, env1, s1, q1.imp fun v1 H1 ⟨F2, env2, s2, q2⟩ => ⟨F2, env2, s2, q2.imp ?_⟩⟩
  rintro v2 H2 ⟨x, y, env2, F2, g, o, s2, r1, r2, p⟩
  obtain ⟨F3, d, d', b, h1, h2, h3, h4, k, h5, h6⟩ := cmp_end s2 r1 r2 p
  have h5 : k = b := h5
  subst h5
  exact ⟨F3, d, d', k, h1, h2, h3, h4, k, rfl, h6⟩
theorem last_of {op op' : CmpOp} {b c : Expr} (h : notSet c = true) : lastMarks [op, op'] [b, c] = false := by
  show behindInMarks op' c = false
  exact marks_of op' h
theorem cmp2_two {o o' : CmpOp} {a b c : IE} {σ : L2.St} {H : Hp} {Q Q' : VK} (hQ : ∀ k H, Q (.bl k) H → Q' (.bl k) H) (q : TE' ba X W (evE Φ (.cmp2 o o' a b c)) σ H Q) : tChain (rCmp X.K o) (rCmp X.K o') (TE' ba X W (evE Φ a)) (TE' ba X W (evE Φ b)) (TE' ba X W (evE Φ c)) σ H Q' := by
  obtain ⟨F, env, s, q⟩ := q
  obtain ⟨F1, env1, s1, q1⟩ := two s q
  refine ⟨F1, env1, s1, q1.imp fun v1 H1 ⟨F2, env2, s2, q2⟩ => ⟨F2, env2, s2, q2.imp ?_⟩⟩
  rintro v2 H2 ⟨x, y, env2, F2, g, ow, s2, r1, r2, p⟩
  cases e1 : look env2 x with
  | none => rw [e1] at p; exact p.elim
  | some d =>
    cases e2 : look env2 y with
    | none => rw [e1, e2] at p; exact p.elim
    | some d' =>
      rw [e1, e2] at p
      cases e3 : cmpD o d d' with
      | none =>
        simp only [e3] at p
        exact p.elim
      | some b' =>
        refine ⟨F2, d, d', b', s2.sub, look_vr s2 r1 e1, look_vr s2 r2 e2, e3, b', rfl, ?_⟩
        cases b' with
        | false =>
          simp only [e3] at p
          exact hQ _ _ (post_now (w := .now (.bool false)) s2 p (.bl _))
        | true =>
          simp only [e3] at p
          show TE' ba X W (evE Φ c) σ H2 _
          obtain ⟨F3, env3, s3, q3⟩ := one s2 p
          refine ⟨F3, env3, s3, q3.imp ?_⟩
          rintro v3 H3 ⟨z, env4, F4, g4, o4, s4, r4, p4⟩
          obtain ⟨F5, d5, d6, b5, h1, h2, h3, h4, h5⟩ := cmp_end s4 (RE.go s2 s4 g4 o4 r2) (RE.early g r4) p4
          exact ⟨F5, d5, d6, b5, h1, h2, h3, h4, hQ _ _ h5⟩
theorem p_cmp2 (C : Cok Φ Γ S m W X) {o o' : CmpOp} {a b c : IE} {xa xb xc : Expr} {pos : Pos} (hs : notSet xc = true) (ha : PE X xa (TE' ba X W (evE Φ a))) (hb : PE X xb (TE' ba X W (evE Φ b))) (hc : PE X xc (TE' ba X W (evE Φ c))) : PE X (.Compare xa [o, o'] [xb, xc] pos) (TE' ba X W (evE Φ (.cmp2 o o' a b c))) :=
  pe_imp (pe_chain (opCmp C.hu o) (opCmp C.hu o') ha hb hc (last_of hs)) fun σ H Q q => cmp2_two (fun _ _ z => z) q
theorem t_cmp2 (C : Cok Φ Γ S m W X) {o o' : CmpOp} {a b c : IE} {xa xb xc : Expr} {pos : Pos} (hs : notSet xc = true) (ha : PE X xa (TE' ba X W (evE Φ a))) (hb : PE X xb (TE' ba X W (evE Φ b))) (hc : PE X xc (TE' ba X W (evE Φ c))) : PT X (.Compare xa [o, o'] [xb, xc] pos) (tB' ba X.K X.mg W (evT Φ (.cmp2 o o' a b c))) := by
  refine pt_imp (pt_chain (opCmp C.hu o) (opCmp C.hu o') ha hb hc (last_of hs)) fun σ H Q q => ?_
  exact cmp2_two (fun k H' ⟨k', h5, h6⟩ => ⟨k, rfl, by have h5 : k' = k := h5; rw [← h5]; exact h6⟩) (evT_of q)

/-! ### and, or, not, a if t else b -/
theorem tru_case {σ : L2.St} {H0 F H : Hp} {env : SEnv} {x : Vw} {v : V} (s : Sim ba X.K F H σ env) (r : RE X.K σ H0 F H env x v) {b : Bool} (e : truR env x = some b) : TruV X.K v H b := by
  unfold truR at e
  cases e1 : look env x with
  | none => rw [e1] at e; cases e
  | some d => rw [e1] at e; exact tru_of s.sub (look_vr s r e1) e
theorem bind_ok {α β : Type} {a : α} {e : SEnv} {f : α → SEnv → Rs β} : (Rs.ok a e).bind f = f a e := rfl
/-- one of two, by a bool -/
@[reducible] def sel {α : Type} (x y : α) : Bool → α
  | true => x
  | false => y
theorem if_T {b : Bool} {A B : Prop} (e : b = true) (h : A) : if b = true then A else B := by rw [if_pos e]; exact h
theorem if_F {b : Bool} {A B : Prop} (e : b = false) (h : B) : if b = true then A else B := by rw [if_neg (by rw [e]; exact Bool.false_ne_true)]; exact h
theorem p_and {a b : IE} {xa xb : Expr} {xr : List Expr} {pos : Pos} (ha : PE X xa (TE' ba X W (evE Φ a))) (hb : PE X (.BoolOp .And (xb :: xr) pos) (TE' ba X W (evE Φ b))) : PE X (.BoolOp .And (xa :: xb :: xr) pos) (TE' ba X W (evE Φ (.and a b))) := by
  refine pe_imp (pe_andT ha hb) fun σ H Q q => ?_
  obtain ⟨F, env, s, q⟩ := q
  obtain ⟨F1, env1, s1, q1⟩ := one s q
  refine ⟨F1, env1, s1, q1.imp ?_⟩
  rintro v1 H1 ⟨x, env2, F2, g, o, s2, r1, p⟩
  cases e : truR env2 x with
  | none => rw [e] at p; exact p.elim
  | some c =>
    refine ⟨c, tru_case s2 r1 e, ?_⟩
    rw [e] at p
    cases c with
    | true => exact if_T rfl ⟨F2, env2, s2, p.rel fun _ _ _ _ _ z => RE.early g z⟩
    | false => exact if_F rfl (post_now s2 p r1)
theorem p_or {a b : IE} {xa xb : Expr} {xr : List Expr} {pos : Pos} (ha : PE X xa (TE' ba X W (evE Φ a))) (hb : PE X (.BoolOp .Or (xb :: xr) pos) (TE' ba X W (evE Φ b))) : PE X (.BoolOp .Or (xa :: xb :: xr) pos) (TE' ba X W (evE Φ (.or a b))) := by
  refine pe_imp (pe_orT ha hb) fun σ H Q q => ?_
  obtain ⟨F, env, s, q⟩ := q
  obtain ⟨F1, env1, s1, q1⟩ := one s q
  refine ⟨F1, env1, s1, q1.imp ?_⟩
  rintro v1 H1 ⟨x, env2, F2, g, o, s2, r1, p⟩
  cases e : truR env2 x with
  | none => rw [e] at p; exact p.elim
  | some c =>
    refine ⟨c, tru_case s2 r1 e, ?_⟩
    rw [e] at p
    cases c with
    | true => exact if_T rfl (post_now s2 p r1)
    | false => exact if_F rfl ⟨F2, env2, s2, p.rel fun _ _ _ _ _ z => RE.early g z⟩
theorem p_nt {a : IE} {xa : Expr} {pos : Pos} (ha : PE X xa (TE' ba X W (evE Φ a))) : PE X (.UnaryOp .Not xa pos) (TE' ba X W (evE Φ (.nt a))) := by
  refine pe_imp (pe_notT ha) fun σ H Q q => ?_
  obtain ⟨F, env, s, q⟩ := q
  obtain ⟨F1, env1, s1, q1⟩ := one s q
  refine ⟨F1, env1, s1, q1.imp ?_⟩
  rintro v1 H1 ⟨x, env2, F2, g, o, s2, r1, p⟩
  cases e : truR env2 x with
  | none => rw [e] at p; exact p.elim
  | some c =>
    rw [e] at p
    exact ⟨c, tru_case s2 r1 e, post_now s2 p (.bl _)⟩
/-- a test, then what hangs on it -/
theorem test_then {t : IE} {γ δ : Type} {Rel : Hp → Hp → SEnv → γ → δ → Prop} {k : Bool → SEnv → Rs γ} {σ : L2.St} {F H : Hp} {env : SEnv} {Q : δ → Hp → Prop} (s : Sim ba X.K F H σ env)
    (h : Post ba X.K X.mg W σ Rel F H env ((evE Φ t env).bind fun x e1 => match truR e1 x with
      | some true => k true e1
      | some false => k false e1
      | none => .stuck) Q) :
    tB' ba X.K X.mg W (evT Φ t) σ H (fun b H1 => ∃ env1 F1, Go (O σ env) F H F1 H1 ∧ Own σ env env1 ∧ Sim ba X.K F1 H1 σ env1 ∧ Post ba X.K X.mg W σ Rel F1 H1 env1 (k b env1) Q) := by
  have h' : Post ba X.K X.mg W σ Rel F H env ((evT Φ t env).bind k) Q := by
    have e : (evT Φ t env).bind k = ((evE Φ t env).bind fun x e1 => match truR e1 x with
      | some true => k true e1
      | some false => k false e1
      | none => .stuck) := by
      unfold evT
      cases evE Φ t env with
      | ok a e1 =>
        rw [bind_ok, bind_ok]
        cases truR e1 a with
        | none => rfl
        | some b => cases b <;> rfl
      | exc c x e1 => rfl
      | stuck => rfl
    rw [e]
    exact h
  refine ⟨F, env, s, (Post.bind (Rel1 := RI σ H) h').imp ?_⟩
  rintro b H1 ⟨a, env1, F1, g, o, s1, rfl, p⟩
  exact ⟨env1, F1, g, o, s1, p⟩
theorem p_ife {t a b : IE} {xt xa xb : Expr} {pos : Pos} (ht : PT X xt (tB' ba X.K X.mg W (evT Φ t))) (ha : PE X xa (TE' ba X W (evE Φ a))) (hb : PE X xb (TE' ba X W (evE Φ b))) : PE X (.IfExp xt xa xb pos) (TE' ba X W (evE Φ (.ife t a b))) := by
  refine pe_imp (pe_ifExp ht ha hb) fun σ H Q q => ?_
  obtain ⟨F, env, s, q⟩ := q
  have q : Post ba X.K X.mg W σ (RE X.K σ H) F H env ((evE Φ t env).bind fun x e1 => match truR e1 x with
      | some true => (fun (b' : Bool) e1 => sel (evE Φ a e1) (evE Φ b e1) b') true e1
      | some false => (fun (b' : Bool) e1 => sel (evE Φ a e1) (evE Φ b e1) b') false e1
      | none => .stuck) Q := q
  obtain ⟨F1, env1, s1, q1⟩ := test_then (k := fun (b' : Bool) e1 => sel (evE Φ a e1) (evE Φ b e1) b') s q
  refine ⟨F1, env1, s1, q1.imp ?_⟩
  rintro c H1 ⟨env2, F2, g, o, s2, p⟩
  cases c with
  | true => exact if_T rfl ⟨F2, env2, s2, p.rel fun _ _ _ _ _ z => RE.early g z⟩
  | false => exact if_F rfl ⟨F2, env2, s2, p.rel fun _ _ _ _ _ z => RE.early g z⟩
theorem t_ife {t a b : IE} {xt xa xb : Expr} {pos : Pos} (ht : PT X xt (tB' ba X.K X.mg W (evT Φ t))) (ha : PT X xa (tB' ba X.K X.mg W (evT Φ a))) (hb : PT X xb (tB' ba X.K X.mg W (evT Φ b))) : PT X (.IfExp xt xa xb pos) (tB' ba X.K X.mg W (evT Φ (.ife t a b))) := by
  refine ⟨fun pins s σ H Q I h => ?_⟩
  obtain ⟨F, env, sm, q⟩ := h
  have e : evT Φ (.ife t a b) env = ((evE Φ t env).bind fun x e1 => match truR e1 x with
      | some true => (fun (b' : Bool) e1 => sel (evT Φ a e1) (evT Φ b e1) b') true e1
      | some false => (fun (b' : Bool) e1 => sel (evT Φ a e1) (evT Φ b e1) b') false e1
      | none => .stuck) := by
    show ((evE Φ t env).bind _).bind _ = _
    cases evE Φ t env with
    | ok x e1 =>
      rw [bind_ok, bind_ok]
      cases truR e1 x with
      | none => rfl
      | some b' => cases b' <;> rfl
    | exc c x e1 => rfl
    | stuck => rfl
  rw [e] at q
  show wpAny _ _ (do if ← isTrue xt X.env (eval xt X.env) then isTrue xa X.env (eval xa X.env) else isTrue xb X.env (eval xb X.env)) _ _ _
  refine wpAny_bind (thn (ht.run pins s σ H _ I (test_then (k := fun (b' : Bool) e1 => sel (evT Φ a e1) (evT Φ b e1) b') sm q)) fun c s1 ⟨H1, I1, env2, F2, g, o, s2, p⟩ => ?_)
  cases c with
  | true => exact ha.run pins s1 σ H1 Q I1 ⟨F2, env2, s2, p⟩
  | false => exact hb.run pins s1 σ H1 Q I1 ⟨F2, env2, s2, p⟩
theorem evT_and {a b : IE} {env : SEnv} : evT Φ (.and a b) env = ((evE Φ a env).bind fun x e1 => match truR e1 x with
      | some true => (fun (b' : Bool) e1 => sel (evT Φ b e1) (.ok false e1) b') true e1
      | some false => (fun (b' : Bool) e1 => sel (evT Φ b e1) (.ok false e1) b') false e1
      | none => .stuck) := by
  show ((evE Φ a env).bind _).bind _ = _
  cases evE Φ a env with
  | ok x e1 =>
    rw [bind_ok, bind_ok]
    cases h : truR e1 x with
    | none => rfl
    | some b' =>
      cases b' with
      | true => rfl
      | false =>
        show Rs.opt (truR e1 x) e1 = _
        rw [h]
  | exc c x e1 => rfl
  | stuck => rfl
theorem evT_or {a b : IE} {env : SEnv} : evT Φ (.or a b) env = ((evE Φ a env).bind fun x e1 => match truR e1 x with
      | some true => (fun (b' : Bool) e1 => sel (.ok true e1) (evT Φ b e1) b') true e1
      | some false => (fun (b' : Bool) e1 => sel (.ok true e1) (evT Φ b e1) b') false e1
      | none => .stuck) := by
  show ((evE Φ a env).bind _).bind _ = _
  cases evE Φ a env with
  | ok x e1 =>
    rw [bind_ok, bind_ok]
    cases h : truR e1 x with
    | none => rfl
    | some b' =>
      cases b' with
      | false => rfl
      | true =>
        show Rs.opt (truR e1 x) e1 = _
        rw [h]
  | exc c x e1 => rfl
  | stuck => rfl
theorem evT_nt {a : IE} {env : SEnv} : evT Φ (.nt a) env = (evT Φ a env).bind fun b e1 => .ok (!b) e1 := by
  show ((evE Φ a env).bind _).bind _ = ((evE Φ a env).bind _).bind _
  cases evE Φ a env with
  | ok x e1 =>
    rw [bind_ok, bind_ok]
    cases truR e1 x with
    | none => rfl
    | some b' => rfl
  | exc c x e1 => rfl
  | stuck => rfl
theorem t_and {a b : IE} {xa xb : Expr} {xr : List Expr} {pos : Pos} (ha : PT X xa (tB' ba X.K X.mg W (evT Φ a))) (hb : PW X (.BoolOp .And (xb :: xr) pos) (tB' ba X.K X.mg W (evT Φ b))) : PW X (.BoolOp .And (xa :: xb :: xr) pos) (tB' ba X.K X.mg W (evT Φ (.and a b))) := by
  refine pw_imp (pw_and ha hb) fun σ H Q q => ?_
  obtain ⟨F, env, s, q⟩ := q
  rw [evT_and] at q
  obtain ⟨F1, env1, s1, q1⟩ := test_then (k := fun (b' : Bool) e1 => sel (evT Φ b e1) (.ok false e1) b') s q
  refine ⟨F1, env1, s1, q1.imp ?_⟩
  rintro c H1 ⟨env2, F2, g, o, s2, p⟩
  cases c with
  | true => exact if_T rfl ⟨F2, env2, s2, p⟩
  | false => exact if_F rfl (post_it (H0 := H) s2 p)
theorem t_or {a b : IE} {xa xb : Expr} {xr : List Expr} {pos : Pos} (ha : PT X xa (tB' ba X.K X.mg W (evT Φ a))) (hb : PW X (.BoolOp .Or (xb :: xr) pos) (tB' ba X.K X.mg W (evT Φ b))) : PW X (.BoolOp .Or (xa :: xb :: xr) pos) (tB' ba X.K X.mg W (evT Φ (.or a b))) := by
  refine pw_imp (pw_or ha hb) fun σ H Q q => ?_
  obtain ⟨F, env, s, q⟩ := q
  rw [evT_or] at q
  obtain ⟨F1, env1, s1, q1⟩ := test_then (k := fun (b' : Bool) e1 => sel (.ok true e1) (evT Φ b e1) b') s q
  refine ⟨F1, env1, s1, q1.imp ?_⟩
  rintro c H1 ⟨env2, F2, g, o, s2, p⟩
  cases c with
  | true => exact if_T rfl (post_it (H0 := H) s2 p)
  | false => exact if_F rfl ⟨F2, env2, s2, p⟩
theorem t_nt {a : IE} {xa : Expr} {pos : Pos} (ha : PT X xa (tB' ba X.K X.mg W (evT Φ a))) : PT X (.UnaryOp .Not xa pos) (tB' ba X.K X.mg W (evT Φ (.nt a))) := by
  refine pt_imp (pt_not ha) fun σ H Q q => ?_
  obtain ⟨F, env, s, q⟩ := q
  rw [evT_nt] at q
  refine ⟨F, env, s, (Post.bind (Rel1 := RI σ H) q).imp ?_⟩
  rintro b H1 ⟨a', env1, F1, g, o, s1, rfl, p⟩
  exact post_it (H0 := H) s1 p

/-! ### displays, subscripts, slices -/
theorem keep_end {σ : L2.St} {H0 F H : Hp} {env env' : SEnv} {ws : List Vw} {vs : List V} {ds : List D} (s : Sim ba X.K F H σ env) (r : REs X.K σ H0 F H env ws vs) (e : keepN env ws = some (ds, env')) :
    ∃ F', Go (fun a => O σ env a ∨ H0 a = none) F H F' H ∧ Own σ env env' ∧ Sim ba X.K F' H σ env' ∧ DpAll X.K F' vs ds := keepN_ok s r e fun a => ⟨fun z => .inr z, fun z => .inl z⟩
/-- an evaluation's end behind a step that froze lists just made -/
theorem Post.froze {α β : Type} {Rel : Hp → Hp → SEnv → α → β → Prop} {σ : L2.St} {F0 H0 F H F' : Hp} {env0 env env' : SEnv} {a : α} {Q : β → Hp → Prop} {K : Frag} {mg : Str → Option Value}
    (h : Post ba K mg W σ Rel F0 H0 env0 (.ok a env') Q) (g : Go (O σ env0) F0 H0 F H) (o : Own σ env0 env) (g' : Go (fun a => O σ env a ∨ H0 a = none) F H F' H) (o' : Own σ env env') :
    ∀ b F2 H2, Go (O σ env') F' H F2 H2 → Sim ba K F2 H2 σ env' → Rel F2 H2 env' a b → Q b H2 := fun b F2 H2 g2 s2 r =>
  h b F2 H2 ((g.trans g' fun x z => z.elim (fun z => .inl (o x z)) .inr).trans g2 fun x z => .inl (o x (o' x z))) (fun x z => o x (o' x z)) s2 r
end
end PyE

set_option Elab.async false
set_option linter.all false
set_option autoImplicit false
set_option maxRecDepth 100000
set_option maxHeartbeats 4000000
/-! # What the checker takes is run as the evaluator says: displays, calls, what is walked, comprehensions -/
namespace PyE
open PySem PySem.Spec PyProof.Rows L2
section
variable {ba : Addr} {Φ : Fns} {Γ : Gam} {S : Sc} {m : Nat} {W : WX} {X : Cx}
theorem a_nil : PA X [] (tEs ba X.K X.mg W (evEs Φ .nil)) := pa_imp pa_nil fun σ H Q q => by
  obtain ⟨F, env, s, q⟩ := q
  exact q [] F H (Go.refl _ _ _) (fun _ z => z) s trivial
theorem a_cons {e : IE} {es : IEs} {x : Expr} {xs : List Expr} (hs : notStar x = true) (he : PE X x (TE' ba X W (evE Φ e))) (hes : PA X xs (tEs ba X.K X.mg W (evEs Φ es))) : PA X (x :: xs) (tEs ba X.K X.mg W (evEs Φ (.cons e es))) := by
  refine pa_imp (pa_cons he hes (star_of hs)) fun σ H Q q => ?_
  obtain ⟨F, env, s, q⟩ := q
  obtain ⟨F1, env1, s1, q1⟩ := one s q
  refine ⟨F1, env1, s1, q1.imp ?_⟩
  rintro v H1 ⟨w, env2, F2, g, o, s2, r, p⟩
  refine ⟨F2, env2, s2, (Post.bind (Rel1 := REs X.K σ H1) p).imp ?_⟩
  rintro vs H2 ⟨ws, env3, F3, g3, o3, s3, r3, p3⟩
  refine p3 (v :: vs) F3 H2 (Go.refl _ _ _) (fun _ z => z) s3 ⟨RE.go s2 s3 g3 o3 r, fun a t z => ?_, REs.early g r3⟩
  refine REs.fresh ?_ r3
  cases w with
  | tmp ds =>
    obtain ⟨b, _, e, h1, _⟩ := r
    rw [z] at e
    cases e
    rw [h1]
    simp
  | now d => cases t
  | late i => cases t
/-- arguments, kept -/
theorem keep_all {es : IEs} {γ δ : Type} {Rel : Hp → Hp → SEnv → γ → δ → Prop} {k : List D → SEnv → Rs γ} {σ : L2.St} {F H : Hp} {env : SEnv} {Q : δ → Hp → Prop} (s : Sim ba X.K F H σ env)
    (h : Post ba X.K X.mg W σ Rel F H env ((evEs Φ es env).bind fun ws e1 => match keepN e1 ws with
      | some (ds, e2) => k ds e2
      | none => .stuck) Q) :
    tEs ba X.K X.mg W (evEs Φ es) σ H (fun vs H1 => ∃ ds env1 F1, Go (O σ env) F H F1 H1 ∧ Own σ env env1 ∧ Sim ba X.K F1 H1 σ env1 ∧ DpAll X.K F1 vs ds ∧ Post ba X.K X.mg W σ Rel F1 H1 env1 (k ds env1) Q) := by
  refine ⟨F, env, s, ?_⟩
  cases e0 : evEs Φ es env with
  | ok ws env1 =>
    rw [e0, bind_ok] at h
    intro vs F1 H1 g o s1 r
    cases e : keepN env1 ws with
    | none => rw [e] at h; exact h.elim
    | some q =>
      obtain ⟨ds, env2⟩ := q
      rw [e] at h
      have h : Post ba X.K X.mg W σ Rel F H env (k ds env2) Q := h
      obtain ⟨F2, g2, o2, s2, al⟩ := keep_end s1 r e
      have gg : Go (O σ env) F H F2 H1 := g.trans g2 fun x z => z.elim (fun z => .inl (o x z)) .inr
      exact ⟨ds, env2, F2, gg, fun x z => o x (o2 x z), s2, al, h.go gg fun x z => o x (o2 x z)⟩
  | exc c x env1 => rw [e0] at h; exact h
  | stuck => rw [e0] at h; exact h
/-- one value, kept -/
theorem keep_one {e : IE} {γ δ : Type} {Rel : Hp → Hp → SEnv → γ → δ → Prop} {k : D → SEnv → Rs γ} {σ : L2.St} {F H : Hp} {env : SEnv} {Q : δ → Hp → Prop} (s : Sim ba X.K F H σ env)
    (h : Post ba X.K X.mg W σ Rel F H env ((evE Φ e env).bind fun w e1 => match keepF e1 w with
      | some (d, e2) => k d e2
      | none => .stuck) Q) :
    TE' ba X W (evE Φ e) σ H (fun v H1 => ∃ d env1 F1, Go (O σ env) F H F1 H1 ∧ Own σ env env1 ∧ Sim ba X.K F1 H1 σ env1 ∧ Dp X.K F1 v d ∧ Post ba X.K X.mg W σ Rel F1 H1 env1 (k d env1) Q) := by
  refine ⟨F, env, s, ?_⟩
  cases e0 : evE Φ e env with
  | ok w env1 =>
    rw [e0, bind_ok] at h
    intro v F1 H1 g o s1 r
    cases e : keepF env1 w with
    | none => rw [e] at h; exact h.elim
    | some q =>
      obtain ⟨d, env2⟩ := q
      rw [e] at h
      have h : Post ba X.K X.mg W σ Rel F H env (k d env2) Q := h
      obtain ⟨F2, g2, o2, s2, al, _⟩ := keepF_ok (M := fun a => O σ env1 a ∨ H a = none) s1 r e fun a => ⟨fun z => .inr z, fun z => .inl z⟩
      have gg : Go (O σ env) F H F2 H1 := g.trans g2 fun x z => z.elim (fun z => .inl (o x z)) .inr
      exact ⟨d, env2, F2, gg, fun x z => o x (o2 x z), s2, al, h.go gg fun x z => o x (o2 x z)⟩
  | exc c x env1 => rw [e0] at h; exact h
  | stuck => rw [e0] at h; exact h
theorem p_tup {es : IEs} {xs : List Expr} {j : Nat} {pos : Pos} (h : PA X xs (tEs ba X.K X.mg W (evEs Φ es))) : PE X (.Tuple xs j pos) (TE' ba X W (evE Φ (.tup es))) := by
  refine pe_imp (pe_tup h) fun σ H Q q => ?_
  obtain ⟨F, env, s, q⟩ := q
  obtain ⟨F1, env1, s1, q1⟩ := keep_all (k := fun ds e2 => (if szOk ds.length then Rs.ok (Vw.now (.tuple ds)) e2 else .stuck : Rs Vw)) s q
  refine ⟨F1, env1, s1, q1.imp ?_⟩
  rintro vs H1 ⟨ds, env2, F2, g, o, s2, al, p⟩
  have hl := dpa_len al
  cases hz : szOk ds.length with
  | false => simp only [hz] at p; exact p.elim
  | true =>
    simp only [hz] at p
    exact ⟨by rw [hl]; exact szOk_le hz, fun a ha => (post_rn s2 p fun x z => g.fresh z).tup s2.sub al ha⟩
theorem p_lst {es : IEs} {xs : List Expr} {pos : Pos} (h : PA X xs (tEs ba X.K X.mg W (evEs Φ es))) : PE X (.List xs pos) (TE' ba X W (evE Φ (.lst es))) := by
  refine pe_imp (pe_lst h) fun σ H Q q => ?_
  obtain ⟨F, env, s, q⟩ := q
  obtain ⟨F1, env1, s1, q1⟩ := keep_all (k := fun ds e2 => (if szOk ds.length then Rs.ok (Vw.tmp ds) e2 else .stuck : Rs Vw)) s q
  refine ⟨F1, env1, s1, q1.imp ?_⟩
  rintro vs H1 ⟨ds, env2, F2, g, o, s2, al, p⟩
  have hl := dpa_len al
  cases hz : szOk ds.length with
  | false => simp only [hz] at p; exact p.elim
  | true =>
    simp only [hz] at p
    exact ⟨by rw [hl]; exact szOk_le hz, fun a ha => (post_rn s2 p fun x z => g.fresh z).lst s2.sub al ha⟩
theorem p_ix {a b : IE} {xa xb : Expr} {pos : Pos} (hs : notSlice xb = true) (ha : PE X xa (TE' ba X W (evE Φ a))) (hb : PE X xb (TE' ba X W (evE Φ b))) : PE X (.Subscript xa xb pos) (TE' ba X W (evE Φ (.ix a b))) := by
  refine pe_imp (pe_ix ixAll ha hb (plainIx_of hs)) fun σ H Q q => ?_
  obtain ⟨F, env, s, q⟩ := q
  obtain ⟨F1, env1, s1, q1⟩ := two s q
  refine ⟨F1, env1, s1, q1.imp fun v1 H1 ⟨F2, env2, s2, q2⟩ => ⟨F2, env2, s2, q2.imp ?_⟩⟩
  rintro v2 H2 ⟨x, y, env2, F2, g, o, s2, r1, r2, p⟩
  cases e1 : look env2 x with
  | none => rw [e1] at p; exact p.elim
  | some d =>
    cases e2 : look env2 y with
    | none => rw [e1, e2] at p; exact p.elim
    | some d' =>
      rw [e1, e2] at p
      have p : Post ba X.K X.mg W σ (RE X.K σ H) F2 H2 env2 (Rs.opt ((ixD d d').map .now) env2) Q := p
      cases e3 : ixD d d' with
      | none => rw [e3] at p; exact p.elim
      | some w =>
        rw [e3] at p
        exact ⟨F2, d, d', w, s2.sub, look_vr s2 r1 e1, look_vr s2 r2 e2, e3, fun v r => post_now (w := .now w) s2 p r⟩
theorem o_none : PO X none (tO ba X.K X.mg W (evO Φ .none)) := po_imp po_none fun σ H Q q => by
  obtain ⟨F, env, s, q⟩ := q
  exact post_it (H0 := H) s q
theorem o_some {e : IE} {x : Expr} (he : PE X x (TE' ba X W (evE Φ e))) : PO X (some x) (tO ba X.K X.mg W (evO Φ (.some e))) := by
  refine po_imp (po_some he) fun σ H Q q => ?_
  obtain ⟨F, env, s, q⟩ := q
  obtain ⟨F1, env1, s1, q1⟩ := one s q
  refine ⟨F1, env1, s1, q1.imp ?_⟩
  rintro v H1 ⟨w, env2, F2, g, o, s2, r, p⟩
  cases e1 : look env2 w with
  | none => rw [e1] at p; exact p.elim
  | some d =>
    rw [e1] at p
    cases d with
    | int i => exact ⟨i, (look_vr s2 r e1).int, post_it (H0 := H) s2 p⟩
    | _ => exact p.elim
theorem p_sl {a : IE} {lo hi : IO} {xa : Expr} {xl xh : Option Expr} {p2 pos : Pos} (ha : PE X xa (TE' ba X W (evE Φ a))) (hl : PO X xl (tO ba X.K X.mg W (evO Φ lo))) (hh : PO X xh (tO ba X.K X.mg W (evO Φ hi))) : PE X (.Subscript xa (.Slice xl xh none p2) pos) (TE' ba X W (evE Φ (.sl a lo hi))) := by
  refine pe_imp (pe_slice slAll ha hl hh) fun σ H Q q => ?_
  obtain ⟨F, env, s, q⟩ := q
  obtain ⟨F1, env1, s1, q1⟩ := one s q
  refine ⟨F1, env1, s1, q1.imp ?_⟩
  rintro v1 H1 ⟨x, env2, F2, g2, o2, s2, r1, p⟩
  refine ⟨F2, env2, s2, (Post.bind (Rel1 := RI σ H1) p).imp ?_⟩
  rintro l H2 ⟨l', env3, F3, g3, o3, s3, rfl, p⟩
  refine ⟨F3, env3, s3, (Post.bind (Rel1 := RI σ H2) p).imp ?_⟩
  rintro h H3 ⟨h', env4, F4, g4, o4, s4, rfl, p⟩
  have r1' := RE.go s3 s4 g4 o4 (RE.go s2 s3 g3 o3 r1)
  cases e1 : look env4 x with
  | none => rw [e1] at p; exact p.elim
  | some d =>
    rw [e1] at p
    have p : Post ba X.K X.mg W σ (RE X.K σ H) F4 H3 env4 (Rs.opt (slD d l' h') env4) Q := p
    cases e3 : slD d l' h' with
    | none => rw [e3] at p; exact p.elim
    | some w =>
      rw [e3] at p
      exact ⟨F4, d, w, s4.sub, look_vr s4 r1' e1, e3, post_rn s4 p fun a z => g2.fresh (g3.fresh (g4.fresh z))⟩

/-! ### calls -/
theorem pe_callS0 {k : Nat} {f : Addr} {fd : FuncData} {ps : List Str} {sp : Sp} {E : L2.St → XK} {CX : CXT} {x : Str} {p pos : Pos} (F : FnOk X.prog X.w X.K X.mg X.base CX k f fd ps sp) (hr : Room k X.A) (hg : Gl X x) (hm : X.mg x = some (.ref f)) (hk : PySem.W.keepIn X.K (.ref f) = true) (hb : Binds X.K fd ps []) (hx : ∀ σ, PassesAt CX X σ (E σ))
    (hdb : (x == ("__debug__" : Str)) = false) : PE X (.Call (.Name x p) [] [] pos) (tCallS sp E tNil) := by
  refine ⟨fun pins s σ H Q I h => ?_⟩
  refine wpAny_Call_Name_kw (ld_glob I hg hm ?_ hdb)
  exact PySem.W.callWith_K0 I.kIn hk (run_fnS (us := []) F hr hb (hx σ) I .nil h)
theorem pe_false {x : Expr} {t : TE} (h : ∀ σ H Q, ¬ t σ H Q) : PE X x t := ⟨fun _ _ σ H Q _ q => (h σ H Q q).elim⟩
/-- any call of a def of the text -/
theorem pe_callA {k : Nat} {f : Addr} {fd : FuncData} {ps : List Str} {sp : Sp} {E : L2.St → XK} {CX : CXT} {x : Str} {p pos : Pos} {xs : List Expr} {t : TA} (F : FnOk X.prog X.w X.K X.mg X.base CX k f fd ps sp) (hr : Room k X.A) (hg : Gl X x) (hm : X.mg x = some (.ref f)) (hk : PySem.W.keepIn X.K (.ref f) = true) (hb : Binds X.K fd ps []) (hx : ∀ σ, PassesAt CX X σ (E σ))
    (hdb : (x == ("__debug__" : Str)) = false) (ha : PA X xs t) (hs : ∀ e es, xs = e :: es → starEach (e :: es) X.env = (false, eval e X.env) :: starEach es X.env ∧ (backTo pos (starEach es X.env)).any (·.1) = false) (h0 : xs = [] → ∀ σ H Q, t σ H Q → Q [] H) :
    PE X (.Call (.Name x p) xs [] pos) (tCallS sp E t) := by
  cases xs with
  | nil => exact pe_imp (pe_callS0 F hr hg hm hk hb hx hdb) fun σ H Q q => h0 rfl σ H _ q
  | cons e es =>
    obtain ⟨h1, h2⟩ := hs e es rfl
    exact pe_callS F hr hg hm hk hb hx ha hdb h1 h2
theorem stars_of : ∀ {es : IEs} {xs : List Expr}, chkEs Γ S es xs = true → ∀ (pos : Pos) (env : Env) (e : Expr) (r : List Expr), xs = e :: r → starEach (e :: r) env = (false, eval e env) :: starEach r env ∧ (backTo pos (starEach r env)).any (·.1) = false
  | .nil, _, h, _, _, _, _, z => by subst z; simp [chkEs] at h
  | .cons ie es, _, h, pos, env, e, r, z => by
    subst z
    simp only [chkEs, Bool.and_eq_true] at h
    exact ⟨star_of h.1.1, noStars h.2 pos env⟩
theorem p_call (C : Cok Φ Γ S m W X) {f : Str} {es : IEs} {xs : List Expr} {p pos : Pos} (hc : chkEs Γ S es xs = true) (hg : glB S.sc f = true) (ho : okName f = true) (h : PA X xs (tEs ba X.K X.mg W (evEs Φ es))) :
    PE X (.Call (.Name f p) xs [] pos) (TE' ba X W (evE Φ (.call f es))) := by
  obtain ⟨o1, o2, o3⟩ := okName_of ho
  cases hΦ : Φ f with
  | none =>
    refine pe_false fun σ H Q q => ?_
    obtain ⟨F, env, s, q⟩ := q
    unfold evE at q
    rw [hΦ] at q
    exact q
  | some fs =>
    obtain ⟨fa, fd, ps, h1, h2, h3, h4⟩ := C.fn f fs hΦ
    refine pe_imp (pe_callA (E := WE W) h4 C.room (C.gl hg) h1 h2 h3 (fun σ => passAt C.tk σ) o1 h (fun e es' z => stars_of hc pos X.env e es' z) (fun z σ H Q q => ?_)) fun σ H Q q => ?_
    · subst z
      cases es with
      | cons _ _ => simp [chkEs] at hc
      | nil =>
        obtain ⟨F, env, s, q⟩ := q
        exact q [] F H (Go.refl _ _ _) (fun _ z => z) s trivial
    · obtain ⟨F, env, s, q⟩ := q
      have q : Post ba X.K X.mg W σ (RE X.K σ H) F H env ((evEs Φ es env).bind fun ws e1 => match keepN e1 ws with
        | some (ds, e2) => callK fs ds e2
        | none => .stuck) Q := by
        unfold evE at q
        rw [hΦ] at q
        exact q
      obtain ⟨F1, env1, s1, q1⟩ := keep_all (k := callK fs) s q
      refine ⟨F1, env1, s1, q1.imp ?_⟩
      rintro vs H1 ⟨ds, env2, F2, g, o, s2, al, p⟩
      unfold callK at p
      cases hb : (!fs.bor && ds.length == fs.arity) with
      | false => simp only [hb] at p; exact p.elim
      | true =>
        simp only [hb, if_true] at p
        rw [Bool.and_eq_true] at hb
        have hb1 : fs.bor = false := by simpa using hb.1
        have hb2 : ds.length = fs.arity := by simpa using hb.2
        refine ⟨(dpa_len al).trans hb2, .inl ⟨hb1, F2, ds, s2.sub, al, ?_⟩⟩
        cases hrun : fs.run ds with
        | stuck => rw [hrun] at p; exact p.elim
        | ret d b =>
          rw [hrun] at p
          intro v F' H' g' sub dp
          obtain ⟨g2, s3⟩ := fin s2 g' sub
          exact p v F' H' g2 (fun _ z => z) s3 dp
        | exc c x b =>
          rw [hrun] at p
          intro dd F' H' g' sub xa Ca hCa
          obtain ⟨g2, s3⟩ := fin s2 g' sub
          exact p dd F' H' g2 (fun _ z => z) s3 xa Ca hCa
theorem p_callb (C : Cok Φ Γ S m W X) {f : Str} {i : Nat} {es : IEs} {y : Str} {xs : List Expr} {p py pos : Pos} (hc : chkEs Γ S es xs = true) (hg : glB S.sc f = true) (ho : okName f = true) (hi : Γ.N[i]? = some y) (hv : visB S.sc y = true) (hy : okName y = true) (h : PA X xs (tEs ba X.K X.mg W (evEs Φ es))) :
    PE X (.Call (.Name f p) (.Name y py :: xs) [] pos) (TE' ba X W (evE Φ (.callb f i es))) := by
  obtain ⟨o1, o2, o3⟩ := okName_of ho
  obtain ⟨y1, y2, y3⟩ := okName_of hy
  cases hΦ : Φ f with
  | none =>
    refine pe_false fun σ H Q q => ?_
    obtain ⟨F, env, s, q⟩ := q
    unfold evE at q
    rw [hΦ] at q
    exact q
  | some fs =>
    obtain ⟨fa, fd, ps, h1, h2, h3, h4⟩ := C.fn f fs hΦ
    have hvar : PE X (.Name y py) (tVar i) := pe_var (C.ix hi) (C.vis hv) y1 y2
    refine pe_imp (pe_callA (E := WE W) h4 C.room (C.gl hg) h1 h2 h3 (fun σ => passAt C.tk σ) o1 (pa_cons hvar h rfl) (fun e es' z => by
      cases z
      exact ⟨rfl, noStars hc pos X.env⟩) (fun z => by cases z)) fun σ H Q q => ?_
    obtain ⟨F, env, s, q⟩ := q
    have q : Post ba X.K X.mg W σ (RE X.K σ H) F H env (match some fs, isMine env i with
      | some fs, true => (evEs Φ es env).bind fun ws e1 => match keepN e1 ws with
        | some (ds, e2) => callbK fs i ds e2
        | none => .stuck
      | _, _ => .stuck) Q := by
      unfold evE at q
      rw [hΦ] at q
      exact q
    cases hm : isMine env i with
    | false => rw [hm] at q; exact q.elim
    | true =>
      rw [hm] at q
      have q : Post ba X.K X.mg W σ (RE X.K σ H) F H env ((evEs Φ es env).bind fun ws e1 => match keepN e1 ws with
        | some (ds, e2) => callbK fs i ds e2
        | none => .stuck) Q := q
      have hM : ∃ bs, Mine env i bs := by
        unfold isMine at hm
        split at hm
        · rename_i bs e; exact ⟨bs, .inl e⟩
        · rename_i bs e; exact ⟨bs, .inr e⟩
        · cases hm
      obtain ⟨bs0, hM⟩ := hM
      obtain ⟨a, vs0, ha, _⟩ := s.own i bs0 hM
      refine ⟨.ref a, ha, ?_⟩
      obtain ⟨F1, env1, s1, q1⟩ := keep_all (k := callbK fs i) s q
      refine ⟨F1, env1, s1, q1.imp ?_⟩
      rintro vs H1 ⟨ds, env2, F2, g, o, s2, al, p⟩
      unfold callbK at p
      cases hb : (fs.bor && ds.length + 1 == fs.arity) with
      | false => simp only [hb] at p; exact p.elim
      | true =>
        simp only [hb, if_true] at p
        rw [Bool.and_eq_true] at hb
        have hb2 : ds.length + 1 = fs.arity := by simpa using hb.2
        have main : ∀ (bs : List D) (mk : List D → Sl), (∀ es fs', (mk es = .own fs' ∨ mk es = .bor fs') → fs' = es) → ((env2[i]? = some (.own bs) ∧ mk = Sl.own) ∨ (env2[i]? = some (.bor bs) ∧ mk = Sl.bor)) →
            Post ba X.K X.mg W σ (RE X.K σ H) F2 H1 env2 (match fs.run (.list bs :: ds) with
              | .ret d b => .ok (.now d) (env2.set i (mk b))
              | .exc c x b => .exc c x (env2.set i (mk b))
              | .stuck => .stuck) Q → spF X.K X.mg fs (.ref a :: vs) H1 Q (WE W σ) := by
          intro bs mk hmk hsl p
          have hM2 : Mine env2 i bs := hsl.elim (fun z => .inl z.1) fun z => .inr z.1
          obtain ⟨a', ws, e1, e2, e3, e4⟩ := s2.own i bs hM2
          rw [ha] at e1
          cases e1
          have hO : O σ env2 a := ⟨i, bs, hM2, ha⟩
          refine ⟨by rw [List.length_cons, dpa_len al]; exact hb2, .inr ⟨hb.1, F2, a, vs, ws, bs, ds, rfl, s2.sub, e2, e3, e4, al, ?_⟩⟩
          -- behind the call: the list at a holds ws'
          have back : ∀ {F' H' : Hp} {ws' : List V} {b' : List D}, Go (fun x => x = a) F2 H1 F' H' → Ex F' H' → H' a = some (.lst ws') → F' a = none → DpAll X.K F' ws' b' →
              Go (O σ env2) F2 H1 F' H' ∧ Own σ env2 (env2.set i (mk b')) ∧ Sim ba X.K F' H' σ (env2.set i (mk b')) := by
            intro F' H' ws' b' g' sub ha' fa' al'
            refine ⟨g'.mono fun x z => .inl (z ▸ hO), ?_, ?_⟩
            · rintro x ⟨j, es', mm, ej⟩
              rcases mine_set mm with ⟨rfl, _⟩ | ⟨_, mm⟩
              · exact ⟨j, bs, hM2, ej⟩
              · exact ⟨j, es', mm, ej⟩
            · have hil : i < env2.length := by rcases hM2 with e | e <;> exact (List.getElem?_eq_some_iff.mp e).1
              refine ⟨sub, by rw [List.length_set]; exact s2.len, fun j d e => ?_, fun j es' mm => ?_, fun j es' e => ?_, fun j k b es' fs' mm mm' q1 q2 => ?_⟩
              · by_cases hj : i = j
                · subst hj
                  rw [List.getElem?_set_self hil] at e
                  rcases hsl with ⟨_, z⟩ | ⟨_, z⟩ <;> subst z <;> cases e
                · rw [List.getElem?_set_ne hj] at e
                  obtain ⟨v, q1, q2⟩ := s2.sh j d e
                  exact ⟨v, q1, dp_ex g'.ex _ _ q2⟩
              · rcases mine_set mm with ⟨rfl, z⟩ | ⟨hj, mm⟩
                · have := hmk _ _ z
                  subst this
                  exact ⟨a, ws', ha, ha', fa', al'⟩
                · obtain ⟨b, us, q1, q2, q3, q4⟩ := s2.own j es' mm
                  have hba : ¬ b = a := fun z => hj (s2.dis j i a es' bs mm hM2 (z ▸ q1) ha)
                  exact ⟨b, us, q1, g'.keep b _ hba q2, g'.fz b hba (by rw [q2]; simp) q3, dpa_ex g'.ex _ _ q4⟩
              · by_cases hj : i = j
                · subst hj
                  rw [List.getElem?_set_self hil] at e
                  rcases hsl with ⟨_, z⟩ | ⟨q, z⟩
                  · subst z
                    cases e
                  · exact s2.lent i bs q
                · rw [List.getElem?_set_ne hj] at e
                  exact s2.lent j es' e
              · have old : ∀ {j : Nat} {es' : List D}, Mine (env2.set i (mk b')) j es' → ∃ fs', Mine env2 j fs' := fun mm => by
                  rcases mine_set mm with ⟨rfl, _⟩ | ⟨_, mm⟩
                  · exact ⟨bs, hM2⟩
                  · exact ⟨_, mm⟩
                obtain ⟨_, m1⟩ := old mm
                obtain ⟨_, m2⟩ := old mm'
                exact s2.dis j k b _ _ m1 m2 q1 q2
          cases hrun : fs.run (.list bs :: ds) with
          | stuck => rw [hrun] at p; exact p.elim
          | ret d b =>
            rw [hrun] at p
            intro v F' H' ws' g' sub ha' fa' al' dp
            obtain ⟨g2, o2, s3⟩ := back g' sub ha' fa' al'
            exact p v F' H' g2 o2 s3 dp
          | exc c x b =>
            rw [hrun] at p
            intro dd F' H' ws' g' sub ha' fa' al' xa Ca hCa
            obtain ⟨g2, o2, s3⟩ := back g' sub ha' fa' al'
            exact p dd F' H' g2 o2 s3 xa Ca hCa
        cases e2 : env2[i]? with
        | none => rw [e2] at p; exact p.elim
        | some sl =>
          rw [e2] at p
          cases sl with
          | no => exact p.elim
          | sh _ => exact p.elim
          | own bs => exact main bs Sl.own (fun es fs' z => by rcases z with z | z <;> cases z <;> rfl) (.inl ⟨e2, rfl⟩) p
          | bor bs => exact main bs Sl.bor (fun es fs' z => by rcases z with z | z <;> cases z <;> rfl) (.inr ⟨e2, rfl⟩) p

/-! ### built-in functions, isinstance -/
theorem looks_vr {σ : L2.St} {H0 F H : Hp} {env : SEnv} (s : Sim ba X.K F H σ env) : ∀ {ws : List Vw} {vs : List V} {ds : List D}, REs X.K σ H0 F H env ws vs → looks env ws = some ds →
    ∃ n, n = ds.length ∧ vs.length = n ∧ ∀ (i : Nat) d v, ds[i]? = some d → vs[i]? = some v → VR X.K F H v d
  | [], [], ds, _, e => by
    cases e
    exact ⟨0, rfl, rfl, fun i d v h => by simp at h⟩
  | [], _ :: _, _, h, _ => h.elim
  | _ :: _, [], _, h, _ => h.elim
  | w :: ws, v :: vs, ds, h, e => by
    unfold looks at e
    cases e1 : look env w with
    | none => rw [e1] at e; cases e
    | some d =>
      rw [e1] at e
      have e : (looks env ws).bind (fun ds => some (d :: ds)) = some ds := e
      cases e2 : looks env ws with
      | none => rw [e2] at e; cases e
      | some ds' =>
        rw [e2] at e
        have e : some (d :: ds') = some ds := e
        cases e
        obtain ⟨n, h1, h2, h3⟩ := looks_vr s h.2.2 e2
        refine ⟨n + 1, by rw [List.length_cons, h1], by rw [List.length_cons, h2], fun i d0 v0 p1 p2 => ?_⟩
        cases i with
        | zero =>
          cases p1
          cases p2
          exact look_vr s h.1 e1
        | succ i => exact h3 i d0 v0 p1 p2
theorem bf_in (f : Bf) : bfName f ∈ blts := by cases f <;> decide +kernel
theorem p_bf (C : Cok Φ Γ S m W X) {f : Bf} {es : IEs} {g : Str} {x : Expr} {xs : List Expr} {p pos : Pos} (hc : chkEs Γ S es (x :: xs) = true) (hg : glB S.sc g = true) (hn : bfName f = g) (h : PA X (x :: xs) (tEs ba X.K X.mg W (evEs Φ es))) :
    PE X (.Call (.Name g p) (x :: xs) [] pos) (TE' ba X W (evE Φ (.bf f es))) := by
  subst hn
  have hm := C.blt _ (bf_in f)
  have st := stars_of hc pos X.env x xs rfl
  have goal : ∀ σ H Q, TE' ba X W (evE Φ (.bf f es)) σ H Q → tCB (rBf X.K f) (tEs ba X.K X.mg W (evEs Φ es)) σ H Q := by
    intro σ H Q q
    obtain ⟨F, env, s, q⟩ := q
    refine ⟨F, env, s, (Post.bind (Rel1 := REs X.K σ H) q).imp ?_⟩
    rintro vs H1 ⟨ws, env1, F1, g, o, s1, r, p⟩
    cases e : looks env1 ws with
    | none => rw [e] at p; exact p.elim
    | some ds =>
      rw [e] at p
      have p : Post ba X.K X.mg W σ (RE X.K σ H) F1 H1 env1 (Rs.opt (bfD f ds) env1) Q := p
      cases e3 : bfD f ds with
      | none => rw [e3] at p; exact p.elim
      | some w =>
        rw [e3] at p
        exact ⟨F1, ds, w, s1.sub, looks_vr s1 r e, e3, post_rn s1 p fun a z => g.fresh z⟩
  have hr := bfAll (X := X) C.calm C.hu f
  cases f with
  | tuple => exact pe_imp (pe_callTy hr (C.gl hg) hm (by decide +kernel) h (by decide +kernel) (by decide +kernel) st.1 st.2) goal
  | list => exact pe_imp (pe_callTy hr (C.gl hg) hm (by decide +kernel) h (by decide +kernel) (by decide +kernel) st.1 st.2) goal
  | int => exact pe_imp (pe_callTy hr (C.gl hg) hm (by decide +kernel) h (by decide +kernel) (by decide +kernel) st.1 st.2) goal
  | bool => exact pe_imp (pe_callTy hr (C.gl hg) hm (by decide +kernel) h (by decide +kernel) (by decide +kernel) st.1 st.2) goal
  | len => exact pe_imp (pe_callB hr (C.gl hg) hm (by decide +kernel) h (by decide +kernel) (by decide +kernel) st.1 st.2) goal
  | sum => exact pe_imp (pe_callB hr (C.gl hg) hm (by decide +kernel) h (by decide +kernel) (by decide +kernel) st.1 st.2) goal
  | all => exact pe_imp (pe_callB hr (C.gl hg) hm (by decide +kernel) h (by decide +kernel) (by decide +kernel) st.1 st.2) goal
  | any => exact pe_imp (pe_callB hr (C.gl hg) hm (by decide +kernel) h (by decide +kernel) (by decide +kernel) st.1 st.2) goal
  | abs => exact pe_imp (pe_callB hr (C.gl hg) hm (by decide +kernel) h (by decide +kernel) (by decide +kernel) st.1 st.2) goal
  | min => exact pe_imp (pe_callB hr (C.gl hg) hm (by decide +kernel) h (by decide +kernel) (by decide +kernel) st.1 st.2) goal
  | max => exact pe_imp (pe_callB hr (C.gl hg) hm (by decide +kernel) h (by decide +kernel) (by decide +kernel) st.1 st.2) goal
  | sorted => exact pe_imp (pe_callB hr (C.gl hg) hm (by decide +kernel) h (by decide +kernel) (by decide +kernel) st.1 st.2) goal
  | dvm => exact pe_imp (pe_callB hr (C.gl hg) hm (by decide +kernel) h (by decide +kernel) (by decide +kernel) st.1 st.2) goal
/-- a class's name, as a value -/
theorem pe_ty (C : Cok Φ Γ S m W X) {t : Ty} {n : Str} {p : Pos} (hn : n = tyS t) (hg : glB S.sc n = true) : PE X (.Name n p) (tC (.ty (tyN t))) := by
  subst hn
  have hm : X.mg (tyS t) = none := C.blt _ (by cases t <;> decide +kernel)
  refine pe_bltn (u := .type (tyN t)) (C.gl hg) hm ?_ rfl ?_ ?_ <;> cases t <;> decide +kernel
theorem clsv (t : Ty) : ClsV (.ty (tyN t)) (.type (tyN t)) := .ty _
theorem p_isi1 (C : Cok Φ Γ S m W X) {a : IE} {t : Ty} {x : Expr} {g n : Str} {p pn pos : Pos} (hg : glB S.sc g = true) (hgn : g = "isinstance") (hs : notStar x = true) (hn : n = tyS t) (hgl : glB S.sc n = true) (ha : PE X x (TE' ba X W (evE Φ a))) :
    PE X (.Call (.Name g p) [x, .Name n pn] [] pos) (TE' ba X W (evE Φ (.isi a [t] false))) := by
  subst hgn
  have hm := C.blt "isinstance" (by decide +kernel)
  refine pe_imp (pe_callB call_isi (C.gl hg) hm (by decide +kernel) (pa_cons ha (pa_cons (pe_ty C hn hgl) pa_nil rfl) (star_of hs)) (by decide +kernel) (by decide +kernel) (star_of hs) rfl) fun σ H Q q => ?_
  obtain ⟨F, env, s, q⟩ := q
  obtain ⟨F1, env1, s1, q1⟩ := one s q
  refine ⟨F1, env1, s1, q1.imp ?_⟩
  rintro v H1 ⟨w, env2, F2, g, o, s2, r, p⟩
  cases e1 : look env2 w with
  | none => rw [e1] at p; exact p.elim
  | some d =>
    rw [e1] at p
    have vr := look_vr s2 r e1
    have fin' : (∀ kvs, d ≠ .dict kvs) → Post ba X.K X.mg W σ (RE X.K σ H) F2 H1 env2 (.ok (.now (.bool ([t].any (isTy d)))) env2) Q → rIsi X.K [v, .ty (tyN t)] H1 Q := fun hd p => by
      obtain ⟨n, h1, h2⟩ := tyx_of s2.sub vr hd
      refine ⟨v, _, _, _, isTy d t, rfl, clsv t, h1, kit_ty (h2 t), ?_⟩
      have e : [t].any (isTy d) = isTy d t := by simp
      rw [e] at p
      exact post_now (w := .now (.bool (isTy d t))) s2 p (.bl _)
    cases d with
    | dict kvs => exact p.elim
    | _ => exact fin' (fun _ z => by cases z) p
theorem pa_tys (C : Cok Φ Γ S m W X) : ∀ {ts : List Ty} {ns : List Expr}, chkTy S ts ns = true → PA X ns (fun _ H Q => Q (ts.map fun t => V.ty (tyN t)) H)
  | [], ns, h => by
    cases ns with
    | nil => exact pa_imp pa_nil fun _ _ _ q => q
    | cons _ _ => cases h
  | t :: ts, ns, h => by
    cases ns with
    | nil => cases h
    | cons n ns =>
      cases n <;> first | cases h | skip
      simp only [chkTy, Bool.and_eq_true] at h
      exact pa_imp (pa_cons (pe_ty C (by simpa using h.1.1) h.1.2) (pa_tys C h.2) rfl) fun _ _ _ q => q
theorem kit_tys {d : D} {n : String} {K : Frag} (h2 : ∀ t, kitB n (tyN t) = some (isTy d t)) : ∀ ts : List Ty, PySem.W.kitAny K (.type n) (ts.map fun t => Value.type (tyN t)) = some (ts.any (isTy d))
  | [] => kitAny_nil
  | t :: ts => by
    refine kitAny_cons (b := isTy d t) (kit_ty (h2 t)) (fun e => ?_) (fun e => ?_)
    · rw [List.any_cons, e, Bool.false_or]
      exact kit_tys h2 ts
    · rw [List.any_cons, e, Bool.true_or]
theorem paired_tys : ∀ ts : List Ty, Paired ClsV (ts.map fun t => V.ty (tyN t)) (ts.map fun t => Value.type (tyN t))
  | [] => .nil
  | t :: ts => .cons (clsv t) (paired_tys ts)
theorem p_isiT (C : Cok Φ Γ S m W X) {a : IE} {ts : List Ty} {x : Expr} {ns : List Expr} {j : Nat} {g : Str} {p pt pos : Pos} (hg : glB S.sc g = true) (hgn : g = "isinstance") (hs : notStar x = true) (hn : chkTy S ts ns = true) (hl : ts.length ≤ 1000) (ha : PE X x (TE' ba X W (evE Φ a))) :
    PE X (.Call (.Name g p) [x, .Tuple ns j pt] [] pos) (TE' ba X W (evE Φ (.isi a ts true))) := by
  subst hgn
  have hm := C.blt "isinstance" (by decide +kernel)
  refine pe_imp (pe_callB call_isiT (C.gl hg) hm (by decide +kernel) (pa_cons ha (pa_cons (pe_tup (pa_tys C hn)) pa_nil rfl) (star_of hs)) (by decide +kernel) (by decide +kernel) (star_of hs) rfl) fun σ H Q q => ?_
  obtain ⟨F, env, s, q⟩ := q
  obtain ⟨F1, env1, s1, q1⟩ := one s q
  refine ⟨F1, env1, s1, q1.imp ?_⟩
  rintro v H1 ⟨w, env2, F2, g, o, s2, r, p⟩
  refine ⟨by rw [List.length_map]; exact Nat.le_trans hl (by decide), fun tp htp => ?_⟩
  have gn : Go (fun _ => False) F2 H1 (upd F2 tp (.tup (ts.map fun t => V.ty (tyN t)))) (upd H1 tp (.tup (ts.map fun t => V.ty (tyN t)))) := Go.new s2.sub htp
  have sub := s2.sub.both tp (.tup (ts.map fun t => V.ty (tyN t)))
  obtain ⟨g3, s3⟩ := fin s2 gn sub
  have r3 : RE X.K σ H _ _ env2 w v := RE.go s2 s3 g3 (fun _ z => z) r
  cases e1 : look env2 w with
  | none => rw [e1] at p; exact p.elim
  | some d =>
    rw [e1] at p
    have vr := look_vr s3 r3 e1
    have fin' : (∀ kvs, d ≠ .dict kvs) → Post ba X.K X.mg W σ (RE X.K σ H) F2 H1 env2 (.ok (.now (.bool (ts.any (isTy d)))) env2) Q → rIsiT X.K [v, .ref tp] (upd H1 tp (.tup (ts.map fun t => V.ty (tyN t)))) Q := fun hd p => by
      obtain ⟨n, h1, h2⟩ := tyx_of s3.sub vr hd
      exact ⟨v, tp, _, _, _, _, rfl, upd_same, paired_tys ts, h1, kit_tys h2 ts, p _ _ _ g3 (fun _ z => z) s3 (.bl _)⟩
    cases d with
    | dict kvs => exact p.elim
    | _ => exact fin' (fun _ z => by cases z) p

/-! ### xs.count(e) -/
theorem p_cnt (C : Cok Φ Γ S m W X) {a e : IE} {x y : Expr} {f : Str} {ap cp : Pos} (hf : f = "count") (hl : (ap.endLine == cp.line) = true) (hs : notStar y = true) (hc : notCall x = true) (ha : PE X x (TE' ba X W (evE Φ a))) (he : PE X y (TE' ba X W (evE Φ e))) :
    PE X (.Call (.Attribute x f ap) [y] [] cp) (TE' ba X W (evE Φ (.cnt a e))) := by
  subst hf
  refine pe_imp (pe_bm PySem.F.plainAttrs_list PySem.F.slot_list_count PySem.F.type_list_count mt_cnt ha (pa_cons he pa_nil (star_of hs)) (base_of hc) (by rw [star_of hs]; rfl) hl (star_of hs) rfl) fun σ H Q ⟨F, env, s, q⟩ => ?_
  obtain ⟨F1, env1, s1, q1⟩ := one s q
  refine ⟨F1, env1, s1, q1.imp ?_⟩
  rintro v1 H1 ⟨w, env2, F2, g, o, s2, r1, p⟩
  cases e1 : look env2 w with
  | none => rw [e1] at p; exact p.elim
  | some d =>
    rw [e1] at p
    cases d with
    | list ds =>
      obtain ⟨l, vs, rfl, hl, _⟩ := look_vr s2 r1 e1
      refine ⟨.inl ⟨rfl, vs, hl⟩, ?_⟩
      obtain ⟨F3, env3, s3, q3⟩ := one s2 p
      refine ⟨F3, env3, s3, q3.imp ?_⟩
      rintro v2 H2 ⟨y, env4, F4, g4, o4, s4, r2, p⟩
      have r1 := RE.go s2 s4 g4 o4 r1
      cases e2 : look env4 w with
      | none => rw [e2] at p; exact p.elim
      | some d1 =>
        cases e3 : look env4 y with
        | none => rw [e2, e3] at p; cases d1 <;> exact p.elim
        | some d2 =>
          rw [e2, e3] at p
          cases d1 with
          | list ys =>
            have p : Post ba X.K X.mg W σ (RE X.K σ H) F4 H2 env4 (if (flatD d2 && ys.all flatD) = true then .ok (.now (.int (cntD d2 ys))) env4 else .stuck) Q := p
            cases hz : (flatD d2 && ys.all flatD) with
            | false => rw [hz] at p; exact p.elim
            | true =>
              rw [hz] at p
              rw [Bool.and_eq_true] at hz
              obtain ⟨l', vs', ev, hl', al⟩ := look_vr s4 r1 e2
              cases ev
              have r2' : Dp X.K F4 v2 d2 := by
                have := look_vr s4 r2 e3
                cases d2 <;> first | exact this | (exact absurd hz.1 (by simp [flatD]))
              refine ⟨l, vs', v2, rfl, rfl, hl', flatV_of r2' hz.1, flatAll_of al hz.2, ?_⟩
              rw [cntD_of r2' hz.1 al hz.2]
              exact post_now s4 p (.int _)
          | _ => exact p.elim
    | _ => exact p.elim

/-! ### len(set(a)); gcd, lcm -/
theorem p_lnset (C : Cok Φ Γ S m W X) {a : IE} {x : Expr} {g h : Str} {p p2 p3 pos : Pos} (hg : glB S.sc g = true) (hgn : g = "len") (hh : glB S.sc h = true) (hhn : h = "set") (hs : notStar x = true) (ha : PE X x (TE' ba X W (evE Φ a))) :
    PE X (.Call (.Name g p) [.Call (.Name h p2) [x] [] p3] [] pos) (TE' ba X W (evE Φ (.lnset a))) := by
  subst hgn hhn
  have hm := C.blt "len" (by decide +kernel)
  have hm2 := C.blt "set" (by decide +kernel)
  refine pe_imp (pe_callB cr_lenSetT (C.gl hg) hm (by decide +kernel) (pa_cons (pe_callTy (cr_setTT C.calm C.hu) (C.gl hh) hm2 (by decide +kernel) (pa_cons ha pa_nil (star_of hs)) (by decide +kernel) (by decide +kernel) (star_of hs) rfl) pa_nil rfl) (by decide +kernel) (by decide +kernel) rfl rfl) fun σ H Q q => ?_
  obtain ⟨F, env, s, q⟩ := q
  obtain ⟨F1, env1, s1, q1⟩ := one s q
  refine ⟨F1, env1, s1, q1.imp ?_⟩
  rintro v H1 ⟨w, env2, F2, g, o, s2, r, p⟩
  cases e1 : look env2 w with
  | none => rw [e1] at p; exact p.elim
  | some d =>
    rw [e1] at p
    have p : Post ba X.K X.mg W σ (RE X.K σ H) F2 H1 env2 (Rs.opt (lnsetD d) env2) Q := p
    have vr := look_vr s2 r e1
    have key : ∀ {l : Addr} {vs : List V} {ds : List D}, v = .ref l → (SqL X.K H1 l vs ∨ SqT X.K H1 l vs) → DpAll X.K F2 vs ds → Post ba X.K X.mg W σ (RE X.K σ H) F2 H1 env2 (Rs.opt ((tupsI ds).bind fun ks => if decide (ks.length < 64) then some (.now (.int (ndup ks).length)) else none) env2) Q →
        rSetTT X.K X.prog X.w [v] H1 (fun v2 H2 => ∃ (a : Addr) (L : List (Addr × List Int)), [v2] = [V.ref a] ∧ H2 a = some (SetTO X.prog X.w a L) ∧ (∀ p ∈ L, SqT X.K H2 p.1 (p.2.map V.int)) ∧ Q (.int (L.length : Nat)) H2) := by
      intro l vs ds ev hq al p
      cases e2 : tupsI ds with
      | none => rw [e2] at p; exact p.elim
      | some ks =>
        rw [e2] at p
        have p : Post ba X.K X.mg W σ (RE X.K σ H) F2 H1 env2 (Rs.opt (if decide (ks.length < 64) = true then some (.now (.int (ndup ks).length)) else none) env2) Q := p
        cases hz : decide (ks.length < 64) with
        | false => rw [hz] at p; exact p.elim
        | true =>
          rw [hz] at p
          have p : Post ba X.K X.mg W σ (RE X.K σ H) F2 H1 env2 (.ok (.now (.int (ndup ks).length)) env2) Q := p
          have hz := of_decide_eq_true hz
          obtain ⟨ps, q1, q2, q3⟩ := tupsI_of s2.sub al e2
          subst q1
          refine ⟨l, ps, by rw [ev], hq, q3, by rw [← q2, List.length_map] at hz; exact hz, fun a L ha h1 h2 h3 => ?_⟩
          have gn : Go (fun _ => False) F2 H1 F2 (upd H1 a (SetTO X.prog X.w a L)) := Go.newM ha
          have sub : Ex F2 (upd H1 a (SetTO X.prog X.w a L)) := s2.sub.right (s2.sub.none ha)
          obtain ⟨g3, s3⟩ := fin s2 gn sub
          refine ⟨a, L, rfl, upd_same, fun p hp => ?_, ?_⟩
          · exact (show Ex H1 (upd H1 a (SetTO X.prog X.w a L)) from Ex.put ha).sqt (q3 p (h1 p hp))
          · have hl : L.length = (ndup ks).length := by
              rw [← List.length_map (f := fun p : Addr × List Int => p.2)]
              refine ndup_len h3 fun k => ⟨fun hk => ?_, fun hk => ?_⟩
              · obtain ⟨p, hp, rfl⟩ := List.mem_map.mp hk
                rw [← q2]
                exact List.mem_map.mpr ⟨p, h1 p hp, rfl⟩
              · rw [← q2] at hk
                obtain ⟨p, hp, rfl⟩ := List.mem_map.mp hk
                exact h2 p hp
            rw [hl]
            exact p _ _ _ g3 (fun _ z => z) s3 (.int _)
    cases d with
    | list ds =>
      obtain ⟨l, vs, ev, h1, al⟩ := vr.lst
      exact key ev (.inl h1) al p
    | tuple ds =>
      obtain ⟨l, vs, ev, h1, al⟩ := vr.tup s2.sub
      exact key ev (.inr h1) al p
    | _ => exact p.elim
theorem p_mth (C : Cok Φ Γ S m W X) {f : Mf} {a b : IE} {x y : Expr} {g : Str} {p pos : Pos} (hg : glB S.sc g = true) (hgn : g = mfName f) (hb : Γ.mb.contains g = true) (hs : notStar x = true) (hs2 : notStar y = true) (ha : PE X x (TE' ba X W (evE Φ a))) (hb' : PE X y (TE' ba X W (evE Φ b))) :
    PE X (.Call (.Name g p) [x, y] [] pos) (TE' ba X W (evE Φ (.mth f a b))) := by
  subst hgn
  have hm := C.mb f hb
  have e2 : starEach [y] X.env = [(false, eval y X.env)] := star_of hs2
  refine pe_imp (pe_callBfun (id := mfId f) (r := rMth X.K f) (by have := cr_mth (X := X) f; cases f <;> exact this) (C.gl hg) hm (pa_cons ha (pa_cons hb' pa_nil (star_of hs2)) (star_of hs)) (by cases f <;> decide +kernel) (star_of hs) (by rw [e2]; rfl)) fun σ H Q q => ?_
  obtain ⟨F, env, s, q⟩ := q
  obtain ⟨F1, env1, s1, q1⟩ := two s q
  refine ⟨F1, env1, s1, q1.imp fun v1 H1 ⟨F2, env2, s2, q2⟩ => ⟨F2, env2, s2, q2.imp ?_⟩⟩
  rintro v2 H2 ⟨x, y, env2, F2, g, o, s2, r1, r2, p⟩
  cases e1 : look env2 x with
  | none => rw [e1] at p; exact p.elim
  | some d =>
    cases e2 : look env2 y with
    | none => rw [e1, e2] at p; exact p.elim
    | some d' =>
      rw [e1, e2] at p
      have p : Post ba X.K X.mg W σ (RE X.K σ H) F2 H2 env2 (Rs.opt (mthD f d d') env2) Q := p
      cases e3 : mthD f d d' with
      | none => rw [e3] at p; exact p.elim
      | some w =>
        rw [e3] at p
        exact ⟨F2, d, d', w, v1, v2, rfl, s2.sub, look_vr s2 r1 e1, look_vr s2 r2 e2, e3, post_rn s2 p fun a z => g.fresh z⟩
/-! ### what is walked -/
theorem yld_rg {F : Hp} (lo : Int) (n : Nat) : Yld X.K F (rgD lo n) (Itr lo n) := by
  intro i F' H e sub
  have hl : (rgD lo n).length = n := by simp [rgD]
  refine ⟨fun d hd => ?_, fun h => by rw [hl] at h; exact Nat.le_of_eq h.symm⟩
  have hi : i < n := by
    have := (List.getElem?_eq_some_iff.mp hd).1
    rwa [hl] at this
  have hd' : d = .int (lo + (i : Nat)) := by
    unfold rgD at hd
    rw [List.getElem?_map, List.getElem?_range hi] at hd
    exact (Option.some.inj hd).symm
  subst hd'
  refine ⟨hi, fun x H' h => ?_⟩
  obtain ⟨rfl, rfl⟩ := h
  exact ⟨F', Go.refl _ _ _, sub, .int _⟩
theorem yld_rgC {F : Hp} (lo c : Int) (n : Nat) : Yld X.K F (rgC lo c n) (Itc lo c n) := by
  intro i F' H e sub
  have hl : (rgC lo c n).length = n := by simp [rgC]
  refine ⟨fun d hd => ?_, fun h => by rw [hl] at h; exact Nat.le_of_eq h.symm⟩
  have hi : i < n := by
    have := (List.getElem?_eq_some_iff.mp hd).1
    rwa [hl] at this
  have hd' : d = .int (lo + (i : Nat) * c) := by
    unfold rgC at hd
    rw [List.getElem?_map, List.getElem?_range hi] at hd
    exact (Option.some.inj hd).symm
  subst hd'
  refine ⟨hi, fun x H' h => ?_⟩
  obtain ⟨rfl, rfl⟩ := h
  exact ⟨F', Go.refl _ _ _, sub, .int _⟩
theorem yld_list {F : Hp} {a : Addr} {vs : List V} {ds : List D} (h : SqL X.K F a vs) (al : DpAll X.K F vs ds) : Yld X.K F ds (Itl X.K a) := by
  intro i F' H e sub
  have hs : SqL X.K H a vs := (e.trans sub).sql h
  refine ⟨fun d hd => ?_, fun hi => ⟨vs, hs, by rw [hi, dpa_len al]; exact Nat.le_refl _⟩⟩
  obtain ⟨v, h1, h2⟩ := dpa_get al hd
  refine ⟨⟨vs, v, hs, h1⟩, fun x H' hx => ?_⟩
  obtain ⟨rfl, hy⟩ := hx
  have := hy vs hs
  rw [h1] at this
  cases this
  exact ⟨F', Go.refl _ _ _, sub, dp_ex e _ _ h2⟩
theorem yld_tup {F : Hp} {a : Addr} {vs : List V} {ds : List D} (h : SqT X.K F a vs) (al : DpAll X.K F vs ds) : Yld X.K F ds (Itt X.K a) := by
  intro i F' H e sub
  have hs : SqT X.K H a vs := (e.trans sub).sqt h
  refine ⟨fun d hd => ?_, fun hi => ⟨vs, hs, by rw [hi, dpa_len al]; exact Nat.le_refl _⟩⟩
  obtain ⟨v, h1, h2⟩ := dpa_get al hd
  refine ⟨⟨vs, v, hs, h1⟩, fun x H' hx => ?_⟩
  obtain ⟨rfl, hy⟩ := hx
  have := hy vs hs
  rw [h1] at this
  cases this
  exact ⟨F', Go.refl _ _ _, sub, dp_ex e _ _ h2⟩
theorem enum_get : ∀ (ds : List D) (n i : Nat), (enumD n ds)[i]? = (ds[i]?).map fun d => .tuple [.int ((n + i : Nat) : Int), d]
  | [], _, i => by simp [enumD]
  | d :: ds, n, 0 => by simp [enumD]
  | d :: ds, n, i + 1 => by
    have ih := enum_get ds (n + 1) i
    rw [enumD, List.getElem?_cons_succ, List.getElem?_cons_succ, ih]
    have e : n + 1 + i = n + (i + 1) := by omega
    rw [e]
theorem enum_len : ∀ (ds : List D) (n : Nat), (enumD n ds).length = ds.length
  | [], _ => rfl
  | d :: ds, n => by rw [enumD, List.length_cons, List.length_cons, enum_len ds]
theorem enum_pair {F' H : Hp} {T : Addr} {x : V} {d : D} {i : Nat} (sub : Ex F' H) (hT : H T = none) (r : Dp X.K F' x d) :
    ∃ F2, Go (fun _ => False) F' H F2 (upd H T (.tup [.int (i : Nat), x])) ∧ Ex F2 (upd H T (.tup [.int (i : Nat), x])) ∧ Dp X.K F2 (.ref T) (.tuple [.int ((0 + i : Nat) : Int), d]) := by
  have g : Go (fun _ => False) F' H (upd F' T (.tup [.int (i : Nat), x])) (upd H T (.tup [.int (i : Nat), x])) := Go.new sub hT
  refine ⟨_, g, sub.both _ _, .tup (.inl (.inl upd_same)) (.cons ?_ (.cons (dp_ex g.ex _ _ r) .nil))⟩
  rw [Nat.zero_add]
  exact .int _
theorem yld_enum {F : Hp} {a : Addr} {vs : List V} {ds : List D} (h : SqL X.K F a vs) (al : DpAll X.K F vs ds) : Yld X.K F (enumD 0 ds) (Ite X.K a) := by
  intro i F' H e sub
  have hs : SqL X.K H a vs := (e.trans sub).sql h
  refine ⟨fun d hd => ?_, fun hi => ⟨vs, hs, by rw [hi, enum_len, dpa_len al]; exact Nat.le_refl _⟩⟩
  rw [enum_get] at hd
  cases h0 : ds[i]? with
  | none => rw [h0] at hd; cases hd
  | some d0 =>
    rw [h0] at hd
    cases hd
    obtain ⟨v, h1, h2⟩ := dpa_get al h0
    refine ⟨⟨vs, v, hs, h1⟩, fun x H' hx => ?_⟩
    obtain ⟨T, y, rfl, hT, rfl, hy⟩ := hx
    have := hy vs hs
    rw [h1] at this
    cases this
    exact enum_pair sub hT (dp_ex e _ _ h2)
theorem yld_enumT {F : Hp} {a : Addr} {vs : List V} {ds : List D} (h : SqT X.K F a vs) (al : DpAll X.K F vs ds) : Yld X.K F (enumD 0 ds) (IteT X.K a) := by
  intro i F' H e sub
  have hs : SqT X.K H a vs := (e.trans sub).sqt h
  refine ⟨fun d hd => ?_, fun hi => ⟨vs, hs, by rw [hi, enum_len, dpa_len al]⟩⟩
  rw [enum_get] at hd
  cases h0 : ds[i]? with
  | none => rw [h0] at hd; cases hd
  | some d0 =>
    rw [h0] at hd
    cases hd
    obtain ⟨v, h1, h2⟩ := dpa_get al h0
    refine ⟨⟨vs, v, hs, h1⟩, fun x H' hx => ?_⟩
    obtain ⟨T, y, rfl, hT, rfl, hy⟩ := hx
    have := hy vs hs
    rw [h1] at this
    cases this
    exact enum_pair sub hT (dp_ex e _ _ h2)
theorem post_y {σ : L2.St} {H0 F H : Hp} {env : SEnv} {ds : List D} {J : It} {R : It → Hp → Prop} (s : Sim ba X.K F H σ env) (p : Post ba X.K X.mg W σ (RY X.K σ H0) F H env (.ok ds env) R) (y : Yld X.K F ds J) : R J H := p J F H (Go.refl _ _ _) (fun _ z => z) s y
theorem i_seq {e : IE} {x tg : Expr} (he : PE X x (TE' ba X W (evE Φ e))) : PI X tg x (tI ba X.K X.mg W (evI Φ (.seq e))) := by
  refine pi_imp (pi_seq he) fun σ H R q => ?_
  obtain ⟨F, env, s, q⟩ := q
  obtain ⟨F1, env1, s1, q1⟩ := keep_one (k := fun d e2 => Rs.opt (seqD d) e2) s q
  refine ⟨F1, env1, s1, q1.imp ?_⟩
  rintro v H1 ⟨d, env2, F2, g, o, s2, dp, p⟩
  cases d with
  | list ds =>
    cases dp with
    | lst h1 al => exact .inl ⟨_, rfl, ⟨_, s2.sub.sql h1⟩, post_y s2 p (yld_list h1 al)⟩
  | tuple ds =>
    cases dp with
    | tup h1 al => exact .inr ⟨_, rfl, ⟨_, s2.sub.sqt h1⟩, post_y s2 p (yld_tup h1 al)⟩
  | _ => exact p.elim
theorem rOk_of {i : Int} (h : rOk i = true) : -(2 ^ 62) ≤ i ∧ i < 2 ^ 62 := by
  have := inB_of h
  omega
theorem i_r1 (C : Cok Φ Γ S m W X) {a : IE} {x tg : Expr} {g : Str} {p pos : Pos} (hg : glB S.sc g = true) (hn : g = "range") (hs : notStar x = true) (ha : PE X x (TE' ba X W (evE Φ a))) : PI X tg (.Call (.Name g p) [x] [] pos) (tI ba X.K X.mg W (evI Φ (.r1 a))) := by
  subst hn
  refine pi_imp (pi_range1 (C.gl hg) (C.blt "range" (by decide +kernel)) (pa_cons ha pa_nil (star_of hs)) (star_of hs)) fun σ H R q => ?_
  obtain ⟨F, env, s, q⟩ := q
  obtain ⟨F1, env1, s1, q1⟩ := one s q
  refine ⟨F1, env1, s1, q1.imp ?_⟩
  rintro v H1 ⟨w, env2, F2, g, o, s2, r, p⟩
  cases e1 : look env2 w with
  | none => rw [e1] at p; exact p.elim
  | some d =>
    rw [e1] at p
    cases d with
    | int j =>
      have p : Post ba X.K X.mg W σ (RY X.K σ H) F2 H1 env2 (if rOk j then .ok (rgD 0 j.toNat) env2 else .stuck) R := p
      cases hz : rOk j with
      | false => rw [hz] at p; exact p.elim
      | true =>
        rw [hz] at p
        have := (look_vr s2 r e1).int
        subst this
        exact ⟨j, rfl, (rOk_of hz).1, (rOk_of hz).2, post_y s2 p (yld_rg 0 _)⟩
    | _ => exact p.elim
theorem i_r2 (C : Cok Φ Γ S m W X) {a b : IE} {x y tg : Expr} {g : Str} {p pos : Pos} (hg : glB S.sc g = true) (hn : g = "range") (hs : notStar x = true) (hs2 : notStar y = true) (ha : PE X x (TE' ba X W (evE Φ a))) (hb : PE X y (TE' ba X W (evE Φ b))) : PI X tg (.Call (.Name g p) [x, y] [] pos) (tI ba X.K X.mg W (evI Φ (.r2 a b))) := by
  subst hn
  have e2 : starEach [y] X.env = [(false, eval y X.env)] := star_of hs2
  refine pi_imp (pi_range2 (C.gl hg) (C.blt "range" (by decide +kernel)) (pa_cons ha (pa_cons hb pa_nil (star_of hs2)) (star_of hs)) (by rw [star_of hs, e2]) e2) fun σ H R q => ?_
  obtain ⟨F, env, s, q⟩ := q
  obtain ⟨F1, env1, s1, q1⟩ := two s q
  refine ⟨F1, env1, s1, q1.imp fun v1 H1 ⟨F2, env2, s2, q2⟩ => ⟨F2, env2, s2, q2.imp ?_⟩⟩
  rintro v2 H2 ⟨w1, w2, env2, F2, g, o, s2, r1, r2, p⟩
  cases e1 : look env2 w1 with
  | none => rw [e1] at p; exact p.elim
  | some d =>
    cases e2 : look env2 w2 with
    | none => rw [e1, e2] at p; cases d <;> exact p.elim
    | some d' =>
      rw [e1, e2] at p
      cases d with
      | int i =>
        cases d' with
        | int j =>
          have p : Post ba X.K X.mg W σ (RY X.K σ H) F2 H2 env2 (if rOk i && rOk j then .ok (rgD i (j - i).toNat) env2 else .stuck) R := p
          cases hz : (rOk i && rOk j) with
          | false => rw [hz] at p; exact p.elim
          | true =>
            rw [hz] at p
            rw [Bool.and_eq_true] at hz
            have h1 := (look_vr s2 r1 e1).int
            have h2 := (look_vr s2 r2 e2).int
            subst h1 h2
            exact ⟨i, j, rfl, ⟨(rOk_of hz.1).1, (rOk_of hz.1).2, (rOk_of hz.2).1, (rOk_of hz.2).2⟩, post_y s2 p (yld_rg i _)⟩
        | _ => exact p.elim
      | _ => exact p.elim
theorem i_r3 (C : Cok Φ Γ S m W X) {a b c : IE} {x y z tg : Expr} {g : Str} {p pos : Pos} (hg : glB S.sc g = true) (hn : g = "range") (hs : notStar x = true) (hs2 : notStar y = true) (hs3 : notStar z = true) (ha : PE X x (TE' ba X W (evE Φ a))) (hb : PE X y (TE' ba X W (evE Φ b))) (hc : PE X z (TE' ba X W (evE Φ c))) : PI X tg (.Call (.Name g p) [x, y, z] [] pos) (tI ba X.K X.mg W (evI Φ (.r3 a b c))) := by
  subst hn
  have e3 : starEach [z] X.env = [(false, eval z X.env)] := star_of hs3
  refine pi_imp (pi_range3 (C.gl hg) (C.blt "range" (by decide +kernel)) (pa_cons ha (pa_cons hb (pa_cons hc pa_nil (star_of hs3)) (star_of hs2)) (star_of hs)) (star_of hs) (by rw [star_of hs2, e3]; rfl)) fun σ H R q => ?_
  obtain ⟨F, env, s, q⟩ := q
  obtain ⟨F1, env1, s1, q1⟩ := two s q
  refine ⟨F1, env1, s1, q1.imp fun v1 H1 ⟨F2, env2, s2, q2⟩ => ⟨F2, env2, s2, q2.imp ?_⟩⟩
  rintro v2 H2 ⟨w1, w2, env2, F2, g, o, s2, r1, r2, p⟩
  obtain ⟨F3, env3, s3, q3⟩ := one s2 p
  refine ⟨F3, env3, s3, q3.imp ?_⟩
  rintro v3 H3 ⟨w3, env4, F4, g4, o4, s4, r3, p⟩
  have r1 := RE.go s2 s4 g4 o4 r1
  have r2 := RE.go s2 s4 g4 o4 r2
  cases e1 : look env4 w1 with
  | none => rw [e1] at p; exact p.elim
  | some d =>
    cases e2 : look env4 w2 with
    | none => rw [e1, e2] at p; cases d <;> exact p.elim
    | some d' =>
      cases e3 : look env4 w3 with
      | none => rw [e1, e2, e3] at p; cases d <;> cases d' <;> exact p.elim
      | some d'' =>
        rw [e1, e2, e3] at p
        cases d with
        | int i =>
          cases d' with
          | int j =>
            cases d'' with
            | int k =>
              have p : Post ba X.K X.mg W σ (RY X.K σ H) F4 H3 env4 (if k != 0 && decide (k.natAbs < 1073741824) && Builtin.Range.small i j k && decide (0 ≤ Builtin.Range.rangeSize i j k) then .ok (rgC i k (Builtin.Range.rangeSize i j k).toNat) env4 else .stuck) R := p
              cases hz : (k != 0 && decide (k.natAbs < 1073741824) && Builtin.Range.small i j k && decide (0 ≤ Builtin.Range.rangeSize i j k)) with
              | false => rw [hz] at p; exact p.elim
              | true =>
                rw [hz] at p
                simp only [Bool.and_eq_true, decide_eq_true_eq, bne_iff_ne, ne_eq] at hz
                have h1 := (look_vr s4 r1 e1).int
                have h2 := (look_vr s4 r2 e2).int
                have h3 := (look_vr s4 r3 e3).int
                subst h1 h2 h3
                exact ⟨i, j, k, _, rfl, ⟨hz.1.1.1, hz.1.1.2, hz.1.2, (Int.toNat_of_nonneg hz.2).symm⟩, post_y s4 p (yld_rgC i k _)⟩
            | _ => exact p.elim
          | _ => exact p.elim
        | _ => exact p.elim
theorem i_enum (C : Cok Φ Γ S m W X) {e : IE} {x : Expr} {g : Str} {es : List Expr} {j : Nat} {p tpos pos : Pos} (hg : glB S.sc g = true) (hn : g = "enumerate") (hs : notStar x = true) (he : PE X x (TE' ba X W (evE Φ e))) : PI X (.Tuple es j tpos) (.Call (.Name g p) [x] [] pos) (tI ba X.K X.mg W (evI Φ (.enum e))) := by
  subst hn
  refine pi_imp (pi_enumB (C.gl hg) (C.blt "enumerate" (by decide +kernel)) (pa_cons he pa_nil (star_of hs)) (star_of hs)) fun σ H R q => ?_
  obtain ⟨F, env, s, q⟩ := q
  obtain ⟨F1, env1, s1, q1⟩ := keep_one (k := enumK) s q
  refine ⟨F1, env1, s1, q1.imp ?_⟩
  rintro v H1 ⟨d, env2, F2, g, o, s2, dp, p⟩
  refine ⟨v, rfl, ?_⟩
  cases d with
  | list ds =>
    cases dp with
    | lst h1 al => exact .inl ⟨_, rfl, ⟨_, s2.sub.sql h1⟩, post_y s2 p (yld_enum h1 al)⟩
  | tuple ds =>
    cases dp with
    | tup h1 al => exact .inr ⟨_, rfl, ⟨_, s2.sub.sqt h1⟩, post_y s2 p (yld_enumT h1 al)⟩
  | _ => exact p.elim
end
end PyE

set_option Elab.async false
set_option linter.all false
set_option autoImplicit false
set_option maxRecDepth 100000
set_option maxHeartbeats 4000000
/-! # What the checker takes is run as the evaluator says: comprehensions; all expressions -/
namespace PyE
open PySem PySem.Spec PyProof.Rows L2
section
variable {ba : Addr} {K : Frag} {F F1 F' H H1 H' F0 H0 : Hp} {σ τ τ' : L2.St} {env env1 en env' : SEnv}
theorem wipeE_out {i : Nat} : ∀ {own : List Nat}, i ∉ own → (wipeE env own)[i]? = env[i]?
  | [], _ => rfl
  | j :: own, h => by
    show ((wipeE env own).set j .no)[i]? = _
    rw [List.getElem?_set_ne (fun (z : j = i) => h (z ▸ List.mem_cons_self))]
    exact wipeE_out fun z => h (List.mem_cons_of_mem _ z)
theorem wipeE_in {i : Nat} {sl : Sl} : ∀ {own : List Nat}, i ∈ own → (wipeE env own)[i]? = some sl → sl = .no
  | j :: own, h, e => by
    have e : ((wipeE env own).set j .no)[i]? = some sl := e
    by_cases hj : j = i
    · subst hj
      by_cases hl : j < (wipeE env own).length
      · rw [List.getElem?_set_self hl] at e
        exact (Option.some.inj e).symm
      · rw [List.getElem?_eq_none (by simpa using hl)] at e
        cases e
    · rw [List.getElem?_set_ne hj] at e
      rcases List.mem_cons.mp h with z | z
      · exact absurd z.symm hj
      · exact wipeE_in z e
theorem mine_wipe {i : Nat} {ds : List D} {own : List Nat} (m : Mine (wipeE env own) i ds) : i ∉ own ∧ Mine env i ds := by
  have hn : i ∉ own := fun z => by
    rcases m with m | m <;> cases wipeE_in z m
  unfold Mine at m ⊢
  rw [wipeE_out hn] at m
  exact ⟨hn, m⟩
theorem wipe_out' {i : Nat} : ∀ {own : List Nat}, i ∉ own → (L2.wipe σ own)[i]? = σ[i]?
  | [], _ => rfl
  | j :: own, h => by
    show ((L2.wipe σ own).set j none)[i]? = _
    rw [List.getElem?_set_ne (fun (z : j = i) => h (z ▸ List.mem_cons_self))]
    exact wipe_out' fun z => h (List.mem_cons_of_mem _ z)
theorem backE_out {old : SEnv} {i : Nat} : ∀ {own : List Nat}, i ∉ own → (backE old env own)[i]? = env[i]?
  | [], _ => rfl
  | j :: own, h => by
    show ((backE old env own).set j _)[i]? = _
    rw [List.getElem?_set_ne (fun (z : j = i) => h (z ▸ List.mem_cons_self))]
    exact backE_out fun z => h (List.mem_cons_of_mem _ z)
theorem backE_in {old : SEnv} {i : Nat} {sl : Sl} (hl : env.length = old.length) : ∀ {own : List Nat}, i ∈ own → (backE old env own)[i]? = some sl → old[i]? = some sl
  | j :: own, h, e => by
    have e : ((backE old env own).set j (old.getD j .no))[i]? = some sl := e
    by_cases hj : j = i
    · subst hj
      by_cases hlt : j < (backE old env own).length
      · rw [List.getElem?_set_self hlt] at e
        rw [backE_len, hl] at hlt
        rw [List.getD_eq_getElem?_getD, List.getElem?_eq_getElem hlt] at e
        rw [List.getElem?_eq_getElem hlt]
        exact e
      · rw [List.getElem?_eq_none (by simpa using hlt)] at e
        cases e
    · rw [List.getElem?_set_ne hj] at e
      rcases List.mem_cons.mp h with z | z
      · exact absurd z.symm hj
      · exact backE_in hl z e
theorem mine_back {old : SEnv} {i : Nat} {ds : List D} {own : List Nat} (hl : env.length = old.length) (m : Mine (backE old env own) i ds) : (i ∈ own ∧ Mine old i ds) ∨ (i ∉ own ∧ Mine env i ds) := by
  by_cases h : i ∈ own
  · exact .inl ⟨h, m.elim (fun z => .inl (backE_in hl h z)) fun z => .inr (backE_in hl h z)⟩
  · unfold Mine at m
    rw [backE_out h] at m
    exact .inr ⟨h, m⟩
/-- behind a block, the frame's own names as they were -/
theorem Sim.back {own : List Nat} (s1 : Sim ba K F1 H1 σ env1) (g : Go (O (L2.wipe σ own) (wipeE env1 own)) F1 H1 F H) (s : Sim ba K F H (L2.wipe σ own) en) (ho : ∀ a, O (L2.wipe σ own) en a → O (L2.wipe σ own) (wipeE env1 own) a) :
    Sim ba K F H σ (backE env1 en own) ∧ Own σ env1 (backE env1 en own) := by
  have hl : en.length = env1.length := by rw [s.len, wipe_length, s1.len]
  have away : ∀ {i : Nat} {ds : List D} {a : Addr}, i ∈ own → Mine env1 i ds → σ[i]? = some (some (.ref a)) → ¬ O (L2.wipe σ own) (wipeE env1 own) a := by
    rintro i ds a hi m e ⟨j, es, mj, ej⟩
    obtain ⟨hj, mj⟩ := mine_wipe mj
    rw [wipe_out' hj] at ej
    exact hj (s1.dis i j a ds es m mj e ej ▸ hi)
  refine ⟨⟨s.sub, by rw [backE_len, hl, s1.len], fun i d e => ?_, fun i ds m => ?_, fun i ds e => ?_, fun i j a ds es m m' e1 e2 => ?_⟩, ?_⟩
  · by_cases h : i ∈ own
    · obtain ⟨v, q1, q2⟩ := s1.sh i d (backE_in hl h e)
      exact ⟨v, q1, dp_ex g.ex _ _ q2⟩
    · rw [backE_out h] at e
      obtain ⟨v, q1, q2⟩ := s.sh i d e
      rw [wipe_out' h] at q1
      exact ⟨v, q1, q2⟩
  · rcases mine_back hl m with ⟨h, m⟩ | ⟨h, m⟩
    · obtain ⟨a, vs, q1, q2, q3, q4⟩ := s1.own i ds m
      have n := away h m q1
      exact ⟨a, vs, q1, g.keep a _ n q2, g.fz a n (by rw [q2]; simp) q3, dpa_ex g.ex _ _ q4⟩
    · obtain ⟨a, vs, q1, q2⟩ := s.own i ds m
      rw [wipe_out' h] at q1
      exact ⟨a, vs, q1, q2⟩
  · by_cases h : i ∈ own
    · exact s1.lent i ds (backE_in hl h e)
    · rw [backE_out h] at e
      have q := s.lent i ds e
      rw [wipe_out' h] at q
      exact q
  · rcases mine_back hl m with ⟨h, m⟩ | ⟨h, m⟩
    · rcases mine_back hl m' with ⟨h', m'⟩ | ⟨h', m'⟩
      · exact s1.dis i j a ds es m m' e1 e2
      · exact absurd (ho a ⟨j, es, m', by rw [wipe_out' h']; exact e2⟩) (away h m e1)
    · rcases mine_back hl m' with ⟨h', m'⟩ | ⟨h', m'⟩
      · exact absurd (ho a ⟨i, ds, m, by rw [wipe_out' h]; exact e1⟩) (away h' m' e2)
      · exact s.dis i j a ds es m m' (by rw [wipe_out' h]; exact e1) (by rw [wipe_out' h']; exact e2)
  · rintro a ⟨i, ds, m, e⟩
    rcases mine_back hl m with ⟨h, m⟩ | ⟨h, m⟩
    · exact ⟨i, ds, m, e⟩
    · obtain ⟨j, es, mj, ej⟩ := ho a ⟨i, ds, m, by rw [wipe_out' h]; exact e⟩
      obtain ⟨hj, mj⟩ := mine_wipe mj
      rw [wipe_out' hj] at ej
      exact ⟨j, es, mj, ej⟩
theorem wipe_sub : ∀ (own2 own : List Nat), (∀ i ∈ own2, i ∈ own) → L2.wipe (L2.wipe σ own2) own = L2.wipe σ own
  | [], _, _ => rfl
  | i :: own2, own, h => by
    show L2.wipe ((L2.wipe σ own2).set i none) own = _
    rw [setN_ok.wipe_set _ _ own (h i List.mem_cons_self)]
    exact wipe_sub own2 own fun j hj => h j (List.mem_cons_of_mem _ hj)
theorem LI.step {M N : Addr → Prop} {A : Addr} {os : List D} (li : LI ba K M F0 H0 τ A os F H env) (g : Go N F H F' H') (hN : ∀ x, N x → M x ∨ (H0 x = none ∧ x ≠ A)) (s : Sim ba K F' H' τ' env') (ho : ∀ a, O τ' env' a → M a) : LI ba K M F0 H0 τ' A os F' H' env' := by
  obtain ⟨vs, h1, h2⟩ := li.acc
  have nA : ¬ N A := fun z => (hN A z).elim li.no fun z => z.2 rfl
  exact ⟨s, li.go.trans g fun x z => (hN x z).imp id And.left, ho, ⟨vs, g.keep A _ nA h1, dpa_ex g.ex _ _ h2⟩, g.fz A nA (by rw [h1]; simp) li.fa, li.no⟩
theorem LI.wipe {M : Addr → Prop} {A : Addr} {os : List D} (own : List Nat) (li : LI ba K M F0 H0 τ A os F H env) : LI ba K M F0 H0 (L2.wipe τ own) A os F H (wipeE env own) :=
  li.step (N := fun _ => False) (Go.refl _ _ _) (fun _ z => z.elim) (li.sim.wipe own) fun a z => li.own a (own_wipe own a z)
end

section
variable {ba : Addr} {Φ : Fns} {Γ : Gam} {S : Sc} {m : Nat} {W : WX} {X : Cx}
theorem pgs_nm (C : Cok Φ Γ S m W X) : ∀ {is : List Nat} {xs : List Expr}, chkNm Γ S is xs = true → PGs X xs (gT.gN is) ∧ (assignEach xs X.env).length = is.length ∧ (assignEach xs X.env).findIdx? (·.1) = none
  | [], xs, h => by
    cases xs with
    | nil => exact ⟨pgs_nil, rfl, rfl⟩
    | cons _ _ => cases h
  | i :: is, xs, h => by
    cases xs with
    | nil => cases h
    | cons x xs =>
      cases x <;> first | cases h | skip
      simp only [chkNm, Bool.and_eq_true, decide_eq_true_eq] at h
      obtain ⟨⟨h1, h2⟩, h3⟩ := h
      obtain ⟨h4, h5⟩ := C.loc h2
      obtain ⟨q1, q2, q3⟩ := pgs_nm C h3
      refine ⟨pgs_cons (pg_name (by rw [C.hN]; exact C.nd) (C.ix h1) h4 h5) q1 rfl, ?_, ?_⟩
      · show (assignEach xs X.env).length + 1 = _
        rw [q2, List.length_cons]
      · show List.findIdx? (·.1) ((false, _) :: assignEach xs X.env) = none
        rw [List.findIdx?_cons, q3]
        rfl
theorem pg_T (C : Cok Φ Γ S m W X) {tg : Tg} {x : Expr} (h : chkTg Γ S tg x = true) : PG X x (gT X.K tg) := by
  cases tg with
  | one i =>
    cases x <;> first | cases h | skip
    simp only [chkTg, Bool.and_eq_true, decide_eq_true_eq] at h
    obtain ⟨h4, h5⟩ := C.loc h.2
    exact pg_name (by rw [C.hN]; exact C.nd) (C.ix h.1) h4 h5
  | many is =>
    cases x <;> first | cases h | skip
    obtain ⟨q1, q2, q3⟩ := pgs_nm C (is := is) h
    exact pg_tup C.calm q1 q2 q3

/-- one turn -/
theorem lc_turn {ba : Addr} {K : Frag} {mg : Str → Option Value} {c : IO} {e : IE} {tg : Tg} {own : List Nat} {M : Addr → Prop} {F0 H0 : Hp} {σ : L2.St} {A : Addr} {d : D} {a os : List D} {env env' : SEnv} {F H : Hp} {x : V} {Nx : Hp → Prop} (hA : H0 A = none) (htg : ∀ i ∈ tgS tg, i ∈ own)
    (es : lcStep (evC Φ c) (evE Φ e) tg own d env = .ok a env') (hlen : os.length + a.length ≤ sizeLine) (li : LI ba K M F0 H0 (L2.wipe σ own) A os F H env) (dp : Dp K F x d) (nx : ∀ F' H', LI ba K M F0 H0 (L2.wipe σ own) A (os ++ a) F' H' env' → Ex F F' → Nx H') :
    gT K tg x (L2.wipe σ own) H fun σ2 H2 => L2.wipe σ2 own = L2.wipe σ own ∧ tB' ba K mg W0 (evC Φ c) σ2 H2 fun b H3 =>
      if b = true then tE ba K mg W0 (evE Φ e) σ2 H3 fun y H4 => ∃ acc, H4 A = some (.lst acc) ∧ acc.length < sizeLine ∧ Nx (upd H4 A (.lst (acc ++ [y]))) else Nx H3 := by
  unfold lcStep at es
  cases e1 : putT env tg d with
  | none => rw [e1] at es; cases es
  | some en1 =>
    rw [e1] at es
    have es : (evC Φ c en1).bind (fun ok en2 => if ok then (evE Φ e en2).bind fun w en3 => match keepF en3 w with
      | some (d, en4) => .ok [d] (wipeE en4 own)
      | none => .stuck
    else .ok [] (wipeE en2 own)) = .ok a env' := es
    refine putT_ok li.sim dp e1 fun σ2 s2 o2 w2 => ?_
    have hw : L2.wipe σ2 own = L2.wipe σ own := (w2 own htg).trans (wipe_sub own own fun _ z => z)
    refine ⟨hw, ?_⟩
    have li2 : LI ba K M F0 H0 σ2 A os F H en1 := li.step (N := fun _ => False) (Go.refl _ _ _) (fun _ z => z.elim) s2 fun a z => li.own a (o2 a z)
    refine ⟨F, en1, s2, ?_⟩
    cases e2 : evC Φ c en1 with
    | exc c' x' en2 => rw [e2] at es; cases es
    | stuck => rw [e2] at es; cases es
    | ok okb en2 =>
      rw [e2, bind_ok] at es
      intro b F3 H3 g3 o3 s3 hb
      have hb : okb = b := hb
      subst hb
      have li3 : LI ba K M F0 H0 σ2 A os F3 H3 en2 := li2.step g3 (fun x z => .inl (li2.own x z)) s3 fun a z => li2.own a (o3 a z)
      cases okb with
      | false =>
        have es : (Rs.ok [] (wipeE en2 own) : Rs (List D)) = .ok a env' := es
        cases es
        refine if_F rfl (nx F3 H3 ?_ g3.ex)
        rw [List.append_nil, ← hw]
        exact li3.wipe own
      | true =>
        have es : (evE Φ e en2).bind (fun w en3 => match keepF en3 w with
          | some (d, en4) => .ok [d] (wipeE en4 own)
          | none => .stuck) = .ok a env' := es
        refine if_T rfl ?_
        refine ⟨F3, en2, s3, ?_⟩
        cases e3 : evE Φ e en2 with
        | exc c' x' en2 => rw [e3] at es; cases es
        | stuck => rw [e3] at es; cases es
        | ok w en3 =>
          rw [e3, bind_ok] at es
          intro y F4 H4 g4 o4 s4 r4
          have li4 : LI ba K M F0 H0 σ2 A os F4 H4 en3 := li3.step g4 (fun x z => .inl (li3.own x z)) s4 fun a z => li3.own a (o4 a z)
          cases e4 : keepF en3 w with
          | none => rw [e4] at es; cases es
          | some q =>
            obtain ⟨d', en4⟩ := q
            rw [e4] at es
            have es : (Rs.ok [d'] (wipeE en4 own) : Rs (List D)) = .ok a env' := es
            cases es
            obtain ⟨F5, g5, o5, s5, dp5, _⟩ := keepF_ok (M := fun a => O σ2 en3 a ∨ H3 a = none) s4 r4 e4 fun a => ⟨.inr, .inl⟩
            have hA3 : H3 A ≠ none := by
              obtain ⟨vs, h1, _⟩ := li3.acc
              rw [h1]; simp
            have li5 : LI ba K M F0 H0 σ2 A os F5 H4 en4 := li4.step g5 (fun x z => z.elim (fun z => .inl (li4.own x z)) fun z => .inr ⟨li3.go.fresh z, fun q => hA3 (q ▸ z)⟩) s5 fun a z => li4.own a (o5 a z)
            obtain ⟨vs, h1, h2, li6⟩ := li5.push hA dp5
            refine ⟨vs, h1, ?_, nx F5 _ ?_ ((g3.ex.trans g4.ex).trans g5.ex)⟩
            · rw [h2]
              have : ([d'] : List D).length = 1 := rfl
              omega
            · rw [← hw]
              exact li6.wipe own
/-- one turn, with a second clause -/
theorem lc2_turn {ba : Addr} {K : Frag} {mg : Str → Option Value} {c c2 : IO} {e : IE} {it2 : II} {tg tg2 : Tg} {own own2 : List Nat} {M : Addr → Prop} {F0 H0 : Hp} {σ : L2.St} {A : Addr} {d : D} {a os : List D} {env env' : SEnv} {F H : Hp} {x : V} {Nx : Hp → Prop} (hA : H0 A = none) (htg : ∀ i ∈ tgS tg, i ∈ own) (htg2 : ∀ i ∈ tgS tg2, i ∈ own2) (hsub : ∀ i ∈ own2, i ∈ own)
    (es : lc2Step (evC Φ c) (evI Φ it2) (evC Φ c2) (evE Φ e) tg tg2 own own2 d env = .ok a env') (hlen : os.length + a.length ≤ sizeLine) (li : LI ba K M F0 H0 (L2.wipe σ own) A os F H env) (dp : Dp K F x d) (nx : ∀ F' H', LI ba K M F0 H0 (L2.wipe σ own) A (os ++ a) F' H' env' → Ex F F' → Nx H') :
    gT K tg x (L2.wipe σ own) H fun σ2 H2 => L2.wipe σ2 own = L2.wipe σ own ∧ tB' ba K mg W0 (evC Φ c) σ2 H2 fun b H3 =>
      if b = true then tI ba K mg W0 (evI Φ it2) σ2 H3 fun J1 H4 => ∃ W1 : Nat → Nat → Hp → Prop, (∃ m, W1 0 m H4) ∧ ∀ j k H, W1 j k H →
        (J1.stop j H ∧ Nx H) ∨ (J1.go j H ∧ ∃ Nx1 : Hp → Prop, (∀ H', Nx1 H' → ∃ k', k' < k ∧ W1 (j + 1) k' H') ∧ ∀ x H', J1.yld j H x H' → gT K tg2 x (L2.wipe σ2 own2) H' fun σ3 H5 => L2.wipe σ3 own2 = L2.wipe σ2 own2 ∧ tB' ba K mg W0 (evC Φ c2) σ3 H5 fun b H6 =>
          if b = true then tE ba K mg W0 (evE Φ e) σ3 H6 fun y H7 => ∃ acc, H7 A = some (.lst acc) ∧ acc.length < sizeLine ∧ Nx1 (upd H7 A (.lst (acc ++ [y]))) else Nx1 H6)
      else Nx H3 := by
  unfold lc2Step at es
  cases e1 : putT env tg d with
  | none => rw [e1] at es; cases es
  | some en1 =>
    rw [e1] at es
    have es : (evC Φ c en1).bind (fun ok en2 => if ok then (evI Φ it2 en2).bind fun ds2 en3 =>
        match lcL (lcStep (evC Φ c2) (evE Φ e) tg2 own2) ds2 (wipeE en3 own2) with
        | .ok out en4 => .ok out (wipeE en4 own)
        | _ => .stuck
      else .ok [] (wipeE en2 own)) = .ok a env' := es
    refine putT_ok li.sim dp e1 fun σ2 s2 o2 w2 => ?_
    have hw : L2.wipe σ2 own = L2.wipe σ own := (w2 own htg).trans (wipe_sub own own fun _ z => z)
    refine ⟨hw, ?_⟩
    have li2 : LI ba K M F0 H0 σ2 A os F H en1 := li.step (N := fun _ => False) (Go.refl _ _ _) (fun _ z => z.elim) s2 fun a z => li.own a (o2 a z)
    refine ⟨F, en1, s2, ?_⟩
    cases e2 : evC Φ c en1 with
    | exc c' x' en2 => rw [e2] at es; cases es
    | stuck => rw [e2] at es; cases es
    | ok okb en2 =>
      rw [e2, bind_ok] at es
      intro b F3 H3 g3 o3 s3 hb
      have hb : okb = b := hb
      subst hb
      have li3 : LI ba K M F0 H0 σ2 A os F3 H3 en2 := li2.step g3 (fun x z => .inl (li2.own x z)) s3 fun a z => li2.own a (o3 a z)
      cases okb with
      | false =>
        have es : (Rs.ok [] (wipeE en2 own) : Rs (List D)) = .ok a env' := es
        cases es
        refine if_F rfl (nx F3 H3 ?_ g3.ex)
        rw [List.append_nil, ← hw]
        exact li3.wipe own
      | true =>
        have es : (evI Φ it2 en2).bind (fun ds2 en3 =>
          match lcL (lcStep (evC Φ c2) (evE Φ e) tg2 own2) ds2 (wipeE en3 own2) with
          | .ok out en4 => .ok out (wipeE en4 own)
          | _ => .stuck) = .ok a env' := es
        refine if_T rfl ?_
        refine ⟨F3, en2, s3, ?_⟩
        cases e3 : evI Φ it2 en2 with
        | exc c' x' en2 => rw [e3] at es; cases es
        | stuck => rw [e3] at es; cases es
        | ok ds2 en3 =>
          rw [e3, bind_ok] at es
          intro J1 F4 H4 g4 o4 s4 y4
          have li4 : LI ba K M F0 H0 σ2 A os F4 H4 en3 := li3.step g4 (fun x z => .inl (li3.own x z)) s4 fun a z => li3.own a (o4 a z)
          cases e4 : lcL (lcStep (evC Φ c2) (evE Φ e) tg2 own2) ds2 (wipeE en3 own2) with
          | exc c' x' en2 => rw [e4] at es; cases es
          | stuck => rw [e4] at es; cases es
          | ok out en4 =>
            rw [e4] at es
            have es : (Rs.ok out (wipeE en4 own) : Rs (List D)) = .ok a env' := es
            cases es
            refine lc_loop (G := fun x H' Nx1 => gT K tg2 x (L2.wipe σ2 own2) H' fun σ3 H5 => L2.wipe σ3 own2 = L2.wipe σ2 own2 ∧ tB' ba K mg W0 (evC Φ c2) σ3 H5 fun b H6 =>
              if b = true then tE ba K mg W0 (evE Φ e) σ3 H6 fun y H7 => ∃ acc, H7 A = some (.lst acc) ∧ acc.length < sizeLine ∧ Nx1 (upd H7 A (.lst (acc ++ [y]))) else Nx1 H6) y4 e4 (li4.wipe own2) (fun d a' env env' os' F5 H5 x Nx1 es5 hl5 li5 dp5 nx5 => ?_) fun F5 H5 li5 ex5 => ?_
            · refine lc_turn hA htg2 es5 ?_ li5 dp5 nx5
              refine Nat.le_trans hl5 ?_
              rw [List.length_append]
              exact hlen
            · refine nx F5 H5 ?_ ((g3.ex.trans g4.ex).trans ex5)
              · have := li5.wipe own
                rw [wipe_sub own2 own hsub, hw] at this
                exact this

/-! ### comprehensions -/
theorem lcEnd_ok {σ : L2.St} {F1 H1 H0 : Hp} {env1 : SEnv} {own : List Nat} {r : Rs (List D)} {Q : VK} (p : Post ba X.K X.mg W σ (RE X.K σ H0) F1 H1 env1 (lcEnd env1 own r) Q) : ∃ out en, r = .ok out en ∧ szOk out.length = true ∧ Post ba X.K X.mg W σ (RE X.K σ H0) F1 H1 env1 (.ok (.tmp out) (backE env1 en own)) Q := by
  unfold lcEnd at p
  cases r with
  | exc c x e => exact p.elim
  | stuck => exact p.elim
  | ok out en =>
    cases hz : szOk out.length with
    | false => simp only [hz] at p; exact p.elim
    | true => simp only [hz, if_true] at p; exact ⟨out, en, rfl, hz, p⟩
/-- the new list, ahead of the first turn -/
theorem LI.first {σ : L2.St} {F H : Hp} {env : SEnv} {A : Addr} {own : List Nat} (s : Sim ba X.K F H σ env) (hA : H A = none) : LI ba X.K (O (L2.wipe σ own) (wipeE env own)) F H (L2.wipe σ own) A [] F (upd H A (.lst [])) (wipeE env own) := by
  have nO : ¬ O σ env A := fun z => by
    obtain ⟨_, vs, h⟩ := s.ofree z
    rw [hA] at h
    cases h
  have g : Go (fun _ => False) F H F (upd H A (.lst [])) := Go.newM hA
  have s' : Sim ba X.K F (upd H A (.lst [])) σ env := s.go g (s.sub.right (s.sub.none hA)) fun _ _ z => z
  exact ⟨s'.wipe own, Go.newM hA, fun _ z => z, ⟨[], upd_same, .nil⟩, s.sub.none hA, fun z => nO (own_wipe own A z)⟩
theorem lc_fin {σ : L2.St} {F1 H1 H0 F H : Hp} {env1 en : SEnv} {own : List Nat} {A : Addr} {out : List D} {Q : VK} (s1 : Sim ba X.K F1 H1 σ env1) (p : Post ba X.K X.mg W σ (RE X.K σ H0) F1 H1 env1 (.ok (.tmp out) (backE env1 en own)) Q)
    (li : LI ba X.K (O (L2.wipe σ own) (wipeE env1 own)) F1 H1 (L2.wipe σ own) A out F H en) (hA : H1 A = none) (h0 : ∀ a, H1 a = none → H0 a = none) : Q (.ref A) H := by
  obtain ⟨s, o⟩ := s1.back li.go li.sim li.own
  obtain ⟨vs, h1, h2⟩ := li.acc
  refine p (.ref A) F H (li.go.mono fun x z => .inl (own_wipe own x z)) o s ⟨A, vs, rfl, h1, li.fa, fun z => ?_, h0 A hA, h2⟩
  obtain ⟨_, vs', h⟩ := s1.ofree (o A z)
  rw [hA] at h
  cases h
theorem bigOut {out : List D} (h : szOk out.length = true) : out.length ≤ sizeLine := szOk_le h
theorem rd_lc {c : IO} {e : IE} {it : II} {tg : Tg} {own : List Nat} (htg : ∀ i ∈ tgS tg, i ∈ own) {σ : L2.St} {H : Hp} {Q : VK} (q : TE' ba X W (evE Φ (.lc e tg it c own)) σ H Q) :
    tLc (tI ba X.K X.mg W (evI Φ it)) (gT X.K tg) (tB' ba X.K X.mg W0 (evC Φ c)) (tE ba X.K X.mg W0 (evE Φ e)) own σ H Q := by
  obtain ⟨F, env, s, q⟩ := q
  refine ⟨F, env, s, (Post.bind (Rel1 := RY X.K σ H) q).imp ?_⟩
  rintro J H1 ⟨ds, env1, F1, g1, o1, s1, y1, p⟩ A hA
  obtain ⟨out, en, e1, hz, p⟩ := lcEnd_ok p
  refine lc_loop (G := fun x H' Nx => gT X.K tg x (L2.wipe σ own) H' fun σ2 H2 => L2.wipe σ2 own = L2.wipe σ own ∧ tB' ba X.K X.mg W0 (evC Φ c) σ2 H2 fun b H3 =>
      if b = true then tE ba X.K X.mg W0 (evE Φ e) σ2 H3 fun y H4 => ∃ acc, H4 A = some (.lst acc) ∧ acc.length < sizeLine ∧ Nx (upd H4 A (.lst (acc ++ [y]))) else Nx H3) y1 e1 (LI.first s1 hA) (fun d a env env' os F5 H5 x Nx es5 hl5 li5 dp5 nx5 => ?_) fun F5 H5 li5 ex5 => ?_
  · exact lc_turn hA htg es5 (Nat.le_trans hl5 (bigOut hz)) li5 dp5 nx5
  · exact lc_fin s1 p li5 hA fun a z => g1.fresh z
theorem rd_lc2 {c c2 : IO} {e : IE} {it it2 : II} {tg tg2 : Tg} {own own2 : List Nat} (htg : ∀ i ∈ tgS tg, i ∈ own) (htg2 : ∀ i ∈ tgS tg2, i ∈ own2) (hsub : ∀ i ∈ own2, i ∈ own) {σ : L2.St} {H : Hp} {Q : VK} (q : TE' ba X W (evE Φ (.lc2 e tg it c tg2 it2 c2 own own2)) σ H Q) :
    tLc2 (tI ba X.K X.mg W (evI Φ it)) (gT X.K tg) (tB' ba X.K X.mg W0 (evC Φ c)) (tI ba X.K X.mg W0 (evI Φ it2)) (gT X.K tg2) (tB' ba X.K X.mg W0 (evC Φ c2)) (tE ba X.K X.mg W0 (evE Φ e)) own own2 σ H Q := by
  obtain ⟨F, env, s, q⟩ := q
  refine ⟨F, env, s, (Post.bind (Rel1 := RY X.K σ H) q).imp ?_⟩
  rintro J H1 ⟨ds, env1, F1, g1, o1, s1, y1, p⟩ A hA
  obtain ⟨out, en, e1, hz, p⟩ := lcEnd_ok p
  refine lc_loop (G := fun x H' Nx => gT X.K tg x (L2.wipe σ own) H' fun σ2 H2 => L2.wipe σ2 own = L2.wipe σ own ∧ tB' ba X.K X.mg W0 (evC Φ c) σ2 H2 fun b H3 =>
      if b = true then tI ba X.K X.mg W0 (evI Φ it2) σ2 H3 fun J1 H4 => ∃ W1 : Nat → Nat → Hp → Prop, (∃ m, W1 0 m H4) ∧ ∀ j k H, W1 j k H →
        (J1.stop j H ∧ Nx H) ∨ (J1.go j H ∧ ∃ Nx1 : Hp → Prop, (∀ H', Nx1 H' → ∃ k', k' < k ∧ W1 (j + 1) k' H') ∧ ∀ x H', J1.yld j H x H' → gT X.K tg2 x (L2.wipe σ2 own2) H' fun σ3 H5 => L2.wipe σ3 own2 = L2.wipe σ2 own2 ∧ tB' ba X.K X.mg W0 (evC Φ c2) σ3 H5 fun b H6 =>
          if b = true then tE ba X.K X.mg W0 (evE Φ e) σ3 H6 fun y H7 => ∃ acc, H7 A = some (.lst acc) ∧ acc.length < sizeLine ∧ Nx1 (upd H7 A (.lst (acc ++ [y]))) else Nx1 H6)
      else Nx H3) y1 e1 (LI.first s1 hA) (fun d a env env' os F5 H5 x Nx es5 hl5 li5 dp5 nx5 => ?_) fun F5 H5 li5 ex5 => ?_
  · exact lc2_turn hA htg htg2 hsub es5 (Nat.le_trans hl5 (bigOut hz)) li5 dp5 nx5
  · exact lc_fin s1 p li5 hA fun a z => g1.fresh z
end
end PyE

set_option Elab.async false
set_option linter.all false
set_option autoImplicit false
set_option maxRecDepth 100000
set_option maxHeartbeats 4000000
/-! # All expressions -/
namespace PyE
open PySem PySem.Spec PyProof.Rows L2
section
variable {ba : Addr} {Φ : Fns} {Γ : Gam} {m : Nat}
def R3 (ba : Addr) (Φ : Fns) (X : Cx) (W : WX) (e : IE) (x : Expr) : Prop := PE X x (TE' ba X W (evE Φ e)) ∧ PT X x (tB' ba X.K X.mg W (evT Φ e)) ∧ ((∃ op vs pos, x = .BoolOp op vs pos) → PW X x (tB' ba X.K X.mg W (evT Φ e)))
theorem R3.plain {X : Cx} {W : WX} {e : IE} {x : Expr} (hp : plainB x = true) (h : PE X x (TE' ba X W (evE Φ e))) : R3 ba Φ X W e x :=
  ⟨h, t_plain hp h, fun ⟨_, _, _, z⟩ => by subst z; cases hp⟩
theorem R3.mk' {X : Cx} {W : WX} {e : IE} {x : Expr} (h : PE X x (TE' ba X W (evE Φ e))) (h2 : PT X x (tB' ba X.K X.mg W (evT Φ e))) (hn : ∀ op vs pos, x ≠ .BoolOp op vs pos) : R3 ba Φ X W e x :=
  ⟨h, h2, fun ⟨o, v, p, z⟩ => absurd z (hn o v p)⟩
theorem mem_all {own : List Nat} {l : List Nat} (h : l.all (fun i => own.contains i) = true) : ∀ i ∈ l, i ∈ own := fun i hi => by
  have := List.all_eq_true.mp h i hi
  simpa using this
theorem nodup' {S : Sc} {W : WX} {X : Cx} (C : Cok Φ Γ S m W X) : X.N.Nodup := by rw [C.hN]; exact C.nd
theorem blkok {S : Sc} {W : WX} {X : Cx} (C : Cok Φ Γ S m W X) {scope : Scope} {own : List Nat} (h : blkC Γ.N S.sc scope (ownP Γ.N own) = true) : BlkOk X.N X.env.scope scope (ownP Γ.N own) := by
  rw [C.hN, C.hsc]; exact blkOk_by h
mutual
theorem sndE : ∀ (e : IE) {S : Sc} {W : WX} {X : Cx} (C : Cok Φ Γ S m W X) (x : Expr), chkE Γ S e x = true → R3 ba Φ X W e x
  | .k d, S, W, X, C, x, hc => by
    refine R3.plain ?_ (p_k hc)
    unfold chkE at hc
    split at hc
    · rfl
    · cases hc
  | .v i, S, W, X, C, x, hc => by
    refine R3.plain ?_ (p_v C hc)
    unfold chkE at hc
    split at hc
    · rfl
    · cases hc
  | .g n d, S, W, X, C, x, hc => by
    refine R3.plain ?_ (p_g C hc)
    unfold chkE at hc
    split at hc
    · rfl
    · cases hc
  | .bin op a b, S, W, X, C, x, hc => by
    unfold chkE at hc
    split at hc
    · simp only [Bool.and_eq_true, decide_eq_true_eq] at hc
      obtain ⟨⟨rfl, h1⟩, h2⟩ := hc
      exact R3.plain rfl (p_bin C (sndE a C _ h1).1 (sndE b C _ h2).1)
    · cases hc
  | .neg a, S, W, X, C, x, hc => by
    unfold chkE at hc
    split at hc
    · exact R3.plain rfl (p_neg C (sndE a C _ hc).1)
    · cases hc
  | .cmp op a b, S, W, X, C, x, hc => by
    unfold chkE at hc
    split at hc
    · simp only [Bool.and_eq_true, decide_eq_true_eq] at hc
      obtain ⟨⟨⟨rfl, h0⟩, h1⟩, h2⟩ := hc
      exact R3.mk' (p_cmp C h0 (sndE a C _ h1).1 (sndE b C _ h2).1) (t_cmp C h0 (sndE a C _ h1).1 (sndE b C _ h2).1) fun _ _ _ z => by cases z
    · cases hc
  | .cmp2 op op' a b c, S, W, X, C, x, hc => by
    unfold chkE at hc
    split at hc
    · simp only [Bool.and_eq_true, decide_eq_true_eq] at hc
      obtain ⟨⟨⟨⟨⟨rfl, rfl⟩, h0⟩, h1⟩, h2⟩, h3⟩ := hc
      exact R3.mk' (p_cmp2 C h0 (sndE a C _ h1).1 (sndE b C _ h2).1 (sndE c C _ h3).1) (t_cmp2 C h0 (sndE a C _ h1).1 (sndE b C _ h2).1 (sndE c C _ h3).1) fun _ _ _ z => by cases z
    · cases hc
  | .and a b, S, W, X, C, x, hc => by
    unfold chkE at hc
    split at hc
    · rename_i y z r pos
      simp only [Bool.and_eq_true] at hc
      obtain ⟨h1, h2⟩ := hc
      obtain ⟨q1, q2, _⟩ := sndE a C _ h1
      cases r with
      | nil =>
        obtain ⟨p1, p2, _⟩ := sndE b C _ h2
        have w := t_and q2 (pw_and1 p2) (pos := pos)
        exact ⟨p_and q1 (pe_one p1), w.pt, fun _ => w⟩
      | cons z' r =>
        obtain ⟨p1, _, p3⟩ := sndE b C _ h2
        have w := t_and q2 (p3 ⟨_, _, _, rfl⟩)
        exact ⟨p_and q1 p1, w.pt, fun _ => w⟩
    · cases hc
  | .or a b, S, W, X, C, x, hc => by
    unfold chkE at hc
    split at hc
    · rename_i y z r pos
      simp only [Bool.and_eq_true] at hc
      obtain ⟨h1, h2⟩ := hc
      obtain ⟨q1, q2, _⟩ := sndE a C _ h1
      cases r with
      | nil =>
        obtain ⟨p1, p2, _⟩ := sndE b C _ h2
        have w := t_or q2 (pw_or1 p2) (pos := pos)
        exact ⟨p_or q1 (pe_one p1), w.pt, fun _ => w⟩
      | cons z' r =>
        obtain ⟨p1, _, p3⟩ := sndE b C _ h2
        have w := t_or q2 (p3 ⟨_, _, _, rfl⟩)
        exact ⟨p_or q1 p1, w.pt, fun _ => w⟩
    · cases hc
  | .nt a, S, W, X, C, x, hc => by
    unfold chkE at hc
    split at hc
    · obtain ⟨q1, q2, _⟩ := sndE a C _ hc
      exact R3.mk' (p_nt q1) (t_nt q2) fun _ _ _ z => by cases z
    · cases hc
  | .ife t a b, S, W, X, C, x, hc => by
    unfold chkE at hc
    split at hc
    · simp only [Bool.and_eq_true] at hc
      obtain ⟨⟨h1, h2⟩, h3⟩ := hc
      obtain ⟨q1, q2, _⟩ := sndE t C _ h1
      obtain ⟨r1, r2, _⟩ := sndE a C _ h2
      obtain ⟨s1, s2, _⟩ := sndE b C _ h3
      exact R3.mk' (p_ife q2 r1 s1) (t_ife q2 r2 s2) fun _ _ _ z => by cases z
    · cases hc
  | .tup es, S, W, X, C, x, hc => by
    unfold chkE at hc
    split at hc
    · exact R3.plain rfl (p_tup (sndEs es C _ hc))
    · cases hc
  | .lst es, S, W, X, C, x, hc => by
    unfold chkE at hc
    split at hc
    · exact R3.plain rfl (p_lst (sndEs es C _ hc))
    · cases hc
  | .ix a b, S, W, X, C, x, hc => by
    unfold chkE at hc
    split at hc
    · simp only [Bool.and_eq_true] at hc
      obtain ⟨⟨h0, h1⟩, h2⟩ := hc
      exact R3.plain rfl (p_ix h0 (sndE a C _ h1).1 (sndE b C _ h2).1)
    · cases hc
  | .sl a lo hi, S, W, X, C, x, hc => by
    unfold chkE at hc
    split at hc
    · simp only [Bool.and_eq_true] at hc
      obtain ⟨⟨h0, h1⟩, h2⟩ := hc
      exact R3.plain rfl (p_sl (sndE a C _ h0).1 (sndO lo C _ h1) (sndO hi C _ h2))
    · cases hc
  | .call f es, S, W, X, C, x, hc => by
    unfold chkE at hc
    split at hc
    · rename_i g p ys pos
      simp only [Bool.and_eq_true, beq_iff_eq] at hc
      obtain ⟨⟨⟨rfl, h1⟩, h2⟩, h3⟩ := hc
      exact R3.plain rfl (p_call C h3 h1 h2 (sndEs es C _ h3))
    · cases hc
  | .callb f i es, S, W, X, C, x, hc => by
    unfold chkE at hc
    split at hc
    · simp only [Bool.and_eq_true, beq_iff_eq, decide_eq_true_eq] at hc
      obtain ⟨⟨⟨⟨⟨⟨rfl, h1⟩, h2⟩, h3⟩, h4⟩, h5⟩, h6⟩ := hc
      exact R3.plain rfl (p_callb C h6 h1 h2 h3 h4 h5 (sndEs es C _ h6))
    · cases hc
  | .bf f es, S, W, X, C, x, hc => by
    unfold chkE at hc
    split at hc
    · simp only [Bool.and_eq_true, beq_iff_eq] at hc
      obtain ⟨⟨h0, h1⟩, h2⟩ := hc
      exact R3.plain rfl (p_bf C h2 h1 h0 (sndEs es C _ h2))
    · cases hc
  | .isi a ts tupled, S, W, X, C, x, hc => by
    unfold chkE at hc
    split at hc
    · rename_i g p y z pos
      simp only [Bool.and_eq_true, beq_iff_eq] at hc
      obtain ⟨⟨⟨⟨h0, h1⟩, h2⟩, h3⟩, h4⟩ := hc
      split at h3
      · simp only [Bool.and_eq_true, beq_iff_eq] at h3
        exact R3.plain rfl (p_isi1 C h1 h0 h4 h3.1 h3.2 (sndE a C _ h2).1)
      · simp only [Bool.and_eq_true, decide_eq_true_eq] at h3
        exact R3.plain rfl (p_isiT C h1 h0 h4 h3.1 h3.2 (sndE a C _ h2).1)
      · cases h3
    · cases hc
  | .cnt a e, S, W, X, C, x, hc => by
    unfold chkE at hc
    split at hc
    · simp only [Bool.and_eq_true, beq_iff_eq] at hc
      obtain ⟨⟨⟨⟨⟨h0, h1⟩, h2⟩, h3⟩, h4⟩, h5⟩ := hc
      exact R3.plain rfl (p_cnt C h0 (by rw [h1]; exact beq_self_eq_true _) h2 h3 (sndE a C _ h4).1 (sndE e C _ h5).1)
    · cases hc
  | .lnset a, S, W, X, C, x, hc => by
    unfold chkE at hc
    split at hc
    · simp only [Bool.and_eq_true, beq_iff_eq] at hc
      obtain ⟨⟨⟨⟨⟨h0, h1⟩, h2⟩, h3⟩, h4⟩, h5⟩ := hc
      exact R3.plain rfl (p_lnset C h1 h0 h3 h2 h4 (sndE a C _ h5).1)
    · cases hc
  | .mth f a b, S, W, X, C, x, hc => by
    unfold chkE at hc
    split at hc
    · simp only [Bool.and_eq_true, beq_iff_eq] at hc
      obtain ⟨⟨⟨⟨⟨⟨h0, h1⟩, h2⟩, h3⟩, h4⟩, h5⟩, h6⟩ := hc
      exact R3.plain rfl (p_mth C h1 h0 h2 h3 h4 (sndE a C _ h5).1 (sndE b C _ h6).1)
    · cases hc
  | .lc e tg it c own, S, W, X, C, x, hc => by
    unfold chkE at hc
    split at hc
    · rename_i y tgx itx ifs scope pos
      simp only [Bool.and_eq_true] at hc
      obtain ⟨⟨⟨⟨⟨⟨h0, h1⟩, h2⟩, h3⟩, h4⟩, h5⟩, h6⟩ := hc
      refine R3.plain rfl (pe_imp (pe_lc (g := gT X.K tg) (tt := tB' ba X.K X.mg W0 (evC Φ c)) (te := tE ba X.K X.mg W0 (evE Φ e)) C.calm (nodup' C) (sndI it C _ _ h2) (blkok C h0) (fun s H A cl fp => pg_T (C.blk scope s H A cl fp) h3) (fun s H A cl fp => sndC c (C.blk scope s H A cl fp) _ h5) (fun s H A cl fp => (sndE e (C.blk scope s H A cl fp) _ h6).1) (folded_of h1)) fun σ H Q q => ?_)
      rw [ownP_snd]
      exact rd_lc (mem_all h4) q
    · cases hc
  | .lc2 e tg it c tg2 it2 c2 own own2, S, W, X, C, x, hc => by
    unfold chkE at hc
    split at hc
    · rename_i y tgx itx ifs tgx2 itx2 ifs2 scope pos
      simp only [Bool.and_eq_true] at hc
      obtain ⟨⟨⟨⟨⟨⟨⟨⟨⟨⟨⟨⟨h0, h1⟩, h1'⟩, h2⟩, h3⟩, h4⟩, h5⟩, h6⟩, h7⟩, h8⟩, h9⟩, h10⟩, h11⟩ := hc
      refine R3.plain rfl (pe_imp (pe_lc2 (g := gT X.K tg) (g1 := gT X.K tg2) (vs1 := own2) (tt := tB' ba X.K X.mg W0 (evC Φ c)) (te := tE ba X.K X.mg W0 (evE Φ e)) (wi1 := tI ba X.K X.mg W0 (evI Φ it2)) (tt1 := tB' ba X.K X.mg W0 (evC Φ c2)) C.calm (nodup' C) (sndI it C _ _ h2) (blkok C h0) (fun i hi => by rw [ownP_snd]; exact mem_all h6 i hi) (fun s H A cl fp => pg_T (C.blk scope s H A cl fp) h3) (fun s H A cl fp => sndC c (C.blk scope s H A cl fp) _ h5)
        (fun s H A cl fp => sndI it2 (C.blk scope s H A cl fp) _ _ h7) (fun s H A cl fp => pg_T (C.blk scope s H A cl fp) h8) (fun s H A cl fp => sndC c2 (C.blk scope s H A cl fp) _ h10)
        (fun s H A cl fp => (sndE e (C.blk scope s H A cl fp) _ h11).1) (folded_of h1) (fun env x => folded_of h1' x)) fun σ H Q q => ?_)
      rw [ownP_snd]
      exact rd_lc2 (mem_all h4) (mem_all h9) (mem_all h6) q
    · cases hc
theorem sndEs : ∀ (es : IEs) {S : Sc} {W : WX} {X : Cx} (C : Cok Φ Γ S m W X) (xs : List Expr), chkEs Γ S es xs = true → PA X xs (tEs ba X.K X.mg W (evEs Φ es))
  | .nil, S, W, X, C, xs, hc => by
    unfold chkEs at hc
    split at hc
    · exact a_nil
    · cases hc
  | .cons e es, S, W, X, C, xs, hc => by
    unfold chkEs at hc
    split at hc
    · simp only [Bool.and_eq_true] at hc
      exact a_cons hc.1.1 (sndE e C _ hc.1.2).1 (sndEs es C _ hc.2)
    · cases hc
theorem sndO : ∀ (o : IO) {S : Sc} {W : WX} {X : Cx} (C : Cok Φ Γ S m W X) (x : Option Expr), chkO Γ S o x = true → PO X x (tO ba X.K X.mg W (evO Φ o))
  | .none, S, W, X, C, x, hc => by
    unfold chkO at hc
    split at hc
    · exact o_none
    · cases hc
  | .some e, S, W, X, C, x, hc => by
    unfold chkO at hc
    split at hc
    · exact o_some (sndE e C _ hc).1
    · cases hc
theorem sndC : ∀ (o : IO) {S : Sc} {W : WX} {X : Cx} (C : Cok Φ Γ S m W X) (xs : List Expr), chkC Γ S o xs = true → PTs X xs (tB' ba X.K X.mg W (evC Φ o))
  | .none, S, W, X, C, xs, hc => by
    unfold chkC at hc
    split at hc
    · exact pts_imp pts_nil fun σ H Q q => by
        obtain ⟨F, env, s, q⟩ := q
        exact post_it (H0 := H) s q
    · cases hc
  | .some e, S, W, X, C, xs, hc => by
    unfold chkC at hc
    split at hc
    · exact pts_one (sndE e C _ hc).2.1
    · cases hc
theorem sndI : ∀ (it : II) {S : Sc} {W : WX} {X : Cx} (C : Cok Φ Γ S m W X) (tg x : Expr), chkI Γ S it tg x = true → PI X tg x (tI ba X.K X.mg W (evI Φ it))
  | .seq e, S, W, X, C, tg, x, hc => by
    unfold chkI at hc
    exact i_seq (sndE e C _ hc).1
  | .r1 a, S, W, X, C, tg, x, hc => by
    unfold chkI at hc
    split at hc
    · simp only [Bool.and_eq_true, beq_iff_eq] at hc
      obtain ⟨⟨⟨h0, h1⟩, h2⟩, h3⟩ := hc
      exact i_r1 C h1 h0 h2 (sndE a C _ h3).1
    · cases hc
  | .r2 a b, S, W, X, C, tg, x, hc => by
    unfold chkI at hc
    split at hc
    · simp only [Bool.and_eq_true, beq_iff_eq] at hc
      obtain ⟨⟨⟨⟨⟨h0, h1⟩, h2⟩, h3⟩, h4⟩, h5⟩ := hc
      exact i_r2 C h1 h0 h2 h3 (sndE a C _ h4).1 (sndE b C _ h5).1
    · cases hc
  | .r3 a b c, S, W, X, C, tg, x, hc => by
    unfold chkI at hc
    split at hc
    · simp only [Bool.and_eq_true, beq_iff_eq] at hc
      obtain ⟨⟨⟨⟨⟨⟨⟨h0, h1⟩, h2⟩, h3⟩, h3'⟩, h4⟩, h5⟩, h6⟩ := hc
      exact i_r3 C h1 h0 h2 h3 h3' (sndE a C _ h4).1 (sndE b C _ h5).1 (sndE c C _ h6).1
    · cases hc
  | .enum e, S, W, X, C, tg, x, hc => by
    unfold chkI at hc
    split at hc
    · simp only [Bool.and_eq_true, beq_iff_eq] at hc
      obtain ⟨⟨⟨h0, h1⟩, h2⟩, h3⟩ := hc
      exact i_enum C h1 h0 h2 (sndE e C _ h3).1
    · cases hc
end
end
end PyE

set_option Elab.async false
set_option linter.all false
set_option autoImplicit false
set_option maxRecDepth 100000
set_option maxHeartbeats 4000000
/-! # Statements: what the evaluator promises of them -/
namespace PyE
open PySem PySem.Spec PyProof.Rows L2
section
variable {ba : Addr} {K : Frag} {mg : Str → Option Value} {W : WX}
def FPost (ba : Addr) (K : Frag) (mg : Str → Option Value) (W : WX) (M : Addr → Prop) (F H : Hp) (Z : Ends) (r : FR) : Prop := match r with
  | .nxt e => ∀ σ' F' H', Go M F H F' H' → (∀ a, O σ' e a → M a ∨ H a = none) → Sim ba K F' H' σ' e → Z.nx σ' H'
  | .brk e => ∀ σ' F' H', Go M F H F' H' → (∀ a, O σ' e a → M a ∨ H a = none) → Sim ba K F' H' σ' e → Z.bk σ' H'
  | .cnt e => ∀ σ' F' H', Go M F H F' H' → (∀ a, O σ' e a → M a ∨ H a = none) → Sim ba K F' H' σ' e → Z.ct σ' H'
  | .ret d e => ∀ v σ' F' H', Go M F H F' H' → (∀ a, O σ' e a → M a ∨ H a = none) → Sim ba K F' H' σ' e → Dp K F' v d → Z.rt v H'
  | .exc c x e => ∀ d σ' F' H', Go M F H F' H' → (∀ a, O σ' e a → M a ∨ H a = none) → Sim ba K F' H' σ' e → XAt K F' H' d x → ∀ C, mg c = some (.ref C) → W (.ref C) (some d) σ' H'
  | .stuck => False
theorem FPost.go {M M' : Addr → Prop} {F H F1 H1 : Hp} {Z : Ends} {r : FR} (h : FPost ba K mg W M F H Z r) (g : Go M F H F1 H1) (hm : ∀ x, M' x → M x ∨ H x = none) : FPost ba K mg W M' F1 H1 Z r := by
  have own : ∀ {σ' : L2.St} {e : SEnv}, (∀ a, O σ' e a → M' a ∨ H1 a = none) → ∀ a, O σ' e a → M a ∨ H a = none := fun h a z => (h a z).elim (hm a) fun q => .inr (g.fresh q)
  cases r with
  | nxt e => exact fun σ' F' H' g' o s => h σ' F' H' (g.trans g' hm) (own o) s
  | brk e => exact fun σ' F' H' g' o s => h σ' F' H' (g.trans g' hm) (own o) s
  | cnt e => exact fun σ' F' H' g' o s => h σ' F' H' (g.trans g' hm) (own o) s
  | ret d e => exact fun v σ' F' H' g' o s => h v σ' F' H' (g.trans g' hm) (own o) s
  | exc c x e => exact fun d σ' F' H' g' o s => h d σ' F' H' (g.trans g' hm) (own o) s
  | stuck => exact h
abbrev Up (M : Addr → Prop) (H : Hp) : Addr → Prop := fun x => M x ∨ H x = none
theorem FPost.toF {α β : Type} {M : Addr → Prop} {F H : Hp} {Z : Ends} {σ : L2.St} {env : SEnv} {Rel : Hp → Hp → SEnv → α → β → Prop} {r : Rs α} {f : α → SEnv → FR} (hM : ∀ a, O σ env a → M a) (h : FPost ba K mg W M F H Z (r.toF f)) :
    Post ba K mg W σ Rel F H env r (fun b H1 => ∃ a env1 F1, Go M F H F1 H1 ∧ Own σ env env1 ∧ Sim ba K F1 H1 σ env1 ∧ Rel F1 H1 env1 a b ∧ FPost ba K mg W (Up M H) F1 H1 Z (f a env1)) := by
  cases r with
  | ok a e =>
    intro b F1 H1 g o s q
    have g' : Go M F H F1 H1 := g.mono fun x z => .inl (hM x z)
    have h : FPost ba K mg W M F H Z (f a e) := h
    exact ⟨a, e, F1, g', o, s, q, h.go g' fun x z => z⟩
  | exc c x e =>
    have h : FPost ba K mg W M F H Z (.exc c x e) := h
    intro d F' H' g o s xa C hC
    exact h d σ F' H' (g.mono fun x z => .inl (hM x z)) (fun a z => .inl (hM a (o a z))) s xa C hC
  | stuck => exact h
theorem fone {M : Addr → Prop} {F H : Hp} {Z : Ends} {σ : L2.St} {env : SEnv} {A : SEnv → Rs Vw} {k : Vw → SEnv → FR} (s : Sim ba K F H σ env) (hM : ∀ a, O σ env a → M a) (h : FPost ba K mg W M F H Z ((A env).toF k)) :
    tE ba K mg W A σ H (fun v1 H1 => ∃ x env1 F1, Go M F H F1 H1 ∧ (∀ a, O σ env1 a → Up M H a) ∧ Sim ba K F1 H1 σ env1 ∧ RE K σ H F1 H1 env1 x v1 ∧ FPost ba K mg W (Up M H) F1 H1 Z (k x env1)) :=
  ⟨F, env, s, (FPost.toF (Rel := RE K σ H) hM h).imp fun b H1 ⟨a, env1, F1, g, o, s1, r, p⟩ => ⟨a, env1, F1, g, fun a z => .inl (hM a (o a z)), s1, r, p⟩⟩
theorem fkeep {M : Addr → Prop} {F H : Hp} {Z : Ends} {σ : L2.St} {env : SEnv} {A : SEnv → Rs Vw} {k : D → SEnv → FR} (s : Sim ba K F H σ env) (hM : ∀ a, O σ env a → M a)
    (h : FPost ba K mg W M F H Z ((A env).toF fun w e1 => match keepF e1 w with
      | some (d, e2) => k d e2
      | none => .stuck)) :
    tE ba K mg W A σ H (fun v1 H1 => ∃ d env2 F2, Go M F H F2 H1 ∧ (∀ a, O σ env2 a → Up M H a) ∧ Sim ba K F2 H1 σ env2 ∧ Dp K F2 v1 d ∧ FPost ba K mg W (Up M H) F2 H1 Z (k d env2)) := by
  obtain ⟨F0, env0, s0, p0⟩ := fone s hM h
  refine ⟨F0, env0, s0, p0.imp ?_⟩
  rintro v1 H1 ⟨x, env1, F1, g, o, s1, r, p⟩
  cases e : keepF env1 x with
  | none => rw [e] at p; exact p.elim
  | some q =>
    obtain ⟨d, env2⟩ := q
    rw [e] at p
    have p : FPost ba K mg W (Up M H) F1 H1 Z (k d env2) := p
    obtain ⟨F2, g2, o2, s2, dp, _⟩ := keepF_ok (M := Up M H) s1 r e fun a => ⟨.inr, o a⟩
    exact ⟨d, env2, F2, g.trans g2 fun x z => z, fun a z => o a (o2 a z), s2, dp, p.go g2 fun x z => .inl z⟩
theorem putW_ok {M : Addr → Prop} {F H H0 : Hp} {σ : L2.St} {env e2 : SEnv} {w : Vw} {v : V} {i : Nat} (s : Sim ba K F H σ env) (hm : ∀ a, (H0 a = none → M a) ∧ (O σ env a → M a)) (r : VwR K F H H0 σ env w v) (e : putW env i w = some e2) :
    ∃ F2, Go M F H F2 H ∧ Sim ba K F2 H (σ.set i (some v)) e2 ∧ ∀ a, O (σ.set i (some v)) e2 a → M a := by
  have gen : ∀ {p : D × SEnv}, keepF env w = some p → putS p.2 i (.sh p.1) = some e2 → ∃ F2, Go M F H F2 H ∧ Sim ba K F2 H (σ.set i (some v)) e2 ∧ ∀ a, O (σ.set i (some v)) e2 a → M a := by
    rintro ⟨d, e1⟩ h1 h2
    obtain ⟨F2, g2, o2, s2, dp, _⟩ := keepF_ok (M := M) s r h1 hm
    obtain ⟨rfl, hi⟩ := putS_ok h2
    exact ⟨F2, g2, s2.setSh hi dp, fun a z => (hm a).2 (o2 a (own_setSh s2 a z))⟩
  cases w with
  | tmp ds =>
    obtain ⟨rfl, hi⟩ := putS_ok (show putS env i (.own ds) = some e2 from e)
    obtain ⟨a, vs, rfl, h1, h2, h3, h4, h5⟩ := r
    refine ⟨F, Go.refl _ _ _, s.setOwn hi h1 h2 h3 h5, fun b z => ?_⟩
    rcases own_setOwn b z with q | q
    · exact (hm b).2 q
    · exact (hm b).1 (q ▸ h4)
  | now d => exact gen (p := (d, env)) rfl e
  | late j =>
    have e : (keepF env (.late j)).bind (fun p => putS p.2 i (.sh p.1)) = some e2 := e
    cases h1 : keepF env (.late j) with
    | none => rw [h1] at e; cases e
    | some p => rw [h1] at e; exact gen h1 e
/-- a statement's reading -/
def tS (ba : Addr) (K : Frag) (mg : Str → Option Value) (W : WX) (ev : SEnv → FR) : TS := fun Z σ H => ∃ F env M, Sim ba K F H σ env ∧ (∀ a, O σ env a → M a) ∧ FPost ba K mg W M F H Z (ev env)
theorem FPost.tS {M M' : Addr → Prop} {F H F1 H1 : Hp} {Z : Ends} {σ : L2.St} {env : SEnv} {ev : SEnv → FR} (h : FPost ba K mg W M F H Z (ev env)) (g : Go M F H F1 H1) (s : Sim ba K F1 H1 σ env) (o : ∀ a, O σ env a → Up M H a) : PyE.tS ba K mg W ev Z σ H1 :=
  ⟨F1, env, Up M H, s, o, h.go g fun x z => z⟩
/-- the turns of a for -/
theorem for_loop {M1 : Addr → Prop} {F1 H1 : Hp} {σ1 : L2.St} {env1 : SEnv} {ds : List D} {J : It} {Z : Ends} {step : D → SEnv → FR} {g : TG} {tb : TS}
    (y : Yld K F1 ds J) (s : Sim ba K F1 H1 σ1 env1) (o : ∀ a, O σ1 env1 a → M1 a) (h : FPost ba K mg W M1 F1 H1 Z (forL step ds env1))
    (turn : ∀ (d : D) (env : SEnv) (F H : Hp) (σ : L2.St) (M : Addr → Prop) (x : V) (Z' : Ends), Sim ba K F H σ env → (∀ a, O σ env a → M a) → Dp K F x d → FPost ba K mg W M F H Z' (step d env) → g x σ H fun σ2 H2 => tb Z' σ2 H2) :
    ∃ W : Nat → Nat → L2.St → Hp → Prop, (∃ m, W 0 m σ1 H1) ∧ ∀ i m σ H, W i m σ H →
      (J.stop i H ∧ Z.nx σ H) ∨ (J.go i H ∧ ∃ N : L2.St → Hp → Prop, (∀ σ' H', N σ' H' → ∃ m', m' < m ∧ W (i + 1) m' σ' H') ∧ ∀ x H', J.yld i H x H' → g x σ H' fun σ2 H2 => tb { Z with nx := N, ct := N, bk := Z.nx } σ2 H2) := by
  refine ⟨fun i m σ H => m = ds.length - i ∧ i ≤ ds.length ∧ ∃ F env M, Ex F1 F ∧ Sim ba K F H σ env ∧ (∀ a, O σ env a → M a) ∧ FPost ba K mg W M F H Z (forL step (ds.drop i) env), ⟨_, rfl, Nat.zero_le _, F1, env1, M1, Ex.refl _, s, o, h⟩, ?_⟩
  rintro i m σ H ⟨rfl, hi, F, env, M, ex, s, o, p⟩
  by_cases hlt : i < ds.length
  · right
    have hd : ds[i]? = some ds[i] := List.getElem?_eq_getElem hlt
    obtain ⟨hgo, hy⟩ := (y i F H ex s.sub).1 _ hd
    rw [List.drop_eq_getElem_cons hlt] at p
    unfold forL at p
    refine ⟨hgo, fun σ' H' => ∃ F' env' M', Ex F1 F' ∧ Sim ba K F' H' σ' env' ∧ (∀ a, O σ' env' a → M' a) ∧ FPost ba K mg W M' F' H' Z (forL step (ds.drop (i + 1)) env'), fun σ' H' ⟨F', env', M', ex', s', o', p'⟩ => ⟨ds.length - (i + 1), by omega, rfl, hlt, F', env', M', ex', s', o', p'⟩, fun x H' hx => ?_⟩
    obtain ⟨F2, g2, sub2, dp⟩ := hy x H' hx
    refine turn ds[i] env F2 H' σ M x _ (s.go g2 sub2 fun _ _ h => h) o dp ?_
    have g2' : Go M F H F2 H' := g2.mono fun _ z => z.elim
    cases e1 : step ds[i] env with
    | nxt e =>
      rw [e1] at p
      exact fun σ' F' H'' g' o' s' => ⟨F', e, Up M H', ex.trans (g2.ex.trans g'.ex), s', o', p.go (g2'.trans g' fun x z => .inl z) fun x z => z.imp id g2'.fresh⟩
    | cnt e =>
      rw [e1] at p
      exact fun σ' F' H'' g' o' s' => ⟨F', e, Up M H', ex.trans (g2.ex.trans g'.ex), s', o', p.go (g2'.trans g' fun x z => .inl z) fun x z => z.imp id g2'.fresh⟩
    | brk e =>
      rw [e1] at p
      have p : FPost ba K mg W M F H Z (.nxt e) := p
      exact p.go g2' fun x z => .inl z
    | ret d e =>
      rw [e1] at p
      have p : FPost ba K mg W M F H Z (.ret d e) := p
      exact p.go g2' fun x z => .inl z
    | exc c q e =>
      rw [e1] at p
      have p : FPost ba K mg W M F H Z (.exc c q e) := p
      exact p.go g2' fun x z => .inl z
    | stuck => rw [e1] at p; exact p.elim
  · have hi' : i = ds.length := by omega
    subst hi'
    rw [List.drop_length] at p
    exact .inl ⟨(y _ F H ex s.sub).2 rfl, p σ F H (Go.refl _ _ _) (fun a z => .inl (o a z)) s⟩
end
end PyE

set_option Elab.async false
set_option linter.all false
set_option autoImplicit false
set_option maxRecDepth 100000
set_option maxHeartbeats 4000000
/-! # An own error over Exception (with own classes between) whose __init__ stores one field, at: made, raised, read -/
namespace PySem
namespace HandSPX
open Builtin Builtin.ObjectAttr
abbrev exTl : List Value := [.type "Exception", .type "BaseException", .type "object"]
def refsEX : List Value → Bool
  | .ref _ :: r => refsEX r
  | l => l == exTl
theorem refsEX_cases : ∀ l : List Value, refsEX l = true → (∃ c r, l = .ref c :: r ∧ refsEX r = true) ∨ l = exTl
  | [], e => .inr (beq_iff_eq.mp e)
  | .ref c :: r, e => .inl ⟨c, r, rfl, e⟩
  | .none :: _, e => .inr (beq_iff_eq.mp e)
  | .ellipsis :: _, e => .inr (beq_iff_eq.mp e)
  | .notImplemented :: _, e => .inr (beq_iff_eq.mp e)
  | .bool _ :: _, e => .inr (beq_iff_eq.mp e)
  | .int _ _ :: _, e => .inr (beq_iff_eq.mp e)
  | .float _ _ :: _, e => .inr (beq_iff_eq.mp e)
  | .str _ _ :: _, e => .inr (beq_iff_eq.mp e)
  | .bytes _ _ :: _, e => .inr (beq_iff_eq.mp e)
  | .type _ :: _, e => .inr (beq_iff_eq.mp e)
  | .builtin _ :: _, e => .inr (beq_iff_eq.mp e)
theorem refsEX_pass (self : Value) : ∀ l : List Value, refsEX l = true → refuseLoop self "__setattr__" l = pure () := by
  intro l
  induction l with
  | nil => intro e; exact absurd e (by decide)
  | cons a r ih =>
    intro e
    rcases refsEX_cases (a :: r) e with ⟨c, r', q, h⟩ | q
    · obtain ⟨rfl, rfl⟩ := List.cons.inj q
      rw [refuseLoop_ref]; exact ih h
    · rw [q]; exact F.store_Exception.passes self
theorem refsEX_contains (X : String) : ∀ l : List Value, refsEX l = true → l.contains (.type X) = exTl.contains (.type X) := by
  intro l
  induction l with
  | nil => intro e; exact absurd e (by decide)
  | cons a r ih =>
    intro e
    rcases refsEX_cases (a :: r) e with ⟨c, r', q, h⟩ | q
    · obtain ⟨rfl, rfl⟩ := List.cons.inj q
      rw [List.contains_cons, ih h]; rfl
    · rw [q]
theorem refsEX_ne {l : List Value} (e : refsEX l = true) : l.isEmpty = false := by
  cases l with
  | nil => exact absurd e (by decide)
  | cons _ _ => rfl
section
variable {prog : Program} {w : World} {A : Around} {E : Value → Shared → Prop} {R : Result → Shared → Prop} {hp : Heap} {g : Array GenState} {d : Drawn} {t : Nat} {os : OsState}
theorem exc_osaE {K : W.Frag} {name : Str} {tk : Tok} {v : Value} {x C : Addr} {fv : Array Value} {cd : ClassData}
    (X : K.In hp) (hx : hp.get? x = some { cls := .ref C, data := .fields fv }) (hcd : W.clsIn K C = some cd) (hm : refsEX cd.mro = true) (hh : cd.hasDict = true) (ha : W.findIn K (.ref C) name = some none)
    (hq : ∀ h' tk' dx, (∀ b o, b ≠ x → hp.get? b = some o → h'.get? b = some o) → hp.objs.size ≤ dx → dx ≠ x → h'.get? x = some { cls := .ref C, dict := some dx, data := .fields fv } →
      h'.Ns1 dx (fun y => if y = name then some v else none) → R (.ok (.ret .none)) ⟨h', g, d, tk', os⟩) :
    codeAny (model prog w) A (.call (.builtin "object.__setattr__") ⟨[.ref x, .str name tk, v], []⟩) R ⟨hp, g, d, t, os⟩ := by
  have I : W.InstAt hp x { cls := .ref C, data := .fields fv } C none := ⟨hx, rfl, rfl, trivial⟩
  have SF := F.store_object
  have ne := refsEX_ne hm
  have hob : cd.mro.contains (.type "object") = true := (refsEX_contains "object" _ hm).trans (by decide +kernel)
  have hxs : x ≠ hp.objs.size := Nat.ne_of_lt (Heap.lt_size hx)
  have sub : W.Looks (model prog w) hp (isInstance (.ref x) (.type "object")) true := I.type.andThen (W.looks_mroIn X (by unfold W.mroIn; rw [hcd, Option.bind_some, if_neg (by rw [ne]; decide), hob]))
  refine codeAny_call_builtin SF.slot.plain SF.entry (@W.check_slot (model prog w) _ _ ⟨hp, g, d, t, os⟩ "object.__setattr__" "object" "__setattr__" (.ref x) [.str name tk, v] [] _ SF.kind SF.split sub (SF.args (.ref x) (.str name tk) v) ?_)
  have hmr : W.Looks (model prog w) hp (mroOf (.ref C)) cd.mro := (W.looks_clsIn X hcd).andThen .now
  have L3 : W.Looks (model prog w) hp (storeTaker? none) none := .now
  have hcls : W.Looks (model prog w) hp (classData C) cd := W.looks_clsIn X hcd
  rw [W.osa_eq, refuse_eq]
  refine wpAny_bind (wpAny_bind (I.type.at (wpAny_bind (hmr.at ?_))))
  rw [refsEX_pass _ _ hm]
  refine wpAny_pure (wpAny_bind (I.type.at (wpAny_bind ((W.looks_findIn X ha).at (wpAny_bind (L3.at ?_))))))
  show wpAny _ _ (storeInOwnDict (.ref x) (.ref C) (.str name tk) name v false) _ _ _
  obtain ⟨nm, bs, mro, ns, qn, hd, sn, sb, ab, col, del⟩ := cd
  dsimp only at hh
  subst hh
  unfold storeInOwnDict ownDictForStores
  repeat (first | with_reducible refine store_in_new ?_ ?_ | with_reducible refine wpAny_loadPart_at hx ?_ | with_reducible refine hcls.at ?_ | wp_step)
  · exact ⟨_, #[], _, (Heap.get?_update_ne _ _ _ _ hxs.symm).trans (Heap.get?_push_at rfl rfl), rfl, fun e he => absurd he (by simp), fun _ => rfl⟩
  · intro h' tk' hn' hs
    have hx₁ : (hp.push { cls := .type "dict", data := .dict #[] }).get? x = some { cls := .ref C, data := .fields fv } := Heap.get?_push_of_some _ hx
    refine hq h' tk' hp.objs.size (fun b o hb ho => ?_) (Nat.le_refl _) hxs.symm ?_ hn'
    · exact (hs.2 b (Nat.ne_of_lt (Heap.lt_size ho))).trans ((Heap.get?_update_ne _ _ _ _ hb).trans (Heap.get?_push_of_some _ ho))
    · exact (hs.2 x hxs).trans (Heap.get?_update_self _ hx₁ rfl)
end
end HandSPX
end PySem
namespace PySem
namespace BadX
open PySem.W PySem.Calls PyProof.Rows PySem.HandSPX
/-! ### the text of __init__ -/
def iA (p1 p2 : Pos) : Arguments := { posonlyargs := [], args := [{ arg := "self", annotation := none, pos := p1 }, { arg := "at", annotation := none, pos := p2 }], vararg := none, kwonlyargs := [], kw_defaults := [], kwarg := none, defaults := [] }
def iB (q1 q2 q3 q4 : Pos) : List Stmt := [.Assign [.Attribute (.Name "self" q1) "at" q2] (.Name "at" q3) q4]
def iS : Scope := { kind := .function, names := [(PySem.Str.ofString "self", .local), (PySem.Str.ofString "at", .local)], isGenerator := false, isCoroutine := false, more := [] }
/-- what the written part says of BadValue, at C, and of its __init__, at fI -/
structure BadTxt (K : Frag) (mg : Str → Option Value) (C fI : Addr) : Prop where
  gC : mg "BadValue" = some (.ref C)
  cls : ∃ nm q N bs bm sn sub ab col dd k0 k1 k2 k3 k5, K.lookup C = some (excClassObj nm q C N bs bm true sn sub ab col dd k0 k1 k2 k3 k5 "Exception.__new__") ∧ refsEX bm = true
  sa : findIn K (.ref C) "__setattr__" = some (some (.builtin "object.__setattr__"))
  ga : findIn K (.ref C) "__getattribute__" = some (some (.builtin "BaseException.__getattribute__"))
  gg : findIn K (.ref C) "__getattr__" = some none
  noN : findIn K (.ref C) "at" = some none
  iC : findIn K (.ref C) "__init__" = some (some (.ref fI))
  tC : typeIn K (.ref fI) = some (.type "function")
  kC : keepIn K (.ref C) = true
  exC : subIn K (.ref C) (.type "BaseException") = some true
  tyC : typeIn K (.ref C) = some (.type "type")
  hdC : hasDictIn K C = true
  te : exmOne K (.ref C) (.ref C) = some true
  fn : ∃ (oc : Value) (od : Option Addr) (doc pm : Value) (an : Option Addr) (cdv ct : Value) (osl : Array (Option Value)) (p1 p2 q1 q2 q3 q4 : Pos),
    K.lookup fI = some ⟨oc, od, .func (fnOf "__init__" "BadValue.__init__" (iA p1 p2) (iB q1 q2 q3 q4) iS .none .none doc pm an cdv ct), osl⟩ ∧ codeIn K cdv "BadValue.__init__" = true
theorem one_size (v : Value) : [v].length ≤ sizeLine := by
  rw [sizeLine_eq]
  exact (by decide : 1 ≤ 16777216)
theorem kept_but {K : Frag} {h h' : Heap} {x : Addr} (X : K.In h) (hx : K.lookup x = none) (k : ∀ b o, b ≠ x → h.get? b = some o → h'.get? b = some o) : K.In h' := fun a o e =>
  k a o (fun z => by rw [z, hx] at e; cases e) (X a o e)
theorem ldC {M : Model} {s : Shared} {name : Str} {scope : Scope} {L a : Addr} {cd : Value} {m : Str → Option Value} {x : Str} {pos : Pos} {v : Value} {Q : Value → Shared → Prop} {A : Around} {E : Value → Shared → Prop} (hn : s.heap.Ns L m) (hv : m x = some v) (h : Q v s)
    (hk : scope.kind = .function := by rfl) (hl : (envOfC name scope L a cd).kindOf x = some .local := by rfl) (hd : (x == ("__debug__" : Str)) = false := by decide) :
    wpAny M A (eval (.Name x pos) (envOfC name scope L a cd)) Q E s := wpAny_Name (wpAny_loadName_local hk hl hn hv h) hd
/-- what __init__ leaves of a fresh exception at x -/
structure InitEnd (h h' : Heap) (x C dx t1 : Addr) (v : Value) : Prop where
  keep : ∀ b o, b ≠ x → h.get? b = some o → h'.get? b = some o
  obj : h'.get? x = some { cls := .ref C, dict := some dx, data := .fields #[.ref t1, .none, .none, .none, .bool false, .none] }
  dbig : h.objs.size ≤ dx
  dne : dx ≠ x
  ns : h'.Ns1 dx (fun y => if y = "at" then some v else none)
/-- a made BadValue -/
structure OwnMade (h h' : Heap) (e C d : Addr) (v : Value) : Prop where
  keep : ∀ b o, h.get? b = some o → h'.get? b = some o
  new : h.objs.size ≤ e
  obj : ∃ oe vs, h'.get? e = some oe ∧ oe.cls = .ref C ∧ oe.dict = some d ∧ oe.data = .fields vs ∧ vs[1]? = some .none
  dbig : h.objs.size ≤ d
  dne : d ≠ e
  ns : h'.Ns1 d (fun y => if y = "at" then some v else none)
section
variable {prog : Program} {w : World} {A : Around} {E : Value → Shared → Prop} {R : Result → Shared → Prop} {s : Shared} {K : Frag} {mg : Str → Option Value} {C fI : Addr}
theorem bad_init (T : BadTxt K mg C fI) {x t0 : Addr} {v : Value} (X : K.In s.heap) (hlim : s.heap.NoLimit) (hx : s.heap.get? x = some (excO C t0)) (hnx : K.lookup x = none) (hroom : A.depth < recursionLimit)
    (hq : ∀ h' tk dx, InitEnd s.heap h' x C dx t0 v → R (.ok (.ret .none)) { s with heap := h', toks := tk }) :
    codeAny (model prog w) A (.call (.ref fI) ⟨[.ref x, v], []⟩) R s := by
  obtain ⟨oc, od, doc, pm, an, cdv, ct, osl, p1, p2, q1, q2, q3, q4, ho, hcd⟩ := T.fn
  obtain ⟨nm, q, N, bs, bm, sn, sub, ab, col, dd, k0, k1, k2, k3, k5, hC, hbm⟩ := T.cls
  have hcl : clsIn K C = some { name := nm, bases := bs, mro := .ref C :: bm, ns := N, qualname := q, hasDict := true, slotNames := sn, subclasses := sub, abstract := ab, collection := col, hasDel := false } := by unfold clsIn; rw [hC] <;> rfl
  refine Att.call_fn (binds := [("self", .ref x), ("at", v)]) X hlim ho hcd hroom (BindsTo.of_eq (by first | rfl | with_unfolding_all rfl)) (by first | rfl | decide | with_unfolding_all rfl) (fun s₁ IC => ?_) rfl rfl rfl
  obtain ⟨h₁, tk₁, rfl⟩ := IC.toInCall.same
  have k : ∀ b o, s.heap.get? b = some o → h₁.get? b = some o := IC.toInCall.keep
  have hn := IC.toInCall.ns
  have hxL : s.heap.objs.size ≠ x := Nat.ne_of_gt (Heap.lt_size hx)
  have X₁ : K.In h₁ := X.keeps k
  have hx₁ := k _ _ hx
  -- self.at = at
  show wpAny _ _ (execs _ _) _ _ _
  refine wpAny_execs_cons (plainObj_wpAny_Assign_Attribute ?_)
  refine ldC (v := v) hn (by first | rfl | with_unfolding_all rfl | kernel_rfl) (ldC (v := .ref x) hn (by first | rfl | with_unfolding_all rfl | kernel_rfl) ?_)
  refine set_plain X₁ (ox := excO C t0) (od := none) ⟨hx₁, rfl, rfl, trivial⟩ T.sa ?_
  refine exc_osaE X₁ hx₁ hcl (show refsEX (.ref C :: bm) = true from hbm) rfl T.noN (fun h₃ tk₃ dx k₃ dn dne hx₃ hn₃ => ?_)
  show wpAny _ _ (execs _ _) _ _ _
  have z : s.heap.objs.size < h₁.objs.size := hn.lt
  exact wpAny_execs_nil (hq h₃ tk₃ dx ⟨fun b o hb e => k₃ b o hb (k b o e), hx₃, Nat.le_of_lt (Nat.lt_of_lt_of_le z dn), dne, hn₃⟩)
theorem bad_made (T : BadTxt K mg C fI) {v : Value} (X : K.In s.heap) (hlim : s.heap.NoLimit) (hroom : A.depth + 1 < recursionLimit)
    (hq : ∀ h' tk e d, OwnMade s.heap h' e C d v → R (.ok (.ret (.ref e))) { s with heap := h', toks := tk }) :
    codeAny (model prog w) A (.call (.ref C) ⟨[v], []⟩) R s := by
  obtain ⟨nm, q, N, bs, bm, sn, sub, ab, col, dd, k0, k1, k2, k3, k5, hC, hbm⟩ := T.cls
  obtain ⟨hp, g, dr, tk, os⟩ := s
  have k : ∀ b o, hp.get? b = some o → ((hp.push (kdv_tup [v])).push (excO C hp.objs.size)).get? b = some o := fun b o e => Heap.get?_push_of_some _ (Heap.get?_push_of_some _ e)
  have hget : ((hp.push (kdv_tup [v])).push (excO C hp.objs.size)).get? (hp.objs.size + 1) = some (excO C hp.objs.size) := by heap_get
  have hnx : K.lookup (hp.objs.size + 1) = none := by
    cases e : K.lookup (hp.objs.size + 1) with
    | none => rfl
    | some o =>
      have z : hp.get? (hp.objs.size + 1) = some o := X _ _ e
      exact absurd (Nat.lt_of_succ_lt (Heap.lt_size z)) (Nat.lt_irrefl _)
  refine call_own F.excBase_Exception (fun X => refsEX_contains X bm hbm) (X _ _ hC) (looks_findIn X T.iC) (fun self => bind_fn X self T.tC) (one_size v) ?_
  refine bad_init (s := ⟨(hp.push (kdv_tup [v])).push (excO C hp.objs.size), g, dr, tk, os⟩) T (X.keeps k) (hlim.keeps k) hget hnx ?_ fun h' tk' dx ⟨k', hx, dn, dne, hns⟩ => ?_
  · show A.depth + 1 < recursionLimit
    exact hroom
  · have old : ∀ b o, hp.get? b = some o → h'.get? b = some o := fun b o e => k' b o (Nat.ne_of_lt (Nat.lt_succ_of_lt (Heap.lt_size e))) (k b o e)
    have z : hp.objs.size + 1 + 1 ≤ dx := by
      first
        | (simpa only [Heap.size_push] using dn)
        | exact dn
        | (have q := dn; rw [Heap.size_push, Heap.size_push] at q; exact q)
    exact ⟨rfl, hq h' tk' (hp.objs.size + 1) dx ⟨old, Nat.le_succ _, ⟨_, _, hx, rfl, rfl, rfl, rfl⟩, Nat.le_trans (Nat.le_trans (Nat.le_succ _) (Nat.le_succ _)) z, dne, hns⟩⟩
end
end BadX
end PySem
namespace L2
open PySem PySem.Spec PyProof.Rows
theorem relO_bad {v : V} {v' : Value} (r : RelV v v') (f : Str) : RelO (List.lookup f [(("at" : Str), v)]) (if f = "at" then some v' else none) := by
  by_cases hw : f = "at"
  · subst hw
    rw [if_pos rfl]
    have q : List.lookup ("at" : Str) [(("at" : Str), v)] = some v := by simp [List.lookup]
    rw [q]
    exact r
  · rw [if_neg hw]
    have qw : (f == ("at" : Str)) = false := by simpa using hw
    have q2 : List.lookup f [(("at" : Str), v)] = none := by simp [List.lookup, qw]
    rw [q2]
    trivial
section
variable {X : Cx} {C fI : Addr}
/-- BadValue(e) -/
def tMkBad (C : Addr) (ta : TA) : St → Hp → XK → Prop := fun σ H Q => ta σ H fun vs H1 => ∃ v, vs = [v] ∧ ∀ d, H1 d = none → Q (.ref C) (some d) (upd H1 d (.xd [(("at" : Str), v)]))
theorem pmk_bad {a : Expr} {ta : TA} {p pos : Pos} {k : Nat} (T : PySem.BadX.BadTxt X.K X.mg C fI) (hr : Room k X.A) (ha : PA X [a] ta) (hg : Gl X "BadValue" := by rfl)
    (he : starEach (a :: []) X.env = (false, eval a X.env) :: starEach [] X.env := by rfl) (hpl : (backTo pos (starEach [] X.env)).any (·.1) = false := by rfl) :
    PMk X (.Call (.Name "BadValue" p) [a] [] pos) (tMkBad C ta) := by
  intro pins s σ H Q I h
  refine wpAny_Call_Name_kw (ld_glob I hg T.gC ?_)
  refine PySem.W.callWith_K (h₀ := X.base) I.ok.mod.kin T.kC (thn (ha.run pos pins s σ H _ I h) fun us s1 hh => ?_) he hpl
  obtain ⟨vs, H1, I1, r1, v, ev, q1⟩ := hh
  subst ev
  refine ⟨I1.kIn, ?_⟩
  cases r1 with
  | cons rv rn =>
    rename_i v' us'
    cases rn
    show wpAny _ _ (call (.ref C) [v']) _ _ _
    have hlim := I1.nolimit
    obtain ⟨hp, g, dr, tk, os⟩ := s1
    refine wpAny_call (PySem.BadX.bad_made T I1.kIn hlim (by have := hr.dp; omega) fun h' tk' e d M => ?_)
    show MkP X pins σ Q (.ref e) ⟨h', g, dr, tk', os⟩
    obtain ⟨oe, fv, hoe, hc, hd, hdat, h1⟩ := M.obj
    have hns := M.ns
    obtain ⟨G', g1, g2⟩ := restrict h' fun b => decide (b ≠ e)
    have gk : ∀ b, b ≠ e → G'.get? b = h'.get? b := fun b hb => g1 b (decide_eq_true hb)
    have ge : G'.get? e = none := g2 e (by simp)
    have old : ∀ b o, hp.get? b = some o → G'.get? b = some o := fun b o q => (gk b (Nat.ne_of_lt (Nat.lt_of_lt_of_le (Heap.lt_size q) M.new))).trans (M.keep b o q)
    have ob : ObjOk X.prog X.w (upd H1 d (.xd [(("at" : Str), v)])) G' d (.xd [(("at" : Str), v)]) :=
      ⟨_, hns.at (fun o q => (gk d M.dne).trans q), fun f => relO_bad rv f⟩
    have J : Inv X pins σ (upd H1 d (.xd [(("at" : Str), v)])) ⟨G', g, dr, tk', os⟩ := I1.laid (t' := tk') old M.dbig ob
    refine ⟨e, oe, fv, ⟨G', g, dr, tk', os⟩, _, .ref C, some d, rfl, J, fun b o q => ?_, ge, hoe, ⟨hc, hd⟩, hdat, h1, ?_, rfl, I1.bare, raises_own T.exC T.tyC, q1 d (I1.hok.fresh M.dbig)⟩
    · by_cases hb : b = e
      · have q' : G'.get? b = some o := q
        rw [hb, ge] at q'; cases q'
      · exact (gk b hb).symm.trans q
    · rw [upd_ne (Ne.symm M.dne)]
      exact I1.hok.fresh M.new
/-- raise BadValue(e) -/
def tRaiseBad (C : Addr) (W : WX) (ta : TA) : TS := fun _ σ H => tMkBad C ta σ H fun cls d H' => W cls d σ H'
theorem ps_raiseBad {a : Expr} {ta : TA} {W : WX} {p pos pos2 : Pos} {k : Nat} (hc : X.calm = true) (T : PySem.BadX.BadTxt X.K X.mg C fI) (hr : Room k X.A) (tk : Takes X W) (ha : PA X [a] ta) (hg : Gl X "BadValue" := by rfl)
    (he : starEach (a :: []) X.env = (false, eval a X.env) :: starEach [] X.env := by rfl) (hpl : (backTo pos (starEach [] X.env)).any (·.1) = false := by rfl) :
    PS X (.Raise (some (.Call (.Name "BadValue" p) [a] [] pos)) none pos2) (tRaiseBad C W ta) := ps_raise hc tk (pmk_bad T hr ha hg he hpl)
/-- error.at, error the exception that the suite holds (at a; its class cls, its dict d) -/
def tAtBad (C : Addr) (a : Addr) (cls : Value) (d : Option Addr) (te : TE) : TE := fun σ H Q => te σ H fun x H1 => x = .ref a ∧ cls = .ref C ∧ ∃ (dd : Addr) (v : V), d = some dd ∧ H1 dd = some (.xd [(("at" : Str), v)]) ∧ Q v H1
theorem pe_atBad {a : Addr} {oe : Obj} {cls : Value} {d : Option Addr} {pn : List (Addr × Obj)} {e : Expr} {te : TE} {pos : Pos} (T : PySem.BadX.BadTxt X.K X.mg C fI) (hz : Zc cls d oe) (hf : ∃ vs, oe.data = .fields vs) (he : PE (X.suite a ((a, oe) :: pn)) e te)
    (hb : attributeBase e "at" X.env (eval e X.env) = eval e X.env := by rfl) :
    PE (X.suite a ((a, oe) :: pn)) (.Attribute e "at" pos) (tAtBad C a cls d te) := by
  refine ⟨fun pins s σ H Q I h => ?_⟩
  refine attr_of hb (thn (he.run pins s σ H _ I h) fun u s1 hh => ?_)
  obtain ⟨x, H1, I1, rx, ex, ec, dd, v, ed, ea, q⟩ := hh
  subst ex
  obtain rfl : u = Value.ref a := rx
  subst ec
  subst ed
  obtain ⟨ha, _⟩ := I1.pin (a, oe) (List.mem_append_left _ List.mem_cons_self)
  obtain ⟨vs, hd⟩ := hf
  have hx : ObjOk X.prog X.w H1 s1.heap dd (.xd [(("at" : Str), v)]) := I1.hok dd _ ea
  obtain ⟨mA, hns, hr⟩ := hx
  obtain ⟨od, ho, hl⟩ := lookIn_ns hns
  have l : List.lookup ("at" : Str) [(("at" : Str), v)] = some v := by simp [List.lookup]
  obtain ⟨u, hu, ru⟩ := RelO.some_of (v := v) (o := mA "at") (by rw [← l]; exact hr "at")
  have J : PySem.W.InstAt s1.heap a oe C (some od) := ⟨ha, hz.1, by unfold PySem.W.notCls; rw [hd] <;> rfl, by rw [hz.2]; exact ho⟩
  exact HandSPX.exc_get I1.kIn J T.ga T.gg T.exC (PySem.W.findObj_own T.hdC T.noN rfl (by rw [hl, hu])) (handed_of ru) ⟨v, H1, I1.tok _, ru, q⟩
end
end L2

set_option Elab.async false
set_option linter.all false
set_option autoImplicit false
set_option maxRecDepth 100000
set_option maxHeartbeats 4000000
/-! # Statements: the checker, and that what it takes is run as the evaluator says -/
namespace PyE
open PySem PySem.Spec PyProof.Rows L2

/-! ### the checker -/
/-- a comprehension's own scope -/
def compScope : Expr → Option Scope
  | .ListComp _ _ s _ => some s
  | .SetComp _ _ s _ => some s
  | .DictComp _ _ _ s _ => some s
  | _ => none
def swB (S : Sc) (y : Str) (py : Pos) (x : Expr) : Bool := match compScope x with
  | none => false
  | some s => (S.sc.names.lookup y == some .local) && py.line == x.pos.line && !(s.names.any fun (n, k) => n == y && (k == .local || k == .cell))
def isLcE : IE → Bool
  | .lc _ _ _ _ _ => true
  | .lc2 _ _ _ _ _ _ _ _ _ => true
  | _ => false
def isTup : Expr → Bool
  | .Tuple _ _ _ => true
  | _ => false
/-- a tuple of constants alone, or more than three -/
def noSwap (ts : List Expr) (x : Expr) : Bool := match x with
  | .Tuple vs _ _ => !(ts.length == 2 || ts.length == 3) || vs.all (foldedForSure 8)
  | _ => true
def parOk (S : Sc) (ts vs : List Expr) : Bool := match ts, vs with
  | [.Name x px, .Name y py], [a, b] => (S.sc.names.lookup x == some .local) && (S.sc.names.lookup y == some .local) && px.line == py.line && notStar a && notStar b && !(vs.all (foldedForSure 8)) && !(vs.all (constantsAlone 8)) && decide (x ≠ y)
  | [.Name x px, .Name y py, .Name z pz], [a, b, c] => (S.sc.names.lookup x == some .local) && (S.sc.names.lookup y == some .local) && (S.sc.names.lookup z == some .local) && px.line == py.line && px.line == pz.line && notStar a && notStar b && notStar c && !(vs.all (foldedForSure 8)) && !(vs.all (constantsAlone 8)) && decide (x ≠ y ∧ x ≠ z ∧ y ≠ z)
  | _, _ => false
def chkKV (Γ : Gam) (S : Sc) : IE → Expr → Bool
  | .k d, x => chkE Γ S (.k d) x
  | .v i, x => chkE Γ S (.v i) x
  | _, _ => false
mutual
def chkS (Γ : Gam) (S : Sc) : IS → Stmt → Bool
  | .asg i e, st => match st with
    | .Assign [.Name y py] x pos => decide (Γ.N[i]? = some y) && locB S y && chkE Γ S e x && (!swB S y py x || isLcE e)
    | _ => false
  | .asgT is e, st => match st with
    | .Assign [.Tuple ts k p] x pos => chkNm Γ S is ts && chkE Γ S e x && noSwap ts x && noComp x
    | _ => false
  | .par is es, st => match st with
    | .Assign [.Tuple ts k p] (.Tuple xs k2 p2) pos => chkNm Γ S is ts && chkEs Γ S es xs && parOk S ts xs
    | _ => false
  | .asg2 i j e, st => match st with
    | .Assign [.Name y _, .Name z _] x _ => decide (Γ.N[i]? = some y) && locB S y && decide (Γ.N[j]? = some z) && locB S z && chkE Γ S e x
    | _ => false
  | .aug i op e, st => match st with
    | .AugAssign (.Name y _) o x _ => decide (Γ.N[i]? = some y) && locB S y && decide (op = o) && (decide (op = .Add) || decide (op = .Sub)) && chkE Γ S e x
    | _ => false
  | .app i e, st => match st with
    | .Expr (.Call (.Attribute (.Name y py) m ap) [x] [] cp) pos => decide (Γ.N[i]? = some y) && visB S.sc y && okName y && (m == ("append" : Str)) && ap.endLine == cp.line && notStar x && chkE Γ S e x
    | _ => false
  | .set i a e, st => match st with
    | .Assign [.Subscript (.Name y _) z _] x _ => decide (Γ.N[i]? = some y) && visB S.sc y && okName y && notSlice z && noComp x && !isTup x && chkE Γ S a z && chkE Γ S e x
    | _ => false
  | .ex e, st => match st with
    | .Expr x _ => noComp x && chkE Γ S e x
    | _ => false
  | .ret e, st => match st with
    | .Return (some x) _ => chkE Γ S e x
    | _ => false
  | .retN, st => match st with
    | .Return none _ => true
    | _ => false
  | .ite t a b, st => match st with
    | .If x y z _ => chkE Γ S t x && chkSs Γ S a y && chkSs Γ S b z
    | _ => false
  | .for_ tg it b, st => match st with
    | .For tgx itx y [] _ => notSet itx && chkI Γ S it tgx itx && chkTg Γ S tg tgx && chkSs Γ S b y
    | _ => false
  | .whl t b, st => match st with
    | .While x y [] _ => chkE Γ S t x && chkSs Γ S b y
    | _ => false
  | .pop i, st => match st with
    | .Expr (.Call (.Attribute (.Name y _) m ap) [] [] cp) _ => decide (Γ.N[i]? = some y) && visB S.sc y && okName y && (m == ("pop" : Str)) && ap.endLine == cp.line
    | _ => false
  | .raise0, st => match st with
    | .Raise (some (.Call (.Name _ _) [] [] _)) none _ => true
    | _ => false
  | .brk, st => match st with
    | .Break _ => true
    | _ => false
  | .cnt, st => match st with
    | .Continue _ => true
    | _ => false
  | .pass, st => match st with
    | .Pass _ => true
    | _ => false
  | .raise c e, st => match st with
    | .Raise (some (.Call (.Name g _) [x] [] _)) none _ => (c == g) && (c == ("BadValue" : Str)) && glB S.sc g && notStar x && chkE Γ S e x
    | _ => false
  | .tryAt b c i e, st => match st with
    | .Try y [.ExceptHandler (some (.Name g _)) (some n) [.Return (some (.Compare (.Attribute (.Name n' _) f _) [.Eq] [x] _)) _] _] [] [] _ =>
      (c == g) && (c == ("BadValue" : Str)) && glB S.sc g && decide (Γ.N[i]? = some n) && (S.sc.names.lookup n == some .local) && (n == n') && okName n && (f == ("at" : Str)) && notSet x && chkKV Γ S e x && chkSs Γ S b y
    | _ => false
def chkSs (Γ : Gam) (S : Sc) : ISs → List Stmt → Bool
  | .nil, sts => match sts with
    | [] => true
    | _ => false
  | .cons s r, sts => match sts with
    | st :: rest => chkS Γ S s st && chkSs Γ S r rest
    | _ => false
end

/-- the context of statements -/
structure Sok (Φ : Fns) (Γ : Gam) (S : Sc) (m : Nat) (W : WX) (X : Cx) : Prop extends Cok Φ Γ S m W X where
  po : PassesOwn (model X.prog X.w) X.A X.env X.xe
  fk : S.sc.kind = .function
  stk : X.stack = X.env :: X.outer
  fr : X.env.frame = some X.env.locals
  pm : 1 ≤ m
  bad : ∃ C fI, PySem.BadX.BadTxt X.K X.mg C fI
section
variable {ba : Addr} {Φ : Fns} {Γ : Gam} {S : Sc} {m : Nat} {W : WX} {X : Cx}
theorem ps_imp {st : Stmt} {t t' : TS} (h : PS X st t) (hi : ∀ Z σ H, t' Z σ H → t Z σ H) : PS X st t' := ⟨fun pins s σ H Z I q => h.run pins s σ H Z I (hi Z σ H q)⟩
theorem pss_imp {st : List Stmt} {t t' : TS} (h : PSs X st t) (hi : ∀ Z σ H, t' Z σ H → t Z σ H) : PSs X st t' := ⟨fun pins s σ H Z I q => h.run pins s σ H Z I (hi Z σ H q)⟩
abbrev TS' (ba : Addr) (X : Cx) (W : WX) (ev : SEnv → FR) : TS := tS ba X.K X.mg W ev
theorem here {ba : Addr} {K : Frag} {mg : Str → Option Value} {M : Addr → Prop} {F H : Hp} {Z : Ends} {σ : L2.St} {env : SEnv} (h : FPost ba K mg W M F H Z (.nxt env)) (s : Sim ba K F H σ env) (o : ∀ a, O σ env a → M a) : Z.nx σ H :=
  h σ F H (Go.refl _ _ _) (fun a z => .inl (o a z)) s
/-! ### swaps -/
theorem sw_not {x : Expr} {y : Str} {py : Pos} {l : Nat} {env : Env} (hk : env.scope.kind = .function) (hS : env.scope = S.sc) (h : swB S y py x = false) : swapsWith x (some (.Name y py)) l env = pure false := by
  have key : ∀ {s : Scope}, compScope x = some s → (env.kindOf y == some .local && py.line == x.pos.line && !(s.names.any fun (n, k) => n == y && (k == .local || k == .cell))) = false := fun {s} e => by
    unfold swB at h
    rw [e] at h
    have hy : env.kindOf y = S.sc.names.lookup y := by show env.scope.names.lookup y = _; rw [hS]
    rw [hy]
    exact h
  have hb : env.blockKind = .function := by unfold Env.blockKind; rw [hk]; rfl
  have hb' : (env.blockKind == .function) = true := by rw [hb]; rfl
  cases x with
  | ListComp a b s p =>
    have := key (s := s) rfl
    unfold swapsWith
    simp only [hb', Bool.true_and, this]
  | SetComp a b s p =>
    have := key (s := s) rfl
    unfold swapsWith
    simp only [hb', Bool.true_and, this]
  | DictComp a b c s p =>
    have := key (s := s) rfl
    unfold swapsWith
    simp only [hb', Bool.true_and, this]
  | _ => rfl
theorem sw_yes {a : Expr} {b : List Comprehension} {s : Scope} {p : Pos} {y : Str} {py : Pos} {l : Nat} {env : Env} (hk : env.scope.kind = .function) (hS : env.scope = S.sc) (h : swB S y py (.ListComp a b s p) = true) : swapsWith (.ListComp a b s p) (some (.Name y py)) l env = pure true ∧ env.scope.names.lookup y = some .local := by
  have h : ((S.sc.names.lookup y == some .local) && py.line == p.line && !(s.names.any fun (n, k) => n == y && (k == .local || k == .cell))) = true := h
  simp only [Bool.and_eq_true, Bool.not_eq_true'] at h
  have h1 : env.scope.names.lookup y = some .local := by rw [hS]; exact eq_of_beq h.1.1
  exact ⟨sw_true hk h1 h.1.2 h.2, h1⟩
theorem sw0 {x : Expr} {t : Expr} {l : Nat} {env : Env} (h : noComp x = true) : swapsWithSole [t] x l env = pure false := swaps_of h
theorem ss_one {t x : Expr} {env : Env} (h : ∀ ts k p, t ≠ .Tuple ts k p) (h2 : ∀ ts p, t ≠ .List ts p) : swappedStores [t] x env = pure none := by
  unfold swappedStores
  cases t <;> first | (exact absurd rfl (h _ _ _)) | (exact absurd rfl (h2 _ _)) | rfl
theorem ss_tup {ts : List Expr} {k : Nat} {p : Pos} {x : Expr} {env : Env} (h : noSwap ts x = true) : swappedStores [.Tuple ts k p] x env = pure none := by
  unfold swappedStores
  cases x with
  | Tuple vs k2 p2 =>
    have h : (!(ts.length == 2 || ts.length == 3) || vs.all (foldedForSure 8)) = true := h
    simp only [pure_bind]
    split
    · rfl
    · split
      · rfl
      · split
        · rfl
        · rename_i h1 _ _
          rw [Bool.or_eq_true] at h
          rcases h with h | h
          · rw [h] at h1
            simp at h1
          · rw [if_pos h]
  | _ => rfl

/-! ### assignments -/
theorem asg_rd {te : TE} {i : Nat} {e : IE} {X' : Cx} (hte : te = TE' ba X W (evE Φ e)) {n : Nat} {Z : Ends} {σ : L2.St} {H : Hp} (q : TS' ba X W (evS Φ n (.asg i e)) Z σ H) : tAsg te (gName i) Z σ H := by
  subst hte
  obtain ⟨F, env, M, s, o, p⟩ := q
  obtain ⟨F1, env1, s1, q1⟩ := fone s o p
  refine ⟨F1, env1, s1, q1.imp ?_⟩
  rintro v H1 ⟨w, env2, F2, g, o2, s2, r, p⟩
  cases e1 : putW env2 i w with
  | none => rw [e1] at p; exact p.elim
  | some e2 =>
    rw [e1] at p
    have p : FPost ba X.K X.mg W (Up M H) F2 H1 Z (.nxt e2) := p
    obtain ⟨F3, g3, s3, o3⟩ := putW_ok (M := Up M H) s2 (fun a => ⟨.inr, o2 a⟩) r e1
    exact here (p.go g3 fun x z => .inl z) s3 o3
theorem asgT_rd {is : List Nat} {e : IE} {n : Nat} {Z : Ends} {σ : L2.St} {H : Hp} (q : TS' ba X W (evS Φ n (.asgT is e)) Z σ H) : tAsg (TE' ba X W (evE Φ e)) (gT X.K (.many is)) Z σ H := by
  obtain ⟨F, env, M, s, o, p⟩ := q
  obtain ⟨F1, env1, s1, q1⟩ := fkeep (k := fun d e2 => match putT e2 (.many is) d with
      | some e3 => FR.nxt e3
      | none => .stuck) s o p
  refine ⟨F1, env1, s1, q1.imp ?_⟩
  rintro v H1 ⟨d, env2, F2, g, o2, s2, dp, p⟩
  cases e1 : putT env2 (.many is) d with
  | none => rw [e1] at p; exact p.elim
  | some e2 =>
    rw [e1] at p
    exact putT_ok s2 dp e1 fun σ3 s3 o3 _ => here p s3 fun a z => o2 a (o3 a z)
theorem asg2_rd {i j : Nat} {e : IE} {n : Nat} {Z : Ends} {σ : L2.St} {H : Hp} (q : TS' ba X W (evS Φ n (.asg2 i j e)) Z σ H) : tAsg2 (TE' ba X W (evE Φ e)) (gName i) (gName j) Z σ H := by
  obtain ⟨F, env, M, s, o, p⟩ := q
  obtain ⟨F1, env1, s1, q1⟩ := fkeep (k := fun d e2 => match putN e2 [i, j] [d, d] with
      | some e3 => FR.nxt e3
      | none => .stuck) s o p
  refine ⟨F1, env1, s1, q1.imp ?_⟩
  rintro v H1 ⟨d, env2, F2, g, o2, s2, dp, p⟩
  cases e1 : putN env2 [i, j] [d, d] with
  | none => rw [e1] at p; exact p.elim
  | some e3 =>
    rw [e1] at p
    have z := setN_ok (is := [i, j]) (vs := [v, v]) (Q := Z.nx) s2 (.cons dp (.cons dp .nil)) e1 fun σ3 s3 o3 _ => here p s3 fun a z => o2 a (o3 a z)
    obtain ⟨v1, r1, e4, v2, r2, e5, e6, z⟩ := z
    cases e4
    cases e5
    exact z
theorem par_end {M : Addr → Prop} {F H : Hp} {Z : Ends} {σ : L2.St} {e2 : SEnv} {is : List Nat} {ds : List D} {vs : List V} (s : Sim ba X.K F H σ e2) (o : ∀ a, O σ e2 a → M a) (dp : DpAll X.K F vs ds) (p : FPost ba X.K X.mg W M F H Z (match putN e2 is ds with
      | some e3 => FR.nxt e3
      | none => .stuck)) : gT.gN is vs σ H Z.nx := by
  cases e1 : putN e2 is ds with
  | none => rw [e1] at p; exact p.elim
  | some e3 =>
    rw [e1] at p
    exact setN_ok s dp e1 fun σ3 s3 o3 _ => here p s3 fun a z => o a (o3 a z)
theorem par_rd {is : List Nat} {es : IEs} {n : Nat} {Z : Ends} {σ : L2.St} {H : Hp} (q : TS' ba X W (evS Φ n (.par is es)) Z σ H) : tEs ba X.K X.mg W (evEs Φ es) σ H (fun vs H1 => gT.gN is vs σ H1 Z.nx) := by
  obtain ⟨F, env, M, s, o, p⟩ := q
  refine ⟨F, env, s, (FPost.toF (Rel := REs X.K σ H) o p).imp ?_⟩
  rintro vs H1 ⟨ws, env1, F1, g, o1, s1, r, p⟩
  cases e1 : keepN env1 ws with
  | none => rw [e1] at p; exact p.elim
  | some q =>
    obtain ⟨ds, e2⟩ := q
    rw [e1] at p
    have p : FPost ba X.K X.mg W (Up M H) F1 H1 Z (match putN e2 is ds with
      | some e3 => FR.nxt e3
      | none => .stuck) := p
    obtain ⟨F2, g2, o2, s2, dp⟩ := keepN_ok (M := Up M H) s1 r e1 fun a => ⟨.inr, fun z => .inl (o a (o1 a z))⟩
    exact par_end s2 (fun a z => .inl (o a (o1 a (o2 a z)))) dp (p.go g2 fun x z => .inl z)
theorem aug_rd {i : Nat} {op : Operator} {e : IE} {f : Int → Int → Int} (hf : ∀ a b : Int, binD op (.int a) (.int b) = some (.now (.int (f a b)))) {n : Nat} {Z : Ends} {σ : L2.St} {H : Hp} (q : TS' ba X W (evS Φ n (.aug i op e)) Z σ H) : tAug i (TE' ba X W (evE Φ e)) (ipI f) Z σ H := by
  obtain ⟨F, env, M, s, o, p⟩ := q
  unfold evS at p
  cases e0 : env[i]? with
  | none => rw [e0] at p; exact p.elim
  | some sl =>
    rw [e0] at p
    cases sl with
    | no => exact p.elim
    | own _ => exact p.elim
    | bor _ => exact p.elim
    | sh d =>
      obtain ⟨x, h1, h2⟩ := s.sh i d e0
      refine ⟨x, h1, ?_⟩
      obtain ⟨F1, env1, s1, q1⟩ := fone s o p
      refine ⟨F1, env1, s1, q1.imp ?_⟩
      rintro v H1 ⟨w, env2, F2, g, o2, s2, r, p⟩
      cases d with
      | int a =>
        cases e1 : look env2 w with
        | none => rw [e1] at p; exact p.elim
        | some d' =>
          rw [e1] at p
          cases d' with
          | int b =>
            have p : FPost ba X.K X.mg W (Up M H) F2 H1 Z (match binD op (.int a) (.int b) with
              | some (.now d') => (match putS env2 i (.sh d') with
                | some e2 => FR.nxt e2
                | none => .stuck)
              | _ => .stuck) := p
            rw [hf a b] at p
            have p : FPost ba X.K X.mg W (Up M H) F2 H1 Z (match putS env2 i (.sh (.int (f a b))) with
                | some e2 => FR.nxt e2
                | none => .stuck) := p
            cases e2 : putS env2 i (.sh (.int (f a b))) with
            | none => rw [e2] at p; exact p.elim
            | some e3 =>
              rw [e2] at p
              obtain ⟨rfl, hi⟩ := putS_ok e2
              have hv := (look_vr s2 r e1).int
              subst hv
              cases h2
              exact ⟨a, b, rfl, rfl, here p (s2.setSh hi (.int _)) fun a z => o2 a (own_setSh s2 a z)⟩
          | _ => exact p.elim
      | _ => exact p.elim

/-! ### lists that are written -/
theorem mine_of {env : SEnv} {i : Nat} {ds : List D} (h : env[i]? = some (.own ds) ∨ env[i]? = some (.bor ds)) : Mine env i ds := h
/-- the kinds of slot that a list of this frame's is in -/
theorem two_kinds {F H : Hp} {M : Addr → Prop} {Z : Ends} {env : SEnv} {i : Nat} {f : List D → FR} {g : List D → FR} (p : FPost ba X.K X.mg W M F H Z (match env[i]? with
    | some (.own ds) => f ds
    | some (.bor ds) => g ds
    | _ => .stuck)) : (∃ ds, env[i]? = some (.own ds) ∧ FPost ba X.K X.mg W M F H Z (f ds)) ∨ (∃ ds, env[i]? = some (.bor ds) ∧ FPost ba X.K X.mg W M F H Z (g ds)) := by
  cases e : env[i]? with
  | none => rw [e] at p; exact p.elim
  | some sl =>
    rw [e] at p
    cases sl with
    | no => exact p.elim
    | sh _ => exact p.elim
    | own ds => exact .inl ⟨ds, rfl, p⟩
    | bor ds => exact .inr ⟨ds, rfl, p⟩
end
end PyE

set_option Elab.async false
set_option linter.all false
set_option autoImplicit false
set_option maxRecDepth 100000
set_option maxHeartbeats 4000000
/-! # All statements -/
namespace PyE
open PySem PySem.Spec PyProof.Rows L2
section
variable {ba : Addr} {Φ : Fns} {Γ : Gam} {S : Sc} {m : Nat} {W : WX} {X : Cx}
theorem isMine_of {env : SEnv} {i : Nat} (h : isMine env i = true) : ∃ ds, Mine env i ds := by
  unfold isMine at h
  split at h
  · rename_i ds e; exact ⟨ds, .inl e⟩
  · rename_i ds e; exact ⟨ds, .inr e⟩
  · cases h
theorem if_mine {F H : Hp} {M : Addr → Prop} {Z : Ends} {env : SEnv} {i : Nat} {r : FR} (p : FPost ba X.K X.mg W M F H Z (if isMine env i = true then r else .stuck)) : isMine env i = true ∧ FPost ba X.K X.mg W M F H Z r := by
  cases h : isMine env i with
  | false => rw [h] at p; exact p.elim
  | true => rw [h] at p; exact ⟨rfl, p⟩
theorem app_end {M : Addr → Prop} {F H : Hp} {Z : Ends} {σ : L2.St} {e2 : SEnv} {i : Nat} {d : D} {v : V} {a : Addr} (s : Sim ba X.K F H σ e2) (o : ∀ a, O σ e2 a → M a) (ha : σ[i]? = some (some (.ref a))) (dp : Dp X.K F v d) (p : FPost ba X.K X.mg W M F H Z (appK e2 i d)) :
    rAppend (.ref a) [v] H (fun _ H3 => Z.nx σ H3) := by
  unfold appK at p
  have fin : ∀ {ds : List D} {sl : Sl}, Mine e2 i ds → ((e2[i]? = some (.own ds) ∧ sl = .own (ds ++ [d])) ∨ (e2[i]? = some (.bor ds) ∧ sl = .bor (ds ++ [d]))) → FPost ba X.K X.mg W M F H Z (if szOk (ds.length + 1) = true then .nxt (e2.set i sl) else .stuck) → rAppend (.ref a) [v] H (fun _ H3 => Z.nx σ H3) := by
    intro ds sl mi hsl p
    cases hz : szOk (ds.length + 1) with
    | false => rw [hz] at p; exact p.elim
    | true =>
      rw [hz] at p
      have p : FPost ba X.K X.mg W M F H Z (.nxt (e2.set i sl)) := p
      obtain ⟨a', vs, q1, q2, q3, q4⟩ := s.own i ds mi
      rw [ha] at q1
      cases q1
      obtain ⟨g, s3, o3⟩ := s.setMine (vs := vs ++ [v]) mi hsl ha (dpa_app q4 (.cons dp .nil))
      refine ⟨a, vs, v, rfl, rfl, q2, ?_, here (p.go (g.mono fun x z => .inl (o x z)) fun x z => .inl z) s3 fun x z => o x (o3 x z)⟩
      have := dpa_len q4
      have hz' : ds.length + 1 ≤ 16777216 := by unfold szOk at hz; exact of_decide_eq_true hz
      rw [sizeLine_eq]
      omega
  rcases two_kinds p with ⟨ds, e, p⟩ | ⟨ds, e, p⟩
  · exact fin (.inl e) (.inl ⟨e, rfl⟩) p
  · exact fin (.inr e) (.inr ⟨e, rfl⟩) p
theorem set_end {M : Addr → Prop} {F H : Hp} {Z : Ends} {σ : L2.St} {e2 : SEnv} {i : Nat} {d : D} {v : V} {a : Addr} {j : Int} (s : Sim ba X.K F H σ e2) (o : ∀ a, O σ e2 a → M a) (ha : σ[i]? = some (some (.ref a))) (dp : Dp X.K F v d) (p : FPost ba X.K X.mg W M F H Z (setK e2 i j d)) :
    rSetL (.ref a) (.int j) v H (fun H3 => Z.nx σ H3) := by
  unfold setK at p
  have fin : ∀ {ds : List D} {f : Nat → Sl}, Mine e2 i ds → (∀ k, (e2[i]? = some (.own ds) ∧ f k = .own (ds.set k d)) ∨ (e2[i]? = some (.bor ds) ∧ f k = .bor (ds.set k d))) → FPost ba X.K X.mg W M F H Z (match ixN ds.length j with
      | some m => .nxt (e2.set i (f m))
      | none => .stuck) → rSetL (.ref a) (.int j) v H (fun H3 => Z.nx σ H3) := by
    intro ds f mi hsl p
    cases hz : ixN ds.length j with
    | none => rw [hz] at p; exact p.elim
    | some k =>
      rw [hz] at p
      have p : FPost ba X.K X.mg W M F H Z (.nxt (e2.set i (f k))) := p
      obtain ⟨a', vs, q1, q2, q3, q4⟩ := s.own i ds mi
      rw [ha] at q1
      cases q1
      obtain ⟨g, s3, o3⟩ := s.setMine (vs := vs.set k v) mi (hsl k) ha (dpa_set dp k q4)
      exact ⟨a, vs, j, k, rfl, rfl, q2, by rw [dpa_len q4]; exact hz, here (p.go (g.mono fun x z => .inl (o x z)) fun x z => .inl z) s3 fun x z => o x (o3 x z)⟩
  rcases two_kinds p with ⟨ds, e, p⟩ | ⟨ds, e, p⟩
  · exact fin (f := fun k => .own (ds.set k d)) (.inl e) (fun k => .inl ⟨e, rfl⟩) p
  · exact fin (f := fun k => .bor (ds.set k d)) (.inr e) (fun k => .inr ⟨e, rfl⟩) p
theorem app_rd {i : Nat} {e : IE} {n : Nat} {Z : Ends} {σ : L2.St} {H : Hp} (q : TS' ba X W (evS Φ n (.app i e)) Z σ H) : tDrop (tBM X.K "list" rAppend (tVar i) (tCons (TE' ba X W (evE Φ e)) tNil)) Z σ H := by
  obtain ⟨F, env, M, s, o, p⟩ := q
  unfold evS at p
  obtain ⟨hm, p⟩ := if_mine p
  obtain ⟨ds0, mi⟩ := isMine_of hm
  obtain ⟨a, vs, q1, q2, q3, q4⟩ := s.own i ds0 mi
  refine ⟨_, q1, .inl ⟨rfl, vs, .inl (.inl q2)⟩, ?_⟩
  obtain ⟨F1, env1, s1, p1⟩ := fkeep (k := fun d e2 => appK e2 i d) s o p
  refine ⟨F1, env1, s1, p1.imp ?_⟩
  rintro v H1 ⟨d, env2, F2, g, o2, s2, dp, p⟩
  exact app_end s2 o2 q1 dp p
theorem set_rd {i : Nat} {a e : IE} {n : Nat} {Z : Ends} {σ : L2.St} {H : Hp} (q : TS' ba X W (evS Φ n (.set i a e)) Z σ H) : tAsg (TE' ba X W (evE Φ e)) (gSub (tVar i) (TE' ba X W (evE Φ a)) rSetL) Z σ H := by
  obtain ⟨F, env, M, s, o, p⟩ := q
  unfold evS at p
  obtain ⟨hm, p⟩ := if_mine p
  obtain ⟨ds0, mi⟩ := isMine_of hm
  obtain ⟨a0, vs, q1, q2, q3, q4⟩ := s.own i ds0 mi
  obtain ⟨F1, env1, s1, p1⟩ := fkeep (k := fun d e2 => (evE Φ a e2).toF fun x e3 => match look e3 x with
      | some (.int j) => setK e3 i j d
      | _ => .stuck) s o p
  refine ⟨F1, env1, s1, p1.imp ?_⟩
  rintro v H1 ⟨d, env2, F2, g, o2, s2, dp, p⟩
  refine ⟨_, q1, ?_⟩
  obtain ⟨F3, env3, s3, p3⟩ := fone s2 o2 p
  refine ⟨F3, env3, s3, p3.imp ?_⟩
  rintro j H2 ⟨x, env4, F4, g4, o4, s4, r, p⟩
  cases e1 : look env4 x with
  | none => rw [e1] at p; exact p.elim
  | some dj =>
    rw [e1] at p
    cases dj with
    | int k =>
      have hv := (look_vr s4 r e1).int
      subst hv
      exact set_end s4 o4 q1 (dp_ex g4.ex _ _ dp) p
    | _ => exact p.elim

/-! ### pop -/
theorem dpa_dropLast {K : Frag} {F : Hp} : ∀ {vs : List V} {ds : List D}, DpAll K F vs ds → DpAll K F vs.dropLast ds.dropLast := fun {vs ds} h => by
  rw [List.dropLast_eq_take, List.dropLast_eq_take, dpa_len h]
  exact dpa_take _ h
theorem pop_rd {i : Nat} {n : Nat} {Z : Ends} {σ : L2.St} {H : Hp} (q : TS' ba X W (evS Φ n (.pop i)) Z σ H) : tDrop (tBM0 X.K "list" rPop (tVar i)) Z σ H := by
  obtain ⟨F, env, M, s, o, p⟩ := q
  have p : FPost ba X.K X.mg W M F H Z (popK env i) := p
  unfold popK at p
  have fin : ∀ {ds : List D} {sl : Sl}, Mine env i ds → ((env[i]? = some (.own ds) ∧ sl = .own ds.dropLast) ∨ (env[i]? = some (.bor ds) ∧ sl = .bor ds.dropLast)) → FPost ba X.K X.mg W M F H Z (if ds.isEmpty = true then .stuck else .nxt (env.set i sl)) → tDrop (tBM0 X.K "list" rPop (tVar i)) Z σ H := by
    intro ds sl mi hsl p
    cases hz : ds.isEmpty with
    | true => rw [hz] at p; exact p.elim
    | false =>
      rw [hz] at p
      have p : FPost ba X.K X.mg W M F H Z (.nxt (env.set i sl)) := p
      obtain ⟨a, vs, q1, q2, q3, q4⟩ := s.own i ds mi
      have hl := dpa_len q4
      have hne : 0 < vs.length := by
        rw [hl]
        cases ds with
        | nil => cases hz
        | cons _ _ => exact Nat.succ_pos _
      obtain ⟨g, s3, o3⟩ := s.setMine (vs := vs.dropLast) mi hsl q1 (dpa_dropLast q4)
      exact ⟨.ref a, q1, .inl ⟨rfl, vs, .inl (.inl q2)⟩, a, vs, vs[vs.length - 1], rfl, rfl, q2, List.getElem?_eq_getElem (by omega), here (p.go (g.mono fun x z => .inl (o x z)) fun x z => .inl z) s3 fun x z => o x (o3 x z)⟩
  rcases two_kinds p with ⟨ds, e, p⟩ | ⟨ds, e, p⟩
  · exact fin (.inl e) (.inl ⟨e, rfl⟩) p
  · exact fin (.inr e) (.inr ⟨e, rfl⟩) p
theorem ps_false {st : Stmt} {t : TS} (h : ∀ Z σ H, ¬ t Z σ H) : PS X st t := ⟨fun pins s σ H Z I q => (h Z σ H q).elim⟩
/-! ### the rest -/
theorem ex_rd {e : IE} {n : Nat} {Z : Ends} {σ : L2.St} {H : Hp} (q : TS' ba X W (evS Φ n (.ex e)) Z σ H) : tDrop (TE' ba X W (evE Φ e)) Z σ H := by
  obtain ⟨F, env, M, s, o, p⟩ := q
  obtain ⟨F1, env1, s1, q1⟩ := fone s o p
  refine ⟨F1, env1, s1, q1.imp ?_⟩
  rintro v H1 ⟨w, env2, F2, g, o2, s2, r, p⟩
  exact here p s2 o2
theorem ret_rd {e : IE} {n : Nat} {Z : Ends} {σ : L2.St} {H : Hp} (q : TS' ba X W (evS Φ n (.ret e)) Z σ H) : tRet (TE' ba X W (evE Φ e)) Z σ H := by
  obtain ⟨F, env, M, s, o, p⟩ := q
  obtain ⟨F1, env1, s1, q1⟩ := fkeep (k := fun d e2 => FR.ret d e2) s o p
  refine ⟨F1, env1, s1, q1.imp ?_⟩
  rintro v H1 ⟨d, env2, F2, g, o2, s2, dp, p⟩
  exact p v σ F2 H1 (Go.refl _ _ _) (fun a z => .inl (o2 a z)) s2 dp
theorem retN_rd {n : Nat} {Z : Ends} {σ : L2.St} {H : Hp} (q : TS' ba X W (evS Φ n .retN) Z σ H) : tRetN Z σ H := by
  obtain ⟨F, env, M, s, o, p⟩ := q
  exact p .non σ F H (Go.refl _ _ _) (fun a z => .inl (o a z)) s .non
theorem nx_rd {Z : Ends} {σ : L2.St} {H : Hp} (q : TS' ba X W (fun env => .nxt env) Z σ H) : tNext Z σ H := by
  obtain ⟨F, env, M, s, o, p⟩ := q
  exact here p s o
theorem brk_rd {n : Nat} {Z : Ends} {σ : L2.St} {H : Hp} (q : TS' ba X W (evS Φ n .brk) Z σ H) : tBreak Z σ H := by
  obtain ⟨F, env, M, s, o, p⟩ := q
  exact p σ F H (Go.refl _ _ _) (fun a z => .inl (o a z)) s
theorem cnt_rd {n : Nat} {Z : Ends} {σ : L2.St} {H : Hp} (q : TS' ba X W (evS Φ n .cnt) Z σ H) : tCont Z σ H := by
  obtain ⟨F, env, M, s, o, p⟩ := q
  exact p σ F H (Go.refl _ _ _) (fun a z => .inl (o a z)) s
theorem ite_rd {t : IE} {a b : ISs} {n : Nat} {Z : Ends} {σ : L2.St} {H : Hp} (q : TS' ba X W (evS Φ n (.ite t a b)) Z σ H) : tIfS (tB' ba X.K X.mg W (evT Φ t)) (TS' ba X W (evSs Φ n a)) (TS' ba X W (evSs Φ n b)) Z σ H := by
  obtain ⟨F, env, M, s, o, p⟩ := q
  refine ⟨F, env, s, (FPost.toF (Rel := RI σ H) o p).imp ?_⟩
  rintro b' H1 ⟨c, env1, F1, g, o1, s1, r, p⟩
  have r : c = b' := r
  subst r
  cases c with
  | true => exact if_T rfl ⟨F1, env1, Up M H, s1, fun a z => .inl (o a (o1 a z)), p⟩
  | false => exact if_F rfl ⟨F1, env1, Up M H, s1, fun a z => .inl (o a (o1 a z)), p⟩
theorem for_rd {tg : Tg} {it : II} {b : ISs} {n : Nat} {Z : Ends} {σ : L2.St} {H : Hp} (q : TS' ba X W (evS Φ n (.for_ tg it b)) Z σ H) : tFor (tI ba X.K X.mg W (evI Φ it)) (gT X.K tg) (TS' ba X W (evSs Φ n b)) Z σ H := by
  obtain ⟨F, env, M, s, o, p⟩ := q
  refine ⟨F, env, s, (FPost.toF (Rel := RY X.K σ H) o p).imp ?_⟩
  rintro J H1 ⟨ds, env1, F1, g, o1, s1, y, p⟩
  refine for_loop (g := gT X.K tg) (tb := TS' ba X W (evSs Φ n b)) y s1 (fun a z => .inl (o a (o1 a z))) p ?_
  intro d env F H σ M x Z' s o dp p
  cases e1 : putT env tg d with
  | none => rw [e1] at p; exact p.elim
  | some e2 =>
    rw [e1] at p
    exact putT_ok s dp e1 fun σ3 s3 o3 _ => ⟨F, e2, M, s3, fun a z => o a (o3 a z), p⟩
theorem whl_rd {t : IE} {b : ISs} {n : Nat} {Z : Ends} {σ : L2.St} {H : Hp} (q : TS' ba X W (evS Φ n (.whl t b)) Z σ H) : tWhile (tB' ba X.K X.mg W (evT Φ t)) (TS' ba X W (evSs Φ n b)) Z σ H := by
  obtain ⟨F, env, M, s, o, p⟩ := q
  have p : FPost ba X.K X.mg W M F H Z (whlL (evT Φ t) (evSs Φ n b) n env) := p
  refine ⟨fun m σ H => ∃ F env M, Sim ba X.K F H σ env ∧ (∀ a, O σ env a → M a) ∧ FPost ba X.K X.mg W M F H Z (whlL (evT Φ t) (evSs Φ n b) m env), ⟨n, F, env, M, s, o, p⟩, ?_⟩
  rintro m σ H ⟨F, env, M, s, o, p⟩
  cases m with
  | zero => exact p.elim
  | succ m =>
    unfold whlL at p
    refine ⟨F, env, s, (FPost.toF (Rel := RI σ H) o p).imp ?_⟩
    rintro b' H1 ⟨c, env1, F1, g, o1, s1, r, p⟩
    have r : c = b' := r
    subst r
    have o1' : ∀ a, O σ env1 a → Up M H a := fun a z => .inl (o a (o1 a z))
    cases c with
    | false => exact if_F rfl (here p s1 o1')
    | true =>
      refine if_T rfl ⟨fun σ' H' => ∃ F env M, Sim ba X.K F H' σ' env ∧ (∀ a, O σ' env a → M a) ∧ FPost ba X.K X.mg W M F H' Z (whlL (evT Φ t) (evSs Φ n b) m env), fun σ' H' h => ⟨m, Nat.lt_succ_self m, h⟩, F1, env1, Up M H, s1, o1', ?_⟩
      have p : FPost ba X.K X.mg W (Up M H) F1 H1 Z (match evSs Φ n b env1 with
        | .nxt e' => whlL (evT Φ t) (evSs Φ n b) m e'
        | .cnt e' => whlL (evT Φ t) (evSs Φ n b) m e'
        | .brk e' => .nxt e'
        | r => r) := p
      cases e1 : evSs Φ n b env1 with
      | nxt e =>
        rw [e1] at p
        exact fun σ' F' H'' g' o' s' => ⟨F', e, Up (Up M H) H1, s', o', p.go g' fun x z => z⟩
      | cnt e =>
        rw [e1] at p
        exact fun σ' F' H'' g' o' s' => ⟨F', e, Up (Up M H) H1, s', o', p.go g' fun x z => z⟩
      | brk e => rw [e1] at p; exact p
      | ret d e => rw [e1] at p; exact p
      | exc c q e => rw [e1] at p; exact p
      | stuck => rw [e1] at p; exact p.elim
theorem seq_rd {a : IS} {b : ISs} {n : Nat} {Z : Ends} {σ : L2.St} {H : Hp} (q : TS' ba X W (evSs Φ n (.cons a b)) Z σ H) : tSeq (TS' ba X W (evS Φ n a)) (TS' ba X W (evSs Φ n b)) Z σ H := by
  obtain ⟨F, env, M, s, o, p⟩ := q
  refine ⟨F, env, M, s, o, ?_⟩
  have p : FPost ba X.K X.mg W M F H Z ((evS Φ n a env).bind fun e => evSs Φ n b e) := p
  cases e1 : evS Φ n a env with
  | nxt e =>
    rw [e1] at p
    have p : FPost ba X.K X.mg W M F H Z (evSs Φ n b e) := p
    exact fun σ' F' H'' g' o' s' => ⟨F', e, Up M H, s', o', p.go g' fun x z => z⟩
  | cnt e => rw [e1] at p; exact p
  | brk e => rw [e1] at p; exact p
  | ret d e => rw [e1] at p; exact p
  | exc c q e => rw [e1] at p; exact p
  | stuck => rw [e1] at p; exact p.elim
theorem raise_rd {C fI : Addr} (T : PySem.BadX.BadTxt X.K X.mg C fI) {e : IE} {n : Nat} {Z : Ends} {σ : L2.St} {H : Hp} (q : TS' ba X W (evS Φ n (.raise "BadValue" e)) Z σ H) : tRaiseBad C W (tCons (TE' ba X W (evE Φ e)) tNil) Z σ H := by
  obtain ⟨F, env, M, s, o, p⟩ := q
  obtain ⟨F1, env1, s1, q1⟩ := fkeep (k := fun d e2 => FR.exc "BadValue" d e2) s o p
  refine ⟨F1, env1, s1, q1.imp ?_⟩
  rintro v H1 ⟨d, env2, F2, g, o2, s2, dp, p⟩
  refine ⟨v, rfl, fun dd hd => ?_⟩
  have g3 : Go (Up M H) F2 H1 F2 (upd H1 dd (.xd [(("at" : Str), v)])) := Go.newM hd
  have f0 : F2 dd = none := by
    cases q : F2 dd with
    | none => rfl
    | some u => rw [s2.sub dd u q] at hd; cases hd
  exact p dd σ F2 _ g3 (fun a z => .inl (o2 a z)) (s2.go (M := fun _ => False) (Go.newM hd) (s2.sub.right f0) fun _ _ z => z) ⟨f0, v, upd_same, dp⟩ C T.gC
end
end PyE

set_option Elab.async false
set_option linter.all false
set_option autoImplicit false
set_option maxRecDepth 100000
set_option maxHeartbeats 4000000
/-! # What the statements' checker takes is run as the evaluator says -/
namespace PyE
open PySem PySem.Spec PyProof.Rows L2
section
variable {ba : Addr} {Φ : Fns} {Γ : Gam} {S : Sc} {m : Nat} {W : WX} {X : Cx}
theorem Sok.kind (C : Sok Φ Γ S m W X) : X.env.scope.kind = .function := by rw [C.hsc]; exact C.fk
theorem Sok.nd' (C : Sok Φ Γ S m W X) : X.N.Nodup := by rw [C.hN]; exact C.nd
theorem Sok.tr (C : Sok Φ Γ S m W X) (W' : WX) (pn : List (Addr × Obj)) (xe : Value → Shared → Prop) (tk : Takes (X.tr pn xe) W') (po : PassesOwn (model X.prog X.w) X.A X.env xe) : Sok Φ Γ S m W' (X.tr pn xe) :=
  ⟨⟨C.hN, C.nd, C.hsc, C.hfn, C.calm, C.room, tk, C.con, C.fn, C.blt, C.mb⟩, po, C.fk, C.stk, C.fr, C.pm, C.bad⟩
theorem assign_one {t : Expr} {env : Env} (h : notStar t = true) : (assignEach [t] env).map (·.2) = [assign t env] := by
  cases t <;> first | rfl | (exact absurd h (by simp [notStar]))
/-- name = e -/
theorem s_asg (C : Sok Φ Γ S m W X) {i : Nat} {e : IE} {y : Str} {py pos : Pos} {x : Expr} {n : Nat} (h1 : Γ.N[i]? = some y) (h2 : locB S y = true) (h3 : chkE Γ S e x = true) (h4 : (!swB S y py x || isLcE e) = true) : PS X (.Assign [.Name y py] x pos) (TS' ba X W (evS Φ n (.asg i e))) := by
  obtain ⟨l1, l2⟩ := C.loc h2
  cases hs : swB S y py x with
  | false => exact ps_imp (ps_set C.nd' (C.ix h1) l1 (sndE e C.toCok _ h3).1 (sw_not C.kind C.hsc hs) l2) fun Z σ H q => asg_rd rfl (X' := X) q
  | true =>
    rw [hs] at h4
    cases e <;> first | (cases h4; done) | skip
    · rename_i e tg it c own
      unfold chkE at h3
      split at h3
      · rename_i y' tgx itx ifs scope pos'
        simp only [Bool.and_eq_true] at h3
        obtain ⟨⟨⟨⟨⟨⟨h0, g1⟩, g2⟩, g3⟩, g4⟩, g5⟩, g6⟩ := h3
        obtain ⟨s1, s2⟩ := sw_yes (l := pos.line) C.kind C.hsc hs
        refine ps_imp (ps_setLc C.calm C.nd' (C.ix h1) s2 s1 (g := gT X.K tg) (tt := tB' ba X.K X.mg W0 (evC Φ c)) (te := tE ba X.K X.mg W0 (evE Φ e)) (sndI (ba := ba) it C.toCok _ _ g2) (blkok C.toCok h0) (fun s H A cl fp => pg_T (C.toCok.blk scope s H A cl fp) g3) (fun s H A cl fp => sndC c (C.toCok.blk scope s H A cl fp) _ g5)
          (fun s H A cl fp => (sndE e (C.toCok.blk scope s H A cl fp) _ g6).1) (folded_of g1)) fun Z σ H q => ?_
        rw [ownP_snd]
        have q' := asg_rd (X' := X) rfl q
        exact rd_lc (mem_all g4) q'
      · cases h3
    · rename_i e tg it c tg2 it2 c2 own own2
      unfold chkE at h3
      split at h3
      · rename_i y' tgx itx ifs tgx2 itx2 ifs2 scope pos'
        simp only [Bool.and_eq_true] at h3
        obtain ⟨⟨⟨⟨⟨⟨⟨⟨⟨⟨⟨⟨h0, g1⟩, g1'⟩, g2⟩, g3⟩, g4⟩, g5⟩, g6⟩, g7⟩, g8⟩, g9⟩, g10⟩, g11⟩ := h3
        obtain ⟨s1, s2⟩ := sw_yes (l := pos.line) C.kind C.hsc hs
        refine ps_imp (ps_setLc2 C.calm C.nd' (C.ix h1) s2 s1 (g := gT X.K tg) (g1 := gT X.K tg2) (vs1 := own2) (tt := tB' ba X.K X.mg W0 (evC Φ c)) (te := tE ba X.K X.mg W0 (evE Φ e)) (wi1 := tI ba X.K X.mg W0 (evI Φ it2)) (tt1 := tB' ba X.K X.mg W0 (evC Φ c2)) (sndI (ba := ba) it C.toCok _ _ g2) (blkok C.toCok h0) (fun i hi => by rw [ownP_snd]; exact mem_all g6 i hi)
          (fun s H A cl fp => pg_T (C.toCok.blk scope s H A cl fp) g3) (fun s H A cl fp => sndC c (C.toCok.blk scope s H A cl fp) _ g5)
          (fun s H A cl fp => sndI (ba := ba) it2 (C.toCok.blk scope s H A cl fp) _ _ g7) (fun s H A cl fp => pg_T (C.toCok.blk scope s H A cl fp) g8) (fun s H A cl fp => sndC c2 (C.toCok.blk scope s H A cl fp) _ g10)
          (fun s H A cl fp => (sndE e (C.toCok.blk scope s H A cl fp) _ g11).1) (folded_of g1) (fun env x => folded_of g1' x)) fun Z σ H q => ?_
        rw [ownP_snd]
        have q' := asg_rd (X' := X) rfl q
        exact rd_lc2 (mem_all g4) (mem_all g9) (mem_all g6) q'
      · cases h3
/-- a, b = x, y -/
theorem swap2 {x y : Str} {px py pt pt2 : Pos} {kt k2 : Nat} {a b : Expr} {env : Env} (hk : env.scope.kind = .function) (hx : env.scope.names.lookup x = some .local) (hy : env.scope.names.lookup y = some .local) (hl : (px.line == py.line) = true) (ha : notStar a = true) (hb : notStar b = true)
    (h1 : [a, b].all (foldedForSure 8) = false) (h2 : [a, b].all (constantsAlone 8) = false) (hne : x ≠ y) :
    swappedStores [.Tuple [.Name x px, .Name y py] kt pt] (.Tuple [a, b] k2 pt2) env = pure (some [x, y]) := by
  have kx : (env.kindOf x == some .local) = true := by rw [show env.kindOf x = some .local from hx]; rfl
  have ky : (env.kindOf y == some .local) = true := by rw [show env.kindOf y = some .local from hy]; rfl
  have hbk : env.blockKind = .function := by unfold Env.blockKind; rw [hk]; rfl
  have hl' : px.line = py.line := eq_of_beq hl
  have er : [x, y].eraseDups = [x, y] := by
    have : (y == x) = false := by simpa using (Ne.symm hne)
    simp [List.eraseDups, List.eraseDupsBy, List.eraseDupsBy.loop, this]
  unfold swappedStores
  simp only [hbk, h1, h2, List.any_cons, List.any_nil, List.filterMap_cons, List.filterMap_nil, List.head?_cons, Option.map_some, Option.getD_some, Expr.pos, kx, ky, hl', beq_self_eq_true, Bool.and_self, if_true, er, List.length_cons, List.length_nil, pure_bind]
  rw [if_neg (by decide)]
  split
  · exact absurd ha (by simp [notStar])
  split
  · exact absurd hb (by simp [notStar])
  rfl
theorem swap3 {x y z : Str} {px py pz pt pt2 : Pos} {kt k2 : Nat} {a b c : Expr} {env : Env} (hk : env.scope.kind = .function) (hx : env.scope.names.lookup x = some .local) (hy : env.scope.names.lookup y = some .local) (hz : env.scope.names.lookup z = some .local) (hl : (px.line == py.line) = true) (hl2 : (px.line == pz.line) = true) (ha : notStar a = true) (hb : notStar b = true) (hc : notStar c = true)
    (h1 : [a, b, c].all (foldedForSure 8) = false) (h2 : [a, b, c].all (constantsAlone 8) = false) (hne : x ≠ y ∧ x ≠ z ∧ y ≠ z) :
    swappedStores [.Tuple [.Name x px, .Name y py, .Name z pz] kt pt] (.Tuple [a, b, c] k2 pt2) env = pure (some [x, y, z]) := by
  have kx : (env.kindOf x == some .local) = true := by rw [show env.kindOf x = some .local from hx]; rfl
  have ky : (env.kindOf y == some .local) = true := by rw [show env.kindOf y = some .local from hy]; rfl
  have kz : (env.kindOf z == some .local) = true := by rw [show env.kindOf z = some .local from hz]; rfl
  have hbk : env.blockKind = .function := by unfold Env.blockKind; rw [hk]; rfl
  have hl' : px.line = py.line := eq_of_beq hl
  have hl2' : py.line = pz.line := hl'.symm.trans (eq_of_beq hl2)
  have er : [x, y, z].eraseDups = [x, y, z] := by
    have e1 : (y == x) = false := by simpa using (Ne.symm hne.1)
    have e2 : (z == x) = false := by simpa using (Ne.symm hne.2.1)
    have e3 : (z == y) = false := by simpa using (Ne.symm hne.2.2)
    simp [List.eraseDups, List.eraseDupsBy, List.eraseDupsBy.loop, e1, e2, e3]
  unfold swappedStores
  simp only [hbk, h1, h2, List.any_cons, List.any_nil, List.filterMap_cons, List.filterMap_nil, List.head?_cons, Option.map_some, Option.getD_some, Expr.pos, kx, ky, kz, hl', hl2', beq_self_eq_true, Bool.and_self, if_true, er, List.length_cons, List.length_nil, pure_bind]
  rw [if_neg (by decide)]
  split
  · exact absurd ha (by simp [notStar])
  split
  · exact absurd hb (by simp [notStar])
  split
  · exact absurd hc (by simp [notStar])
  rfl
end
end PyE

set_option Elab.async false
set_option linter.all false
set_option autoImplicit false
set_option maxRecDepth 100000
set_option maxHeartbeats 4000000
/-! # Every statement that the checker takes is run as the evaluator says -/
namespace PyE
open PySem PySem.Spec PyProof.Rows L2
section
variable {ba : Addr} {Φ : Fns} {Γ : Gam} {S : Sc} {m : Nat} {W : WX} {X : Cx}
theorem p_kv (C : Sok Φ Γ S m W X) {e : IE} {x : Expr} (hc : chkKV Γ S e x = true) (a : Addr) (pn : List (Addr × Obj)) : ∃ te : TE, PE (X.suite a pn) x te ∧ ∀ σ H Q, (match e with
    | .k d => ∀ v, (∀ F, Dp X.K F v d) → Q v H
    | .v j => ∃ v, σ[j]? = some (some v) ∧ Q v H
    | _ => False) → te σ H Q := by
  cases e <;> first | (cases hc; done) | skip
  · rename_i d
    have hc : chkE Γ S (.k d) x = true := hc
    unfold chkE at hc
    split at hc
    · rename_i c j pos
      unfold constOk at hc
      split at hc
      · exact ⟨_, pe_non, fun σ H Q h => h _ fun F => .non⟩
      · have := eq_of_beq hc; subst this; exact ⟨_, pe_bl, fun σ H Q h => h _ fun F => .bl _⟩
      · have := eq_of_beq hc; subst this; exact ⟨_, pe_int, fun σ H Q h => h _ fun F => .int _⟩
      · have := eq_of_beq hc; subst this; exact ⟨_, pe_str, fun σ H Q h => h _ fun F => .str _⟩
      · cases hc
    · cases hc
  · rename_i i
    have hc : chkE Γ S (.v i) x = true := hc
    unfold chkE at hc
    split at hc
    · rename_i n pos
      simp only [Bool.and_eq_true, decide_eq_true_eq] at hc
      obtain ⟨o1, o2, o3⟩ := okName_of hc.2
      exact ⟨_, pe_var (X := X.suite a pn) (i := i) (C.ix hc.1.1) (C.vis hc.1.2) o1 o2, fun σ H Q h => h⟩
    · cases hc
theorem s_try (C : Sok Φ Γ S m W X) {b : ISs} {i : Nat} {e : IE} {k : Nat} {y : List Stmt} {n : Str} {x : Expr} {p1 p2 p3 p4 p5 p6 pos : Pos} (hg : glB S.sc "BadValue" = true) (hi : Γ.N[i]? = some n) (hn : S.sc.names.lookup n = some .local) (ho : okName n = true) (hs : notSet x = true) (he : chkKV Γ S e x = true)
    (hb : ∀ (W' : WX) (pn : List (Addr × Obj)) (xe : Value → Shared → Prop), Sok Φ Γ S m W' (X.tr pn xe) → PSs (X.tr pn xe) y (TS' ba X W' (evSs Φ k b))) :
    PS X (.Try y [.ExceptHandler (some (.Name "BadValue" p1)) (some n) [.Return (some (.Compare (.Attribute (.Name n p2) "at" p3) [.Eq] [x] p4)) p5] p6] [] [] pos) (TS' ba X W (evS Φ k (.tryAt b "BadValue" i e))) := by
  obtain ⟨Cl, fI, T⟩ := C.bad
  obtain ⟨o1, o2, o3⟩ := okName_of ho
  have hk : X.env.kindOf n = some .local := by show X.env.scope.names.lookup n = _; rw [C.hsc]; exact hn
  have te : ∀ (a : Addr) (pn : List (Addr × Obj)), ∃ te : TE, PE (X.suite a pn) x te ∧ ∀ σ H Q, (match e with
    | .k d => ∀ v, (∀ F, Dp X.K F v d) → Q v H
    | .v j => ∃ v, σ[j]? = some (some v) ∧ Q v H
    | _ => False) → te σ H Q := fun a pn => p_kv C he a pn
  let ts : Addr → Value → Option Addr → TS := fun a cls d => fun Z σ H => tAtBad Cl a cls d (tVar i) σ H fun v1 H1 => (match e with
    | .k d => ∀ v, (∀ F, Dp X.K F v d) → rCmp X.K .Eq v1 v H1 Z.rt
    | .v j => ∃ v, σ[j]? = some (some v) ∧ rCmp X.K .Eq v1 v H1 Z.rt
    | _ => False)
  refine ps_imp (ps_try_as (i := i) (c := .ref Cl) (tb := fun W' => TS' ba X W' (evSs Φ k b)) (ts := ts) (Wout := W) C.stk C.fr C.nd' (C.ix hi) hk ⟨C.gl hg, by decide, .inl T.gC⟩ C.tk (fun W' pn xe tk po => hb W' pn xe (C.tr W' pn xe tk po)) ?_) ?_
  · intro a oe cls d pn hz hf
    obtain ⟨te, h1, h2⟩ := te a ((a, oe) :: pn)
    refine pss_imp (pss_one (ps_ret (pe_cmpR (opCmp (X := X.suite a ((a, oe) :: pn)) C.hu .Eq) (pe_atBad T hz hf (pe_var (X := X.suite a ((a, oe) :: pn)) (C.ix hi) (.inl hk) o1 o2)) h1 (marks_of .Eq hs)))) ?_
    rintro Z σ H ⟨v, e1, z1, z2, dd, v2, z3, z4, q⟩
    refine ⟨v, e1, z1, z2, dd, v2, z3, z4, ?_⟩
    exact h2 σ H _ q
  · rintro Z σ H ⟨F, env, M, s, o, p⟩
    refine ⟨F, env, M, s, o, ?_⟩
    unfold evS at p
    cases e1 : evSs Φ k b env with
    | nxt e' => rw [e1] at p; exact p
    | cnt e' => rw [e1] at p; exact p
    | brk e' => rw [e1] at p; exact p
    | ret d e' => rw [e1] at p; exact p
    | stuck => rw [e1] at p; exact p.elim
    | exc c' xx env2 =>
      rw [e1] at p
      have pq : FPost ba X.K X.mg W M F H Z (if (("BadValue" : Str) == c' && decide (i < env2.length)) = true then (match e with
        | .k d => (match cmpD .Eq xx d with | some b => FR.ret (.bool b) env2 | none => .stuck)
        | .v j => (match env2[j]? with
          | some (.sh d) => if i == j then .stuck else (match cmpD .Eq xx d with | some b => FR.ret (.bool b) env2 | none => .stuck)
          | _ => .stuck)
        | _ => .stuck) else .stuck) := p
      clear p
      cases hc : (("BadValue" : Str) == c' && decide (i < env2.length)) with
      | false => rw [hc] at pq; exact pq.elim
      | true =>
        rw [hc, if_pos rfl] at pq
        simp only [Bool.and_eq_true, beq_iff_eq, decide_eq_true_eq] at hc
        obtain ⟨rfl, hl⟩ := hc
        intro d' σ' F' H' g o' s' xa C' hC'
        have : C' = Cl := by
          rw [T.gC] at hC'
          injection hC' with z
          injection z with z
          exact z.symm
        subst this
        obtain ⟨x0, v, x1, x2⟩ := xa
        refine ⟨true, T.te, fun _ a ha => ?_, fun z => by cases z⟩
        have hl' : i < σ'.length := by rw [← s'.len]; exact hl
        have fin : ∀ {d : D} {v2 : V}, Dp X.K F' v2 d → FPost ba X.K X.mg W M F H Z (match cmpD .Eq xx d with | some b => FR.ret (.bool b) env2 | none => .stuck) → rCmp X.K .Eq v v2 H' Z.rt := by
          intro d v2 r p
          cases e2 : cmpD .Eq xx d with
          | none => rw [e2] at p; exact p.elim
          | some b =>
            rw [e2] at p
            exact ⟨F', xx, d, b, s'.sub, VR.of s'.sub x2, VR.of s'.sub r, e2, p (.bl b) σ' F' H' g o' s' (.bl b)⟩
        refine ⟨.ref a, List.getElem?_set_self hl', rfl, rfl, d', v, rfl, x1, ?_⟩
        cases e with
        | k d => exact fun v2 r => fin (r F') pq
        | v j =>
          have p : FPost ba X.K X.mg W M F H Z (match env2[j]? with
            | some (.sh d) => if (i == j) = true then .stuck else (match cmpD .Eq xx d with | some b => FR.ret (.bool b) env2 | none => .stuck)
            | _ => .stuck) := pq
          cases e3 : env2[j]? with
          | none => rw [e3] at p; exact p.elim
          | some sl =>
            rw [e3] at p
            cases sl with
            | sh d =>
              have p : FPost ba X.K X.mg W M F H Z (if (i == j) = true then .stuck else (match cmpD .Eq xx d with | some b => FR.ret (.bool b) env2 | none => .stuck)) := p
              cases hij : (i == j) with
              | true => rw [hij] at p; exact p.elim
              | false =>
                rw [hij] at p
                obtain ⟨v2, q1, q2⟩ := s'.sh j d e3
                have hne : i ≠ j := by simpa using hij
                exact ⟨v2, by rw [List.getElem?_set_ne hne]; exact q1, fin q2 p⟩
            | _ => exact p.elim
        | _ => exact pq.elim
mutual
theorem sndS : ∀ (s : IS) {W : WX} {X : Cx} (C : Sok Φ Γ S m W X) (n : Nat) (st : Stmt), chkS Γ S s st = true → PS X st (TS' ba X W (evS Φ n s))
  | .asg i e, W, X, C, n, st, hc => by
    unfold chkS at hc
    split at hc
    · rename_i y py x pos
      simp only [Bool.and_eq_true, decide_eq_true_eq] at hc
      obtain ⟨⟨⟨h1, h2⟩, h3⟩, h4⟩ := hc
      exact s_asg C h1 h2 h3 h4
    · cases hc
  | .asgT is e, W, X, C, n, st, hc => by
    unfold chkS at hc
    split at hc
    · rename_i ts k p x pos
      simp only [Bool.and_eq_true] at hc
      obtain ⟨⟨⟨h1, h2⟩, h3⟩, h4⟩ := hc
      exact ps_imp (ps_asg (sndE e C.toCok _ h2).1 (pg_T C.toCok (tg := .many is) h1) (sw0 h4) (ss_tup h3)) fun Z σ H q => asgT_rd q
    · cases hc
  | .par is es, W, X, C, n, st, hc => by
    unfold chkS at hc
    split at hc
    · rename_i ts k p xs k2 p2 pos
      simp only [Bool.and_eq_true] at hc
      obtain ⟨⟨h1, h2⟩, h3⟩ := hc
      unfold parOk at h3
      split at h3
      · rename_i x px y py a b
        simp only [Bool.and_eq_true, beq_iff_eq, Bool.not_eq_true', decide_eq_true_eq] at h3
        obtain ⟨⟨⟨⟨⟨⟨⟨g1, g2⟩, g3⟩, g4⟩, g5⟩, g6⟩, g7⟩, g8⟩ := h3
        match is, h1 with
        | [i, j], h1 =>
          simp only [chkNm, Bool.and_eq_true, decide_eq_true_eq] at h1
          obtain ⟨⟨i1, i2⟩, ⟨j1, j2⟩, _⟩ := h1
          have hij : i ≠ j := fun z => g8 (by rw [z, j1] at i1; exact (Option.some.inj i1).symm)
          rw [← C.hsc] at g1 g2
          refine ps_imp (ps_par C.calm C.nd' (C.ix i1) (C.ix j1) hij g1 g2 (sndEs (ba := ba) es C.toCok _ h2) (swap2 C.kind g1 g2 (by rw [g3]; exact beq_self_eq_true _) g4 g5 g6 g7 g8)) fun Z σ H q => ?_
          have q' := par_rd q
          obtain ⟨F, env, s, q'⟩ := q'
          refine ⟨F, env, s, q'.imp ?_⟩
          rintro vs H1 ⟨v, r, rfl, w, r2, rfl, rfl, z⟩
          exact ⟨v, w, rfl, z⟩
        | [], h1 => cases h1
        | [i], h1 => simp [chkNm] at h1
        | i :: j :: l :: r, h1 => simp [chkNm] at h1
      · rename_i x px y py z pz a b c
        simp only [Bool.and_eq_true, beq_iff_eq, Bool.not_eq_true', decide_eq_true_eq] at h3
        obtain ⟨⟨⟨⟨⟨⟨⟨⟨⟨⟨g1, g2⟩, g2'⟩, g3⟩, g3'⟩, g4⟩, g5⟩, g5'⟩, g6⟩, g7⟩, g8⟩ := h3
        match is, h1 with
        | [i, j, l], h1 =>
          simp only [chkNm, Bool.and_eq_true, decide_eq_true_eq] at h1
          obtain ⟨⟨i1, i2⟩, ⟨j1, j2⟩, ⟨l1, l2⟩, _⟩ := h1
          have hij : i ≠ j := fun z => g8.1 (by rw [z, j1] at i1; exact (Option.some.inj i1).symm)
          have hil : i ≠ l := fun z => g8.2.1 (by rw [z, l1] at i1; exact (Option.some.inj i1).symm)
          have hjl : j ≠ l := fun z => g8.2.2 (by rw [z, l1] at j1; exact (Option.some.inj j1).symm)
          rw [← C.hsc] at g1 g2 g2'
          refine ps_imp (ps_par3 C.calm C.nd' (C.ix i1) (C.ix j1) (C.ix l1) hij hil hjl g1 g2 g2' (sndEs (ba := ba) es C.toCok _ h2) (swap3 C.kind g1 g2 g2' (by rw [g3]; exact beq_self_eq_true _) (by rw [g3']; exact beq_self_eq_true _) g4 g5 g5' g6 g7 g8)) fun Z σ H q => ?_
          have q' := par_rd q
          obtain ⟨F, env, s, q'⟩ := q'
          refine ⟨F, env, s, q'.imp ?_⟩
          rintro vs H1 ⟨v, r, rfl, w, r2, rfl, u, r3, rfl, rfl, z⟩
          exact ⟨v, w, u, rfl, z⟩
        | [], h1 => cases h1
        | [i], h1 => simp [chkNm] at h1
        | [i, j], h1 => simp [chkNm] at h1
        | i :: j :: l :: l2 :: r, h1 => simp [chkNm] at h1
      · cases h3
    · cases hc
  | .asg2 i j e, W, X, C, n, st, hc => by
    unfold chkS at hc
    split at hc
    · simp only [Bool.and_eq_true, decide_eq_true_eq] at hc
      obtain ⟨⟨⟨⟨h1, h2⟩, h3⟩, h4⟩, h5⟩ := hc
      obtain ⟨l1, l2⟩ := C.loc h2
      obtain ⟨k1, k2⟩ := C.loc h4
      exact ps_imp (ps_asg2 (sndE e C.toCok _ h5).1 (pg_name C.nd' (C.ix h1) l1 l2) (pg_name C.nd' (C.ix h3) k1 k2)) fun Z σ H q => asg2_rd q
    · cases hc
  | .aug i op e, W, X, C, n, st, hc => by
    unfold chkS at hc
    split at hc
    · simp only [Bool.and_eq_true, decide_eq_true_eq, Bool.or_eq_true] at hc
      obtain ⟨⟨⟨⟨h1, h2⟩, rfl⟩, h3⟩, h4⟩ := hc
      obtain ⟨l1, l2⟩ := C.loc h2
      rcases h3 with rfl | rfl
      · exact ps_imp (ps_aug C.nd' (C.ix h1) l1 (sndE e C.toCok _ h4).1 ip_add l2) fun Z σ H q => aug_rd (fun _ _ => rfl) q
      · exact ps_imp (ps_aug C.nd' (C.ix h1) l1 (sndE e C.toCok _ h4).1 ip_sub l2) fun Z σ H q => aug_rd (fun _ _ => rfl) q
    · cases hc
  | .app i e, W, X, C, n, st, hc => by
    unfold chkS at hc
    split at hc
    · rename_i y py mm ap x cp pos
      simp only [Bool.and_eq_true, decide_eq_true_eq, beq_iff_eq] at hc
      obtain ⟨⟨⟨⟨⟨⟨h1, h2⟩, h3⟩, rfl⟩, h5⟩, h6⟩, h7⟩ := hc
      obtain ⟨o1, o2, o3⟩ := okName_of h3
      refine ps_imp (ps_expr (pe_bm PySem.F.plainAttrs_list PySem.F.slot_list_append PySem.F.type_list_append mt_append (pe_var (C.ix h1) (C.vis h2) o1 o2) (pa_cons (sndE e C.toCok _ h7).1 pa_nil (star_of h6)) rfl (by rw [star_of h6]; rfl) (by rw [h5]; exact beq_self_eq_true _) (star_of h6) rfl) rfl) fun Z σ H q => app_rd q
    · cases hc
  | .set i a e, W, X, C, n, st, hc => by
    unfold chkS at hc
    split at hc
    · rename_i y py z tp x pos
      simp only [Bool.and_eq_true, decide_eq_true_eq, Bool.not_eq_true'] at hc
      obtain ⟨⟨⟨⟨⟨⟨⟨h1, h2⟩, h3⟩, h4⟩, h5⟩, h6⟩, h7⟩, h8⟩ := hc
      obtain ⟨o1, o2, o3⟩ := okName_of h3
      have ha : ∀ v, assign (.Subscript (.Name y py) z tp) X.env v = (do
          let ov ← holding [v] (eval (.Name y py) X.env)
          let iv ← holding [v, ov] (eval z X.env)
          standAt tp
          holding [v, ov, iv] (setItem ov iv v)
          release [v, ov, iv] []) := fun v => by
        cases z <;> first | rfl | (exact absurd h4 (by simp [notSlice]))
      refine ps_imp (ps_asg (sndE e C.toCok _ h8).1 (pg_sub (pe_var (C.ix h1) (C.vis h2) o1 o2) (sndE a C.toCok _ h7).1 set_list ha) (sw0 h5) (ss_one (fun _ _ _ q => by cases q) fun _ _ q => by cases q)) fun Z σ H q => set_rd q
    · cases hc
  | .ex e, W, X, C, n, st, hc => by
    unfold chkS at hc
    split at hc
    · simp only [Bool.and_eq_true] at hc
      exact ps_imp (ps_expr (sndE e C.toCok _ hc.2).1 (swaps_of hc.1)) fun Z σ H q => ex_rd q
    · cases hc
  | .ret e, W, X, C, n, st, hc => by
    unfold chkS at hc
    split at hc
    · exact ps_imp (ps_ret (sndE e C.toCok _ hc).1) fun Z σ H q => ret_rd q
    · cases hc
  | .retN, W, X, C, n, st, hc => by
    unfold chkS at hc
    split at hc
    · exact ps_imp ps_retN fun Z σ H q => retN_rd q
    · cases hc
  | .ite t a b, W, X, C, n, st, hc => by
    unfold chkS at hc
    split at hc
    · simp only [Bool.and_eq_true] at hc
      exact ps_imp (ps_if (sndE t C.toCok _ hc.1.1).2.1 (sndSs a C n _ hc.1.2) (sndSs b C n _ hc.2)) fun Z σ H q => ite_rd q
    · cases hc
  | .for_ tg it b, W, X, C, n, st, hc => by
    unfold chkS at hc
    split at hc
    · simp only [Bool.and_eq_true] at hc
      obtain ⟨⟨⟨h1, h2⟩, h3⟩, h4⟩ := hc
      exact ps_imp (ps_for C.po C.calm (sndI it C.toCok _ _ h2) (pg_T C.toCok h3) (sndSs b C n _ h4) (folded_of h1)) fun Z σ H q => for_rd q
    · cases hc
  | .whl t b, W, X, C, n, st, hc => by
    unfold chkS at hc
    split at hc
    · simp only [Bool.and_eq_true] at hc
      exact ps_imp (ps_while C.po (sndE t C.toCok _ hc.1).2.1 (sndSs b C n _ hc.2)) fun Z σ H q => whl_rd q
    · cases hc
  | .pop i, W, X, C, n, st, hc => by
    unfold chkS at hc
    split at hc
    · simp only [Bool.and_eq_true, decide_eq_true_eq, beq_iff_eq] at hc
      obtain ⟨⟨⟨⟨h1, h2⟩, h3⟩, rfl⟩, h5⟩ := hc
      obtain ⟨o1, o2, o3⟩ := okName_of h3
      exact ps_imp (ps_expr (pe_bm0 PySem.F.plainAttrs_list PySem.F.slot_list_pop PySem.F.type_list_pop mt_pop (pe_var (C.ix h1) (C.vis h2) o1 o2) rfl (by rw [h5]; exact beq_self_eq_true _)) rfl) fun Z σ H q => pop_rd q
    · cases hc
  | .raise0, W, X, C, n, st, hc => ps_false fun Z σ H q => by
    obtain ⟨F, env, M, s, o, p⟩ := q
    exact p.elim
  | .brk, W, X, C, n, st, hc => by
    unfold chkS at hc
    split at hc
    · exact ps_imp ps_break fun Z σ H q => brk_rd q
    · cases hc
  | .cnt, W, X, C, n, st, hc => by
    unfold chkS at hc
    split at hc
    · exact ps_imp ps_continue fun Z σ H q => cnt_rd q
    · cases hc
  | .pass, W, X, C, n, st, hc => by
    unfold chkS at hc
    split at hc
    · exact ps_imp ps_pass fun Z σ H q => nx_rd q
    · cases hc
  | .raise c e, W, X, C, n, st, hc => by
    unfold chkS at hc
    split at hc
    · rename_i g p x p2 p3
      simp only [Bool.and_eq_true, beq_iff_eq] at hc
      obtain ⟨⟨⟨⟨rfl, rfl⟩, h1⟩, h2⟩, h3⟩ := hc
      obtain ⟨Cl, fI, T⟩ := C.bad
      exact ps_imp (ps_raiseBad C.calm T C.room C.tk (pa_cons (sndE e C.toCok _ h3).1 pa_nil (star_of h2)) (C.gl h1) (star_of h2) rfl) fun Z σ H q => raise_rd T q
    · cases hc
  | .tryAt b c i e, W, X, C, n, st, hc => by
    unfold chkS at hc
    split at hc
    · rename_i y g p1 nn n' p2 f p3 x p4 p5 p6 pos
      simp only [Bool.and_eq_true, beq_iff_eq, decide_eq_true_eq] at hc
      obtain ⟨⟨⟨⟨⟨⟨⟨⟨⟨⟨rfl, rfl⟩, h1⟩, h2⟩, h3⟩, rfl⟩, h4⟩, rfl⟩, h5⟩, h6⟩, h7⟩ := hc
      exact s_try C h1 h2 h3 h4 h5 h6 fun W' pn xe C' => sndSs b C' n _ h7
    · cases hc
theorem sndSs : ∀ (b : ISs) {W : WX} {X : Cx} (C : Sok Φ Γ S m W X) (n : Nat) (sts : List Stmt), chkSs Γ S b sts = true → PSs X sts (TS' ba X W (evSs Φ n b))
  | .nil, W, X, C, n, sts, hc => by
    unfold chkSs at hc
    split at hc
    · exact pss_imp pss_nil fun Z σ H q => nx_rd q
    · cases hc
  | .cons s r, W, X, C, n, sts, hc => by
    unfold chkSs at hc
    split at hc
    · simp only [Bool.and_eq_true] at hc
      exact pss_imp (pss_cons (sndS s C n _ hc.1) (sndSs r C n _ hc.2)) fun Z σ H q => seq_rd q
    · cases hc
end
end
end PyE

set_option Elab.async false
set_option linter.all false
set_option autoImplicit false
set_option maxRecDepth 100000
set_option maxHeartbeats 4000000
/-! # Defs: a table of them, what they promise -/
namespace PyE
open PySem PySem.Spec PyProof.Rows L2
structure Df where
  name : Str
  N : List Str
  ar : Nat
  fuel : Nat
  body : ISs
  bor : Bool := false
def env0 (N : List Str) (ds : List D) : SEnv := ds.map Sl.sh ++ List.replicate (N.length - ds.length) .no
def frR : FR → FRes
  | .ret x _ => .ret x []
  | .nxt _ => .ret .none []
  | .exc c x _ => .exc c x []
  | _ => .stuck
/-- the first argument is a list that is lent -/
def env0B (N : List Str) (bs : List D) (ds : List D) : SEnv := .bor bs :: env0 (N.drop 1) ds
def lentB (e : List Sl) (f : List D → FRes) : FRes := match e[0]? with
  | some (Sl.bor b) => f b
  | _ => .stuck
def frB : FR → FRes
  | .ret x e => lentB e fun b => .ret x b
  | .nxt e => lentB e fun b => .ret .none b
  | .exc c x e => lentB e fun b => .exc c x b
  | _ => .stuck
def runB (Φ : Fns) (d : Df) : List D → FRes
  | .list bs :: ds => frB (evSs Φ d.fuel d.body (env0B d.N bs ds))
  | _ => .stuck
def runDf (Φ : Fns) (d : Df) : FnSem := match d.bor with
  | false => { arity := d.ar, bor := false, run := fun ds => frR (evSs Φ d.fuel d.body (env0 d.N ds)) }
  | true => { arity := d.ar, bor := true, run := runB Φ d }
def Phi (T : List Df) : Nat → Fns
  | 0 => fun _ => none
  | n + 1 => fun f => (T.find? fun d => d.name == f).map (runDf (Phi T n))
/-- what the top says of a def -/
structure DfOk (K : Frag) (mg : Str → Option Value) (con : List (Str × D)) (mb : List Str) (d : Df) : Prop where
  ex : ∃ fa fd st, L2.Fun K d.name d.name st fa fd ∧ mg d.name = some (.ref fa) ∧ PySem.W.keepIn K (.ref fa) = true ∧ (∀ us : List Value, us.length = (d.N.take d.ar).length → bindArgs fd ⟨us, []⟩ = pure ((d.N.take d.ar).zip us)) ∧ FnScope d.N (d.N.take d.ar) (defScope st) ∧
    chkSs ⟨d.N, con, mb⟩ ⟨defScope st, fun _ => true⟩ d.body (defBody st) = true ∧ d.ar ≤ d.N.length
structure TopOk (K : Frag) (mg : Str → Option Value) (con : List (Str × D)) (mb : List Str) (T : List Df) : Prop where
  df : ∀ d ∈ T, DfOk K mg con mb d
  con : ∀ x d, con.lookup x = some d → ∃ u v, mg x = some u ∧ RelV v u ∧ Dp K (fun _ => none) v d
  blt : ∀ x ∈ blts, mg x = none
  mbo : ∀ f : Mf, mb.contains (mfName f) = true → mg (mfName f) = some (.builtin (mfId f))
  bad : ∃ C fI, PySem.BadX.BadTxt K mg C fI
theorem sim0 {ba : Addr} {K : Frag} {F H : Hp} {N : List Str} {vs : List V} {ds : List D} (ex : Ex F H) (dp : DpAll K F vs ds) : Sim ba K F H (L2.start N vs) (env0 N ds) := by
  have hl := dpa_len dp
  have noM : ∀ {i : Nat} {es : List D}, ¬ Mine (env0 N ds) i es := by
    intro i es m
    have key : ∀ {sl : Sl}, (env0 N ds)[i]? = some sl → (∃ d, sl = .sh d) ∨ sl = .no := by
      intro sl e
      unfold env0 at e
      by_cases hi : i < (ds.map Sl.sh).length
      · rw [List.getElem?_append_left hi, List.getElem?_map] at e
        cases q : ds[i]? with
        | none => rw [q] at e; cases e
        | some d => rw [q] at e; exact .inl ⟨d, (Option.some.inj e).symm⟩
      · rw [List.getElem?_append_right (by omega)] at e
        exact .inr (List.eq_of_mem_replicate (List.mem_of_getElem? e))
    rcases m with m | m
    · rcases key m with ⟨_, z⟩ | z <;> cases z
    · rcases key m with ⟨_, z⟩ | z <;> cases z
  refine ⟨ex, ?_, fun i d e => ?_, fun i es m => absurd m noM, fun i es e => absurd (show Mine (env0 N ds) i es from .inr e) noM, fun i j a es fs m => absurd m noM⟩
  · unfold env0 L2.start
    rw [List.length_append, List.length_append, List.length_map, List.length_map, List.length_replicate, List.length_replicate, hl]
  · unfold env0 at e
    unfold L2.start
    by_cases hi : i < (ds.map Sl.sh).length
    · rw [List.getElem?_append_left hi, List.getElem?_map] at e
      cases q : ds[i]? with
      | none => rw [q] at e; cases e
      | some d' =>
        rw [q] at e
        cases e
        obtain ⟨v, h1, h2⟩ := dpa_get dp q
        refine ⟨v, ?_, h2⟩
        rw [List.getElem?_append_left (by rw [List.length_map]; rw [List.length_map] at hi; omega), List.getElem?_map, h1]
        rfl
    · rw [List.getElem?_append_right (by omega)] at e
      have := List.eq_of_mem_replicate (List.mem_of_getElem? e)
      cases this
theorem noO {N : List Str} {ds : List D} {σ : L2.St} {a : Addr} : ¬ O σ (env0 N ds) a := by
  rintro ⟨i, es, m, _⟩
  have key : ∀ {sl : Sl}, (env0 N ds)[i]? = some sl → (∃ d, sl = .sh d) ∨ sl = .no := by
    intro sl e
    unfold env0 at e
    by_cases hi : i < (ds.map Sl.sh).length
    · rw [List.getElem?_append_left hi, List.getElem?_map] at e
      cases q : ds[i]? with
      | none => rw [q] at e; cases e
      | some d => rw [q] at e; exact .inl ⟨d, (Option.some.inj e).symm⟩
    · rw [List.getElem?_append_right (by omega)] at e
      exact .inr (List.eq_of_mem_replicate (List.mem_of_getElem? e))
  rcases m with m | m
  · rcases key m with ⟨_, z⟩ | z <;> cases z
  · rcases key m with ⟨_, z⟩ | z <;> cases z
theorem noMine {N : List Str} {ds : List D} {i : Nat} {es : List D} : ¬ Mine (env0 N ds) i es := by
  intro m
  have key : ∀ {sl : Sl}, (env0 N ds)[i]? = some sl → (∃ d, sl = .sh d) ∨ sl = .no := by
    intro sl e
    unfold env0 at e
    by_cases hi : i < (ds.map Sl.sh).length
    · rw [List.getElem?_append_left hi, List.getElem?_map] at e
      cases q : ds[i]? with
      | none => rw [q] at e; cases e
      | some d => rw [q] at e; exact .inl ⟨d, (Option.some.inj e).symm⟩
    · rw [List.getElem?_append_right (by omega)] at e
      exact .inr (List.eq_of_mem_replicate (List.mem_of_getElem? e))
  rcases m with m | m
  · rcases key m with ⟨_, z⟩ | z <;> cases z
  · rcases key m with ⟨_, z⟩ | z <;> cases z
theorem start_cons {N : List Str} {x : V} {vr : List V} : L2.start N (x :: vr) = some x :: L2.start (N.drop 1) vr := by
  unfold L2.start
  rw [List.map_cons, List.cons_append, List.length_cons, List.length_drop]
  congr 3
  omega
theorem sim0B {K : Frag} {F H : Hp} {N : List Str} {a : Addr} {vr ws : List V} {bs ds : List D} (ex : Ex F H) (h1 : H a = some (.lst ws)) (h2 : F a = none) (al : DpAll K F ws bs) (dp : DpAll K F vr ds) : Sim a K F H (L2.start N (.ref a :: vr)) (env0B N bs ds) := by
  have s : Sim a K F H (L2.start (N.drop 1) vr) (env0 (N.drop 1) ds) := sim0 ex dp
  rw [start_cons]
  unfold env0B
  refine ⟨ex, by rw [List.length_cons, List.length_cons, s.len], fun i d e => ?_, fun i es m => ?_, fun i es e => ?_, fun i j b es fs m m' e1 e2 => ?_⟩
  · cases i with
    | zero => cases e
    | succ i => exact s.sh i d e
  · cases i with
    | zero =>
      rcases m with m | m
      · cases m
      · cases m
        exact ⟨a, ws, rfl, h1, h2, al⟩
    | succ i => exact absurd m noMine
  · cases i with
    | zero => rfl
    | succ i => exact absurd (show Mine (env0 (N.drop 1) ds) i es from .inr e) noMine
  · cases i with
    | zero =>
      cases j with
      | zero => rfl
      | succ j => exact absurd m' noMine
    | succ i => exact absurd m noMine
theorem onlyO {N : List Str} {bs ds : List D} {vr : List V} {a b : Addr} (h : O (L2.start N (.ref a :: vr)) (env0B N bs ds) b) : b = a := by
  obtain ⟨i, es, m, e⟩ := h
  rw [start_cons] at e
  cases i with
  | zero => cases e; rfl
  | succ i => exact absurd m noMine
section
variable {ba : Addr} {P : Program} {w : World} {K : Frag} {mg : Str → Option Value} {con : List (Str × D)} {mb : List Str} {T : List Df}
theorem fn_step (t : TopOk K mg con mb T) {n : Nat} (ih : ∀ (f : Str) (fs : FnSem), Phi T n f = some fs → ∃ fa fd ps, mg f = some (.ref fa) ∧ PySem.W.keepIn K (.ref fa) = true ∧ Binds K fd ps [] ∧ ∀ base : Heap, FnOk P w K mg base (L2.CX P w) (n + 1) fa fd ps (spF K mg fs)) {d : Df} (hd : d ∈ T) :
    ∃ fa fd, mg d.name = some (.ref fa) ∧ PySem.W.keepIn K (.ref fa) = true ∧ (∀ us : List Value, us.length = (d.N.take d.ar).length → bindArgs fd ⟨us, []⟩ = pure ((d.N.take d.ar).zip us)) ∧ ∀ base : Heap, FnOk P w K mg base (L2.CX P w) (n + 2) fa fd (d.N.take d.ar) (spF K mg (runDf (Phi T n) d)) := by
  obtain ⟨fa, fd, st, F, g, k, b, S, c, hl⟩ := (t.df d hd).ex
  have hps : (d.N.take d.ar).length = d.ar := by rw [List.length_take]; omega
  refine ⟨fa, fd, g, k, b, fun base => ?_⟩
  refine F.okX S (fun vs H Q E h => h.1.trans ((show (runDf (Phi T n) d).arity = d.ar by unfold runDf; cases d.bor <;> rfl).trans hps.symm)) fun cdv A outer s H vs Q E hr h => ?_
  let X := cxOf (L2.CX P w) P w K mg base d.N d.name (defScope st) fa cdv A outer s H E
  have ck : Sok (Phi T n) ⟨d.N, con, mb⟩ ⟨defScope st, fun _ => true⟩ (n + 1) (fun cls d _ H => E cls d H) X :=
    ⟨⟨rfl, S.nd, rfl, rfl, rfl, hr, takes_of rfl rfl rfl rfl, t.con, fun f fs e => by
      obtain ⟨fa', fd', ps', q1, q2, q3, q4⟩ := ih f fs e
      exact ⟨fa', fd', ps', q1, q2, q3, q4 base⟩, t.blt, t.mbo⟩, passes_of rfl, S.kind, rfl, rfl, Nat.le_add_left _ _, t.bad⟩
  cases hbo : d.bor with
  | false =>
    have hrd : runDf (Phi T n) d = { arity := d.ar, bor := false, run := fun ds => frR (evSs (Phi T n) d.fuel d.body (env0 d.N ds)) } := by unfold runDf; rw [hbo]
    rw [hrd] at h
    refine ⟨_, sndSs (ba := 0) d.body ck d.fuel _ c, ?_⟩
    obtain ⟨_, ⟨_, F0, ds, ex, dp, hrun⟩ | ⟨z, _⟩⟩ := h
    · refine ⟨F0, env0 d.N ds, fun _ => False, sim0 ex dp, fun a z => noO z, ?_⟩
      have hrun : match frR (evSs (Phi T n) d.fuel d.body (env0 d.N ds)) with
        | .ret d _ => ∀ v F' H', Go (fun _ => False) F0 H F' H' → Ex F' H' → Dp K F' v d → Q v H'
        | .exc c x _ => ∀ dd F' H', Go (fun _ => False) F0 H F' H' → Ex F' H' → XAt K F' H' dd x → ∀ C, mg c = some (.ref C) → E (.ref C) (some dd) H'
        | .stuck => False := hrun
      cases e1 : evSs (Phi T n) d.fuel d.body (env0 d.N ds) with
      | ret x e => rw [e1] at hrun; exact fun v σ' F' H' g o s dp => hrun v F' H' g s.sub dp
      | nxt e => rw [e1] at hrun; exact fun σ' F' H' g o s => hrun .non F' H' g s.sub .non
      | exc c x e => rw [e1] at hrun; exact fun dd σ' F' H' g o s xa => hrun dd F' H' g s.sub xa
      | brk e => rw [e1] at hrun; exact hrun.elim
      | cnt e => rw [e1] at hrun; exact hrun.elim
      | stuck => rw [e1] at hrun; exact hrun.elim
    · cases z
  | true =>
    have hrd : runDf (Phi T n) d = { arity := d.ar, bor := true, run := runB (Phi T n) d } := by unfold runDf; rw [hbo]
    rw [hrd] at h
    obtain ⟨_, ⟨z, _⟩ | ⟨_, F0, a, vr, ws, bs, ds, ev, ex, ha, fa', al, dp, hrun⟩⟩ := h
    · cases z
    · subst ev
      refine ⟨_, sndSs (ba := a) d.body ck d.fuel _ c, ?_⟩
      refine ⟨F0, env0B d.N bs ds, fun x => x = a, sim0B ex ha fa' al dp, fun b z => onlyO z, ?_⟩
      have hrun : match frB (evSs (Phi T n) d.fuel d.body (env0B d.N bs ds)) with
        | .ret d b' => ∀ v F' H' ws', Go (fun x => x = a) F0 H F' H' → Ex F' H' → H' a = some (.lst ws') → F' a = none → DpAll K F' ws' b' → Dp K F' v d → Q v H'
        | .exc c x b' => ∀ dd F' H' ws', Go (fun x => x = a) F0 H F' H' → Ex F' H' → H' a = some (.lst ws') → F' a = none → DpAll K F' ws' b' → XAt K F' H' dd x → ∀ C, mg c = some (.ref C) → E (.ref C) (some dd) H'
        | .stuck => False := hrun
      have at_ : ∀ {F' H' : Hp} {σ' : L2.St} {e : SEnv} {b' : List D}, Sim a K F' H' σ' e → e[0]? = some (.bor b') → ∃ ws', H' a = some (.lst ws') ∧ F' a = none ∧ DpAll K F' ws' b' := by
        intro F' H' σ' e b' s e0
        obtain ⟨a', ws', q1, q2, q3, q4⟩ := s.own 0 b' (.inr e0)
        have q5 := s.lent 0 b' e0
        rw [q5] at q1
        cases q1
        exact ⟨ws', q2, q3, q4⟩
      cases e1 : evSs (Phi T n) d.fuel d.body (env0B d.N bs ds) with
      | ret x e =>
        rw [e1] at hrun
        cases e0 : e[0]? with
        | none => simp only [frB, lentB, e0] at hrun
        | some sl =>
          simp only [frB, lentB, e0] at hrun
          cases sl with
          | bor b' =>
            intro v σ' F' H' g o s dp
            obtain ⟨ws', q2, q3, q4⟩ := at_ s e0
            exact hrun v F' H' ws' g s.sub q2 q3 q4 dp
          | _ => exact hrun.elim
      | nxt e =>
        rw [e1] at hrun
        cases e0 : e[0]? with
        | none => simp only [frB, lentB, e0] at hrun
        | some sl =>
          simp only [frB, lentB, e0] at hrun
          cases sl with
          | bor b' =>
            intro σ' F' H' g o s
            obtain ⟨ws', q2, q3, q4⟩ := at_ s e0
            exact hrun .non F' H' ws' g s.sub q2 q3 q4 .non
          | _ => exact hrun.elim
      | exc c x e =>
        rw [e1] at hrun
        cases e0 : e[0]? with
        | none => simp only [frB, lentB, e0] at hrun
        | some sl =>
          simp only [frB, lentB, e0] at hrun
          cases sl with
          | bor b' =>
            intro dd σ' F' H' g o s xa
            obtain ⟨ws', q2, q3, q4⟩ := at_ s e0
            exact hrun dd F' H' ws' g s.sub q2 q3 q4 xa
          | _ => exact hrun.elim
      | brk e => rw [e1] at hrun; exact hrun.elim
      | cnt e => rw [e1] at hrun; exact hrun.elim
      | stuck => rw [e1] at hrun; exact hrun.elim
theorem phi_ok (t : TopOk K mg con mb T) : ∀ (n : Nat) (f : Str) (fs : FnSem), Phi T n f = some fs → ∃ fa fd ps, mg f = some (.ref fa) ∧ PySem.W.keepIn K (.ref fa) = true ∧ Binds K fd ps [] ∧ ∀ base : Heap, FnOk P w K mg base (L2.CX P w) (n + 1) fa fd ps (spF K mg fs)
  | 0, _, _, h => by cases h
  | n + 1, f, fs, h => by
    unfold Phi at h
    cases e : T.find? (fun d => d.name == f) with
    | none => rw [e] at h; cases h
    | some d =>
      rw [e] at h
      have h : some (runDf (Phi T n) d) = some fs := h
      have h := Option.some.inj h
      subst h
      have hf : d.name = f := by simpa using List.find?_some e
      subst hf
      obtain ⟨fa, fd, g, k, b, F⟩ := fn_step (P := P) (w := w) t (phi_ok t n) (List.mem_of_find?_eq_some e)
      exact ⟨fa, fd, _, g, k, .all b, F⟩
end
end PyE

set_option Elab.async false
set_option linter.all false
set_option autoImplicit false
set_option maxRecDepth 100000
set_option maxHeartbeats 4000000
/-! # What the top has written; the law's end -/
namespace PyE
open PySem PySem.Spec PyProof.Rows L2
section
variable {ba : Addr} {P : Program} {w : World} {K : Frag} {mg : Str → Option Value} {h : Heap} {con : List (Str × D)} {mb : List Str}
theorem df_ok {d : Df} {st : Stmt} {x : Str} {fa : Addr} {oc kV dc pm cd ct : Value} {od an : Option Addr} {sl : Array (Option Value)} (X : K.In h) (G : h.Ns mainGlobals mg) (hx : d.name = x)
    (a : PySem.W.nsIn K mainGlobals x = some (some (.ref fa)))
    (l : K.lookup fa = some ⟨oc, od, .func (PySem.W.fnOf x x (defArgs st) (defBody st) (defScope st) .none kV dc pm an cd ct), sl⟩)
    (c : PySem.W.codeIn K cd x = true) (k : PySem.W.keepIn K (.ref fa) = true)
    (hb : ∀ (kV doc pm : Value) (an : Option Addr) (cdv ct : Value) (us : List Value), us.length = (d.N.take d.ar).length → bindArgs (PySem.W.fnOf x x (defArgs st) (defBody st) (defScope st) .none kV doc pm an cdv ct) ⟨us, []⟩ = pure ((d.N.take d.ar).zip us))
    (S : FnScope d.N (d.N.take d.ar) (defScope st)) (ch : chkSs ⟨d.N, con, mb⟩ ⟨defScope st, fun _ => true⟩ d.body (defBody st) = true) (hl : d.ar ≤ d.N.length) : DfOk K mg con mb d := by
  subst hx
  exact ⟨fa, _, st, fun_mk (st := st) l c k, PySem.W.mg_of X G a, k, hb _ _ _ _ _ _, S, ch, hl⟩
/-- a constant of the module: a tuple that the top has laid -/
theorem con_tup {F : Hp} {a : Addr} {od : Option Addr} {its : Array Value} {n : Nat} {sl : Array (Option Value)} {vs : List V} {ds : List D} (l : K.lookup a = some ⟨.type "tuple", od, .seq its n, sl⟩) (hz : its.size ≤ 1000) (r : Vals vs its.toList) (dp : DpAll K F vs ds) : Dp K F (.ref a) (.tuple ds) :=
  .tup (.inr ⟨_, its, n, l, rfl, rfl, Nat.le_trans hz (by decide), r⟩) dp
/-- the same of a list that nobody writes -/
theorem con_lst {F : Hp} {a : Addr} {its : Array Value} {n : Nat} {sl : Array (Option Value)} {vs : List V} {ds : List D} (l : K.lookup a = some ⟨.type "list", none, .seq its n, sl⟩) (hz : its.size ≤ 1000) (r : Vals vs its.toList) (dp : DpAll K F vs ds) : Dp K F (.ref a) (.list ds) :=
  .lst (.inr ⟨_, its, n, l, rfl, rfl, rfl, Nat.le_trans hz (by decide), r⟩) dp
theorem con1 {x : Str} {u : Value} {v : V} {d : D} (X : K.In h) (G : h.Ns mainGlobals mg) (a : PySem.W.nsIn K mainGlobals x = some (some u)) (r : RelV v u) (p : Dp K (fun _ => none) v d) : ∃ u v, mg x = some u ∧ RelV v u ∧ Dp K (fun _ => none) v d := ⟨u, v, PySem.W.mg_of X G a, r, p⟩
/-- law's promise -/
def spLaw (K : Frag) (n : Nat) : Sp := fun vs H Q _ => ∃ (a : Addr) (ns : List Int), vs = [.ref a] ∧ SqL K H a (ns.map V.int) ∧ ns.length ≤ n ∧ ∀ H', Q (.bl true) H'
/-- with the size of the numbers told -/
def spLawB (K : Frag) (n : Nat) : Sp := fun vs H Q _ => ∃ (a : Addr) (ns : List Int), vs = [.ref a] ∧ SqL K H a (ns.map V.int) ∧ ns.length ≤ n ∧ (∀ z ∈ ns, Builtin.Int.intBits z ≤ 1048576) ∧ ∀ H', Q (.bl true) H'
theorem law_sp {n m : Nat} {base : Heap} {fa : Addr} {fd : FuncData} {ps : List Str} {CX : CXT} {fs : FnSem} (har : fs.arity = 1) (hb : fs.bor = false) (pl : ∀ ns : List Int, ns.length ≤ n → ∃ b, fs.run [.list (ns.map .int)] = .ret (.bool true) b)
    (F : FnOk P w K mg base CX m fa fd ps (spF K mg fs)) : FnOk P w K mg base CX m fa fd ps (spLaw K n) := by
  refine F.imp fun vs H Q E ⟨a, ns, e, s, hl, q⟩ => ?_
  subst e
  refine ⟨har.symm, .inl ⟨hb, H, [.list (ns.map .int)], Ex.refl _, .cons (.lst s (dpa_ofInts ns)) .nil, ?_⟩⟩
  obtain ⟨b, e⟩ := pl ns hl
  rw [e]
  intro v F' H' g x dp
  cases dp
  exact q H'
theorem law_spB {n m : Nat} {base : Heap} {fa : Addr} {fd : FuncData} {ps : List Str} {CX : CXT} {fs : FnSem} (har : fs.arity = 1) (hb : fs.bor = false) (pl : ∀ ns : List Int, ns.length ≤ n → (∀ z ∈ ns, Builtin.Int.intBits z ≤ 1048576) → ∃ b, fs.run [.list (ns.map .int)] = .ret (.bool true) b)
    (F : FnOk P w K mg base CX m fa fd ps (spF K mg fs)) : FnOk P w K mg base CX m fa fd ps (spLawB K n) := by
  refine F.imp fun vs H Q E ⟨a, ns, e, s, hl, hbt, q⟩ => ?_
  subst e
  refine ⟨har.symm, .inl ⟨hb, H, [.list (ns.map .int)], Ex.refl _, .cons (.lst s (dpa_ofInts ns)) .nil, ?_⟩⟩
  obtain ⟨b, e⟩ := pl ns hl hbt
  rw [e]
  intro v F' H' g x dp
  cases dp
  exact q H'
/-- the facts of the top, the plain law, together -/
theorem law_fn {T : List Df} {m n : Nat} {d : Df} {fa : Addr} {x : Str} (t : TopOk K mg con mb T) (hd : d ∈ T) (har : d.ar = 1) (hfa : mg d.name = some (.ref fa)) (hx : d.N.take d.ar = [x])
    (pl : ∀ ns : List Int, ns.length ≤ n → ∃ b, (runDf (Phi T m) d).run [.list (ns.map .int)] = .ret (.bool true) b) (h1 : (runDf (Phi T m) d).arity = 1 := by rfl) (h2 : (runDf (Phi T m) d).bor = false := by rfl) :
    ∃ fd : FuncData, (∀ (s : Shared) (u : Value), BindsTo s fd ⟨[u], []⟩ [(x, u)]) ∧ ∀ base : Heap, FnOk P w K mg base (L2.CX P w) (m + 2) fa fd [x] (spLaw K n) := by
  obtain ⟨fa', fd, g, k, b, F⟩ := fn_step (P := P) (w := w) t (phi_ok t m) hd
  rw [hfa] at g
  cases g
  rw [hx] at b F
  exact ⟨fd, fun s u => .of_eq (b [u] rfl), fun base => law_sp h1 h2 pl (F base)⟩
theorem law_fnB {T : List Df} {m n : Nat} {d : Df} {fa : Addr} {x : Str} (t : TopOk K mg con mb T) (hd : d ∈ T) (har : d.ar = 1) (hfa : mg d.name = some (.ref fa)) (hx : d.N.take d.ar = [x])
    (pl : ∀ ns : List Int, ns.length ≤ n → (∀ z ∈ ns, Builtin.Int.intBits z ≤ 1048576) → ∃ b, (runDf (Phi T m) d).run [.list (ns.map .int)] = .ret (.bool true) b) (h1 : (runDf (Phi T m) d).arity = 1 := by rfl) (h2 : (runDf (Phi T m) d).bor = false := by rfl) :
    ∃ fd : FuncData, (∀ (s : Shared) (u : Value), BindsTo s fd ⟨[u], []⟩ [(x, u)]) ∧ ∀ base : Heap, FnOk P w K mg base (L2.CX P w) (m + 2) fa fd [x] (spLawB K n) := by
  obtain ⟨fa', fd, g, k, b, F⟩ := fn_step (P := P) (w := w) t (phi_ok t m) hd
  rw [hfa] at g
  cases g
  rw [hx] at b F
  exact ⟨fd, fun s u => .of_eq (b [u] rfl), fun base => law_spB h1 h2 pl (F base)⟩
theorem no_out {P : Program} {w : World} (H : Hp) (s : Shared) (e : Value) (s' : Shared) (h : L2.CX P w [] H s (fun _ _ _ => False) e s') : False := by
  obtain ⟨_, _, _, _, _, _, _, _, _, _, _, _, z⟩ := h
  exact z
end
end PyE
namespace PyE
open PySem PySem.Spec PyProof.Rows L2
section
variable {ba : Addr} {K : Frag} {mg : Str → Option Value} {h : Heap}
theorem bad_mk {C f1 S N : Addr} {nm q : Str} {bs : List Value} {sn : List Str} {sub : List Value} {ab : Bool} {col : Option Bool} {dd : Option Addr} {m0 m1 m2 m3 m5 : Option Value} {od1 an1 : Option Addr} {sl1 : Array (Option Value)} {oc1 dc1 pm1 cd1 ct1 : Value} {p1 p2 q1 q2 q3 q4 : Pos}
    (X : K.In h) (G : h.Ns mainGlobals mg)
    (aC : PySem.W.nsIn K mainGlobals "BadValue" = some (some (.ref C)))
    (xL : K.lookup C = some (excClassObj nm q C N bs [.ref S, .type "Exception", .type "BaseException", .type "object"] true sn sub ab col dd m0 m1 m2 m3 m5 "Exception.__new__"))
    (sa : PySem.W.findIn K (.ref C) "__setattr__" = some (some (.builtin "object.__setattr__"))) (ga : PySem.W.findIn K (.ref C) "__getattribute__" = some (some (.builtin "BaseException.__getattribute__")))
    (gg : PySem.W.findIn K (.ref C) "__getattr__" = some none) (nb : PySem.W.findIn K (.ref C) "at" = some none)
    (a1 : PySem.W.findIn K (.ref C) "__init__" = some (some (.ref f1))) (t1 : PySem.W.typeIn K (.ref f1) = some (.type "function"))
    (l1 : K.lookup f1 = some ⟨oc1, od1, .func (PySem.W.fnOf "__init__" "BadValue.__init__" (PySem.BadX.iA p1 p2) (PySem.BadX.iB q1 q2 q3 q4) PySem.BadX.iS .none .none dc1 pm1 an1 cd1 ct1), sl1⟩) (c1 : PySem.W.codeIn K cd1 "BadValue.__init__" = true)
    (kC : PySem.W.keepIn K (.ref C) = true) (eC : PySem.W.subIn K (.ref C) (.type "BaseException") = some true) (tC : PySem.W.typeIn K (.ref C) = some (.type "type")) (hC : PySem.W.hasDictIn K C = true) (iC : PySem.W.isClsIn K C = true) (sC : PySem.W.subIn K (.ref C) (.ref C) = some true) :
    ∃ C fI, PySem.BadX.BadTxt K mg C fI := by
  have te : PySem.W.exmOne K (.ref C) (.ref C) = some true := by
    have e1 : (PySem.W.subIn K (.ref C) (.type "BaseException") == some true) = true := by rw [eC]; rfl
    have e2 : ((PySem.W.clsIn K C).isSome && PySem.W.typeIn K (.ref C) == some (.type "type")) = true := by
      have h2 : (PySem.W.clsIn K C).isSome = true := iC
      rw [h2, tC]
      rfl
    show (if (PySem.W.subIn K (.ref C) (.type "BaseException") == some true) = true then (if ((PySem.W.clsIn K C).isSome && PySem.W.typeIn K (.ref C) == some (.type "type")) = true then PySem.W.subIn K (.ref C) (.ref C) else none) else none) = some true
    rw [if_pos e1, if_pos e2]
    exact sC
  have bm : PySem.HandSPX.refsEX [.ref S, .type "Exception", .type "BaseException", .type "object"] = true := by
    show PySem.HandSPX.refsEX PySem.HandSPX.exTl = true
    decide +kernel
  exact ⟨C, f1, { gC := PySem.W.mg_of X G aC, cls := ⟨nm, q, N, bs, _, sn, sub, ab, col, dd, m0, m1, m2, m3, m5, xL, bm⟩, sa := sa, ga := ga, gg := gg, noN := nb, iC := a1, tC := t1, kC := kC, exC := eC, tyC := tC, hdC := hC, te := te, fn := ⟨_, _, _, _, _, _, _, _, _, _, _, _, _, _, l1, c1⟩ }⟩
theorem all_nil {α : Type} {p : α → Prop} : ∀ x ∈ ([] : List α), p x := fun _ h => by cases h
theorem all_cons {α : Type} {p : α → Prop} {a : α} {l : List α} (h1 : p a) (h2 : ∀ x ∈ l, p x) : ∀ x ∈ a :: l, p x := fun x hx => by
  rcases List.mem_cons.mp hx with e | e
  · exact e ▸ h1
  · exact h2 x e
theorem con_nil {p : Str → D → Prop} : ∀ x d, ([] : List (Str × D)).lookup x = some d → p x d := fun _ _ h => by cases h
theorem con_cons {p : Str → D → Prop} {n : Str} {d0 : D} {l : List (Str × D)} (h1 : p n d0) (h2 : ∀ x d, l.lookup x = some d → p x d) : ∀ x d, ((n, d0) :: l).lookup x = some d → p x d := fun x d e => by
  rw [List.lookup_cons] at e
  cases q : (x == n) with
  | true =>
    rw [q] at e
    cases e
    exact (eq_of_beq q) ▸ h1
  | false => rw [q] at e; exact h2 x d e
theorem walk {l : PySem.W.OpenLaw} {m : Nat} {q : Program} {loose : List Str} {XP : (Str → Option Value) → Heap → Prop} {YP : World → Heap → Prop} {d : DefRec} {K : Params → PySem.W.Frag} (hn : l.most = some 63) (hdf : d.params.defaults = []) (hr : Room (m + 2) callerA)
    (hY : ∀ (w : World) (h : Heap), YP w h → (K w.params).In h)
    (F : ∀ (w : World) (mg : Str → Option Value) (fa : Addr) (h : Heap), (K w.params).In h → h.Ns mainGlobals mg → mg d.name = some (.ref fa) →
      ∃ fd : FuncData, (∀ (s : Shared) (u : Value), BindsTo s fd ⟨[u], []⟩ [("script", u)]) ∧ ∀ base : Heap, FnOk l.prog w (K w.params) mg base (L2.CX l.prog w) (m + 2) fa fd ["script"] (spLaw (K w.params) 63)) :
    PySem.W.WalkO q loose XP YP l.row.toRowW d [] (fun f vs => PySem.call f vs) :=
  L2.walk_of (n := 63) (k := m + 2) (x := "script") (CX := fun w => L2.CX l.prog w) (sp := fun w => spLaw (K w.params) 63) hn (by decide) hdf hr hY
    (fun w mg fa h X G e => let ⟨fd, b, f⟩ := F w mg fa h X G e; ⟨fd, b, fun base _ _ => f base⟩) (fun _ _ a ns hl _ hS => ⟨a, ns, rfl, hS, hl, fun _ => rfl⟩) fun w H s e s' h => no_out H s e s' h
theorem walkB {l : PySem.W.OpenLaw} {m : Nat} {q : Program} {loose : List Str} {XP : (Str → Option Value) → Heap → Prop} {YP : World → Heap → Prop} {d : DefRec} {K : Params → PySem.W.Frag} (hn : l.most = some 63) (hdf : d.params.defaults = []) (hr : Room (m + 2) callerA)
    (hY : ∀ (w : World) (h : Heap), YP w h → (K w.params).In h)
    (F : ∀ (w : World) (mg : Str → Option Value) (fa : Addr) (h : Heap), (K w.params).In h → h.Ns mainGlobals mg → mg d.name = some (.ref fa) →
      ∃ fd : FuncData, (∀ (s : Shared) (u : Value), BindsTo s fd ⟨[u], []⟩ [("script", u)]) ∧ ∀ base : Heap, FnOk l.prog w (K w.params) mg base (L2.CX l.prog w) (m + 2) fa fd ["script"] (spLawB (K w.params) 63)) :
    PySem.W.WalkO q loose XP YP l.row.toRowW d [] (fun f vs => PySem.call f vs) :=
  L2.walk_ofB (n := 63) (k := m + 2) (x := "script") (CX := fun w => L2.CX l.prog w) (sp := fun w => spLawB (K w.params) 63) hn (by decide) hdf hr hY
    (fun w mg fa h X G e => let ⟨fd, b, f⟩ := F w mg fa h X G e; ⟨fd, b, fun base _ _ => f base⟩) (fun _ _ a ns hl hb _ hS => ⟨a, ns, rfl, hS, hl, hb, fun _ => rfl⟩) fun w H s e s' h => no_out H s e s' h
end
end PyE

set_option Elab.async false
set_option linter.all false
set_option autoImplicit false
set_option maxRecDepth 100000
set_option maxHeartbeats 4000000
/-! # Facts for the evaluator's laws -/
namespace PyE
open PySem L2
theorem divOk9 : divOk 1000000000 = true := by decide +kernel
theorem log9 : Nat.log2 1000000000 = 29 := by decide +kernel
theorem at_ints {ns : List Int} {i : Nat} (h : i < ns.length) : L2.atI (ns.map PyData.int) (i : Int) = some (.int ns[i]) := by
  unfold L2.atI L2.ixN
  rw [List.length_map, if_pos (by omega), if_pos (by omega)]
  simp [h]
theorem at_nat {α : Type} {xs : List α} {i : Nat} (h : i < xs.length) : L2.atI xs (i : Int) = some xs[i] := by
  unfold L2.atI L2.ixN
  rw [if_pos (by omega), if_pos (by omega)]
  simp [h]
end PyE
namespace PyE
open PySem L2
/-- not a lent list's slot -/
def nb : Sl → Bool
  | .bor _ => false
  | _ => true
theorem putS_nb {env : SEnv} {i : Nat} {x s : Sl} (h : env[i]? = some x) (hb : nb x = true) : putS env i s = some (env.set i s) := by
  unfold putS
  rw [h]
  cases x <;> first | rfl | cases hb
theorem lcL_map {f : D → SEnv → Rs (List D)} {env : SEnv} {g : D → List D} : ∀ {xs : List D}, (∀ x ∈ xs, f x env = .ok (g x) env) → lcL f xs env = .ok (xs.flatMap g) env
  | [], _ => rfl
  | x :: xs, h => by
    unfold lcL
    rw [h x List.mem_cons_self]
    show (lcL f xs env).bind _ = _
    rw [lcL_map fun y hy => h y (List.mem_cons_of_mem _ hy)]
    rfl
/-- a loop that ends at the first find -/
theorem forL_find {f : D → SEnv → FR} {P : SEnv → Prop} {g : D → Option D} : ∀ {xs : List D} {env : SEnv}, P env → (∀ x ∈ xs, ∀ env, P env → (∃ d, g x = some d ∧ ∃ e, f x env = .ret d e) ∨ (g x = none ∧ ∃ e, f x env = .nxt e ∧ P e)) →
    (∃ d, xs.findSome? g = some d ∧ ∃ e, forL f xs env = .ret d e) ∨ (xs.findSome? g = none ∧ ∃ e, forL f xs env = .nxt e ∧ P e)
  | [], env, p, _ => .inr ⟨rfl, env, rfl, p⟩
  | x :: xs, env, p, h => by
    rcases h x List.mem_cons_self env p with ⟨d, h1, e, h2⟩ | ⟨h1, e, h2, p2⟩
    · refine .inl ⟨d, by rw [List.findSome?_cons, h1], e, ?_⟩
      unfold forL
      rw [h2]
    · have ih := forL_find (xs := xs) p2 fun y hy => h y (List.mem_cons_of_mem _ hy)
      rw [List.findSome?_cons, h1]
      unfold forL
      rw [h2]
      exact ih
theorem bools_map {α : Type} (p : α → Bool) : ∀ xs : List α, boolsD (xs.map fun x => .bool (p x)) = some (xs.map p)
  | [] => rfl
  | x :: xs => by
    show (boolsD (xs.map fun x => .bool (p x))).map _ = _
    rw [bools_map p xs]
    rfl
end PyE
namespace PyE
open PySem L2
theorem lc_eq {Φ : Fns} {e : IE} {tg : Tg} {it : II} {c : IO} {own : List Nat} {env : SEnv} {ds : List D} {g : D → List D} (h1 : evI Φ it env = .ok ds env) (hw : wipeE env own = env) (hb : backE env env own = env)
    (h2 : ∀ x ∈ ds, lcStep (evC Φ c) (evE Φ e) tg own x env = .ok (g x) env) (hz : szOk (ds.flatMap g).length = true) : evE Φ (.lc e tg it c own) env = .ok (.tmp (ds.flatMap g)) env := by
  show (evI Φ it env).bind _ = _
  rw [h1]
  show lcEnd env own (lcL _ ds (wipeE env own)) = _
  rw [hw, lcL_map h2]
  show (if szOk _ then _ else _) = _
  rw [hz, if_pos rfl, hb]
theorem asg_tmp {Φ : Fns} {n i : Nat} {e : IE} {env : SEnv} {ds : List D} {x : Sl} (h : evE Φ e env = .ok (.tmp ds) env) (hx : env[i]? = some x) (hb : nb x = true) : evS Φ n (.asg i e) env = .nxt (env.set i (.own ds)) := by
  unfold evS
  rw [h]
  show (match putS env i (.own ds) with
    | some e2 => FR.nxt e2
    | none => .stuck) = _
  rw [putS_nb hx hb]
theorem seq_nxt {Φ : Fns} {n : Nat} {s : IS} {r : ISs} {env e1 : SEnv} (h : evS Φ n s env = .nxt e1) : evSs Φ n (.cons s r) env = evSs Φ n r e1 := by
  show (evS Φ n s env).bind _ = _
  rw [h]
theorem seq_ret {Φ : Fns} {n : Nat} {s : IS} {r : ISs} {env e1 : SEnv} {d : D} (h : evS Φ n s env = .ret d e1) : evSs Φ n (.cons s r) env = .ret d e1 := by
  show (evS Φ n s env).bind _ = _
  rw [h]
theorem for_eq {Φ : Fns} {n : Nat} {tg : Tg} {it : II} {b : ISs} {env : SEnv} {ds : List D} (h : evI Φ it env = .ok ds env) : evS Φ n (.for_ tg it b) env = forL (fun x e => match putT e tg x with
      | some e2 => evSs Φ n b e2
      | none => .stuck) ds env := by
  show (evI Φ it env).toF _ = _
  rw [h] <;> rfl
theorem rgD_mem {n : Nat} {x : D} (h : x ∈ rgD 0 n) : ∃ i, i < n ∧ x = .int (i : Nat) := by
  unfold rgD at h
  obtain ⟨i, h1, h2⟩ := List.mem_map.mp h
  exact ⟨i, List.mem_range.mp h1, by rw [← h2, Int.zero_add]⟩
theorem at_map {α : Type} {n : Nat} (f : Nat → α) {i : Nat} (h : i < n) : L2.atI ((List.range n).map f) (i : Int) = some (f i) := by
  rw [at_nat (by simpa using h)]
  simp
theorem flat_if {α β : Type} (p : α → Bool) (g : α → β) : ∀ xs : List α, xs.flatMap (fun x => if p x = true then [g x] else []) = (xs.filter p).map g
  | [] => rfl
  | x :: xs => by
    rw [List.flatMap_cons, flat_if p g xs, List.filter_cons]
    cases p x <;> rfl
theorem flat_one {α β : Type} (g : α → β) : ∀ xs : List α, xs.flatMap (fun x => [g x]) = xs.map g
  | [] => rfl
  | x :: xs => by
    rw [List.flatMap_cons, flat_one g xs]
    rfl
end PyE
namespace PyE
open PySem L2
theorem rOk_nat {n : Nat} (h : n ≤ 1000000) : rOk (n : Int) = true := by
  exact Nat.ble_eq_true_of_le (Nat.le_trans h (by decide))
theorem rOk3 : rOk 3 = true := by decide +kernel
theorem range3 : List.range 3 = [0, 1, 2] := rfl
theorem szOk_k {n : Nat} (h : n ≤ 1000) : szOk n = true := decide_eq_true (Nat.le_trans h (by decide))
end PyE
namespace PyE
open PySem L2
/-- a comprehension; what is walked may be frozen on the way -/
theorem lc_eqF {Φ : Fns} {e : IE} {tg : Tg} {it : II} {c : IO} {own : List Nat} {env e1 : SEnv} {ds : List D} {g : D → List D} (h1 : evI Φ it env = .ok ds e1) (hw : wipeE e1 own = e1) (hb : backE e1 e1 own = e1)
    (h2 : ∀ x ∈ ds, lcStep (evC Φ c) (evE Φ e) tg own x e1 = .ok (g x) e1) (hz : szOk (ds.flatMap g).length = true) : evE Φ (.lc e tg it c own) env = .ok (.tmp (ds.flatMap g)) e1 := by
  show (evI Φ it env).bind _ = _
  rw [h1]
  show lcEnd e1 own (lcL _ ds (wipeE e1 own)) = _
  rw [hw, lcL_map h2]
  show (if szOk _ then _ else _) = _
  rw [hz, if_pos rfl, hb]
theorem any_bools {α : Type} (f : α → Bool) (xs : List α) : bfD .any [.list (xs.map fun x => .bool (f x))] = some (.now (.bool (xs.any f))) := by
  show (boolsD _).map _ = _
  rw [bools_map]
  show some (Vw.now (.bool ((xs.map f).any id))) = _
  rw [List.any_map]
  rfl
theorem all_bools {α : Type} (f : α → Bool) (xs : List α) : bfD .all [.list (xs.map fun x => .bool (f x))] = some (.now (.bool (xs.all f))) := by
  show (boolsD _).map _ = _
  rw [bools_map]
  show some (Vw.now (.bool ((xs.map f).all id))) = _
  rw [List.all_map]
  rfl
theorem bfT {Φ : Fns} {f : Bf} {e : IE} {env e1 : SEnv} {ds : List D} {b : Bool} (h : evE Φ e env = .ok (.tmp ds) e1) (hb : bfD f [.list ds] = some (.now (.bool b))) : evT Φ (.bf f (.cons e .nil)) env = .ok b e1 := by
  unfold evT evE
  show Rs.bind (Rs.bind ((evE Φ e env).bind _) _) _ = _
  rw [h]
  show Rs.bind (match looks e1 [.tmp ds] with
    | some ds => Rs.opt (bfD f ds) e1
    | none => .stuck) _ = _
  show Rs.bind (Rs.opt (bfD f [.list ds]) e1) _ = _
  rw [hb]
  rfl
theorem ite_nxt {Φ : Fns} {n : Nat} {t : IE} {a b : ISs} {env e1 : SEnv} {c : Bool} (h : evT Φ t env = .ok c e1) : evS Φ n (.ite t a b) env = if c then evSs Φ n a e1 else evSs Φ n b e1 := by
  show (evT Φ t env).toF _ = _
  rw [h]
end PyE
namespace PyE
open PySem L2
theorem call2 {Φ : Fns} {f : Str} {fs : FnSem} {e1 e2 : IE} {env : SEnv} {d1 d2 d : D} (hf : Φ f = some fs) (ha : fs.arity = 2) (hb : fs.bor = false) (h1 : evE Φ e1 env = .ok (.now d1) env) (h2 : evE Φ e2 env = .ok (.now d2) env) (hr : fs.run [d1, d2] = .ret d []) :
    evE Φ (.call f (.cons e1 (.cons e2 .nil))) env = .ok (.now d) env := by
  unfold evE
  rw [hf]
  show Rs.bind (evEs Φ _ env) _ = _
  have : evEs Φ (.cons e1 (.cons e2 .nil)) env = .ok [.now d1, .now d2] env := by
    unfold evEs
    rw [h1]
    show Rs.bind (evEs Φ (.cons e2 .nil) env) _ = _
    unfold evEs
    rw [h2]
    rfl
  rw [this]
  show callK fs [d1, d2] env = _
  unfold callK
  rw [ha, hb, hr]
  rfl
theorem find_if {α β : Type} (p : α → Bool) (b : β) : ∀ xs : List α, xs.findSome? (fun x => if p x = true then some b else none) = if xs.any p = true then some b else none
  | [] => rfl
  | x :: xs => by
    rw [List.findSome?_cons, List.any_cons]
    cases p x with
    | true => rfl
    | false =>
      show xs.findSome? _ = _
      rw [find_if p b xs, Bool.false_or]
end PyE
namespace PyE
open PySem L2
theorem asg_tmpF {Φ : Fns} {n i : Nat} {e : IE} {env e1 : SEnv} {ds : List D} {x : Sl} (h : evE Φ e env = .ok (.tmp ds) e1) (hx : e1[i]? = some x) (hb : nb x = true) : evS Φ n (.asg i e) env = .nxt (e1.set i (.own ds)) := by
  unfold evS
  rw [h]
  show (match putS e1 i (.own ds) with
    | some e2 => FR.nxt e2
    | none => .stuck) = _
  rw [putS_nb hx hb]
theorem asg_now {Φ : Fns} {n i : Nat} {e : IE} {env e1 : SEnv} {d : D} {x : Sl} (h : evE Φ e env = .ok (.now d) e1) (hx : e1[i]? = some x) (hb : nb x = true) : evS Φ n (.asg i e) env = .nxt (e1.set i (.sh d)) := by
  unfold evS
  rw [h]
  show (match putS e1 i (.sh d) with
    | some e2 => FR.nxt e2
    | none => .stuck) = _
  rw [putS_nb hx hb]
end PyE
namespace PyE
open PySem L2
theorem callN {Φ : Fns} {f : Str} {fs : FnSem} {es : IEs} {env e1 e2 : SEnv} {ws : List Vw} {ds : List D} {d : D} {b : List D} (hf : Φ f = some fs) (hes : evEs Φ es env = .ok ws e1) (hk : keepN e1 ws = some (ds, e2)) (ha : ds.length = fs.arity) (hb : fs.bor = false) (hr : fs.run ds = .ret d b) :
    evE Φ (.call f es) env = .ok (.now d) e2 := by
  unfold evE
  rw [hf]
  show Rs.bind (evEs Φ es env) _ = _
  rw [hes]
  show (match keepN e1 ws with
    | some (ds, e2) => callK fs ds e2
    | none => .stuck) = _
  rw [hk]
  show callK fs ds e2 = _
  unfold callK
  rw [ha, hb, hr]
  simp
theorem ret_now {Φ : Fns} {n : Nat} {e : IE} {env e1 : SEnv} {d : D} (h : evE Φ e env = .ok (.now d) e1) : evS Φ n (.ret e) env = .ret d e1 := by
  unfold evS
  rw [h]
  rfl
theorem app_own {Φ : Fns} {n i : Nat} {e : IE} {env e1 : SEnv} {d : D} {ds : List D} (hm : isMine env i = true) (h : evE Φ e env = .ok (.now d) e1) (hx : e1[i]? = some (.own ds)) (hl : ds.length < 1000) : evS Φ n (.app i e) env = .nxt (e1.set i (.own (ds ++ [d]))) := by
  unfold evS
  rw [hm, if_pos rfl, h]
  show appK e1 i d = _
  unfold appK
  rw [hx]
  show (if szOk (ds.length + 1) = true then _ else _) = _
  rw [if_pos (szOk_k (by omega))]
end PyE
namespace PyE
open PySem L2
theorem rg_find {β : Type} (g : D → Option β) (n : Nat) : (rgD 0 n).findSome? g = (List.range n).findSome? fun k => g (.int (k : Nat)) := by
  unfold rgD
  rw [List.findSome?_map]
  have : (g ∘ fun i : Nat => PyData.int (0 + (i : Int))) = fun k : Nat => g (.int (k : Int)) := by
    funext i
    simp [Function.comp]
  rw [this]
end PyE

set_option Elab.async false
set_option linter.all false
set_option autoImplicit false
set_option maxRecDepth 100000
set_option maxHeartbeats 4000000
/-! # Facts for the evaluator's laws, continued: tests -/
namespace PyE
open PySem L2
section
variable {ba : Addr} {Φ : Fns} {n : Nat} {a b e : IE} {env e1 e2 : SEnv} {x y : Bool} {d : D}
theorem nt_now (h : evE Φ e env = .ok (.now (.bool x)) e1) : evE Φ (.nt e) env = .ok (.now (.bool (!x))) e1 := by
  unfold evE
  rw [h]
  rfl
theorem or_f (h : evE Φ a env = .ok (.now (.bool false)) e1) : evE Φ (.or a b) env = evE Φ b e1 := by
  show (evE Φ a env).bind _ = _
  rw [h]
  rfl
theorem and_t (h : evE Φ a env = .ok (.now (.bool true)) e1) : evE Φ (.and a b) env = evE Φ b e1 := by
  show (evE Φ a env).bind _ = _
  rw [h]
  rfl
theorem tst (h : evE Φ e env = .ok (.now (.bool x)) e1) : evT Φ e env = .ok x e1 := by
  unfold evT
  rw [h]
  rfl
theorem isN_true (h : evE Φ e env = .ok (.now (.bool true)) e1) : evE Φ (.cmp .IsNot e (.k (.bool true))) env = .ok (.now (.bool false)) e1 := by
  show (evE Φ e env).bind _ = _
  rw [h]
  rfl
theorem is_true (h : evE Φ e env = .ok (.now (.bool true)) e1) : evE Φ (.cmp .Is e (.k (.bool true))) env = .ok (.now (.bool true)) e1 := by
  show (evE Φ e env).bind _ = _
  rw [h]
  rfl
def isNone : D → Bool
  | .none => true
  | _ => false
theorem is_none (h : evE Φ e env = .ok (.now d) e1) : evE Φ (.cmp .Is e (.k .none)) env = .ok (.now (.bool (isNone d))) e1 := by
  show (evE Φ e env).bind _ = _
  rw [h]
  cases d <;> rfl
theorem es_cons {es : IEs} {w : Vw} {ws : List Vw} (h1 : evE Φ e env = .ok w e1) (h2 : evEs Φ es e1 = .ok ws e2) : evEs Φ (.cons e es) env = .ok (w :: ws) e2 := by
  unfold evEs
  rw [h1]
  show Rs.bind (evEs Φ es e1) _ = _
  rw [h2]
theorem ite_f {p q : ISs} (h : evT Φ e env = .ok false e1) : evS Φ n (.ite e p q) env = evSs Φ n q e1 := by
  rw [ite_nxt h]
  rfl
theorem ex_nxt {w : Vw} (h : evE Φ e env = .ok w e1) : evS Φ n (.ex e) env = .nxt e1 := by
  unfold evS
  rw [h]
end
end PyE
namespace PyE
open PySem L2
theorem mulOk_r {i j : Int} (h : smallI j = true) : mulOk i j = true := by
  unfold mulOk
  rw [h, Bool.or_true, Bool.true_or]
theorem mulOk_l {i j : Int} (h : smallI i = true) : mulOk i j = true := by
  unfold mulOk
  rw [h, Bool.true_or, Bool.true_or]
/-- the figures of the laws' draws -/
theorem mulDraw : (∀ i, mulOk i 69069 = true) ∧ (∀ i, mulOk i 39916801 = true) ∧ (∀ i, mulOk i 7919 = true) ∧ (∀ i, mulOk i 48271 = true) ∧ (∀ i, mulOk i 16807 = true) ∧ (∀ i, mulOk 7 i = true) :=
  ⟨fun _ => mulOk_r (by decide +kernel), fun _ => mulOk_r (by decide +kernel), fun _ => mulOk_r (by decide +kernel), fun _ => mulOk_r (by decide +kernel), fun _ => mulOk_r (by decide +kernel), fun _ => mulOk_l (by decide +kernel)⟩
end PyE

set_option Elab.async false
set_option linter.all false
set_option autoImplicit false
set_option maxRecDepth 100000
set_option maxHeartbeats 4000000
/-! # Defs that many laws share: what they come to -/
namespace PyV
open PySem PyE L2
local macro_rules | `(tactic| walk_at "ev") => `(tactic| simp [evSs, evS, evE, evEs, evO, evC, evI, evT, putW, putS, putT, putN, keepF, keepN, binD, cmpD, truD, truR, look, looks, bfD, ixD, slD, Rs.toF, Rs.bind, FR.bind, Rs.opt, szOk, isMine, appK, setK, rgD, forL, powOk, divOk, log9, frR, isTy, callK, lcStep, wipeE, *])
def N_too_deep : List Str := ["value", "left", "part"]
def b_too_deep : ISs := (.cons (.ite (.nt (.isi (.v 0) [.list, .tuple] true)) (.cons (.ret (.k (.bool false))) .nil) .nil) (.cons (.ite (.cmp .Eq (.v 1) (.k (.int 0))) (.cons (.ret (.k (.bool true))) .nil) .nil) (.cons (.for_ (.one 2) (.seq (.v 0)) (.cons (.ite (.call "too_deep" (.cons (.v 2) (.cons (.bin .Sub (.v 1) (.k (.int 1))) .nil))) (.cons (.ret (.k (.bool true))) .nil) .nil) .nil)) (.cons (.ret (.k (.bool false))) .nil))))
def d_too_deep : Df := { name := "too_deep", N := N_too_deep, ar := 2, fuel := 100, body := b_too_deep }

def N_as_tuples : List Str := ["value", "part"]
def b_as_tuples : ISs := (.cons (.ite (.nt (.isi (.v 0) [.list, .tuple] true)) (.cons (.ret (.v 0)) .nil) .nil) (.cons (.ret (.bf .tuple (.cons (.lc (.call "as_tuples" (.cons (.v 1) .nil)) (.one 1) (.seq (.v 0)) .none [1]) .nil))) .nil))
def d_as_tuples : Df := { name := "as_tuples", N := N_as_tuples, ar := 1, fuel := 100, body := b_as_tuples }

def N_plain : List Str := ["value"]
def b_plain : ISs := (.cons (.ite (.call "too_deep" (.cons (.v 0) (.cons (.g "DEEPEST" (.int 40)) .nil))) (.cons (.ret (.k .none)) .nil) .nil) (.cons (.ret (.call "as_tuples" (.cons (.v 0) .nil))) .nil))
def d_plain : Df := { name := "plain", N := N_plain, ar := 1, fuel := 100, body := b_plain }

def N_is_int : List Str := ["value"]
def b_is_int : ISs := (.cons (.ret (.and (.isi (.v 0) [.int] false) (.nt (.isi (.v 0) [.bool] false)))) .nil)
def d_is_int : Df := { name := "is_int", N := N_is_int, ar := 1, fuel := 100, body := b_is_int }

def N_in_range : List Str := ["value", "low", "high"]
def b_in_range : ISs := (.cons (.ret (.and (.call "is_int" (.cons (.v 0) .nil)) (.and (.cmp .LtE (.v 1) (.v 0)) (.or (.cmp .Is (.v 2) (.k .none)) (.cmp .LtE (.v 0) (.v 2)))))) .nil)
def d_in_range : Df := { name := "in_range", N := N_in_range, ar := 3, fuel := 100, body := b_in_range }

def N_is_tuple : List Str := ["value", "long"]
def b_is_tuple : ISs := (.cons (.ret (.and (.isi (.v 0) [.tuple] false) (.or (.cmp .Is (.v 1) (.k .none)) (.cmp .Eq (.bf .len (.cons (.v 0) .nil)) (.v 1))))) .nil)
def d_is_tuple : Df := { name := "is_tuple", N := N_is_tuple, ar := 2, fuel := 100, body := b_is_tuple }

def N_need : List Str := ["good", "at"]
def b_need : ISs := (.cons (.ite (.nt (.v 0)) (.cons (.raise "BadValue" (.v 1)) .nil) .nil) .nil)
def d_need : Df := { name := "need", N := N_need, ar := 2, fuel := 100, body := b_need }

def N__law_same : List Str := ["actual", "due", "k"]
def b__law_same : ISs := (.cons (.ite (.and (.isi (.v 1) [.tuple] false) (.and (.isi (.v 0) [.tuple] false) (.cmp .Eq (.bf .len (.cons (.v 0) .nil)) (.bf .len (.cons (.v 1) .nil))))) (.cons (.ret (.bf .all (.cons (.lc (.call "_law_same" (.cons (.ix (.v 0) (.v 2)) (.cons (.ix (.v 1) (.v 2)) .nil))) (.one 2) (.r1 (.bf .len (.cons (.v 1) .nil))) .none [2]) .nil))) .nil) .nil) (.cons (.ite (.cmp .Is (.v 1) (.k .none)) (.cons (.ret (.cmp .Is (.v 0) (.k .none))) .nil) .nil) (.cons (.ite (.or (.cmp .NotEq (.isi (.v 0) [.bool] false) (.isi (.v 1) [.bool] false)) (.cmp .NotEq (.isi (.v 0) [.str] false) (.isi (.v 1) [.str] false))) (.cons (.ret (.k (.bool false))) .nil) .nil) (.cons (.ret (.and (.isi (.v 0) [.int, .str] true) (.cmp .Eq (.v 0) (.v 1)))) .nil))))
def d__law_same : Df := { name := "_law_same", N := N__law_same, ar := 2, fuel := 100, body := b__law_same }

def N__law_draws : List Str := ["script", "place", "many", "cell", "numbers", "rest_o", "k", "first_o"]
def b__law_draws : ISs := (.cons (.asg 3 (.ife (.cmp .Lt (.v 1) (.bf .len (.cons (.v 0) .nil))) (.ix (.v 0) (.v 1)) (.bin .Add (.bin .Mult (.k (.int 7)) (.v 1)) (.k (.int 3))))) (.cons (.asg 4 (.lst .nil)) (.cons (.asg 5 (.v 3)) (.cons (.for_ (.one 6) (.r1 (.v 2)) (.cons (.ite (.cmp .GtE (.v 3) (.bin .Pow (.k (.int 10)) (.k (.int 18)))) (.cons (.app 4 (.bin .Mod (.bf .int (.cons (.v 5) .nil)) (.bin .Pow (.k (.int 10)) (.k (.int 9))))) (.cons (.asg 5 (.bin .FloorDiv (.v 5) (.bin .Pow (.k (.int 10)) (.k (.int 9))))) .nil)) (.cons (.asg 7 (.bin .Mod (.bf .int (.cons (.bin .Add (.bin .Add (.bin .Mult (.bf .abs (.cons (.v 3) .nil)) (.k (.int 69069))) (.bin .Mult (.bin .Add (.v 6) (.k (.int 1))) (.k (.int 39916801)))) (.bin .Mult (.v 1) (.k (.int 7919)))) .nil)) (.k (.int 2147483647)))) (.cons (.app 4 (.bin .Mod (.bin .Mod (.bf .int (.cons (.bin .Add (.bin .Mult (.v 7) (.k (.int 48271))) (.bin .Mult (.bin .Add (.v 6) (.k (.int 5))) (.k (.int 16807)))) .nil)) (.k (.int 2147483629))) (.bin .Pow (.k (.int 10)) (.k (.int 9))))) .nil))) .nil)) (.cons (.ret (.v 4)) .nil)))))
def d__law_draws : Df := { name := "_law_draws", N := N__law_draws, ar := 3, fuel := 100, body := b__law_draws }

def N_is_ascending : List Str := ["row", "at"]
def b_is_ascending : ISs := (.cons (.ret (.bf .all (.cons (.lc (.cmp .Lt (.ix (.v 0) (.v 1)) (.ix (.v 0) (.bin .Add (.v 1) (.k (.int 1))))) (.one 1) (.r1 (.bin .Sub (.bf .len (.cons (.v 0) .nil)) (.k (.int 1)))) .none [1]) .nil))) .nil)
def d_is_ascending : Df := { name := "is_ascending", N := N_is_ascending, ar := 1, fuel := 100, body := b_is_ascending }

def N__law_numbers : List Str := ["script", "place", "many", "cell", "numbers", "rest_o", "k", "mixed"]
def b__law_numbers : ISs := (.cons (.asg 3 (.ife (.cmp .Lt (.v 1) (.bf .len (.cons (.v 0) .nil))) (.ix (.v 0) (.v 1)) (.k (.int 0)))) (.cons (.asg 4 (.lst .nil)) (.cons (.asg 5 (.v 3)) (.cons (.for_ (.one 6) (.r1 (.v 2)) (.cons (.ite (.cmp .GtE (.v 3) (.bin .Pow (.k (.int 10)) (.k (.int 18)))) (.cons (.app 4 (.bin .Mod (.bf .int (.cons (.v 5) .nil)) (.bin .Pow (.k (.int 10)) (.k (.int 9))))) (.cons (.asg 5 (.bin .FloorDiv (.v 5) (.bin .Pow (.k (.int 10)) (.k (.int 9))))) .nil)) (.cons (.asg 7 (.bin .Mod (.bf .int (.cons (.bin .Add (.bin .Add (.bin .Mult (.v 3) (.k (.int 48271))) (.bin .Mult (.bin .Add (.v 6) (.k (.int 1))) (.k (.int 69621)))) (.v 1)) .nil)) (.k (.int 2147483647)))) (.cons (.app 4 (.bin .Mod (.bin .Mod (.bf .int (.cons (.bin .Add (.bin .Mult (.v 7) (.k (.int 16807))) (.bin .Mult (.bin .Add (.v 6) (.k (.int 3))) (.k (.int 40692)))) .nil)) (.k (.int 2147483399))) (.bin .Pow (.k (.int 10)) (.k (.int 9))))) .nil))) .nil)) (.cons (.ret (.v 4)) .nil)))))
def d__law_numbers : Df := { name := "_law_numbers", N := N__law_numbers, ar := 3, fuel := 100, body := b__law_numbers }

def N__law_draw : List Str := ["state", "many"]
def b__law_draw : ISs := (.cons (.set 0 (.k (.int 0)) (.bin .Mod (.bf .int (.cons (.bin .Add (.bin .Mult (.ix (.v 0) (.k (.int 0))) (.k (.int 48271))) (.k (.int 12345))) .nil)) (.k (.int 2147483647)))) (.cons (.ret (.bin .Mod (.bf .int (.cons (.bin .FloorDiv (.ix (.v 0) (.k (.int 0))) (.k (.int 11))) .nil)) (.v 1))) .nil))
def d__law_draw : Df := { name := "_law_draw", N := N__law_draw, ar := 2, fuel := 100, body := b__law_draw, bor := true }

theorem phi {T : List Df} {m : Nat} {f : Str} {d : Df} (h : T.find? (fun d => d.name == f) = some d) : Phi T (m + 1) f = some (runDf (Phi T m) d) := by
  show (T.find? fun d => d.name == f).map (runDf (Phi T m)) = _
  rw [h]
  rfl
/-! ### loops -/
theorem forL_inv {f : D → SEnv → FR} {P : SEnv → Prop} : ∀ {xs : List D} {env : SEnv}, P env → (∀ x ∈ xs, ∀ env, P env → ∃ e, f x env = .nxt e ∧ P e) → ∃ e, forL f xs env = .nxt e ∧ P e
  | [], env, p, _ => ⟨env, rfl, p⟩
  | x :: xs, env, p, h => by
    obtain ⟨e, h1, h2⟩ := h x List.mem_cons_self env p
    obtain ⟨e2, h3, h4⟩ := forL_inv (xs := xs) h2 fun y hy => h y (List.mem_cons_of_mem _ hy)
    refine ⟨e2, ?_, h4⟩
    unfold forL
    rw [h1]
    exact h3
theorem forL_fold {α σ : Type} {f : D → SEnv → FR} {R : σ → SEnv → Prop} {step : σ → α → σ} {enc : α → D} : ∀ (xs : List α) (s : σ) (env : SEnv), R s env → (∀ x ∈ xs, ∀ s env, R s env → ∃ e, f (enc x) env = .nxt e ∧ R (step s x) e) → ∃ e, forL f (xs.map enc) env = .nxt e ∧ R (xs.foldl step s) e
  | [], s, env, p, _ => ⟨env, rfl, p⟩
  | x :: xs, s, env, p, h => by
    obtain ⟨e, h1, h2⟩ := h x List.mem_cons_self s env p
    obtain ⟨e2, h3, h4⟩ := forL_fold xs (step s x) e h2 fun y hy => h y (List.mem_cons_of_mem _ hy)
    refine ⟨e2, ?_, h4⟩
    rw [List.map_cons]
    unfold forL
    rw [h1]
    exact h3
/-- .. with a state that a statement about it goes with -/
theorem forL_foldI {α σ : Type} {f : D → SEnv → FR} {R : σ → SEnv → Prop} {I : σ → Prop} {step : σ → α → σ} {enc : α → D} : ∀ (xs : List α) (s : σ) (env : SEnv), R s env → I s → (∀ x ∈ xs, ∀ s env, R s env → I s → I (step s x) ∧ ∃ e, f (enc x) env = .nxt e ∧ R (step s x) e) → ∃ e, forL f (xs.map enc) env = .nxt e ∧ R (xs.foldl step s) e ∧ I (xs.foldl step s)
  | [], s, env, p, i, _ => ⟨env, rfl, p, i⟩
  | x :: xs, s, env, p, i, h => by
    obtain ⟨i1, e, h1, h2⟩ := h x List.mem_cons_self s env p i
    obtain ⟨e2, h3, h4⟩ := forL_foldI xs (step s x) e h2 i1 fun y hy => h y (List.mem_cons_of_mem _ hy)
    refine ⟨e2, ?_, h4⟩
    rw [List.map_cons]
    unfold forL
    rw [h1]
    exact h3
/-! ### data without dicts -/
mutual
def nd : D → Bool
  | .list xs => ndL xs
  | .tuple xs => ndL xs
  | .dict _ => false
  | _ => true
def ndL : List D → Bool
  | [] => true
  | x :: xs => nd x && ndL xs
end
mutual
/-- tuples for lists -/
def tupD : D → D
  | .list xs => .tuple (tupL xs)
  | .tuple xs => .tuple (tupL xs)
  | d => d
def tupL : List D → List D
  | [] => []
  | x :: xs => tupD x :: tupL xs
end
theorem tupL_map : ∀ xs : List D, tupL xs = xs.map tupD
  | [] => rfl
  | x :: xs => by rw [tupL, tupL_map xs]; rfl
theorem ndL_mem : ∀ {xs : List D}, ndL xs = true → ∀ x ∈ xs, nd x = true
  | y :: ys, h, x, hx => by
    rw [ndL, Bool.and_eq_true] at h
    rcases List.mem_cons.mp hx with e | e
    · rw [e]; exact h.1
    · exact ndL_mem h.2 x e
def isSeq : D → Bool
  | .list _ => true
  | .tuple _ => true
  | _ => false
def seqOf : D → List D
  | .list xs => xs
  | .tuple xs => xs
  | _ => []
theorem isi_seq {d : D} (h : nd d = true) {Φ : Fns} {env : SEnv} {i : Nat} (e : env[i]? = some (.sh d)) : evE Φ (.isi (.v i) [.list, .tuple] true) env = .ok (.now (.bool (isSeq d))) env := by
  unfold evE
  have : evE Φ (.v i) env = .ok (.now d) env := by unfold evE; rw [e]
  rw [this]
  cases d <;> first | rfl | cases h
theorem seq_of {d : D} (h : isSeq d = true) : seqD d = some (seqOf d) := by cases d <;> first | rfl | cases h
theorem depth_seq {d : D} (h : isSeq d = true) : d.depth = PyData.depthAll (seqOf d) + 1 := by
  cases d <;> first | cases h | skip
  · simp [PyData.depth, seqOf]
  · simp [PyData.depth, seqOf]
theorem nd_seq {d : D} (h : nd d = true) (hs : isSeq d = true) : ndL (seqOf d) = true := by
  cases d <;> first | cases hs | skip
  · exact h
  · exact h
theorem tup_seq {d : D} (hs : isSeq d = true) : tupD d = .tuple (tupL (seqOf d)) := by
  cases d <;> first | cases hs | skip
  · rw [tupD]; rfl
  · rw [tupD]; rfl
theorem tup_atom {d : D} (hs : isSeq d = false) : tupD d = d := by
  cases d <;> first | (cases hs; done) | (unfold tupD; rfl)

mutual
/-- no list or tuple of it is too long -/
def sz : D → Bool
  | .list xs => szOk xs.length && szL xs
  | .tuple xs => szOk xs.length && szL xs
  | _ => true
def szL : List D → Bool
  | [] => true
  | x :: xs => sz x && szL xs
end
theorem szL_mem : ∀ {xs : List D}, szL xs = true → ∀ x ∈ xs, sz x = true
  | y :: ys, h, x, hx => by
    rw [szL, Bool.and_eq_true] at h
    rcases List.mem_cons.mp hx with e | e
    · rw [e]; exact h.1
    · exact szL_mem h.2 x e
theorem sz_seq {d : D} (h : sz d = true) (hs : isSeq d = true) : (seqOf d).length ≤ 16777216 ∧ ∀ y ∈ seqOf d, sz y = true := by
  cases d <;> first | cases hs | skip
  · rw [sz, Bool.and_eq_true] at h
    exact ⟨of_decide_eq_true h.1, szL_mem h.2⟩
  · rw [sz, Bool.and_eq_true] at h
    exact ⟨of_decide_eq_true h.1, szL_mem h.2⟩
/-! ### the values' module -/
section
variable {T : List Df} {m : Nat}
theorem too_deep_run (hT : T.find? (fun d : Df => d.name == ("too_deep" : Str)) = some d_too_deep) : ∀ (h : Nat) (d : D), nd d = true → d.depth ≤ h → ∀ (l : Nat) (m : Nat), h ≤ l → (runDf (Phi T (m + h)) d_too_deep).run [d, .int l] = .ret (.bool false) []
  | h, d, hn, hd, l, m, hl => by
    show frR (evSs (Phi T (m + h)) 100 b_too_deep [.sh d, .sh (.int l), .no]) = _
    have e1 : evT (Phi T (m + h)) (.nt (.isi (.v 0) [.list, .tuple] true)) [.sh d, .sh (.int l), .no] = .ok (!isSeq d) [.sh d, .sh (.int l), .no] := tst (nt_now (isi_seq hn rfl))
    unfold b_too_deep
    cases hs : isSeq d with
    | false =>
      rw [hs] at e1
      rw [show evSs (Phi T (m + h)) 100 (.cons (.ite (.nt (.isi (.v 0) [.list, .tuple] true)) (.cons (.ret (.k (.bool false))) .nil) .nil) _) [.sh d, .sh (.int l), .no] = _ from seq_ret (d := .bool false) (e1 := [.sh d, .sh (.int l), .no]) (by rw [ite_nxt e1]; rfl)]
      rfl
    | true =>
      rw [hs] at e1
      rw [seq_nxt ((ite_nxt e1).trans rfl)]
      have hd1 := depth_seq hs
      cases h with
      | zero => omega
      | succ h =>
      have hl0 : ((l : Int) == 0) = false := by simp; omega
      have hq := phi (m := m + h) hT
      have e2 : evT (Phi T (m + (h + 1))) (.cmp .Eq (.v 1) (.k (.int 0))) [.sh d, .sh (.int l), .no] = .ok false [.sh d, .sh (.int l), .no] := by
        have : cmpD .Eq (.int (l : Int)) (.int 0) = some false := by
          show (if SeqAt.shaped (.int (l : Int)) && SeqAt.shaped (.int 0) then some (PyData.eqv (.int (l : Int)) (.int 0)) else none) = _
          rw [show (SeqAt.shaped (.int (l : Int)) && SeqAt.shaped (.int 0)) = true from rfl]
          simp [PyData.eqv]
          omega
        refine tst ?_
        show Rs.opt ((cmpD .Eq (.int (l : Int)) (.int 0)).map fun b => Vw.now (.bool b)) _ = _
        rw [this]
        rfl
      rw [seq_nxt ((ite_nxt e2).trans rfl)]
      have hI : evI (Phi T (m + (h + 1))) (.seq (.v 0)) [.sh d, .sh (.int l), .no] = .ok (seqOf d) [.sh d, .sh (.int l), .no] := by
        show Rs.opt (seqD d) _ = _
        rw [seq_of hs]
      obtain ⟨e, q1, x, hx, q2⟩ := forL_inv (f := fun x e => match putT e (.one 2) x with
        | some e2 => evSs (Phi T (m + (h + 1))) 100 (.cons (.ite (.call "too_deep" (.cons (.v 2) (.cons (.bin .Sub (.v 1) (.k (.int 1))) .nil))) (.cons (.ret (.k (.bool true))) .nil) .nil) .nil) e2
        | none => .stuck) (P := fun e => ∃ x, nb x = true ∧ e = [.sh d, .sh (.int l), x]) (xs := seqOf d) (env := [.sh d, .sh (.int l), .no]) ⟨.no, rfl, rfl⟩ (fun y hy env ⟨x, hx, he⟩ => by
          subst he
          have hy1 : y.depth ≤ h := by have := depth_le hy; omega
          have hy2 := ndL_mem (nd_seq hn hs) y hy
          have ih := too_deep_run hT h y hy2 hy1 (l - 1) m (by omega)
          have hc : evE (Phi T (m + (h + 1))) (.call "too_deep" (.cons (.v 2) (.cons (.bin .Sub (.v 1) (.k (.int 1))) .nil))) [.sh d, .sh (.int l), .sh y] = .ok (.now (.bool false)) [.sh d, .sh (.int l), .sh y] := by
            refine callN (ws := [.now y, .now (.int ((l : Int) - 1))]) hq rfl rfl rfl rfl (b := []) ?_
            have : ((l - 1 : Nat) : Int) = (l : Int) - 1 := by omega
            rw [← this]
            exact ih
          refine ⟨[.sh d, .sh (.int l), .sh y], ?_, _, rfl, rfl⟩
          have hp : putT [.sh d, .sh (.int l), x] (.one 2) y = some [.sh d, .sh (.int l), .sh y] := putS_nb (x := x) rfl hx
          show (match putT [.sh d, .sh (.int l), x] (.one 2) y with
            | some e2 => evSs _ 100 _ e2
            | none => FR.stuck) = _
          rw [hp]
          show evSs _ 100 _ [.sh d, .sh (.int l), .sh y] = _
          rw [seq_nxt ((ite_nxt (tst hc)).trans rfl)]
          rfl)
      subst q2
      rw [seq_nxt ((for_eq hI).trans q1)]
      rfl
theorem as_tuples_run (hT : T.find? (fun d : Df => d.name == ("as_tuples" : Str)) = some d_as_tuples) : ∀ (h : Nat) (d : D), nd d = true → d.depth ≤ h → sz d = true → ∀ m : Nat, (runDf (Phi T (m + h)) d_as_tuples).run [d] = .ret (tupD d) []
  | h, d, hn, hd, hz, m => by
    show frR (evSs (Phi T (m + h)) 100 b_as_tuples [.sh d, .no]) = _
    have e1 : evT (Phi T (m + h)) (.nt (.isi (.v 0) [.list, .tuple] true)) [.sh d, .no] = .ok (!isSeq d) [.sh d, .no] := tst (nt_now (isi_seq hn rfl))
    unfold b_as_tuples
    cases hs : isSeq d with
    | false =>
      rw [hs] at e1
      rw [show evSs (Phi T (m + h)) 100 (.cons (.ite (.nt (.isi (.v 0) [.list, .tuple] true)) (.cons (.ret (.v 0)) .nil) .nil) _) [.sh d, .no] = _ from seq_ret (d := d) (e1 := [.sh d, .no]) (by rw [ite_nxt e1]; rfl), tup_atom hs]
      rfl
    | true =>
      rw [hs] at e1
      rw [seq_nxt ((ite_nxt e1).trans rfl)]
      have hd1 := depth_seq hs
      cases h with
      | zero => omega
      | succ h =>
      have hq := phi (m := m + h) hT
      have hzl : (seqOf d).length ≤ 16777216 ∧ ∀ y ∈ seqOf d, sz y = true := sz_seq hz hs
      have hI : evI (Phi T (m + (h + 1))) (.seq (.v 0)) [.sh d, .no] = .ok (seqOf d) [.sh d, .no] := by
        show Rs.opt (seqD d) _ = _
        rw [seq_of hs]
      have hl := lc_eq (Φ := Phi T (m + (h + 1))) (e := .call "as_tuples" (.cons (.v 1) .nil)) (tg := .one 1) (it := .seq (.v 0)) (c := .none) (own := [1]) (env := [.sh d, .no]) (ds := seqOf d) (g := fun y => [tupD y]) hI rfl rfl (fun y hy => by
          have hy1 : y.depth ≤ h := by have := depth_le hy; omega
          have hy2 := ndL_mem (nd_seq hn hs) y hy
          have ih := as_tuples_run hT h y hy2 hy1 (hzl.2 y hy) m
          have hc : evE (Phi T (m + (h + 1))) (.call "as_tuples" (.cons (.v 1) .nil)) [.sh d, .sh y] = .ok (.now (tupD y)) [.sh d, .sh y] := callN (ws := [.now y]) hq rfl rfl rfl rfl (b := []) ih
          show (evE (Phi T (m + (h + 1))) (.call "as_tuples" (.cons (.v 1) .nil)) [.sh d, .sh y]).bind _ = _
          rw [hc]
          rfl) (by rw [flat_one, List.length_map]; exact decide_eq_true hzl.1)
      rw [flat_one, ← tupL_map] at hl
      have hb : evE (Phi T (m + (h + 1))) (.bf .tuple (.cons (.lc (.call "as_tuples" (.cons (.v 1) .nil)) (.one 1) (.seq (.v 0)) .none [1]) .nil)) [.sh d, .no] = .ok (.now (.tuple (tupL (seqOf d)))) [.sh d, .no] := by
        unfold evE
        show Rs.bind (Rs.bind (evE (Phi T (m + (h + 1))) (.lc (.call "as_tuples" (.cons (.v 1) .nil)) (.one 1) (.seq (.v 0)) .none [1]) [.sh d, .no]) _) _ = _
        rw [hl]
        rfl
      rw [seq_ret (ret_now hb), tup_seq hs]
      rfl
end
end PyV

set_option Elab.async false
set_option linter.all false
set_option autoImplicit false
set_option maxRecDepth 100000
set_option maxHeartbeats 4000000
/-! # Defs that many laws share, continued -/
namespace PyV
open PySem PyE L2
local macro_rules | `(tactic| walk_at "ev") => `(tactic| simp [evSs, evS, evE, evEs, evO, evC, evI, evT, putW, putS, putT, putN, keepF, keepN, binD, cmpD, truD, truR, look, looks, bfD, ixD, slD, Rs.toF, Rs.bind, FR.bind, Rs.opt, szOk, isMine, appK, setK, rgD, forL, powOk, divOk, log9, frR, isTy, callK, lcStep, wipeE, *])
/-- a def's name in the table -/
abbrev Has (T : List Df) (f : Str) (d : Df) : Prop := T.find? (fun d : Df => d.name == f) = some d
section
variable {Φ : Fns} {n : Nat} {a b e : IE} {env e1 e2 : SEnv} {x y : Bool}
theorem and_f (h : evE Φ a env = .ok (.now (.bool false)) e1) : evE Φ (.and a b) env = .ok (.now (.bool false)) e1 := by
  show (evE Φ a env).bind _ = _
  rw [h]
  rfl
theorem or_t (h : evE Φ a env = .ok (.now (.bool true)) e1) : evE Φ (.or a b) env = .ok (.now (.bool true)) e1 := by
  show (evE Φ a env).bind _ = _
  rw [h]
  rfl
theorem and_b (h1 : evE Φ a env = .ok (.now (.bool x)) e1) (h2 : evE Φ b e1 = .ok (.now (.bool y)) e1) : evE Φ (.and a b) env = .ok (.now (.bool (x && y))) e1 := by
  cases x
  · exact and_f h1
  · rw [and_t h1, h2, Bool.true_and]
theorem or_b (h1 : evE Φ a env = .ok (.now (.bool x)) e1) (h2 : evE Φ b e1 = .ok (.now (.bool y)) e1) : evE Φ (.or a b) env = .ok (.now (.bool (x || y))) e1 := by
  cases x
  · rw [or_f h1, h2, Bool.false_or]
  · exact or_t h1
theorem ite_t {p q : ISs} (h : evT Φ e env = .ok true e1) : evS Φ n (.ite e p q) env = evSs Φ n p e1 := by
  rw [ite_nxt h]
  rfl
/-- a test that does nothing where it fails -/
theorem ite_0 {p : ISs} {r : ISs} (h : evT Φ e env = .ok false e1) : evSs Φ n (.cons (.ite e p .nil) r) env = evSs Φ n r e1 := seq_nxt ((ite_f h).trans rfl)
theorem ite_1 {p : ISs} {q r : ISs} {d : D} (h : evT Φ e env = .ok true e1) (h2 : evSs Φ n p e1 = .ret d e2) : evSs Φ n (.cons (.ite e p q) r) env = .ret d e2 := seq_ret ((ite_t h).trans h2)
theorem eq_int {i j : Int} (h1 : evE Φ a env = .ok (.now (.int i)) env) (h2 : evE Φ b env = .ok (.now (.int j)) env) : evE Φ (.cmp .Eq a b) env = .ok (.now (.bool (i == j))) env := by
  unfold evE
  rw [h1, bind_ok, h2, bind_ok]
  rfl
theorem cmp_now {op : CmpOp} {d d' : D} {x : Bool} (h1 : evE Φ a env = .ok (.now d) env) (h2 : evE Φ b env = .ok (.now d') env) (h : cmpD op d d' = some x) : evE Φ (.cmp op a b) env = .ok (.now (.bool x)) env := by
  unfold evE
  rw [h1, bind_ok, h2, bind_ok]
  show Rs.opt ((cmpD op d d').map fun b => Vw.now (.bool b)) env = _
  rw [h]
  rfl
theorem ret_end (h : evSs Φ n (.cons (.ret e) .nil) env = evSs Φ n (.cons (.ret e) .nil) env) : True := trivial
end
section
variable {T : List Df} {m : Nat} {Φ : Fns}
theorem plain_run (h1 : Has T "too_deep" d_too_deep) (h2 : Has T "as_tuples" d_as_tuples) {h : Nat} {d : D} (hn : nd d = true) (hd : d.depth ≤ h) (hh : h ≤ 40) (hz : sz d = true) (m : Nat) : (runDf (Phi T (m + h + 1)) d_plain).run [d] = .ret (tupD d) [] := by
  show frR (evSs (Phi T (m + h + 1)) 100 b_plain [.sh d]) = _
  have q1 := phi (m := m + h) h1
  have q2 := phi (m := m + h) h2
  have e1 : evE (Phi T (m + h + 1)) (.call "too_deep" (.cons (.v 0) (.cons (.g "DEEPEST" (.int 40)) .nil))) [.sh d] = .ok (.now (.bool false)) [.sh d] :=
    callN (ws := [.now d, .now (.int 40)]) q1 rfl rfl rfl rfl (b := []) (too_deep_run h1 h d hn hd 40 m hh)
  have e2 : evE (Phi T (m + h + 1)) (.call "as_tuples" (.cons (.v 0) .nil)) [.sh d] = .ok (.now (tupD d)) [.sh d] :=
    callN (ws := [.now d]) q2 rfl rfl rfl rfl (b := []) (as_tuples_run h2 h d hn hd hz m)
  unfold b_plain
  rw [seq_nxt ((ite_nxt (tst e1)).trans rfl), seq_ret (ret_now e2)]
  rfl
def isI : D → Bool
  | .int _ => true
  | _ => false
theorem is_int_run {d : D} (h : nd d = true) : (runDf Φ d_is_int).run [d] = .ret (.bool (isI d)) [] := by
  cases d <;> first | rfl | cases h
theorem in_range_int (h1 : Has T "is_int" d_is_int) (i lo hi : Int) (m : Nat) : (runDf (Phi T (m + 1)) d_in_range).run [.int i, .int lo, .int hi] = .ret (.bool (decide (lo ≤ i) && decide (i ≤ hi))) [] := by
  have q := phi (m := m) h1
  have r : (runDf (Phi T m) d_is_int).run [.int i] = .ret (.bool true) [] := rfl
  have e : evE (Phi T (m + 1)) (.call "is_int" (.cons (.v 0) .nil)) [.sh (.int i), .sh (.int lo), .sh (.int hi)] = .ok (.now (.bool true)) [.sh (.int i), .sh (.int lo), .sh (.int hi)] := callN (ws := [.now (.int i)]) q rfl rfl rfl rfl (b := []) r
  show frR (evSs (Phi T (m + 1)) 100 b_in_range [.sh (.int i), .sh (.int lo), .sh (.int hi)]) = _
  unfold b_in_range
  have e2 : evE (Phi T (m + 1)) (.and (.call "is_int" (.cons (.v 0) .nil)) (.and (.cmp .LtE (.v 1) (.v 0)) (.or (.cmp .Is (.v 2) (.k .none)) (.cmp .LtE (.v 0) (.v 2))))) [.sh (.int i), .sh (.int lo), .sh (.int hi)] = .ok (.now (.bool (decide (lo ≤ i) && decide (i ≤ hi)))) [.sh (.int i), .sh (.int lo), .sh (.int hi)] := by
    rw [and_t e]
    by_cases c : lo ≤ i
    · rw [decide_eq_true c]
      have : evE (Phi T (m + 1)) (.cmp .LtE (.v 1) (.v 0)) [.sh (.int i), .sh (.int lo), .sh (.int hi)] = .ok (.now (.bool true)) [.sh (.int i), .sh (.int lo), .sh (.int hi)] := by
        show Rs.ok (Vw.now (.bool (decide (lo ≤ i)))) _ = _
        rw [decide_eq_true c]
      rw [and_t this]
      rfl
    · rw [decide_eq_false c]
      refine and_f ?_
      show Rs.ok (Vw.now (.bool (decide (lo ≤ i)))) _ = _
      rw [decide_eq_false c]
  rw [seq_ret (ret_now e2)]
  rfl
theorem in_range_not (h1 : Has T "is_int" d_is_int) {d : D} (hn : nd d = true) (hi : isI d = false) (lo hg : D) (m : Nat) : (runDf (Phi T (m + 1)) d_in_range).run [d, lo, hg] = .ret (.bool false) [] := by
  have q := phi (m := m) h1
  have r : (runDf (Phi T m) d_is_int).run [d] = .ret (.bool false) [] := by rw [is_int_run hn, hi]
  have e : evE (Phi T (m + 1)) (.call "is_int" (.cons (.v 0) .nil)) [.sh d, .sh lo, .sh hg] = .ok (.now (.bool false)) [.sh d, .sh lo, .sh hg] := callN (ws := [.now d]) q rfl rfl rfl rfl (b := []) r
  show frR (evSs (Phi T (m + 1)) 100 b_in_range [.sh d, .sh lo, .sh hg]) = _
  unfold b_in_range
  have e2 : evE (Phi T (m + 1)) (.and (.call "is_int" (.cons (.v 0) .nil)) (.and (.cmp .LtE (.v 1) (.v 0)) (.or (.cmp .Is (.v 2) (.k .none)) (.cmp .LtE (.v 0) (.v 2))))) [.sh d, .sh lo, .sh hg] = .ok (.now (.bool false)) [.sh d, .sh lo, .sh hg] := by
    exact and_f e
  rw [seq_ret (ret_now e2)]
  rfl
theorem is_tuple_any (Φ : Fns) (xs : List D) : (runDf Φ d_is_tuple).run [.tuple xs, .none] = .ret (.bool true) [] := rfl
theorem is_tuple_len (Φ : Fns) (xs : List D) (n : Int) : (runDf Φ d_is_tuple).run [.tuple xs, .int n] = .ret (.bool ((xs.length : Int) == n)) [] := rfl
theorem is_tuple_not (Φ : Fns) {d : D} (hn : nd d = true) (h : ∀ xs, d ≠ .tuple xs) (n : D) : (runDf Φ d_is_tuple).run [d, n] = .ret (.bool false) [] := by
  cases d <;> first | rfl | cases hn | exact absurd rfl (h _)
theorem need_true (Φ : Fns) (d : D) : (runDf Φ d_need).run [.bool true, d] = .ret .none [] := rfl
theorem need_false (Φ : Fns) (d : D) : (runDf Φ d_need).run [.bool false, d] = .exc "BadValue" d [] := rfl
/-! ### the laws' own == -/
mutual
def sane : D → Bool
  | .tuple xs => decide (xs.length ≤ 100000) && saneL xs
  | .none => true
  | .bool _ => true
  | .int _ => true
  | .str x => (PyData.str x).canLay0
  | _ => false
def saneL : List D → Bool
  | [] => true
  | x :: xs => sane x && saneL xs
end
theorem saneL_mem : ∀ {xs : List D}, saneL xs = true → ∀ x ∈ xs, sane x = true
  | y :: ys, h, x, hx => by
    rw [saneL, Bool.and_eq_true] at h
    rcases List.mem_cons.mp hx with e | e
    · rw [e]; exact h.1
    · exact saneL_mem h.2 x e
theorem all_true {α : Type} : ∀ (xs : List α), bfD .all [.list (xs.map fun _ => PyData.bool true)] = some (.now (.bool true)) := fun xs => by
  have := all_bools (fun _ : α => true) xs
  rw [this]
  simp
theorem eqv_int (i : Int) : PyData.eqv (.int i) (.int i) = true := by simp [PyData.eqv]
theorem eqv_str (i : Str) : PyData.eqv (.str i) (.str i) = true := by simp [PyData.eqv]
theorem ceq_int (i j : Int) : cmpD .Eq (.int i) (.int j) = some (i == j) := rfl
theorem cne_int (i j : Int) : cmpD .NotEq (.int i) (.int j) = some (!(i == j)) := rfl
theorem ceq_self (i : Int) : cmpD .Eq (.int i) (.int i) = some true := by
  rw [ceq_int, beq_self_eq_true]
theorem same_atom {Φ : Fns} {d : D} (h1 : isTy d .tuple = false) (h2 : d ≠ .none) (h3 : nd d = true) (h4 : (isTy d .int || isTy d .str) = true) (h5 : cmpD .Eq d d = some true) : (runDf Φ d__law_same).run [d, d] = .ret (.bool true) [] := by
  show frR (evSs Φ 100 b__law_same [.sh d, .sh d, .no]) = _
  unfold b__law_same
  have i1 : ∀ (i : Nat), i < 2 → ∀ t : List Ty, evE Φ (.isi (.v i) t true) [.sh d, .sh d, .no] = .ok (.now (.bool (t.any (isTy d)))) [.sh d, .sh d, .no] := by
    intro i hi t
    have : evE Φ (.v i) [.sh d, .sh d, .no] = .ok (.now d) [.sh d, .sh d, .no] := by
      rcases i with _ | _ | i <;> first | rfl | omega
    unfold evE
    rw [this]
    cases d <;> first | rfl | cases h3
  have i2 : ∀ (i : Nat), i < 2 → ∀ t : Ty, evE Φ (.isi (.v i) [t] false) [.sh d, .sh d, .no] = .ok (.now (.bool (isTy d t))) [.sh d, .sh d, .no] := by
    intro i hi t
    have : evE Φ (.v i) [.sh d, .sh d, .no] = .ok (.now d) [.sh d, .sh d, .no] := by
      rcases i with _ | _ | i <;> first | rfl | omega
    unfold evE
    rw [this]
    have e : [t].any (isTy d) = isTy d t := by simp
    cases d <;> first | (cases h3; done) | (rw [← e]; rfl)
  have n1 : evE Φ (.cmp .Is (.v 1) (.k .none)) [.sh d, .sh d, .no] = .ok (.now (.bool false)) [.sh d, .sh d, .no] := by
    rw [is_none (d := d) rfl]
    cases d <;> first | rfl | exact absurd rfl h2
  have ne : ∀ t : Ty, evE Φ (.cmp .NotEq (.isi (.v 0) [t] false) (.isi (.v 1) [t] false)) [.sh d, .sh d, .no] = .ok (.now (.bool false)) [.sh d, .sh d, .no] := fun t => by
    refine cmp_now (i2 0 (by decide) t) (i2 1 (by decide) t) ?_
    cases isTy d t <;> rfl
  have f1 := i2 1 (by decide) .tuple
  rw [h1] at f1
  rw [ite_0 (tst (and_f f1)), ite_0 (tst n1), ite_0 (tst ((or_f (ne .bool)).trans (ne .str)))]
  have e1 := i1 0 (by decide) [.int, .str]
  have e4 : [Ty.int, Ty.str].any (isTy d) = true := by
    rw [List.any_cons, List.any_cons, List.any_nil, Bool.or_false]
    exact h4
  rw [e4] at e1
  rw [seq_ret (ret_now ((and_t e1).trans (cmp_now rfl rfl h5)))]
  rfl
theorem same_run (h1 : Has T "_law_same" d__law_same) : ∀ (h : Nat) (d : D), sane d = true → d.depth ≤ h → ∀ m : Nat, (runDf (Phi T (m + h)) d__law_same).run [d, d] = .ret (.bool true) []
  | h, .none, _, _, m => rfl
  | h, .bool b, _, _, m => by cases b <;> rfl
  | h, .int i, _, _, m => same_atom rfl (by simp) rfl rfl (by
      show (if (SeqAt.shaped (.int i) && SeqAt.shaped (.int i)) = true then some (PyData.eqv (.int i) (.int i)) else none) = _
      rw [eqv_int]
      rfl)
  | h, .str x, hs, _, m => same_atom rfl (by simp) rfl rfl (by
      have : SeqAt.shaped (.str x) = true := by
        unfold SeqAt.shaped
        rw [show (PyData.str x).canLay0 = true from hs]
        rfl
      show (if (SeqAt.shaped (.str x) && SeqAt.shaped (.str x)) = true then some (PyData.eqv (.str x) (.str x)) else none) = _
      rw [eqv_str, this]
      rfl)
  | h, .list _, hs, _, _ => by simp [sane] at hs
  | h, .dict _, hs, _, _ => by simp [sane] at hs
  | 0, .tuple xs, hs, hd, m => by
    rw [PyData.depth] at hd
    omega
  | h + 1, .tuple xs, hs, hd, m => by
    rw [sane, Bool.and_eq_true, decide_eq_true_eq] at hs
    rw [PyData.depth] at hd
    obtain ⟨hl, hs⟩ := hs
    show frR (evSs (Phi T (m + (h + 1))) 100 b__law_same [.sh (.tuple xs), .sh (.tuple xs), .no]) = _
    unfold b__law_same
    have hq := phi (m := m + h) h1
    have r1 : rOk (xs.length : Int) = true := rOk_nat (by omega)
    have hI : evI (Phi T (m + (h + 1))) (.r1 (.bf .len (.cons (.v 1) .nil))) [.sh (.tuple xs), .sh (.tuple xs), .no] = .ok (rgD 0 xs.length) [.sh (.tuple xs), .sh (.tuple xs), .no] := by
      show (if rOk (xs.length : Int) = true then Rs.ok (rgD 0 ((xs.length : Int)).toNat) _ else .stuck) = _
      rw [if_pos r1]
      rfl
    have hlc := lc_eq (Φ := Phi T (m + (h + 1))) (e := .call "_law_same" (.cons (.ix (.v 0) (.v 2)) (.cons (.ix (.v 1) (.v 2)) .nil))) (tg := .one 2) (c := .none) (own := [2]) (env := [.sh (.tuple xs), .sh (.tuple xs), .no]) (g := fun _ => [.bool true]) hI rfl rfl (fun y hy => by
        obtain ⟨i, hi, rfl⟩ := rgD_mem hy
        have ha : ixD (.tuple xs) (.int (i : Nat)) = some xs[i] := at_nat hi
        have hm : xs[i] ∈ xs := List.getElem_mem hi
        have ih := same_run h1 h xs[i] (saneL_mem hs _ hm) (by have := depth_le hm; omega) m
        have e1 : ∀ j, j < 2 → evE (Phi T (m + (h + 1))) (.ix (.v j) (.v 2)) [.sh (.tuple xs), .sh (.tuple xs), .sh (.int (i : Nat))] = .ok (.now xs[i]) [.sh (.tuple xs), .sh (.tuple xs), .sh (.int (i : Nat))] := by
          intro j hj
          have : evE (Phi T (m + (h + 1))) (.v j) [.sh (.tuple xs), .sh (.tuple xs), .sh (.int (i : Nat))] = .ok (.now (.tuple xs)) [.sh (.tuple xs), .sh (.tuple xs), .sh (.int (i : Nat))] := by
            rcases j with _ | _ | j <;> first | rfl | omega
          unfold evE
          rw [this, bind_ok]
          show Rs.opt ((ixD (.tuple xs) (.int (i : Nat))).map Vw.now) _ = _
          rw [ha]
          rfl
        have hc : evE (Phi T (m + (h + 1))) (.call "_law_same" (.cons (.ix (.v 0) (.v 2)) (.cons (.ix (.v 1) (.v 2)) .nil))) [.sh (.tuple xs), .sh (.tuple xs), .sh (.int (i : Nat))] = .ok (.now (.bool true)) [.sh (.tuple xs), .sh (.tuple xs), .sh (.int (i : Nat))] :=
          callN hq (es_cons (e1 0 (by decide)) (es_cons (e1 1 (by decide)) rfl)) rfl rfl rfl (b := []) ih
        show (evE (Phi T (m + (h + 1))) (.call "_law_same" (.cons (.ix (.v 0) (.v 2)) (.cons (.ix (.v 1) (.v 2)) .nil))) [.sh (.tuple xs), .sh (.tuple xs), .sh (.int (i : Nat))]).bind _ = _
        rw [hc]
        rfl) (by rw [flat_one, List.length_map]; simp [rgD]; exact decide_eq_true (by omega))
    rw [flat_one] at hlc
    have hb : evE (Phi T (m + (h + 1))) (.bf .all (.cons (.lc (.call "_law_same" (.cons (.ix (.v 0) (.v 2)) (.cons (.ix (.v 1) (.v 2)) .nil))) (.one 2) (.r1 (.bf .len (.cons (.v 1) .nil))) .none [2]) .nil)) [.sh (.tuple xs), .sh (.tuple xs), .no] = .ok (.now (.bool true)) [.sh (.tuple xs), .sh (.tuple xs), .no] := by
      unfold evE
      show Rs.bind (Rs.bind (evE (Phi T (m + (h + 1))) (.lc _ _ _ _ _) [.sh (.tuple xs), .sh (.tuple xs), .no]) _) _ = _
      rw [hlc]
      show Rs.opt (bfD .all [.list _]) _ = _
      rw [all_true] <;> rfl
    have t1 : evE (Phi T (m + (h + 1))) (.and (.isi (.v 1) [.tuple] false) (.and (.isi (.v 0) [.tuple] false) (.cmp .Eq (.bf .len (.cons (.v 0) .nil)) (.bf .len (.cons (.v 1) .nil))))) [.sh (.tuple xs), .sh (.tuple xs), .no] = .ok (.now (.bool true)) [.sh (.tuple xs), .sh (.tuple xs), .no] := by
      refine (and_t rfl).trans ((and_t rfl).trans (cmp_now (d := .int (xs.length : Nat)) (d' := .int (xs.length : Nat)) rfl rfl (ceq_self _)))
    rw [ite_1 (tst t1) (seq_ret (ret_now hb))]
    rfl
end
end PyV

set_option Elab.async false
set_option linter.all false
set_option autoImplicit false
set_option maxRecDepth 100000
set_option maxHeartbeats 4000000
/-! # The laws' draws -/
namespace PyV
open PySem PyE L2
local macro_rules | `(tactic| walk_at "ev") => `(tactic| simp [evSs, evS, evE, evEs, evO, evC, evI, evT, putW, putS, putT, putN, keepF, keepN, binD, cmpD, truD, truR, look, looks, bfD, ixD, slD, Rs.toF, Rs.bind, FR.bind, Rs.opt, szOk, isMine, appK, setK, rgD, forL, powOk, divOk, log9, frR, isTy, callK, lcStep, wipeE, *])
theorem forL_rg' {f : D → SEnv → FR} {R : Nat → SEnv → Prop} : ∀ (k s : Nat) {env : SEnv}, R s env → (∀ i, s ≤ i → i < s + k → ∀ env, R i env → ∃ e, f (.int (i : Nat)) env = .nxt e ∧ R (i + 1) e) → ∃ e, forL f ((List.range' s k).map fun i => .int (i : Nat)) env = .nxt e ∧ R (s + k) e
  | 0, s, env, p, _ => ⟨env, rfl, p⟩
  | k + 1, s, env, p, h => by
    obtain ⟨e, h1, h2⟩ := h s (Nat.le_refl _) (by omega) env p
    obtain ⟨e2, h3, h4⟩ := forL_rg' k (s + 1) h2 fun i h5 h6 => h i (by omega) (by omega)
    refine ⟨e2, ?_, by rw [show s + (k + 1) = s + 1 + k from by omega]; exact h4⟩
    rw [List.range'_succ, List.map_cons]
    unfold forL
    rw [h1]
    exact h3
theorem rgD_range' (n : Nat) : rgD 0 n = (List.range' 0 n).map fun i => .int (i : Nat) := by
  unfold rgD
  rw [List.range_eq_range']
  simp
/-- for i in range(n) -/
theorem forL_range {f : D → SEnv → FR} {R : Nat → SEnv → Prop} (n : Nat) {env : SEnv} (p : R 0 env) (h : ∀ i, i < n → ∀ env, R i env → ∃ e, f (.int (i : Nat)) env = .nxt e ∧ R (i + 1) e) : ∃ e, forL f (rgD 0 n) env = .nxt e ∧ R n e := by
  rw [rgD_range']
  have := forL_rg' (f := f) (R := R) n 0 p fun i _ hi => h i (by omega)
  rw [Nat.zero_add] at this
  exact this
def In9 (x : Int) : Prop := 0 ≤ x ∧ x < 1000000000
theorem in9_mod (x : Int) : In9 (x % 1000000000) := ⟨Int.emod_nonneg _ (by decide), Int.emod_lt_of_pos _ (by decide)⟩
def RD (s : D) (p n cell : Int) (c : Nat) (env : SEnv) : Prop := ∃ (ns : List Int) (rest : Int) (x6 x7 : Sl), ns.length = c ∧ (∀ x ∈ ns, In9 x) ∧ nb x6 = true ∧ nb x7 = true ∧ env = [.sh s, .sh (.int p), .sh (.int n), .sh (.int cell), .own (ns.map .int), .sh (.int rest), x6, x7]
theorem RD.next {s : D} {p n cell : Int} {c : Nat} {ns : List Int} {x rest : Int} {x6 x7 : Sl} (h1 : ns.length = c) (h2 : ∀ x ∈ ns, In9 x) (hx : In9 x) (h6 : nb x6 = true) (h7 : nb x7 = true) {env : SEnv} (e : env = [.sh s, .sh (.int p), .sh (.int n), .sh (.int cell), .own (ns.map .int ++ [.int x]), .sh (.int rest), x6, x7]) : RD s p n cell (c + 1) env := by
  refine ⟨ns ++ [x], rest, x6, x7, by rw [List.length_append, h1]; rfl, fun y hy => ?_, h6, h7, by rw [e, List.map_append]; rfl⟩
  rcases List.mem_append.mp hy with z | z
  · exact h2 y z
  · rw [List.mem_singleton.mp z]; exact hx
def numB : ISs := (.cons (.ite (.cmp .GtE (.v 3) (.bin .Pow (.k (.int 10)) (.k (.int 18)))) (.cons (.app 4 (.bin .Mod (.bf .int (.cons (.v 5) .nil)) (.bin .Pow (.k (.int 10)) (.k (.int 9))))) (.cons (.asg 5 (.bin .FloorDiv (.v 5) (.bin .Pow (.k (.int 10)) (.k (.int 9))))) .nil)) (.cons (.asg 7 (.bin .Mod (.bf .int (.cons (.bin .Add (.bin .Add (.bin .Mult (.v 3) (.k (.int 48271))) (.bin .Mult (.bin .Add (.v 6) (.k (.int 1))) (.k (.int 69621)))) (.v 1)) .nil)) (.k (.int 2147483647)))) (.cons (.app 4 (.bin .Mod (.bin .Mod (.bf .int (.cons (.bin .Add (.bin .Mult (.v 7) (.k (.int 16807))) (.bin .Mult (.bin .Add (.v 6) (.k (.int 3))) (.k (.int 40692)))) .nil)) (.k (.int 2147483399))) (.bin .Pow (.k (.int 10)) (.k (.int 9))))) .nil))) .nil)
theorem numDraw : (∀ i, mulOk i 48271 = true) ∧ (∀ i, mulOk i 69621 = true) ∧ (∀ i, mulOk i 16807 = true) ∧ (∀ i, mulOk i 40692 = true) :=
  ⟨fun _ => mulOk_r (by decide +kernel), fun _ => mulOk_r (by decide +kernel), fun _ => mulOk_r (by decide +kernel), fun _ => mulOk_r (by decide +kernel)⟩
theorem num_turn (Φ : Fns) {s : D} {p n cell : Int} {c i : Nat} (hc : c < 1000) {env : SEnv} (h : RD s p n cell c env) : ∃ e, (match putT env (.one 6) (.int (i : Nat)) with
    | some e2 => evSs Φ 100 numB e2
    | none => .stuck) = .nxt e ∧ RD s p n cell (c + 1) e := by
  obtain ⟨ns, rest, x6, x7, h1, h2, h6, h7, rfl⟩ := h
  obtain ⟨m1, m2, m3, m4⟩ := numDraw
  have hp : putT [.sh s, .sh (.int p), .sh (.int n), .sh (.int cell), .own (ns.map .int), .sh (.int rest), x6, x7] (.one 6) (.int (i : Nat)) = some [.sh s, .sh (.int p), .sh (.int n), .sh (.int cell), .own (ns.map .int), .sh (.int rest), .sh (.int (i : Nat)), x7] := putS_nb (x := x6) rfl h6
  rw [hp]
  have hz : c ≤ 16777215 := by omega
  by_cases hb : (1000000000000000000 : Int) ≤ cell
  · refine ⟨_, ?_, RD.next (rest := rest / 1000000000) h1 h2 (in9_mod rest) (x6 := .sh (.int (i : Nat))) (x7 := x7) rfl h7 rfl⟩
    unfold numB
    walk_at "ev"
  · refine ⟨_, ?_, RD.next (rest := rest) h1 h2 (in9_mod ((((cell * 48271 + ((i : Int) + 1) * 69621 + p) % 2147483647) * 16807 + ((i : Int) + 3) * 40692) % 2147483399)) (x6 := .sh (.int (i : Nat))) (x7 := .sh (.int ((cell * 48271 + ((i : Int) + 1) * 69621 + p) % 2147483647))) rfl rfl rfl⟩
    cases x7 <;> first | (cases h7; done) | (unfold numB; walk_at "ev")
theorem numbers_run (Φ : Fns) (ns : List Int) (k n : Nat) (hn : n ≤ 1000) : ∃ xs : List Int, xs.length = n ∧ (∀ x ∈ xs, In9 x) ∧ (runDf Φ d__law_numbers).run [.list (ns.map .int), .int k, .int n] = .ret (.list (xs.map .int)) [] := by
  have hcell : ∃ cell : Int, evE Φ (.ife (.cmp .Lt (.v 1) (.bf .len (.cons (.v 0) .nil))) (.ix (.v 0) (.v 1)) (.k (.int 0))) [.sh (.list (ns.map .int)), .sh (.int k), .sh (.int n), .no, .no, .no, .no, .no] = .ok (.now (.int cell)) [.sh (.list (ns.map .int)), .sh (.int k), .sh (.int n), .no, .no, .no, .no, .no] := by
    by_cases h : k < ns.length
    · have q := at_ints h
      refine ⟨ns[k], ?_⟩
      walk_at "ev"
    · refine ⟨0, ?_⟩
      walk_at "ev"
  obtain ⟨cell, hc⟩ := hcell
  have hI : evI Φ (.r1 (.v 2)) [.sh (.list (ns.map .int)), .sh (.int k), .sh (.int n), .sh (.int cell), .own [], .sh (.int cell), .no, .no] = .ok (rgD 0 n) [.sh (.list (ns.map .int)), .sh (.int k), .sh (.int n), .sh (.int cell), .own [], .sh (.int cell), .no, .no] := by
    show (if rOk (n : Int) = true then Rs.ok (rgD 0 ((n : Int)).toNat) _ else .stuck) = _
    rw [if_pos (rOk_nat (by omega))]
    rfl
  obtain ⟨e, q1, xs, rest, x6, x7, h1, h2, h6, h7, rfl⟩ := forL_range (f := fun x e => match putT e (.one 6) x with
      | some e2 => evSs Φ 100 numB e2
      | none => .stuck) (R := RD (.list (ns.map .int)) k n cell) n (env := [.sh (.list (ns.map .int)), .sh (.int k), .sh (.int n), .sh (.int cell), .own [], .sh (.int cell), .no, .no]) ⟨[], cell, .no, .no, rfl, (fun x hx => by cases hx), rfl, rfl, rfl⟩ fun i hi env h => num_turn Φ (by omega) h
  refine ⟨xs, h1, h2, ?_⟩
  show frR (evSs Φ 100 b__law_numbers [.sh (.list (ns.map .int)), .sh (.int k), .sh (.int n), .no, .no, .no, .no, .no]) = _
  unfold b__law_numbers
  rw [seq_nxt (asg_now hc (x := .no) rfl rfl)]
  rw [seq_nxt (asg_tmp (ds := []) (x := .no) rfl rfl rfl)]
  rw [seq_nxt (asg_now (d := .int cell) (x := .no) rfl rfl rfl)]
  show frR (evSs Φ 100 (.cons (.for_ (.one 6) (.r1 (.v 2)) numB) (.cons (.ret (.v 4)) .nil)) [.sh (.list (ns.map .int)), .sh (.int k), .sh (.int n), .sh (.int cell), .own [], .sh (.int cell), .no, .no]) = _
  rw [seq_nxt ((for_eq hI).trans q1)]
  rfl
/-! ### .. of the other laws -/
def drwB : ISs := (.cons (.ite (.cmp .GtE (.v 3) (.bin .Pow (.k (.int 10)) (.k (.int 18)))) (.cons (.app 4 (.bin .Mod (.bf .int (.cons (.v 5) .nil)) (.bin .Pow (.k (.int 10)) (.k (.int 9))))) (.cons (.asg 5 (.bin .FloorDiv (.v 5) (.bin .Pow (.k (.int 10)) (.k (.int 9))))) .nil)) (.cons (.asg 7 (.bin .Mod (.bf .int (.cons (.bin .Add (.bin .Add (.bin .Mult (.bf .abs (.cons (.v 3) .nil)) (.k (.int 69069))) (.bin .Mult (.bin .Add (.v 6) (.k (.int 1))) (.k (.int 39916801)))) (.bin .Mult (.v 1) (.k (.int 7919)))) .nil)) (.k (.int 2147483647)))) (.cons (.app 4 (.bin .Mod (.bin .Mod (.bf .int (.cons (.bin .Add (.bin .Mult (.v 7) (.k (.int 48271))) (.bin .Mult (.bin .Add (.v 6) (.k (.int 5))) (.k (.int 16807)))) .nil)) (.k (.int 2147483629))) (.bin .Pow (.k (.int 10)) (.k (.int 9))))) .nil))) .nil)
def absI (i : Int) : Int := if i < 0 then -i else i
theorem drw_turn (Φ : Fns) {s : D} {p n cell : Int} {c i : Nat} (hc : c < 1000) {env : SEnv} (h : RD s p n cell c env) : ∃ e, (match putT env (.one 6) (.int (i : Nat)) with
    | some e2 => evSs Φ 100 drwB e2
    | none => .stuck) = .nxt e ∧ RD s p n cell (c + 1) e := by
  obtain ⟨ns, rest, x6, x7, h1, h2, h6, h7, rfl⟩ := h
  obtain ⟨m1, m2, m3, m4, m5, m6⟩ := mulDraw
  have hp : putT [.sh s, .sh (.int p), .sh (.int n), .sh (.int cell), .own (ns.map .int), .sh (.int rest), x6, x7] (.one 6) (.int (i : Nat)) = some [.sh s, .sh (.int p), .sh (.int n), .sh (.int cell), .own (ns.map .int), .sh (.int rest), .sh (.int (i : Nat)), x7] := putS_nb (x := x6) rfl h6
  rw [hp]
  have hz : c ≤ 16777215 := by omega
  by_cases hb : (1000000000000000000 : Int) ≤ cell
  · refine ⟨_, ?_, RD.next (rest := rest / 1000000000) h1 h2 (in9_mod rest) (x6 := .sh (.int (i : Nat))) (x7 := x7) rfl h7 rfl⟩
    unfold drwB
    walk_at "ev"
  · refine ⟨_, ?_, RD.next (rest := rest) h1 h2 (in9_mod (((((if cell < 0 then -cell else cell) * 69069 + ((i : Int) + 1) * 39916801 + p * 7919) % 2147483647) * 48271 + ((i : Int) + 5) * 16807) % 2147483629)) (x6 := .sh (.int (i : Nat))) (x7 := .sh (.int (((if cell < 0 then -cell else cell) * 69069 + ((i : Int) + 1) * 39916801 + p * 7919) % 2147483647))) rfl rfl rfl⟩
    cases x7 <;> first | (cases h7; done) | (unfold drwB; walk_at "ev")
theorem draws_run (Φ : Fns) (ns : List Int) (k n : Nat) (hn : n ≤ 1000) : ∃ xs : List Int, xs.length = n ∧ (∀ x ∈ xs, In9 x) ∧ (runDf Φ d__law_draws).run [.list (ns.map .int), .int k, .int n] = .ret (.list (xs.map .int)) [] := by
  obtain ⟨m1, m2, m3, m4, m5, m6⟩ := mulDraw
  have hcell : ∃ cell : Int, evE Φ (.ife (.cmp .Lt (.v 1) (.bf .len (.cons (.v 0) .nil))) (.ix (.v 0) (.v 1)) (.bin .Add (.bin .Mult (.k (.int 7)) (.v 1)) (.k (.int 3)))) [.sh (.list (ns.map .int)), .sh (.int k), .sh (.int n), .no, .no, .no, .no, .no] = .ok (.now (.int cell)) [.sh (.list (ns.map .int)), .sh (.int k), .sh (.int n), .no, .no, .no, .no, .no] := by
    by_cases h : k < ns.length
    · have q := at_ints h
      refine ⟨ns[k], ?_⟩
      walk_at "ev"
    · refine ⟨7 * k + 3, ?_⟩
      walk_at "ev"
  obtain ⟨cell, hc⟩ := hcell
  have hI : evI Φ (.r1 (.v 2)) [.sh (.list (ns.map .int)), .sh (.int k), .sh (.int n), .sh (.int cell), .own [], .sh (.int cell), .no, .no] = .ok (rgD 0 n) [.sh (.list (ns.map .int)), .sh (.int k), .sh (.int n), .sh (.int cell), .own [], .sh (.int cell), .no, .no] := by
    show (if rOk (n : Int) = true then Rs.ok (rgD 0 ((n : Int)).toNat) _ else .stuck) = _
    rw [if_pos (rOk_nat (by omega))]
    rfl
  obtain ⟨e, q1, xs, rest, x6, x7, h1, h2, h6, h7, rfl⟩ := forL_range (f := fun x e => match putT e (.one 6) x with
      | some e2 => evSs Φ 100 drwB e2
      | none => .stuck) (R := RD (.list (ns.map .int)) k n cell) n (env := [.sh (.list (ns.map .int)), .sh (.int k), .sh (.int n), .sh (.int cell), .own [], .sh (.int cell), .no, .no]) ⟨[], cell, .no, .no, rfl, (fun x hx => by cases hx), rfl, rfl, rfl⟩ fun i hi env h => drw_turn Φ (by omega) h
  refine ⟨xs, h1, h2, ?_⟩
  show frR (evSs Φ 100 b__law_draws [.sh (.list (ns.map .int)), .sh (.int k), .sh (.int n), .no, .no, .no, .no, .no]) = _
  unfold b__law_draws
  rw [seq_nxt (asg_now hc (x := .no) rfl rfl)]
  rw [seq_nxt (asg_tmp (ds := []) (x := .no) rfl rfl rfl)]
  rw [seq_nxt (asg_now (d := .int cell) (x := .no) rfl rfl rfl)]
  show frR (evSs Φ 100 (.cons (.for_ (.one 6) (.r1 (.v 2)) drwB) (.cons (.ret (.v 4)) .nil)) [.sh (.list (ns.map .int)), .sh (.int k), .sh (.int n), .sh (.int cell), .own [], .sh (.int cell), .no, .no]) = _
  rw [seq_nxt ((for_eq hI).trans q1)]
  rfl
/-! ### one draw of a state -/
def nxtS (s : Int) : Int := (s * 48271 + 12345) % 2147483647
def valS (s many : Int) : Int := nxtS s / 11 % many
theorem draw_run (Φ : Fns) (s many : Int) (h : 0 < many) : (runDf Φ d__law_draw).run [.list [.int s], .int many] = .ret (.int (valS s many)) [.int (nxtS s)] := by
  show frB (evSs Φ 100 b__law_draw [.bor [.int s], .sh (.int many)]) = _
  have m1 := numDraw.1 s
  have d1 : divOk 11 = true := by decide +kernel
  unfold b__law_draw valS nxtS
  simp [evSs, evS, evE, evEs, putW, putS, keepF, binD, look, looks, bfD, ixD, atI, ixN, Rs.toF, Rs.bind, FR.bind, Rs.opt, isMine, setK, m1, d1, h, frB, lentB]
end PyV

set_option Elab.async false
set_option linter.all false
set_option autoImplicit false
set_option maxRecDepth 100000
set_option maxHeartbeats 4000000
/-! # Order of tuples, least ones -/
namespace PyV
open PySem PyE L2 PySem.W
abbrev iT (a : List Int) : D := .tuple (a.map PyData.int)
abbrev iL (a : List Int) : D := .list (a.map PyData.int)
theorem ltT_cons {x y : D} {xs ys : List D} (h : alike x y = true) : dataLt (.tuple (x :: xs)) (.tuple (y :: ys)) = if PyData.eqv x y = true then dataLt (.tuple xs) (.tuple ys) else dataLt x y := by
  rw [dataLt_tuple, dataLt_tuple]
  cases e : PyData.eqv x y with
  | true => exact dataLt_all_yes h e
  | false => exact dataLt_all_no h e
theorem ltT_nc (y : D) (ys : List D) : dataLt (.tuple []) (.tuple (y :: ys)) = true := by
  rw [dataLt_tuple, toks_all_cons]
  rfl
theorem ltT_cn (y : D) (ys : List D) : dataLt (.tuple (y :: ys)) (.tuple []) = false := by
  rw [dataLt_tuple, toks_all_cons]
  rfl
theorem ltT_nn : dataLt (.tuple []) (.tuple []) = false := rfl
/-- the lists' order -/
def llt : List Int → List Int → Bool
  | [], [] => false
  | [], _ :: _ => true
  | _ :: _, [] => false
  | x :: xs, y :: ys => if x = y then llt xs ys else decide (x < y)
theorem eqv_ii (x y : Int) : PyData.eqv (.int x) (.int y) = (x == y) := by simp [PyData.eqv]
theorem ltT_ints : ∀ (a b : List Int), dataLt (iT a) (iT b) = llt a b
  | [], [] => rfl
  | [], _ :: _ => ltT_nc _ _
  | _ :: _, [] => ltT_cn _ _
  | x :: xs, y :: ys => by
    show dataLt (.tuple (.int x :: xs.map .int)) (.tuple (.int y :: ys.map .int)) = _
    rw [ltT_cons rfl, eqv_ii, dataLt_int, llt]
    by_cases h : x = y
    · rw [if_pos h, if_pos (by rw [h]; exact beq_self_eq_true _)]
      exact ltT_ints xs ys
    · rw [if_neg h, if_neg (by simpa using h)]
theorem alike_ints : ∀ (a b : List Int), alikeAll (a.map PyData.int) (b.map PyData.int) = true
  | [], b => by cases b <;> rfl
  | x :: a, [] => rfl
  | x :: a, y :: b => by
    show (alike (.int x) (.int y) && alikeAll (a.map .int) (b.map .int)) = true
    rw [alike_ints a b]
    rfl
theorem alike_iT (a b : List Int) : alike (iT a) (iT b) = true := alike_ints a b
theorem depth_ints : ∀ (a : List Int), PyData.depthAll (a.map PyData.int) = 0
  | [] => rfl
  | x :: a => by
    show max 0 (PyData.depthAll (a.map .int)) = 0
    rw [depth_ints a]
    rfl
theorem depth_iT (a : List Int) : (iT a).depth = 1 := by
  show PyData.depthAll (a.map .int) + 1 = 1
  rw [depth_ints]
theorem lay_ints : ∀ (a : List Int), PyData.canLayAll0 (a.map PyData.int) = true
  | [] => rfl
  | x :: a => by
    show (true && PyData.canLayAll0 (a.map .int)) = true
    rw [lay_ints a]
    rfl
theorem lay_iT (a : List Int) : (iT a).canLay0 = true := lay_ints a
theorem shaped_iT (a : List Int) : SeqAt.shaped (iT a) = true := by
  unfold SeqAt.shaped
  rw [lay_iT, depth_iT]
  rfl
theorem ordOk_iT (a b : List Int) : ordOk (iT a) (iT b) = true := by
  unfold ordOk
  rw [alike_iT, depth_iT]
  rfl
theorem clt_iT (a b : List Int) : cmpD .Lt (iT a) (iT b) = some (llt a b) := by
  show (if ordOk (iT a) (iT b) = true then some (dataLt (iT a) (iT b)) else none) = _
  rw [ordOk_iT, ltT_ints]
  rfl
theorem alikeL_mk {xs : List D} (h1 : ∀ x ∈ xs, ∀ y ∈ xs, alike x y = true) (h2 : ∀ x ∈ xs, x ≠ .none) (h3 : ∀ x ∈ xs, x.depth ≤ 40) (h4 : ∀ x ∈ xs, x.canLay0 = true) : alikeL xs = true := by
  have hd : PyData.depthAll xs ≤ 40 := by
    have key : ∀ ys : List D, (∀ y ∈ ys, y.depth ≤ 40) → PyData.depthAll ys ≤ 40 := by
      intro ys
      induction ys with
      | nil => intro _; exact Nat.zero_le _
      | cons y ys ih =>
        intro h
        rw [PyData.depthAll]
        exact Nat.max_le.mpr ⟨h y List.mem_cons_self, ih fun z hz => h z (List.mem_cons_of_mem _ hz)⟩
    exact key xs h3
  unfold alikeL
  simp only [Bool.and_eq_true, List.all_eq_true, decide_eq_true_eq]
  refine ⟨⟨⟨fun x hx y hy => h1 x hx y hy, fun x hx => ?_⟩, hd⟩, fun x hx => h4 x hx⟩
  have := h2 x hx
  cases x <;> first | rfl | exact absurd rfl this
/-- the first one with the least key, of 0 to n -/
def amin {κ : Type} (lt : κ → κ → Bool) (key : Nat → κ) : Nat → Nat
  | 0 => 0
  | n + 1 => if lt (key (n + 1)) (key (amin lt key n)) then n + 1 else amin lt key n
theorem amin_le {κ : Type} (lt : κ → κ → Bool) (key : Nat → κ) : ∀ n, amin lt key n ≤ n
  | 0 => Nat.le_refl _
  | n + 1 => by
    unfold amin
    split
    · exact Nat.le_refl _
    · exact Nat.le_succ_of_le (amin_le lt key n)
theorem amin_congr {κ κ' : Type} (lt : κ → κ → Bool) (lt' : κ' → κ' → Bool) (key : Nat → κ) (key' : Nat → κ') : ∀ n, (∀ i j, i ≤ n → j ≤ n → lt (key i) (key j) = lt' (key' i) (key' j)) → amin lt key n = amin lt' key' n
  | 0, _ => rfl
  | n + 1, h => by
    have ih := amin_congr lt lt' key key' n fun i j hi hj => h i j (Nat.le_succ_of_le hi) (Nat.le_succ_of_le hj)
    unfold amin
    rw [ih, h (n + 1) _ (Nat.le_refl _) (Nat.le_succ_of_le (amin_le lt' key' n))]
theorem minD_snoc (x : D) (xs : List D) (y : D) : minD x (xs ++ [y]) = if dataLt y (minD x xs) = true then y else minD x xs := by
  unfold minD
  rw [List.foldl_append]
  rfl
/-- min([(key, k) for k in range(n + 1)]) -/
theorem minD_keys (key : Nat → List Int) : ∀ n, minD (.tuple [iT (key 0), .int 0]) ((List.range' 1 n).map fun k => .tuple [iT (key k), .int (k : Nat)]) = .tuple [iT (key (amin llt key n)), .int (amin llt key n : Nat)]
  | 0 => rfl
  | n + 1 => by
    have e : List.range' 1 (n + 1) = List.range' 1 n ++ [n + 1] := by
      rw [List.range'_concat]
      congr 2
      omega
    rw [e, List.map_append, List.map_cons, List.map_nil, minD_snoc, minD_keys key n]
    have h1 : dataLt (.tuple [iT (key (n + 1)), .int ((n + 1 : Nat) : Int)]) (.tuple [iT (key (amin llt key n)), .int (amin llt key n : Nat)]) = llt (key (n + 1)) (key (amin llt key n)) := by
      rw [ltT_cons (alike_iT _ _)]
      have hle := amin_le llt key n
      cases e : PyData.eqv (iT (key (n + 1))) (iT (key (amin llt key n))) with
      | true =>
        rw [if_pos rfl, ltT_cons rfl, eqv_ii, dataLt_int]
        have hne : ¬ (((n + 1 : Nat) : Int) == (amin llt key n : Nat)) = true := by
          rw [beq_iff_eq]
          omega
        rw [if_neg hne]
        have hk : key (n + 1) = key (amin llt key n) := by
          have : ∀ a b : List Int, PyData.eqvAll (a.map .int) (b.map .int) = true → a = b := by
            intro a
            induction a with
            | nil => intro b h; cases b <;> first | rfl | (simp [PyData.eqvAll] at h)
            | cons x a ih =>
              intro b h
              cases b with
              | nil => simp [PyData.eqvAll] at h
              | cons y b =>
                rw [List.map_cons, List.map_cons, PyData.eqvAll, Bool.and_eq_true, eqv_ii, beq_iff_eq] at h
                rw [h.1, ih b h.2]
          exact this _ _ (by rw [← e]; simp [PyData.eqv])
        rw [hk]
        have hz : ∀ a : List Int, llt a a = false := by
          intro a
          induction a with
          | nil => rfl
          | cons x a ih => rw [llt, if_pos rfl]; exact ih
        rw [hz]
        exact decide_eq_false (by omega)
      | false =>
        rw [if_neg (by decide), ltT_ints]
    rw [h1, amin]
    cases llt (key (n + 1)) (key (amin llt key n)) <;> rfl
theorem llt_irrefl : ∀ a : List Int, llt a a = false
  | [] => rfl
  | x :: a => by rw [llt, if_pos rfl]; exact llt_irrefl a
theorem llt_trans : ∀ {a b c : List Int}, llt a b = true → llt b c = true → llt a c = true
  | [], [], _, h, _ => by cases h
  | [], _ :: _, [], _, h => by cases h
  | [], _ :: _, _ :: _, _, _ => rfl
  | _ :: _, [], _, h, _ => by cases h
  | _ :: _, _ :: _, [], _, h => by cases h
  | x :: a, y :: b, z :: c, h1, h2 => by
    rw [llt] at h1 h2 ⊢
    split at h1
    · rename_i e1
      split at h2
      · rename_i e2
        rw [if_pos (e1.trans e2)]
        exact llt_trans h1 h2
      · rename_i e2
        rw [e1, if_neg e2]
        exact h2
    · rename_i e1
      have h1 := of_decide_eq_true h1
      split at h2
      · rename_i e2
        rw [← e2, if_neg e1]
        exact decide_eq_true h1
      · have h2 := of_decide_eq_true h2
        rw [if_neg (by omega)]
        exact decide_eq_true (by omega)
/-- of two keys that do not come one behind the other -/
theorem llt_total : ∀ {a b : List Int}, llt a b = false → llt b a = false → a = b
  | [], [], _, _ => rfl
  | [], _ :: _, h, _ => by cases h
  | _ :: _, [], _, h => by cases h
  | x :: a, y :: b, h1, h2 => by
    rw [llt] at h1 h2
    split at h1
    · rename_i e
      rw [if_pos e.symm] at h2
      rw [e, llt_total h1 h2]
    · rename_i e
      rw [if_neg (fun z => e z.symm)] at h2
      have h1 := of_decide_eq_false h1
      have h2 := of_decide_eq_false h2
      omega
/-- no key is less than the least one -/
theorem amin_min (key : Nat → List Int) : ∀ n i, i ≤ n → llt (key i) (key (amin llt key n)) = false
  | 0, i, h => by
    have : i = 0 := by omega
    subst this
    exact llt_irrefl _
  | n + 1, i, h => by
    have ih := amin_min key n
    unfold amin
    cases e : llt (key (n + 1)) (key (amin llt key n)) with
    | true =>
      rw [if_pos rfl]
      rcases Nat.lt_or_ge n i with h1 | h1
      · have : i = n + 1 := by omega
        subst this
        exact llt_irrefl _
      · cases e2 : llt (key i) (key (n + 1)) with
        | false => rfl
        | true => rw [← ih i h1]; exact (llt_trans e2 e).symm
    | false =>
      rw [if_neg (by decide)]
      rcases Nat.lt_or_ge n i with h1 | h1
      · have : i = n + 1 := by omega
        subst this
        exact e
      · exact ih i h1
end PyV

set_option Elab.async false
set_option linter.all false
set_option autoImplicit false
set_option maxRecDepth 100000
set_option maxHeartbeats 4000000
/-! # Steps of the evaluator, as lemmas -/
namespace PyV
open PySem PyE L2 PySem.W
section
variable {Φ : Fns} {n : Nat} {a b e : IE} {env e1 e2 e3 : SEnv} {x y : Bool} {d d' : D} {w w' : Vw} {i j : Int}
theorem bf_1 {f : Bf} (h : evE Φ e env = .ok w e1) (hl : look e1 w = some d) (hb : bfD f [d] = some w') : evE Φ (.bf f (.cons e .nil)) env = .ok w' e1 := by
  unfold evE
  rw [show evEs Φ (.cons e .nil) env = .ok [w] e1 from es_cons h rfl, bind_ok]
  show (match looks e1 [w] with
    | some ds => Rs.opt (bfD f ds) e1
    | none => .stuck) = _
  have : looks e1 [w] = some [d] := by
    unfold looks
    rw [hl]
    rfl
  rw [this]
  show Rs.opt (bfD f [d]) e1 = _
  rw [hb]
theorem bf_now {f : Bf} (h : evE Φ e env = .ok (.now d) e1) (hb : bfD f [d] = some w') : evE Φ (.bf f (.cons e .nil)) env = .ok w' e1 := bf_1 h rfl hb
theorem bf_tmp {f : Bf} {ds : List D} (h : evE Φ e env = .ok (.tmp ds) e1) (hb : bfD f [.list ds] = some w') : evE Φ (.bf f (.cons e .nil)) env = .ok w' e1 := bf_1 h rfl hb
theorem bf_2 {f : Bf} (h : evE Φ a env = .ok (.now d) e1) (h2 : evE Φ b e1 = .ok (.now d') e2) (hb : bfD f [d, d'] = some w') : evE Φ (.bf f (.cons a (.cons b .nil))) env = .ok w' e2 := by
  unfold evE
  rw [show evEs Φ (.cons a (.cons b .nil)) env = .ok [.now d, .now d'] e2 from es_cons h (es_cons h2 rfl), bind_ok]
  show Rs.opt (bfD f [d, d']) e2 = _
  rw [hb]
theorem neg_now (h : evE Φ e env = .ok (.now (.int i)) e1) : evE Φ (.neg e) env = .ok (.now (.int (-i))) e1 := by
  unfold evE
  rw [h] <;> rfl
theorem tup_of {es : IEs} {ws : List Vw} {ds : List D} (h : evEs Φ es env = .ok ws e1) (hk : keepN e1 ws = some (ds, e2)) (hz : szOk ds.length = true) : evE Φ (.tup es) env = .ok (.now (.tuple ds)) e2 := by
  unfold evE
  rw [h, bind_ok]
  show (match keepN e1 ws with
    | some (ds, e2) => if szOk ds.length = true then Rs.ok (Vw.now (.tuple ds)) e2 else .stuck
    | none => .stuck) = _
  rw [hk]
  exact if_pos hz
theorem lst_of {es : IEs} {ws : List Vw} {ds : List D} (h : evEs Φ es env = .ok ws e1) (hk : keepN e1 ws = some (ds, e2)) (hz : szOk ds.length = true) : evE Φ (.lst es) env = .ok (.tmp ds) e2 := by
  unfold evE
  rw [h, bind_ok]
  show (match keepN e1 ws with
    | some (ds, e2) => if szOk ds.length = true then Rs.ok (Vw.tmp ds) e2 else .stuck
    | none => .stuck) = _
  rw [hk]
  exact if_pos hz
theorem ix_vw {w2 : Vw} {z : D} (h1 : evE Φ a env = .ok w e1) (h2 : evE Φ b e1 = .ok w2 e2) (l1 : look e2 w = some d) (l2 : look e2 w2 = some d') (h : ixD d d' = some z) : evE Φ (.ix a b) env = .ok (.now z) e2 := by
  unfold evE
  rw [h1, bind_ok, h2, bind_ok, l1, l2]
  show Rs.opt ((ixD d d').map Vw.now) e2 = _
  rw [h]
  rfl
theorem ix_now {z : D} (h1 : evE Φ a env = .ok (.now d) e1) (h2 : evE Φ b e1 = .ok (.now d') e2) (h : ixD d d' = some z) : evE Φ (.ix a b) env = .ok (.now z) e2 := ix_vw h1 h2 rfl rfl h
theorem bin_vw {op : Operator} {w2 : Vw} (h1 : evE Φ a env = .ok w e1) (h2 : evE Φ b e1 = .ok w2 e2) (l1 : look e2 w = some d) (l2 : look e2 w2 = some d') (h : binD op d d' = some w') : evE Φ (.bin op a b) env = .ok w' e2 := by
  unfold evE
  rw [h1, bind_ok, h2, bind_ok, l1, l2]
  show Rs.opt (binD op d d') e2 = _
  rw [h]
theorem bin_now {op : Operator} (h1 : evE Φ a env = .ok (.now d) e1) (h2 : evE Φ b e1 = .ok (.now d') e2) (h : binD op d d' = some w') : evE Φ (.bin op a b) env = .ok w' e2 := bin_vw h1 h2 rfl rfl h
theorem cmp_vw {op : CmpOp} {w2 : Vw} (h1 : evE Φ a env = .ok w e1) (h2 : evE Φ b e1 = .ok w2 e2) (l1 : look e2 w = some d) (l2 : look e2 w2 = some d') (h : cmpD op d d' = some x) : evE Φ (.cmp op a b) env = .ok (.now (.bool x)) e2 := by
  unfold evE
  rw [h1, bind_ok, h2, bind_ok, l1, l2]
  show Rs.opt ((cmpD op d d').map fun b => Vw.now (.bool b)) e2 = _
  rw [h]
  rfl
theorem cmp_nows {op : CmpOp} (h1 : evE Φ a env = .ok (.now d) e1) (h2 : evE Φ b e1 = .ok (.now d') e2) (h : cmpD op d d' = some x) : evE Φ (.cmp op a b) env = .ok (.now (.bool x)) e2 := cmp_vw h1 h2 rfl rfl h
theorem ife_t {t : IE} (h : evE Φ t env = .ok (.now (.bool true)) e1) : evE Φ (.ife t a b) env = evE Φ a e1 := by
  show (evE Φ t env).bind _ = _
  rw [h] <;> rfl
theorem ife_f {t : IE} (h : evE Φ t env = .ok (.now (.bool false)) e1) : evE Φ (.ife t a b) env = evE Φ b e1 := by
  show (evE Φ t env).bind _ = _
  rw [h] <;> rfl
theorem sl_vw {lo hi : IO} {l h : Option Int} (h1 : evE Φ a env = .ok w e1) (h2 : evO Φ lo e1 = .ok l e2) (h3 : evO Φ hi e2 = .ok h e3) (l1 : look e3 w = some d) (hs : slD d l h = some w') : evE Φ (.sl a lo hi) env = .ok w' e3 := by
  unfold evE
  rw [h1, bind_ok, h2, bind_ok, h3, bind_ok, l1]
  show Rs.opt (slD d l h) e3 = _
  rw [hs]
theorem o_int (h : evE Φ e env = .ok (.now (.int i)) e1) : evO Φ (.some e) env = .ok (some i) e1 := by
  unfold evO
  rw [h] <;> rfl
theorem cnt_ints {l : List Int} {k : Int} (h1 : evE Φ a env = .ok (.now (iL l)) e1) (h2 : evE Φ b e1 = .ok (.now (.int k)) e2) : evE Φ (.cnt a b) env = .ok (.now (.int (l.countP (· == k) : Nat))) e2 := by
  have hf : (l.map PyData.int).all flatD = true := by
    rw [List.all_map]
    exact List.all_eq_true.mpr fun x _ => rfl
  have hc : cntD (.int k) (l.map PyData.int) = l.countP (· == k) := by
    unfold cntD
    rw [List.countP_map]
    exact congrArg (fun p => List.countP p l) (funext fun z => eqv_ii z k)
  unfold evE
  rw [h1, bind_ok]
  show (evE Φ b e1).bind _ = _
  rw [h2, bind_ok]
  show (if (flatD (.int k) && (l.map PyData.int).all flatD) = true then Rs.ok (Vw.now (.int (cntD (.int k) (l.map PyData.int)))) e2 else .stuck) = _
  rw [hf, hc]
  rfl
theorem ints_some : ∀ l : List Int, intsD (l.map PyData.int) = some l
  | [] => rfl
  | x :: l => by
    show (intsD (l.map PyData.int)).map (x :: ·) = _
    rw [ints_some l]
    rfl
theorem sum_ints (l : List Int) : bfD .sum [iL l] = some (.now (.int l.sum)) := by
  show (intsD (l.map PyData.int)).map (fun ns => Vw.now (.int ns.sum)) = _
  rw [ints_some]
  rfl
def mnL : List Int → Int
  | [] => 0
  | x :: l => l.foldl (fun a b => if b < a then b else a) x
theorem minD_ints : ∀ (l : List Int) (x : Int), minD (.int x) (l.map PyData.int) = .int (l.foldl (fun a b => if b < a then b else a) x)
  | [], x => rfl
  | y :: l, x => by
    have ih := minD_ints l (if y < x then y else x)
    rw [List.foldl_cons, ← ih]
    unfold minD
    rw [List.map_cons, List.foldl_cons]
    congr 1
    rw [dataLt_int]
    by_cases h : y < x
    · rw [if_pos h, decide_eq_true h]
      rfl
    · rw [if_neg h, decide_eq_false h]
      rfl
theorem min_ints {l : List Int} (h : l ≠ []) : bfD .min [iL l] = some (.now (.int (mnL l))) := by
  cases l with
  | nil => exact absurd rfl h
  | cons x l =>
    have ha : alikeL (PyData.int x :: l.map PyData.int) = true := by
      have hm : ∀ y ∈ PyData.int x :: l.map PyData.int, ∃ i, y = .int i := fun y hy => by
        rcases List.mem_cons.mp hy with e | e
        · exact ⟨x, e⟩
        · obtain ⟨i, _, e⟩ := List.mem_map.mp e
          exact ⟨i, e.symm⟩
      refine alikeL_mk (fun y hy z hz => ?_) (fun y hy => ?_) (fun y hy => ?_) (fun y hy => ?_)
      · obtain ⟨i, rfl⟩ := hm y hy
        obtain ⟨j, rfl⟩ := hm z hz
        rfl
      · obtain ⟨i, rfl⟩ := hm y hy
        simp
      · obtain ⟨i, rfl⟩ := hm y hy
        exact Nat.zero_le _
      · obtain ⟨i, rfl⟩ := hm y hy
        rfl
    show (if alikeL (PyData.int x :: l.map PyData.int) = true then some (Vw.now (minD (.int x) (l.map PyData.int))) else none) = _
    rw [if_pos ha, minD_ints]
    rfl
/-- range(e) where e is a length or the like -/
theorem i_r1 {k : Nat} (h : evE Φ e env = .ok (.now (.int (k : Nat))) e1) (hk : k ≤ 1000000) : evI Φ (.r1 e) env = .ok (rgD 0 k) e1 := by
  unfold evI
  rw [h, bind_ok]
  show (if rOk (k : Int) = true then Rs.ok (rgD 0 ((k : Int)).toNat) e1 else .stuck) = _
  rw [if_pos (rOk_nat hk)]
  rfl
theorem lc_val {tg : Tg} {it : II} {c : IO} {own : List Nat} {ds : List D} {g : D → List D} {out : List D} (h1 : evI Φ it env = .ok ds e1) (hw : wipeE e1 own = e1) (hb : backE e1 e1 own = e1)
    (h2 : ∀ x ∈ ds, lcStep (evC Φ c) (evE Φ e) tg own x e1 = .ok (g x) e1) (ho : ds.flatMap g = out) (hz : out.length ≤ 16777216) : evE Φ (.lc e tg it c own) env = .ok (.tmp out) e1 := by
  rw [← ho] at hz ⊢
  exact lc_eqF h1 hw hb h2 (decide_eq_true hz)
/-- a comprehension without a test, one value a turn -/
theorem lc_map {α : Type} {tg : Tg} {it : II} {own : List Nat} {xs : List α} {enc f : α → D} (h1 : evI Φ it env = .ok (xs.map enc) e1) (hw : wipeE e1 own = e1) (hb : backE e1 e1 own = e1)
    (h2 : ∀ x ∈ xs, lcStep (evC Φ .none) (evE Φ e) tg own (enc x) e1 = .ok [f x] e1) (hz : xs.length ≤ 16777216) : evE Φ (.lc e tg it .none own) env = .ok (.tmp (xs.map f)) e1 := by
  have key : ∀ (ys : List α), (∀ x ∈ ys, x ∈ xs) → lcL (lcStep (evC Φ .none) (evE Φ e) tg own) (ys.map enc) e1 = .ok (ys.map f) e1 := by
    intro ys
    induction ys with
    | nil => intro _; rfl
    | cons y ys ih =>
      intro h
      rw [List.map_cons, lcL, h2 y (h y List.mem_cons_self), bind_ok, ih fun z hz => h z (List.mem_cons_of_mem _ hz), bind_ok]
      rfl
  show (evI Φ it env).bind _ = _
  rw [h1, bind_ok]
  show lcEnd e1 own (lcL _ (xs.map enc) (wipeE e1 own)) = _
  rw [hw, key xs fun _ h => h]
  show (if szOk (xs.map f).length = true then _ else _) = _
  rw [List.length_map, if_pos (show szOk xs.length = true from decide_eq_true hz), hb]
/-- .. with a test -/
theorem lc_filter {α : Type} {tg : Tg} {it : II} {c : IO} {own : List Nat} {xs : List α} {enc f : α → D} {p : α → Bool} (h1 : evI Φ it env = .ok (xs.map enc) e1) (hw : wipeE e1 own = e1) (hb : backE e1 e1 own = e1)
    (h2 : ∀ x ∈ xs, lcStep (evC Φ c) (evE Φ e) tg own (enc x) e1 = .ok (if p x then [f x] else []) e1) (hz : xs.length ≤ 16777216) : evE Φ (.lc e tg it c own) env = .ok (.tmp ((xs.filter p).map f)) e1 := by
  have key : ∀ (ys : List α), (∀ x ∈ ys, x ∈ xs) → lcL (lcStep (evC Φ c) (evE Φ e) tg own) (ys.map enc) e1 = .ok ((ys.filter p).map f) e1 := by
    intro ys
    induction ys with
    | nil => intro _; rfl
    | cons y ys ih =>
      intro h
      rw [List.map_cons, lcL, h2 y (h y List.mem_cons_self), bind_ok, ih fun z hz => h z (List.mem_cons_of_mem _ hz), bind_ok, List.filter_cons]
      cases p y <;> rfl
  show (evI Φ it env).bind _ = _
  rw [h1, bind_ok]
  show lcEnd e1 own (lcL _ (xs.map enc) (wipeE e1 own)) = _
  rw [hw, key xs fun _ h => h]
  show (if szOk ((xs.filter p).map f).length = true then _ else _) = _
  rw [List.length_map, if_pos (show szOk (xs.filter p).length = true from decide_eq_true (Nat.le_trans (List.length_filter_le _ _) hz)), hb]
/-- one turn of a comprehension: the name is set, the value found -/
theorem st_one {i : Nat} {own : List Nat} {z : D} (h1 : putS env i (.sh d) = some e1) (h2 : evE Φ e e1 = .ok (.now z) e1) (hw : wipeE e1 own = env) : lcStep (evC Φ .none) (evE Φ e) (.one i) own d env = .ok [z] env := by
  unfold lcStep
  rw [show putT env (.one i) d = some e1 from h1]
  show (evE Φ e e1).bind _ = _
  rw [h2, bind_ok]
  show Rs.ok [z] (wipeE e1 own) = _
  rw [hw]
theorem st_if {i : Nat} {own : List Nat} {z : D} {t : IE} (h1 : putS env i (.sh d) = some e1) (h2 : evT Φ t e1 = .ok x e1) (h3 : x = true → evE Φ e e1 = .ok (.now z) e1) (hw : wipeE e1 own = env) : lcStep (evC Φ (.some t)) (evE Φ e) (.one i) own d env = .ok (if x then [z] else []) env := by
  unfold lcStep
  rw [show putT env (.one i) d = some e1 from h1]
  show (evC Φ (.some t) e1).bind _ = _
  rw [show evC Φ (.some t) e1 = .ok x e1 from h2, bind_ok]
  cases x with
  | true =>
    show (evE Φ e e1).bind _ = _
    rw [h3 rfl, bind_ok]
    show Rs.ok [z] (wipeE e1 own) = _
    rw [hw]
    rfl
  | false =>
    show Rs.ok [] (wipeE e1 own) = _
    rw [hw]
    rfl
end
theorem rg_map (n : Nat) : rgD 0 n = (List.range n).map fun k => .int (k : Nat) := by
  unfold rgD
  congr 1
  funext i
  simp
end PyV

set_option Elab.async false
set_option linter.all false
set_option maxRecDepth 100000
set_option maxHeartbeats 0
namespace K11
open PySem PyE
set_option linter.all false
def c_DEEPEST : D := (.int 40)
def c_NUMBERS : D := (.tuple [(.int 0), (.int 1), (.int 2)])
def c_WAYS : D := (.tuple [(.str "first"), (.str "most"), (.str "sum"), (.str "worst"), (.str "veto"), (.str "lead")])
def N_too_deep : List Str := ["value", "left", "part"]
def b_too_deep : ISs := (.cons (.ite (.nt (.isi (.v 0) [.list, .tuple] true)) (.cons (.ret (.k (.bool false))) .nil) .nil) (.cons (.ite (.cmp .Eq (.v 1) (.k (.int 0))) (.cons (.ret (.k (.bool true))) .nil) .nil) (.cons (.for_ (.one 2) (.seq (.v 0)) (.cons (.ite (.call "too_deep" (.cons (.v 2) (.cons (.bin .Sub (.v 1) (.k (.int 1))) .nil))) (.cons (.ret (.k (.bool true))) .nil) .nil) .nil)) (.cons (.ret (.k (.bool false))) .nil))))
def d_too_deep : Df := { name := "too_deep", N := N_too_deep, ar := 2, fuel := 100, body := b_too_deep }

def N_as_tuples : List Str := ["value", "part"]
def b_as_tuples : ISs := (.cons (.ite (.nt (.isi (.v 0) [.list, .tuple] true)) (.cons (.ret (.v 0)) .nil) .nil) (.cons (.ret (.bf .tuple (.cons (.lc (.call "as_tuples" (.cons (.v 1) .nil)) (.one 1) (.seq (.v 0)) .none [1]) .nil))) .nil))
def d_as_tuples : Df := { name := "as_tuples", N := N_as_tuples, ar := 1, fuel := 100, body := b_as_tuples }

def N_plain : List Str := ["value"]
def b_plain : ISs := (.cons (.ite (.call "too_deep" (.cons (.v 0) (.cons (.g "DEEPEST" c_DEEPEST) .nil))) (.cons (.ret (.k .none)) .nil) .nil) (.cons (.ret (.call "as_tuples" (.cons (.v 0) .nil))) .nil))
def d_plain : Df := { name := "plain", N := N_plain, ar := 1, fuel := 100, body := b_plain }

def N_is_int : List Str := ["value"]
def b_is_int : ISs := (.cons (.ret (.and (.isi (.v 0) [.int] false) (.nt (.isi (.v 0) [.bool] false)))) .nil)
def d_is_int : Df := { name := "is_int", N := N_is_int, ar := 1, fuel := 100, body := b_is_int }

def N_in_range : List Str := ["value", "low", "high"]
def b_in_range : ISs := (.cons (.ret (.and (.call "is_int" (.cons (.v 0) .nil)) (.and (.cmp .LtE (.v 1) (.v 0)) (.or (.cmp .Is (.v 2) (.k .none)) (.cmp .LtE (.v 0) (.v 2)))))) .nil)
def d_in_range : Df := { name := "in_range", N := N_in_range, ar := 3, fuel := 100, body := b_in_range }

def N_is_tuple : List Str := ["value", "long"]
def b_is_tuple : ISs := (.cons (.ret (.and (.isi (.v 0) [.tuple] false) (.or (.cmp .Is (.v 1) (.k .none)) (.cmp .Eq (.bf .len (.cons (.v 0) .nil)) (.v 1))))) .nil)
def d_is_tuple : Df := { name := "is_tuple", N := N_is_tuple, ar := 2, fuel := 100, body := b_is_tuple }

def N_need : List Str := ["good", "at"]
def b_need : ISs := (.cons (.ite (.nt (.v 0)) (.cons (.raise "BadValue" (.v 1)) .nil) .nil) .nil)
def d_need : Df := { name := "need", N := N_need, ar := 2, fuel := 100, body := b_need }

def N_all_rows : List Str := ["long", "marks", "rows", "_", "row", "mark"]
def b_all_rows : ISs := (.cons (.asg 2 (.lst (.cons (.tup .nil) .nil))) (.cons (.for_ (.one 3) (.r1 (.v 0)) (.cons (.asg 2 (.lc2 (.bin .Add (.v 4) (.tup (.cons (.v 5) .nil))) (.one 4) (.seq (.v 2)) .none (.one 5) (.seq (.v 1)) .none [4, 5] [5])) .nil)) (.cons (.ret (.v 2)) .nil)))
def d_all_rows : Df := { name := "all_rows", N := N_all_rows, ar := 2, fuel := 100, body := b_all_rows }

def N_with_row : List Str := ["rows", "person", "row"]
def b_with_row : ISs := (.cons (.ret (.bin .Add (.bin .Add (.sl (.v 0) .none (.some (.v 1))) (.tup (.cons (.v 2) .nil))) (.sl (.v 0) (.some (.bin .Add (.v 1) (.k (.int 1)))) .none))) .nil)
def d_with_row : Df := { name := "with_row", N := N_with_row, ar := 3, fuel := 100, body := b_with_row }

def N_way_form : List Str := ["way"]
def b_way_form : ISs := (.cons (.ret (.and (.isi (.v 0) [.str] false) (.cmp .In (.v 0) (.g "WAYS" c_WAYS)))) .nil)
def d_way_form : Df := { name := "way_form", N := N_way_form, ar := 1, fuel := 100, body := b_way_form }

def N_row_form : List Str := ["row", "candidates", "number"]
def b_row_form : ISs := (.cons (.ret (.and (.call "is_tuple" (.cons (.v 0) (.cons (.v 1) .nil))) (.bf .all (.cons (.lc (.call "in_range" (.cons (.v 2) (.cons (.k (.int 0)) (.cons (.k (.int 2)) .nil)))) (.one 2) (.seq (.v 0)) .none [2]) .nil)))) .nil)
def d_row_form : Df := { name := "row_form", N := N_row_form, ar := 2, fuel := 100, body := b_row_form }

def N_table_form : List Str := ["table", "row"]
def b_table_form : ISs := (.cons (.ite (.or (.nt (.call "is_tuple" (.cons (.v 0) (.cons (.k .none) .nil)))) (.nt (.cmp2 .LtE .LtE (.k (.int 1)) (.bf .len (.cons (.v 0) .nil)) (.k (.int 4))))) (.cons (.ret (.k (.bool false))) .nil) .nil) (.cons (.ite (.or (.nt (.call "is_tuple" (.cons (.ix (.v 0) (.k (.int 0))) (.cons (.k .none) .nil)))) (.nt (.cmp2 .LtE .LtE (.k (.int 1)) (.bf .len (.cons (.ix (.v 0) (.k (.int 0))) .nil)) (.k (.int 4))))) (.cons (.ret (.k (.bool false))) .nil) .nil) (.cons (.ret (.bf .all (.cons (.lc (.call "row_form" (.cons (.v 1) (.cons (.bf .len (.cons (.ix (.v 0) (.k (.int 0))) .nil)) .nil))) (.one 1) (.seq (.v 0)) .none [1]) .nil))) .nil)))
def d_table_form : Df := { name := "table_form", N := N_table_form, ar := 1, fuel := 100, body := b_table_form }

def N_rank : List Str := ["way", "column", "zeros", "twos", "number"]
def b_rank : ISs := (.cons (.asg 2 (.cnt (.v 1) (.k (.int 0)))) (.cons (.asg 3 (.cnt (.v 1) (.k (.int 2)))) (.cons (.ite (.cmp .Eq (.v 0) (.k (.str "first"))) (.cons (.ret (.tup (.cons (.v 2) .nil))) .nil) .nil) (.cons (.ite (.cmp .Eq (.v 0) (.k (.str "most"))) (.cons (.ret (.tup (.cons (.neg (.v 3)) (.cons (.v 2) .nil)))) .nil) .nil) (.cons (.ite (.cmp .Eq (.v 0) (.k (.str "sum"))) (.cons (.ret (.tup (.cons (.neg (.bf .sum (.cons (.v 1) .nil))) .nil))) .nil) .nil) (.cons (.ite (.cmp .Eq (.v 0) (.k (.str "worst"))) (.cons (.ret (.tup (.cons (.neg (.bf .min (.cons (.v 1) .nil))) (.cons (.neg (.bf .sum (.cons (.v 1) .nil))) .nil)))) .nil) .nil) (.cons (.ite (.cmp .Eq (.v 0) (.k (.str "veto"))) (.cons (.ret (.ife (.cmp .Gt (.v 2) (.k (.int 0))) (.tup (.cons (.k (.int 1)) (.cons (.k (.int 0)) .nil))) (.tup (.cons (.k (.int 0)) (.cons (.neg (.v 3)) .nil))))) .nil) .nil) (.cons (.ret (.bf .tuple (.cons (.lc (.neg (.v 4)) (.one 4) (.seq (.v 1)) .none [4]) .nil))) .nil))))))))
def d_rank : Df := { name := "rank", N := N_rank, ar := 2, fuel := 100, body := b_rank }

def N_chosen_by : List Str := ["way", "table", "best", "least", "candidate", "key", "row"]
def b_chosen_by : ISs := (.cons (.asg 2 (.k (.int 0))) (.cons (.asg 3 (.k .none)) (.cons (.for_ (.one 4) (.r1 (.bf .len (.cons (.ix (.v 1) (.k (.int 0))) .nil))) (.cons (.asg 5 (.call "rank" (.cons (.v 0) (.cons (.lc (.ix (.v 6) (.v 4)) (.one 6) (.seq (.v 1)) .none [6]) .nil)))) (.cons (.ite (.or (.cmp .Is (.v 3) (.k .none)) (.cmp .Lt (.v 5) (.v 3))) (.cons (.asg 3 (.v 5)) (.cons (.asg 2 (.v 4)) .nil)) .nil) .nil))) (.cons (.ret (.v 2)) .nil))))
def d_chosen_by : Df := { name := "chosen_by", N := N_chosen_by, ar := 2, fuel := 100, body := b_chosen_by }

def N_gain_by : List Str := ["way", "table", "person", "own", "best", "found", "row", "candidate"]
def b_gain_by : ISs := (.cons (.asg 3 (.ix (.v 1) (.v 2))) (.cons (.asg 4 (.ix (.v 3) (.call "chosen_by" (.cons (.v 0) (.cons (.v 1) .nil))))) (.cons (.asg 5 (.k .none)) (.cons (.for_ (.one 6) (.seq (.call "all_rows" (.cons (.bf .len (.cons (.v 3) .nil)) (.cons (.g "NUMBERS" c_NUMBERS) .nil)))) (.cons (.asg 7 (.call "chosen_by" (.cons (.v 0) (.cons (.call "with_row" (.cons (.v 1) (.cons (.v 2) (.cons (.v 6) .nil)))) .nil)))) (.cons (.ite (.cmp .Gt (.ix (.v 3) (.v 7)) (.v 4)) (.cons (.asg 4 (.ix (.v 3) (.v 7))) (.cons (.asg 5 (.tup (.cons (.v 6) (.cons (.v 7) .nil)))) .nil)) .nil) .nil))) (.cons (.ret (.v 5)) .nil)))))
def d_gain_by : Df := { name := "gain_by", N := N_gain_by, ar := 3, fuel := 100, body := b_gain_by }

def N_helped_by : List Str := ["way", "table", "person"]
def b_helped_by : ISs := (.cons (.ret (.bf .tuple (.cons (.lc (.v 2) (.one 2) (.r1 (.bf .len (.cons (.v 1) .nil))) (.some (.cmp .IsNot (.call "gain_by" (.cons (.v 0) (.cons (.v 1) (.cons (.v 2) .nil)))) (.k .none))) [2]) .nil))) .nil)
def d_helped_by : Df := { name := "helped_by", N := N_helped_by, ar := 2, fuel := 100, body := b_helped_by }

def N_chosen : List Str := ["way", "table"]
def b_chosen : ISs := (.cons (.asg 1 (.call "plain" (.cons (.v 1) .nil))) (.cons (.ex (.call "need" (.cons (.call "way_form" (.cons (.v 0) .nil)) (.cons (.k (.int 1)) .nil)))) (.cons (.ex (.call "need" (.cons (.call "table_form" (.cons (.v 1) .nil)) (.cons (.k (.int 2)) .nil)))) (.cons (.ret (.call "chosen_by" (.cons (.v 0) (.cons (.v 1) .nil)))) .nil))))
def d_chosen : Df := { name := "chosen", N := N_chosen, ar := 2, fuel := 100, body := b_chosen }

def N_gain : List Str := ["way", "table", "person"]
def b_gain : ISs := (.cons (.asg 1 (.call "plain" (.cons (.v 1) .nil))) (.cons (.ex (.call "need" (.cons (.call "way_form" (.cons (.v 0) .nil)) (.cons (.k (.int 1)) .nil)))) (.cons (.ex (.call "need" (.cons (.call "table_form" (.cons (.v 1) .nil)) (.cons (.k (.int 2)) .nil)))) (.cons (.ex (.call "need" (.cons (.call "in_range" (.cons (.v 2) (.cons (.k (.int 0)) (.cons (.bin .Sub (.bf .len (.cons (.v 1) .nil)) (.k (.int 1))) .nil)))) (.cons (.k (.int 3)) .nil)))) (.cons (.ret (.call "gain_by" (.cons (.v 0) (.cons (.v 1) (.cons (.v 2) .nil))))) .nil)))))
def d_gain : Df := { name := "gain", N := N_gain, ar := 3, fuel := 100, body := b_gain }

def N_helped : List Str := ["way", "table"]
def b_helped : ISs := (.cons (.asg 1 (.call "plain" (.cons (.v 1) .nil))) (.cons (.ex (.call "need" (.cons (.call "way_form" (.cons (.v 0) .nil)) (.cons (.k (.int 1)) .nil)))) (.cons (.ex (.call "need" (.cons (.call "table_form" (.cons (.v 1) .nil)) (.cons (.k (.int 2)) .nil)))) (.cons (.ret (.call "helped_by" (.cons (.v 0) (.cons (.v 1) .nil)))) .nil))))
def d_helped : Df := { name := "helped", N := N_helped, ar := 2, fuel := 100, body := b_helped }

def N_hurt : List Str := ["way", "table", "person", "found", "old", "others", "other"]
def b_hurt : ISs := (.cons (.asg 1 (.call "plain" (.cons (.v 1) .nil))) (.cons (.ex (.call "need" (.cons (.call "way_form" (.cons (.v 0) .nil)) (.cons (.k (.int 1)) .nil)))) (.cons (.ex (.call "need" (.cons (.call "table_form" (.cons (.v 1) .nil)) (.cons (.k (.int 2)) .nil)))) (.cons (.ex (.call "need" (.cons (.call "in_range" (.cons (.v 2) (.cons (.k (.int 0)) (.cons (.bin .Sub (.bf .len (.cons (.v 1) .nil)) (.k (.int 1))) .nil)))) (.cons (.k (.int 3)) .nil)))) (.cons (.asg 3 (.call "gain_by" (.cons (.v 0) (.cons (.v 1) (.cons (.v 2) .nil))))) (.cons (.ite (.cmp .Is (.v 3) (.k .none)) (.cons (.ret (.tup .nil)) .nil) .nil) (.cons (.asg 4 (.call "chosen_by" (.cons (.v 0) (.cons (.v 1) .nil)))) (.cons (.asg 5 (.lc (.v 6) (.one 6) (.r1 (.bf .len (.cons (.v 1) .nil))) (.some (.cmp .NotEq (.v 6) (.v 2))) [6])) (.cons (.ret (.bf .tuple (.cons (.lc (.v 6) (.one 6) (.seq (.v 5)) (.some (.cmp .Lt (.ix (.ix (.v 1) (.v 6)) (.ix (.v 3) (.k (.int 1)))) (.ix (.ix (.v 1) (.v 6)) (.v 4)))) [6]) .nil))) .nil)))))))))
def d_hurt : Df := { name := "hurt", N := N_hurt, ar := 3, fuel := 100, body := b_hurt }

def N__law_draws : List Str := ["script", "place", "many", "cell", "numbers", "rest_o", "k", "first_o"]
def b__law_draws : ISs := (.cons (.asg 3 (.ife (.cmp .Lt (.v 1) (.bf .len (.cons (.v 0) .nil))) (.ix (.v 0) (.v 1)) (.bin .Add (.bin .Mult (.k (.int 7)) (.v 1)) (.k (.int 3))))) (.cons (.asg 4 (.lst .nil)) (.cons (.asg 5 (.v 3)) (.cons (.for_ (.one 6) (.r1 (.v 2)) (.cons (.ite (.cmp .GtE (.v 3) (.bin .Pow (.k (.int 10)) (.k (.int 18)))) (.cons (.app 4 (.bin .Mod (.bf .int (.cons (.v 5) .nil)) (.bin .Pow (.k (.int 10)) (.k (.int 9))))) (.cons (.asg 5 (.bin .FloorDiv (.v 5) (.bin .Pow (.k (.int 10)) (.k (.int 9))))) .nil)) (.cons (.asg 7 (.bin .Mod (.bf .int (.cons (.bin .Add (.bin .Add (.bin .Mult (.bf .abs (.cons (.v 3) .nil)) (.k (.int 69069))) (.bin .Mult (.bin .Add (.v 6) (.k (.int 1))) (.k (.int 39916801)))) (.bin .Mult (.v 1) (.k (.int 7919)))) .nil)) (.k (.int 2147483647)))) (.cons (.app 4 (.bin .Mod (.bin .Mod (.bf .int (.cons (.bin .Add (.bin .Mult (.v 7) (.k (.int 48271))) (.bin .Mult (.bin .Add (.v 6) (.k (.int 5))) (.k (.int 16807)))) .nil)) (.k (.int 2147483629))) (.bin .Pow (.k (.int 10)) (.k (.int 9))))) .nil))) .nil)) (.cons (.ret (.v 4)) .nil)))))
def d__law_draws : Df := { name := "_law_draws", N := N__law_draws, ar := 3, fuel := 100, body := b__law_draws }

def N__law_same : List Str := ["actual", "due", "k"]
def b__law_same : ISs := (.cons (.ite (.and (.isi (.v 1) [.tuple] false) (.and (.isi (.v 0) [.tuple] false) (.cmp .Eq (.bf .len (.cons (.v 0) .nil)) (.bf .len (.cons (.v 1) .nil))))) (.cons (.ret (.bf .all (.cons (.lc (.call "_law_same" (.cons (.ix (.v 0) (.v 2)) (.cons (.ix (.v 1) (.v 2)) .nil))) (.one 2) (.r1 (.bf .len (.cons (.v 1) .nil))) .none [2]) .nil))) .nil) .nil) (.cons (.ite (.cmp .Is (.v 1) (.k .none)) (.cons (.ret (.cmp .Is (.v 0) (.k .none))) .nil) .nil) (.cons (.ite (.or (.cmp .NotEq (.isi (.v 0) [.bool] false) (.isi (.v 1) [.bool] false)) (.cmp .NotEq (.isi (.v 0) [.str] false) (.isi (.v 1) [.str] false))) (.cons (.ret (.k (.bool false))) .nil) .nil) (.cons (.ret (.and (.isi (.v 0) [.int, .str] true) (.cmp .Eq (.v 0) (.v 1)))) .nil))))
def d__law_same : Df := { name := "_law_same", N := N__law_same, ar := 2, fuel := 100, body := b__law_same }

def N__law_zeros : List Str := ["table", "k", "row"]
def b__law_zeros : ISs := (.cons (.ret (.bf .len (.cons (.lc (.v 2) (.one 2) (.seq (.v 0)) (.some (.cmp .Eq (.ix (.v 2) (.v 1)) (.k (.int 0)))) [2]) .nil))) .nil)
def d__law_zeros : Df := { name := "_law_zeros", N := N__law_zeros, ar := 2, fuel := 100, body := b__law_zeros }

def N__law_score : List Str := ["way_o", "table", "k", "column", "row", "twos", "one", "zeros"]
def b__law_score : ISs := (.cons (.asg 3 (.lc (.ix (.v 4) (.v 2)) (.one 4) (.seq (.v 1)) .none [4])) (.cons (.asg 5 (.bf .len (.cons (.lc (.v 6) (.one 6) (.seq (.v 3)) (.some (.cmp .Eq (.v 6) (.k (.int 2)))) [6]) .nil))) (.cons (.asg 7 (.call "_law_zeros" (.cons (.v 1) (.cons (.v 2) .nil)))) (.cons (.ite (.cmp .Eq (.v 0) (.k (.str "first"))) (.cons (.ret (.ife (.cmp .Eq (.v 7) (.k (.int 0))) (.tup (.cons (.k (.int 0)) (.cons (.k (.int 0)) .nil))) (.tup (.cons (.k (.int 1)) (.cons (.v 7) .nil))))) .nil) .nil) (.cons (.ite (.cmp .Eq (.v 0) (.k (.str "most"))) (.cons (.ret (.tup (.cons (.neg (.v 5)) (.cons (.v 7) .nil)))) .nil) .nil) (.cons (.ite (.cmp .Eq (.v 0) (.k (.str "sum"))) (.cons (.ret (.tup (.cons (.neg (.bf .sum (.cons (.v 3) .nil))) (.cons (.k (.int 0)) .nil)))) .nil) .nil) (.cons (.ite (.cmp .Eq (.v 0) (.k (.str "worst"))) (.cons (.ret (.tup (.cons (.neg (.bf .min (.cons (.v 3) .nil))) (.cons (.neg (.bf .sum (.cons (.v 3) .nil))) .nil)))) .nil) .nil) (.cons (.ite (.cmp .Eq (.v 0) (.k (.str "veto"))) (.cons (.ret (.ife (.cmp .Eq (.v 7) (.k (.int 0))) (.tup (.cons (.k (.int 0)) (.cons (.neg (.v 5)) .nil))) (.tup (.cons (.k (.int 1)) (.cons (.k (.int 0)) .nil))))) .nil) .nil) (.cons (.ret (.bf .tuple (.cons (.lc (.neg (.v 6)) (.one 6) (.seq (.v 3)) .none [6]) .nil))) .nil)))))))))
def d__law_score : Df := { name := "_law_score", N := N__law_score, ar := 3, fuel := 100, body := b__law_score }

def N__law_chosen : List Str := ["way_o", "table", "k"]
def b__law_chosen : ISs := (.cons (.ret (.ix (.bf .min (.cons (.lc (.tup (.cons (.call "_law_score" (.cons (.v 0) (.cons (.v 1) (.cons (.v 2) .nil)))) (.cons (.v 2) .nil))) (.one 2) (.r1 (.bf .len (.cons (.ix (.v 1) (.k (.int 0))) .nil))) .none [2]) .nil)) (.k (.int 1)))) .nil)
def d__law_chosen : Df := { name := "_law_chosen", N := N__law_chosen, ar := 2, fuel := 100, body := b__law_chosen }

def N__law_every : List Str := ["many", "numbers", "found", "k", "longer", "row", "number"]
def b__law_every : ISs := (.cons (.asg 2 (.lst (.cons (.tup .nil) .nil))) (.cons (.for_ (.one 3) (.r1 (.v 0)) (.cons (.asg 4 (.lst .nil)) (.cons (.for_ (.one 5) (.seq (.v 2)) (.cons (.asg 4 (.bin .Add (.v 4) (.lc (.bin .Add (.v 5) (.tup (.cons (.v 6) .nil))) (.one 6) (.seq (.v 1)) .none [6]))) .nil)) (.cons (.asg 2 (.v 4)) .nil)))) (.cons (.ret (.v 2)) .nil)))
def d__law_every : Df := { name := "_law_every", N := N__law_every, ar := 2, fuel := 100, body := b__law_every }

def N__law_table : List Str := ["numbers", "persons_o", "many", "rows", "i", "k"]
def b__law_table : ISs := (.cons (.asg 3 (.lst .nil)) (.cons (.for_ (.one 4) (.r1 (.v 1)) (.cons (.app 3 (.bf .tuple (.cons (.lc (.bin .Mod (.bf .int (.cons (.bin .FloorDiv (.ix (.v 0) (.v 4)) (.ix (.lst (.cons (.k (.int 1)) (.cons (.k (.int 3)) (.cons (.k (.int 9)) (.cons (.k (.int 27)) .nil))))) (.v 5))) .nil)) (.k (.int 3))) (.one 5) (.r1 (.v 2)) .none [5]) .nil))) .nil)) (.cons (.ret (.bf .tuple (.cons (.v 3) .nil))) .nil)))
def d__law_table : Df := { name := "_law_table", N := N__law_table, ar := 3, fuel := 100, body := b__law_table }

def N__law_ways : List Str := []
def b__law_ways : ISs := (.cons (.ret (.tup (.cons (.k (.str "first")) (.cons (.k (.str "most")) (.cons (.k (.str "sum")) (.cons (.k (.str "worst")) (.cons (.k (.str "veto")) (.cons (.k (.str "lead")) .nil)))))))) .nil)
def d__law_ways : Df := { name := "_law_ways", N := N__law_ways, ar := 0, fuel := 100, body := b__law_ways }

def N__law_gain : List Str := ["way_o", "table", "person", "here", "best", "row", "other", "k"]
def b__law_gain : ISs := (.cons (.asg 3 (.ix (.ix (.v 1) (.v 2)) (.call "_law_chosen" (.cons (.v 0) (.cons (.v 1) .nil))))) (.cons (.asg 4 (.k .none)) (.cons (.for_ (.one 5) (.seq (.call "_law_every" (.cons (.bf .len (.cons (.ix (.v 1) (.k (.int 0))) .nil)) (.cons (.tup (.cons (.k (.int 0)) (.cons (.k (.int 1)) (.cons (.k (.int 2)) .nil)))) .nil)))) (.cons (.asg 6 (.bin .Add (.bin .Add (.sl (.v 1) .none (.some (.v 2))) (.tup (.cons (.v 5) .nil))) (.sl (.v 1) (.some (.bin .Add (.v 2) (.k (.int 1)))) .none))) (.cons (.asg 7 (.call "_law_chosen" (.cons (.v 0) (.cons (.v 6) .nil)))) (.cons (.ite (.and (.cmp .Gt (.ix (.ix (.v 1) (.v 2)) (.v 7)) (.v 3)) (.or (.cmp .Is (.v 4) (.k .none)) (.cmp .Gt (.ix (.ix (.v 1) (.v 2)) (.v 7)) (.ix (.ix (.v 1) (.v 2)) (.ix (.v 4) (.k (.int 1))))))) (.cons (.asg 4 (.tup (.cons (.v 5) (.cons (.v 7) .nil)))) .nil) .nil) .nil)))) (.cons (.ret (.v 4)) .nil))))
def d__law_gain : Df := { name := "_law_gain", N := N__law_gain, ar := 3, fuel := 100, body := b__law_gain }

def N__law_run : List Str := ["numbers", "persons_o", "many", "table", "way_o", "row", "some", "person", "due", "worse", "at", "k"]
def b__law_run : ISs := (.cons (.asg 1 (.bin .Add (.k (.int 1)) (.bin .Mod (.bf .int (.cons (.ix (.v 0) (.k (.int 0))) .nil)) (.k (.int 4))))) (.cons (.asg 2 (.bin .Add (.k (.int 1)) (.bin .Mod (.bf .int (.cons (.ix (.v 0) (.k (.int 1))) .nil)) (.k (.int 4))))) (.cons (.asg 3 (.call "_law_table" (.cons (.sl (.v 0) (.some (.k (.int 2))) (.some (.k (.int 6)))) (.cons (.v 1) (.cons (.v 2) .nil))))) (.cons (.ite (.cmp .Eq (.bin .Mod (.bf .int (.cons (.ix (.v 0) (.k (.int 6))) .nil)) (.k (.int 5))) (.k (.int 0))) (.cons (.asg 3 (.bin .Mult (.tup (.cons (.ix (.v 3) (.k (.int 0))) .nil)) (.v 1))) .nil) .nil) (.cons (.for_ (.one 4) (.seq (.call "_law_ways" .nil)) (.cons (.ite (.nt (.call "_law_same" (.cons (.call "chosen" (.cons (.v 4) (.cons (.v 3) .nil))) (.cons (.call "_law_chosen" (.cons (.v 4) (.cons (.v 3) .nil))) .nil)))) (.cons (.ret (.k (.bool false))) .nil) .nil) (.cons (.ite (.nt (.call "_law_same" (.cons (.call "chosen" (.cons (.v 4) (.cons (.lc (.bf .list (.cons (.v 5) .nil)) (.one 5) (.seq (.v 3)) .none [5]) .nil))) (.cons (.call "_law_chosen" (.cons (.v 4) (.cons (.v 3) .nil))) .nil)))) (.cons (.ret (.k (.bool false))) .nil) .nil) (.cons (.asg 6 (.lst .nil)) (.cons (.for_ (.one 7) (.r1 (.v 1)) (.cons (.asg 8 (.call "_law_gain" (.cons (.v 4) (.cons (.v 3) (.cons (.v 7) .nil))))) (.cons (.ite (.nt (.call "_law_same" (.cons (.call "gain" (.cons (.v 4) (.cons (.v 3) (.cons (.v 7) .nil)))) (.cons (.v 8) .nil)))) (.cons (.ret (.k (.bool false))) .nil) .nil) (.cons (.asg 6 (.bin .Add (.v 6) (.ife (.cmp .IsNot (.v 8) (.k .none)) (.lst (.cons (.v 7) .nil)) (.lst .nil)))) (.cons (.asg 9 (.tup .nil)) (.cons (.ite (.cmp .IsNot (.v 8) (.k .none)) (.cons (.asg 10 (.call "_law_chosen" (.cons (.v 4) (.cons (.v 3) .nil)))) (.cons (.asg 9 (.bf .tuple (.cons (.lc (.v 11) (.one 11) (.r1 (.v 1)) (.some (.and (.cmp .NotEq (.v 11) (.v 7)) (.cmp .Lt (.ix (.ix (.v 3) (.v 11)) (.ix (.v 8) (.k (.int 1)))) (.ix (.ix (.v 3) (.v 11)) (.v 10))))) [11]) .nil))) .nil)) .nil) (.cons (.ite (.nt (.call "_law_same" (.cons (.call "hurt" (.cons (.v 4) (.cons (.v 3) (.cons (.v 7) .nil)))) (.cons (.v 9) .nil)))) (.cons (.ret (.k (.bool false))) .nil) .nil) .nil))))))) (.cons (.ite (.nt (.call "_law_same" (.cons (.call "helped" (.cons (.v 4) (.cons (.v 3) .nil))) (.cons (.bf .tuple (.cons (.v 6) .nil)) .nil)))) (.cons (.ret (.k (.bool false))) .nil) .nil) (.cons (.ite (.and (.v 6) (.and (.cmp .NotEq (.v 4) (.k (.str "first"))) (.or (.cmp .Eq (.v 1) (.k (.int 1))) (.cmp .Eq (.lnset (.v 3)) (.k (.int 1)))))) (.cons (.ret (.k (.bool false))) .nil) .nil) .nil))))))) (.cons (.ret (.nt (.call "_law_gain" (.cons (.k (.str "lead")) (.cons (.v 3) (.cons (.k (.int 0)) .nil)))))) .nil))))))
def d__law_run : Df := { name := "_law_run", N := N__law_run, ar := 1, fuel := 100, body := b__law_run }

def N__law_refused : List Str := ["told_o", "at", "error"]
def b__law_refused : ISs := (.cons (.tryAt (.cons (.ex (.call "gain" (.cons (.ix (.v 0) (.k (.int 0))) (.cons (.ix (.v 0) (.k (.int 1))) (.cons (.ix (.v 0) (.k (.int 2))) .nil))))) .nil) "BadValue" 2 (.v 1)) (.cons (.ret (.k (.bool false))) .nil))
def d__law_refused : Df := { name := "_law_refused", N := N__law_refused, ar := 2, fuel := 100, body := b__law_refused }

def N_law : List Str := ["script", "run", "right", "wrong", "one"]
def b_law : ISs := (.cons (.for_ (.one 1) (.r1 (.k (.int 4))) (.cons (.ite (.nt (.call "_law_run" (.cons (.call "_law_draws" (.cons (.v 0) (.cons (.v 1) (.cons (.k (.int 8)) .nil)))) .nil))) (.cons (.ret (.k (.bool false))) .nil) .nil) .nil)) (.cons (.asg 2 (.lst (.cons (.k (.str "sum")) (.cons (.tup (.cons (.tup (.cons (.k (.int 2)) (.cons (.k (.int 1)) .nil))) (.cons (.tup (.cons (.k (.int 0)) (.cons (.k (.int 2)) .nil))) .nil))) (.cons (.k (.int 0)) .nil))))) (.cons (.asg 3 (.lst (.cons (.tup (.cons (.k (.int 0)) (.cons (.k (.str "best")) (.cons (.k (.int 1)) .nil)))) (.cons (.tup (.cons (.k (.int 0)) (.cons (.k (.int 3)) (.cons (.k (.int 1)) .nil)))) (.cons (.tup (.cons (.k (.int 1)) (.cons (.tup .nil) (.cons (.k (.int 2)) .nil)))) (.cons (.tup (.cons (.k (.int 1)) (.cons (.tup (.cons (.tup (.cons (.k (.int 2)) (.cons (.k (.int 1)) .nil))) (.cons (.tup (.cons (.k (.int 0)) .nil)) .nil))) (.cons (.k (.int 2)) .nil)))) (.cons (.tup (.cons (.k (.int 1)) (.cons (.tup (.cons (.tup (.cons (.k (.int 2)) (.cons (.k (.int 3)) .nil))) .nil)) (.cons (.k (.int 2)) .nil)))) (.cons (.tup (.cons (.k (.int 1)) (.cons (.tup (.cons (.tup (.cons (.k (.bool true)) (.cons (.k (.int 1)) .nil))) .nil)) (.cons (.k (.int 2)) .nil)))) (.cons (.tup (.cons (.k (.int 1)) (.cons (.tup (.cons (.tup .nil) .nil)) (.cons (.k (.int 2)) .nil)))) (.cons (.tup (.cons (.k (.int 2)) (.cons (.k (.int 2)) (.cons (.k (.int 3)) .nil)))) (.cons (.tup (.cons (.k (.int 2)) (.cons (.neg (.k (.int 1))) (.cons (.k (.int 3)) .nil)))) (.cons (.tup (.cons (.k (.int 2)) (.cons (.k (.bool false)) (.cons (.k (.int 3)) .nil)))) .nil)))))))))))) (.cons (.for_ (.one 4) (.seq (.v 3)) (.cons (.ite (.nt (.call "_law_refused" (.cons (.bin .Add (.bin .Add (.sl (.v 2) .none (.some (.ix (.v 4) (.k (.int 0))))) (.lst (.cons (.ix (.v 4) (.k (.int 1))) .nil))) (.sl (.v 2) (.some (.bin .Add (.ix (.v 4) (.k (.int 0))) (.k (.int 1)))) .none)) (.cons (.ix (.v 4) (.k (.int 2))) .nil)))) (.cons (.ret (.k (.bool false))) .nil) .nil) .nil)) (.cons (.ret (.and (.call "_law_same" (.cons (.call "gain" (.cons (.k (.str "sum")) (.cons (.ix (.v 2) (.k (.int 1))) (.cons (.k (.int 0)) .nil)))) (.cons (.tup (.cons (.tup (.cons (.k (.int 2)) (.cons (.k (.int 0)) .nil))) (.cons (.k (.int 0)) .nil))) .nil))) (.call "_law_same" (.cons (.call "gain" (.cons (.k (.str "first")) (.cons (.ix (.v 2) (.k (.int 1))) (.cons (.k (.int 0)) .nil)))) (.cons (.tup (.cons (.tup (.cons (.k (.int 1)) (.cons (.k (.int 0)) .nil))) (.cons (.k (.int 0)) .nil))) .nil))))) .nil)))))
def d_law : Df := { name := "law", N := N_law, ar := 1, fuel := 100, body := b_law }

def T : List Df := [d_too_deep, d_as_tuples, d_plain, d_is_int, d_in_range, d_is_tuple, d_need, d_all_rows, d_with_row, d_way_form, d_row_form, d_table_form, d_rank, d_chosen_by, d_gain_by, d_helped_by, d_chosen, d_gain, d_helped, d_hurt, d__law_draws, d__law_same, d__law_zeros, d__law_score, d__law_chosen, d__law_every, d__law_table, d__law_ways, d__law_gain, d__law_run, d__law_refused, d_law]
def con : List (Str × D) := [("DEEPEST", c_DEEPEST), ("NUMBERS", c_NUMBERS), ("WAYS", c_WAYS)]
def mb : List Str := []
end K11
namespace K11
open PySem PySem.Spec PyProof.Rows L2 PyE
def top (i : Nat) : Stmt := PySem.Challenge.pw_suitday_k11_chosen_and_gained.main.body.getD i (.Pass ⟨0, 0, 0, 0⟩)
theorem chk_too_deep : chkSs ⟨N_too_deep, con, mb⟩ ⟨defScope (top 5), fun _ => true⟩ b_too_deep (defBody (top 5)) = true := by decide +kernel
theorem scp_too_deep : FnScope N_too_deep (N_too_deep.take 2) (defScope (top 5)) := ⟨rfl, rfl, rfl, by decide +kernel, rfl, by decide +kernel, by decide +kernel⟩
theorem bnd_too_deep : ∀ (kV doc pm : Value) (an : Option Addr) (cdv ct : Value) (us : List Value), us.length = (N_too_deep.take 2).length → bindArgs (PySem.W.fnOf "too_deep" "too_deep" (defArgs (top 5)) (defBody (top 5)) (defScope (top 5)) .none kV doc pm an cdv ct) ⟨us, []⟩ = pure ((N_too_deep.take 2).zip us) := fun _ _ _ _ _ _ us hl => match us, hl with | [_, _], _ => rfl
theorem chk_as_tuples : chkSs ⟨N_as_tuples, con, mb⟩ ⟨defScope (top 6), fun _ => true⟩ b_as_tuples (defBody (top 6)) = true := by decide +kernel
theorem scp_as_tuples : FnScope N_as_tuples (N_as_tuples.take 1) (defScope (top 6)) := ⟨rfl, rfl, rfl, by decide +kernel, rfl, by decide +kernel, by decide +kernel⟩
theorem bnd_as_tuples : ∀ (kV doc pm : Value) (an : Option Addr) (cdv ct : Value) (us : List Value), us.length = (N_as_tuples.take 1).length → bindArgs (PySem.W.fnOf "as_tuples" "as_tuples" (defArgs (top 6)) (defBody (top 6)) (defScope (top 6)) .none kV doc pm an cdv ct) ⟨us, []⟩ = pure ((N_as_tuples.take 1).zip us) := fun _ _ _ _ _ _ us hl => match us, hl with | [_], _ => rfl
theorem chk_plain : chkSs ⟨N_plain, con, mb⟩ ⟨defScope (top 7), fun _ => true⟩ b_plain (defBody (top 7)) = true := by decide +kernel
theorem scp_plain : FnScope N_plain (N_plain.take 1) (defScope (top 7)) := ⟨rfl, rfl, rfl, by decide +kernel, rfl, by decide +kernel, by decide +kernel⟩
theorem bnd_plain : ∀ (kV doc pm : Value) (an : Option Addr) (cdv ct : Value) (us : List Value), us.length = (N_plain.take 1).length → bindArgs (PySem.W.fnOf "plain" "plain" (defArgs (top 7)) (defBody (top 7)) (defScope (top 7)) .none kV doc pm an cdv ct) ⟨us, []⟩ = pure ((N_plain.take 1).zip us) := fun _ _ _ _ _ _ us hl => match us, hl with | [_], _ => rfl
theorem chk_is_int : chkSs ⟨N_is_int, con, mb⟩ ⟨defScope (top 8), fun _ => true⟩ b_is_int (defBody (top 8)) = true := by decide +kernel
theorem scp_is_int : FnScope N_is_int (N_is_int.take 1) (defScope (top 8)) := ⟨rfl, rfl, rfl, by decide +kernel, rfl, by decide +kernel, by decide +kernel⟩
theorem bnd_is_int : ∀ (kV doc pm : Value) (an : Option Addr) (cdv ct : Value) (us : List Value), us.length = (N_is_int.take 1).length → bindArgs (PySem.W.fnOf "is_int" "is_int" (defArgs (top 8)) (defBody (top 8)) (defScope (top 8)) .none kV doc pm an cdv ct) ⟨us, []⟩ = pure ((N_is_int.take 1).zip us) := fun _ _ _ _ _ _ us hl => match us, hl with | [_], _ => rfl
theorem chk_in_range : chkSs ⟨N_in_range, con, mb⟩ ⟨defScope (top 9), fun _ => true⟩ b_in_range (defBody (top 9)) = true := by decide +kernel
theorem scp_in_range : FnScope N_in_range (N_in_range.take 3) (defScope (top 9)) := ⟨rfl, rfl, rfl, by decide +kernel, rfl, by decide +kernel, by decide +kernel⟩
theorem bnd_in_range : ∀ (kV doc pm : Value) (an : Option Addr) (cdv ct : Value) (us : List Value), us.length = (N_in_range.take 3).length → bindArgs (PySem.W.fnOf "in_range" "in_range" (defArgs (top 9)) (defBody (top 9)) (defScope (top 9)) .none kV doc pm an cdv ct) ⟨us, []⟩ = pure ((N_in_range.take 3).zip us) := fun _ _ _ _ _ _ us hl => match us, hl with | [_, _, _], _ => rfl
theorem chk_is_tuple : chkSs ⟨N_is_tuple, con, mb⟩ ⟨defScope (top 10), fun _ => true⟩ b_is_tuple (defBody (top 10)) = true := by decide +kernel
theorem scp_is_tuple : FnScope N_is_tuple (N_is_tuple.take 2) (defScope (top 10)) := ⟨rfl, rfl, rfl, by decide +kernel, rfl, by decide +kernel, by decide +kernel⟩
theorem bnd_is_tuple : ∀ (kV doc pm : Value) (an : Option Addr) (cdv ct : Value) (us : List Value), us.length = (N_is_tuple.take 2).length → bindArgs (PySem.W.fnOf "is_tuple" "is_tuple" (defArgs (top 10)) (defBody (top 10)) (defScope (top 10)) .none kV doc pm an cdv ct) ⟨us, []⟩ = pure ((N_is_tuple.take 2).zip us) := fun _ _ _ _ _ _ us hl => match us, hl with | [_, _], _ => rfl
theorem chk_need : chkSs ⟨N_need, con, mb⟩ ⟨defScope (top 11), fun _ => true⟩ b_need (defBody (top 11)) = true := by decide +kernel
theorem scp_need : FnScope N_need (N_need.take 2) (defScope (top 11)) := ⟨rfl, rfl, rfl, by decide +kernel, rfl, by decide +kernel, by decide +kernel⟩
theorem bnd_need : ∀ (kV doc pm : Value) (an : Option Addr) (cdv ct : Value) (us : List Value), us.length = (N_need.take 2).length → bindArgs (PySem.W.fnOf "need" "need" (defArgs (top 11)) (defBody (top 11)) (defScope (top 11)) .none kV doc pm an cdv ct) ⟨us, []⟩ = pure ((N_need.take 2).zip us) := fun _ _ _ _ _ _ us hl => match us, hl with | [_, _], _ => rfl
theorem chk_all_rows : chkSs ⟨N_all_rows, con, mb⟩ ⟨defScope (top 13), fun _ => true⟩ b_all_rows (defBody (top 13)) = true := by decide +kernel
theorem scp_all_rows : FnScope N_all_rows (N_all_rows.take 2) (defScope (top 13)) := ⟨rfl, rfl, rfl, by decide +kernel, rfl, by decide +kernel, by decide +kernel⟩
theorem bnd_all_rows : ∀ (kV doc pm : Value) (an : Option Addr) (cdv ct : Value) (us : List Value), us.length = (N_all_rows.take 2).length → bindArgs (PySem.W.fnOf "all_rows" "all_rows" (defArgs (top 13)) (defBody (top 13)) (defScope (top 13)) .none kV doc pm an cdv ct) ⟨us, []⟩ = pure ((N_all_rows.take 2).zip us) := fun _ _ _ _ _ _ us hl => match us, hl with | [_, _], _ => rfl
theorem chk_with_row : chkSs ⟨N_with_row, con, mb⟩ ⟨defScope (top 14), fun _ => true⟩ b_with_row (defBody (top 14)) = true := by decide +kernel
theorem scp_with_row : FnScope N_with_row (N_with_row.take 3) (defScope (top 14)) := ⟨rfl, rfl, rfl, by decide +kernel, rfl, by decide +kernel, by decide +kernel⟩
theorem bnd_with_row : ∀ (kV doc pm : Value) (an : Option Addr) (cdv ct : Value) (us : List Value), us.length = (N_with_row.take 3).length → bindArgs (PySem.W.fnOf "with_row" "with_row" (defArgs (top 14)) (defBody (top 14)) (defScope (top 14)) .none kV doc pm an cdv ct) ⟨us, []⟩ = pure ((N_with_row.take 3).zip us) := fun _ _ _ _ _ _ us hl => match us, hl with | [_, _, _], _ => rfl
theorem chk_way_form : chkSs ⟨N_way_form, con, mb⟩ ⟨defScope (top 18), fun _ => true⟩ b_way_form (defBody (top 18)) = true := by decide +kernel
theorem scp_way_form : FnScope N_way_form (N_way_form.take 1) (defScope (top 18)) := ⟨rfl, rfl, rfl, by decide +kernel, rfl, by decide +kernel, by decide +kernel⟩
theorem bnd_way_form : ∀ (kV doc pm : Value) (an : Option Addr) (cdv ct : Value) (us : List Value), us.length = (N_way_form.take 1).length → bindArgs (PySem.W.fnOf "way_form" "way_form" (defArgs (top 18)) (defBody (top 18)) (defScope (top 18)) .none kV doc pm an cdv ct) ⟨us, []⟩ = pure ((N_way_form.take 1).zip us) := fun _ _ _ _ _ _ us hl => match us, hl with | [_], _ => rfl
theorem chk_row_form : chkSs ⟨N_row_form, con, mb⟩ ⟨defScope (top 19), fun _ => true⟩ b_row_form (defBody (top 19)) = true := by decide +kernel
theorem scp_row_form : FnScope N_row_form (N_row_form.take 2) (defScope (top 19)) := ⟨rfl, rfl, rfl, by decide +kernel, rfl, by decide +kernel, by decide +kernel⟩
theorem bnd_row_form : ∀ (kV doc pm : Value) (an : Option Addr) (cdv ct : Value) (us : List Value), us.length = (N_row_form.take 2).length → bindArgs (PySem.W.fnOf "row_form" "row_form" (defArgs (top 19)) (defBody (top 19)) (defScope (top 19)) .none kV doc pm an cdv ct) ⟨us, []⟩ = pure ((N_row_form.take 2).zip us) := fun _ _ _ _ _ _ us hl => match us, hl with | [_, _], _ => rfl
theorem chk_table_form : chkSs ⟨N_table_form, con, mb⟩ ⟨defScope (top 20), fun _ => true⟩ b_table_form (defBody (top 20)) = true := by decide +kernel
theorem scp_table_form : FnScope N_table_form (N_table_form.take 1) (defScope (top 20)) := ⟨rfl, rfl, rfl, by decide +kernel, rfl, by decide +kernel, by decide +kernel⟩
theorem bnd_table_form : ∀ (kV doc pm : Value) (an : Option Addr) (cdv ct : Value) (us : List Value), us.length = (N_table_form.take 1).length → bindArgs (PySem.W.fnOf "table_form" "table_form" (defArgs (top 20)) (defBody (top 20)) (defScope (top 20)) .none kV doc pm an cdv ct) ⟨us, []⟩ = pure ((N_table_form.take 1).zip us) := fun _ _ _ _ _ _ us hl => match us, hl with | [_], _ => rfl
theorem chk_rank : chkSs ⟨N_rank, con, mb⟩ ⟨defScope (top 21), fun _ => true⟩ b_rank (defBody (top 21)) = true := by decide +kernel
theorem scp_rank : FnScope N_rank (N_rank.take 2) (defScope (top 21)) := ⟨rfl, rfl, rfl, by decide +kernel, rfl, by decide +kernel, by decide +kernel⟩
theorem bnd_rank : ∀ (kV doc pm : Value) (an : Option Addr) (cdv ct : Value) (us : List Value), us.length = (N_rank.take 2).length → bindArgs (PySem.W.fnOf "rank" "rank" (defArgs (top 21)) (defBody (top 21)) (defScope (top 21)) .none kV doc pm an cdv ct) ⟨us, []⟩ = pure ((N_rank.take 2).zip us) := fun _ _ _ _ _ _ us hl => match us, hl with | [_, _], _ => rfl
theorem chk_chosen_by : chkSs ⟨N_chosen_by, con, mb⟩ ⟨defScope (top 22), fun _ => true⟩ b_chosen_by (defBody (top 22)) = true := by decide +kernel
theorem scp_chosen_by : FnScope N_chosen_by (N_chosen_by.take 2) (defScope (top 22)) := ⟨rfl, rfl, rfl, by decide +kernel, rfl, by decide +kernel, by decide +kernel⟩
theorem bnd_chosen_by : ∀ (kV doc pm : Value) (an : Option Addr) (cdv ct : Value) (us : List Value), us.length = (N_chosen_by.take 2).length → bindArgs (PySem.W.fnOf "chosen_by" "chosen_by" (defArgs (top 22)) (defBody (top 22)) (defScope (top 22)) .none kV doc pm an cdv ct) ⟨us, []⟩ = pure ((N_chosen_by.take 2).zip us) := fun _ _ _ _ _ _ us hl => match us, hl with | [_, _], _ => rfl
theorem chk_gain_by : chkSs ⟨N_gain_by, con, mb⟩ ⟨defScope (top 23), fun _ => true⟩ b_gain_by (defBody (top 23)) = true := by decide +kernel
theorem scp_gain_by : FnScope N_gain_by (N_gain_by.take 3) (defScope (top 23)) := ⟨rfl, rfl, rfl, by decide +kernel, rfl, by decide +kernel, by decide +kernel⟩
theorem bnd_gain_by : ∀ (kV doc pm : Value) (an : Option Addr) (cdv ct : Value) (us : List Value), us.length = (N_gain_by.take 3).length → bindArgs (PySem.W.fnOf "gain_by" "gain_by" (defArgs (top 23)) (defBody (top 23)) (defScope (top 23)) .none kV doc pm an cdv ct) ⟨us, []⟩ = pure ((N_gain_by.take 3).zip us) := fun _ _ _ _ _ _ us hl => match us, hl with | [_, _, _], _ => rfl
theorem chk_helped_by : chkSs ⟨N_helped_by, con, mb⟩ ⟨defScope (top 24), fun _ => true⟩ b_helped_by (defBody (top 24)) = true := by decide +kernel
theorem scp_helped_by : FnScope N_helped_by (N_helped_by.take 2) (defScope (top 24)) := ⟨rfl, rfl, rfl, by decide +kernel, rfl, by decide +kernel, by decide +kernel⟩
theorem bnd_helped_by : ∀ (kV doc pm : Value) (an : Option Addr) (cdv ct : Value) (us : List Value), us.length = (N_helped_by.take 2).length → bindArgs (PySem.W.fnOf "helped_by" "helped_by" (defArgs (top 24)) (defBody (top 24)) (defScope (top 24)) .none kV doc pm an cdv ct) ⟨us, []⟩ = pure ((N_helped_by.take 2).zip us) := fun _ _ _ _ _ _ us hl => match us, hl with | [_, _], _ => rfl
theorem chk_chosen : chkSs ⟨N_chosen, con, mb⟩ ⟨defScope (top 25), fun _ => true⟩ b_chosen (defBody (top 25)) = true := by decide +kernel
theorem scp_chosen : FnScope N_chosen (N_chosen.take 2) (defScope (top 25)) := ⟨rfl, rfl, rfl, by decide +kernel, rfl, by decide +kernel, by decide +kernel⟩
theorem bnd_chosen : ∀ (kV doc pm : Value) (an : Option Addr) (cdv ct : Value) (us : List Value), us.length = (N_chosen.take 2).length → bindArgs (PySem.W.fnOf "chosen" "chosen" (defArgs (top 25)) (defBody (top 25)) (defScope (top 25)) .none kV doc pm an cdv ct) ⟨us, []⟩ = pure ((N_chosen.take 2).zip us) := fun _ _ _ _ _ _ us hl => match us, hl with | [_, _], _ => rfl
theorem chk_gain : chkSs ⟨N_gain, con, mb⟩ ⟨defScope (top 26), fun _ => true⟩ b_gain (defBody (top 26)) = true := by decide +kernel
theorem scp_gain : FnScope N_gain (N_gain.take 3) (defScope (top 26)) := ⟨rfl, rfl, rfl, by decide +kernel, rfl, by decide +kernel, by decide +kernel⟩
theorem bnd_gain : ∀ (kV doc pm : Value) (an : Option Addr) (cdv ct : Value) (us : List Value), us.length = (N_gain.take 3).length → bindArgs (PySem.W.fnOf "gain" "gain" (defArgs (top 26)) (defBody (top 26)) (defScope (top 26)) .none kV doc pm an cdv ct) ⟨us, []⟩ = pure ((N_gain.take 3).zip us) := fun _ _ _ _ _ _ us hl => match us, hl with | [_, _, _], _ => rfl
theorem chk_helped : chkSs ⟨N_helped, con, mb⟩ ⟨defScope (top 27), fun _ => true⟩ b_helped (defBody (top 27)) = true := by decide +kernel
theorem scp_helped : FnScope N_helped (N_helped.take 2) (defScope (top 27)) := ⟨rfl, rfl, rfl, by decide +kernel, rfl, by decide +kernel, by decide +kernel⟩
theorem bnd_helped : ∀ (kV doc pm : Value) (an : Option Addr) (cdv ct : Value) (us : List Value), us.length = (N_helped.take 2).length → bindArgs (PySem.W.fnOf "helped" "helped" (defArgs (top 27)) (defBody (top 27)) (defScope (top 27)) .none kV doc pm an cdv ct) ⟨us, []⟩ = pure ((N_helped.take 2).zip us) := fun _ _ _ _ _ _ us hl => match us, hl with | [_, _], _ => rfl
theorem chk_hurt : chkSs ⟨N_hurt, con, mb⟩ ⟨defScope (top 28), fun _ => true⟩ b_hurt (defBody (top 28)) = true := by decide +kernel
theorem scp_hurt : FnScope N_hurt (N_hurt.take 3) (defScope (top 28)) := ⟨rfl, rfl, rfl, by decide +kernel, rfl, by decide +kernel, by decide +kernel⟩
theorem bnd_hurt : ∀ (kV doc pm : Value) (an : Option Addr) (cdv ct : Value) (us : List Value), us.length = (N_hurt.take 3).length → bindArgs (PySem.W.fnOf "hurt" "hurt" (defArgs (top 28)) (defBody (top 28)) (defScope (top 28)) .none kV doc pm an cdv ct) ⟨us, []⟩ = pure ((N_hurt.take 3).zip us) := fun _ _ _ _ _ _ us hl => match us, hl with | [_, _, _], _ => rfl
theorem chk__law_draws : chkSs ⟨N__law_draws, con, mb⟩ ⟨defScope (top 30), fun _ => true⟩ b__law_draws (defBody (top 30)) = true := by decide +kernel
theorem scp__law_draws : FnScope N__law_draws (N__law_draws.take 3) (defScope (top 30)) := ⟨rfl, rfl, rfl, by decide +kernel, rfl, by decide +kernel, by decide +kernel⟩
theorem bnd__law_draws : ∀ (kV doc pm : Value) (an : Option Addr) (cdv ct : Value) (us : List Value), us.length = (N__law_draws.take 3).length → bindArgs (PySem.W.fnOf "_law_draws" "_law_draws" (defArgs (top 30)) (defBody (top 30)) (defScope (top 30)) .none kV doc pm an cdv ct) ⟨us, []⟩ = pure ((N__law_draws.take 3).zip us) := fun _ _ _ _ _ _ us hl => match us, hl with | [_, _, _], _ => rfl
theorem chk__law_same : chkSs ⟨N__law_same, con, mb⟩ ⟨defScope (top 31), fun _ => true⟩ b__law_same (defBody (top 31)) = true := by decide +kernel
theorem scp__law_same : FnScope N__law_same (N__law_same.take 2) (defScope (top 31)) := ⟨rfl, rfl, rfl, by decide +kernel, rfl, by decide +kernel, by decide +kernel⟩
theorem bnd__law_same : ∀ (kV doc pm : Value) (an : Option Addr) (cdv ct : Value) (us : List Value), us.length = (N__law_same.take 2).length → bindArgs (PySem.W.fnOf "_law_same" "_law_same" (defArgs (top 31)) (defBody (top 31)) (defScope (top 31)) .none kV doc pm an cdv ct) ⟨us, []⟩ = pure ((N__law_same.take 2).zip us) := fun _ _ _ _ _ _ us hl => match us, hl with | [_, _], _ => rfl
theorem chk__law_zeros : chkSs ⟨N__law_zeros, con, mb⟩ ⟨defScope (top 32), fun _ => true⟩ b__law_zeros (defBody (top 32)) = true := by decide +kernel
theorem scp__law_zeros : FnScope N__law_zeros (N__law_zeros.take 2) (defScope (top 32)) := ⟨rfl, rfl, rfl, by decide +kernel, rfl, by decide +kernel, by decide +kernel⟩
theorem bnd__law_zeros : ∀ (kV doc pm : Value) (an : Option Addr) (cdv ct : Value) (us : List Value), us.length = (N__law_zeros.take 2).length → bindArgs (PySem.W.fnOf "_law_zeros" "_law_zeros" (defArgs (top 32)) (defBody (top 32)) (defScope (top 32)) .none kV doc pm an cdv ct) ⟨us, []⟩ = pure ((N__law_zeros.take 2).zip us) := fun _ _ _ _ _ _ us hl => match us, hl with | [_, _], _ => rfl
theorem chk__law_score : chkSs ⟨N__law_score, con, mb⟩ ⟨defScope (top 33), fun _ => true⟩ b__law_score (defBody (top 33)) = true := by decide +kernel
theorem scp__law_score : FnScope N__law_score (N__law_score.take 3) (defScope (top 33)) := ⟨rfl, rfl, rfl, by decide +kernel, rfl, by decide +kernel, by decide +kernel⟩
theorem bnd__law_score : ∀ (kV doc pm : Value) (an : Option Addr) (cdv ct : Value) (us : List Value), us.length = (N__law_score.take 3).length → bindArgs (PySem.W.fnOf "_law_score" "_law_score" (defArgs (top 33)) (defBody (top 33)) (defScope (top 33)) .none kV doc pm an cdv ct) ⟨us, []⟩ = pure ((N__law_score.take 3).zip us) := fun _ _ _ _ _ _ us hl => match us, hl with | [_, _, _], _ => rfl
theorem chk__law_chosen : chkSs ⟨N__law_chosen, con, mb⟩ ⟨defScope (top 34), fun _ => true⟩ b__law_chosen (defBody (top 34)) = true := by decide +kernel
theorem scp__law_chosen : FnScope N__law_chosen (N__law_chosen.take 2) (defScope (top 34)) := ⟨rfl, rfl, rfl, by decide +kernel, rfl, by decide +kernel, by decide +kernel⟩
theorem bnd__law_chosen : ∀ (kV doc pm : Value) (an : Option Addr) (cdv ct : Value) (us : List Value), us.length = (N__law_chosen.take 2).length → bindArgs (PySem.W.fnOf "_law_chosen" "_law_chosen" (defArgs (top 34)) (defBody (top 34)) (defScope (top 34)) .none kV doc pm an cdv ct) ⟨us, []⟩ = pure ((N__law_chosen.take 2).zip us) := fun _ _ _ _ _ _ us hl => match us, hl with | [_, _], _ => rfl
theorem chk__law_every : chkSs ⟨N__law_every, con, mb⟩ ⟨defScope (top 35), fun _ => true⟩ b__law_every (defBody (top 35)) = true := by decide +kernel
theorem scp__law_every : FnScope N__law_every (N__law_every.take 2) (defScope (top 35)) := ⟨rfl, rfl, rfl, by decide +kernel, rfl, by decide +kernel, by decide +kernel⟩
theorem bnd__law_every : ∀ (kV doc pm : Value) (an : Option Addr) (cdv ct : Value) (us : List Value), us.length = (N__law_every.take 2).length → bindArgs (PySem.W.fnOf "_law_every" "_law_every" (defArgs (top 35)) (defBody (top 35)) (defScope (top 35)) .none kV doc pm an cdv ct) ⟨us, []⟩ = pure ((N__law_every.take 2).zip us) := fun _ _ _ _ _ _ us hl => match us, hl with | [_, _], _ => rfl
theorem chk__law_table : chkSs ⟨N__law_table, con, mb⟩ ⟨defScope (top 36), fun _ => true⟩ b__law_table (defBody (top 36)) = true := by decide +kernel
theorem scp__law_table : FnScope N__law_table (N__law_table.take 3) (defScope (top 36)) := ⟨rfl, rfl, rfl, by decide +kernel, rfl, by decide +kernel, by decide +kernel⟩
theorem bnd__law_table : ∀ (kV doc pm : Value) (an : Option Addr) (cdv ct : Value) (us : List Value), us.length = (N__law_table.take 3).length → bindArgs (PySem.W.fnOf "_law_table" "_law_table" (defArgs (top 36)) (defBody (top 36)) (defScope (top 36)) .none kV doc pm an cdv ct) ⟨us, []⟩ = pure ((N__law_table.take 3).zip us) := fun _ _ _ _ _ _ us hl => match us, hl with | [_, _, _], _ => rfl
theorem chk__law_ways : chkSs ⟨N__law_ways, con, mb⟩ ⟨defScope (top 37), fun _ => true⟩ b__law_ways (defBody (top 37)) = true := by decide +kernel
theorem scp__law_ways : FnScope N__law_ways (N__law_ways.take 0) (defScope (top 37)) := ⟨rfl, rfl, rfl, by decide +kernel, rfl, by decide +kernel, by decide +kernel⟩
theorem bnd__law_ways : ∀ (kV doc pm : Value) (an : Option Addr) (cdv ct : Value) (us : List Value), us.length = (N__law_ways.take 0).length → bindArgs (PySem.W.fnOf "_law_ways" "_law_ways" (defArgs (top 37)) (defBody (top 37)) (defScope (top 37)) .none kV doc pm an cdv ct) ⟨us, []⟩ = pure ((N__law_ways.take 0).zip us) := fun _ _ _ _ _ _ us hl => match us, hl with | [], _ => rfl
theorem chk__law_gain : chkSs ⟨N__law_gain, con, mb⟩ ⟨defScope (top 38), fun _ => true⟩ b__law_gain (defBody (top 38)) = true := by decide +kernel
theorem scp__law_gain : FnScope N__law_gain (N__law_gain.take 3) (defScope (top 38)) := ⟨rfl, rfl, rfl, by decide +kernel, rfl, by decide +kernel, by decide +kernel⟩
theorem bnd__law_gain : ∀ (kV doc pm : Value) (an : Option Addr) (cdv ct : Value) (us : List Value), us.length = (N__law_gain.take 3).length → bindArgs (PySem.W.fnOf "_law_gain" "_law_gain" (defArgs (top 38)) (defBody (top 38)) (defScope (top 38)) .none kV doc pm an cdv ct) ⟨us, []⟩ = pure ((N__law_gain.take 3).zip us) := fun _ _ _ _ _ _ us hl => match us, hl with | [_, _, _], _ => rfl
theorem chk__law_run : chkSs ⟨N__law_run, con, mb⟩ ⟨defScope (top 39), fun _ => true⟩ b__law_run (defBody (top 39)) = true := by decide +kernel
theorem scp__law_run : FnScope N__law_run (N__law_run.take 1) (defScope (top 39)) := ⟨rfl, rfl, rfl, by decide +kernel, rfl, by decide +kernel, by decide +kernel⟩
theorem bnd__law_run : ∀ (kV doc pm : Value) (an : Option Addr) (cdv ct : Value) (us : List Value), us.length = (N__law_run.take 1).length → bindArgs (PySem.W.fnOf "_law_run" "_law_run" (defArgs (top 39)) (defBody (top 39)) (defScope (top 39)) .none kV doc pm an cdv ct) ⟨us, []⟩ = pure ((N__law_run.take 1).zip us) := fun _ _ _ _ _ _ us hl => match us, hl with | [_], _ => rfl
theorem chk__law_refused : chkSs ⟨N__law_refused, con, mb⟩ ⟨defScope (top 40), fun _ => true⟩ b__law_refused (defBody (top 40)) = true := by decide +kernel
theorem scp__law_refused : FnScope N__law_refused (N__law_refused.take 2) (defScope (top 40)) := ⟨rfl, rfl, rfl, by decide +kernel, rfl, by decide +kernel, by decide +kernel⟩
theorem bnd__law_refused : ∀ (kV doc pm : Value) (an : Option Addr) (cdv ct : Value) (us : List Value), us.length = (N__law_refused.take 2).length → bindArgs (PySem.W.fnOf "_law_refused" "_law_refused" (defArgs (top 40)) (defBody (top 40)) (defScope (top 40)) .none kV doc pm an cdv ct) ⟨us, []⟩ = pure ((N__law_refused.take 2).zip us) := fun _ _ _ _ _ _ us hl => match us, hl with | [_, _], _ => rfl
theorem chk_law : chkSs ⟨N_law, con, mb⟩ ⟨defScope (top 41), fun _ => true⟩ b_law (defBody (top 41)) = true := by decide +kernel
theorem scp_law : FnScope N_law (N_law.take 1) (defScope (top 41)) := ⟨rfl, rfl, rfl, by decide +kernel, rfl, by decide +kernel, by decide +kernel⟩
theorem bnd_law : ∀ (kV doc pm : Value) (an : Option Addr) (cdv ct : Value) (us : List Value), us.length = (N_law.take 1).length → bindArgs (PySem.W.fnOf "law" "law" (defArgs (top 41)) (defBody (top 41)) (defScope (top 41)) .none kV doc pm an cdv ct) ⟨us, []⟩ = pure ((N_law.take 1).zip us) := fun _ _ _ _ _ _ us hl => match us, hl with | [_], _ => rfl
end K11

set_option Elab.async false
set_option linter.all false
set_option autoImplicit false
set_option maxRecDepth 100000
set_option maxHeartbeats 4000000
/-! # k11: keys and the chosen ones -/
namespace K11
open PySem PyE L2 PyV PySem.W
def wy : Nat → D
  | 0 => .str "first" | 1 => .str "most" | 2 => .str "sum" | 3 => .str "worst" | 4 => .str "veto" | _ => .str "lead"
theorem wyq_all : ∀ w ∈ List.range 6, ∀ j ∈ List.range 6, cmpD .Eq (wy w) (wy j) = some (w == j) ∧ cmpD .NotEq (wy w) (wy j) = some (!(w == j)) := by decide +kernel
theorem wyq {w j : Nat} (hw : w < 6) (hj : j < 6) : cmpD .Eq (wy w) (wy j) = some (w == j) := (wyq_all w (List.mem_range.mpr hw) j (List.mem_range.mpr hj)).1
theorem wyn {w j : Nat} (hw : w < 6) (hj : j < 6) : cmpD .NotEq (wy w) (wy j) = some (!(w == j)) := (wyq_all w (List.mem_range.mpr hw) j (List.mem_range.mpr hj)).2
def cn (k : Int) (l : List Int) : Nat := l.countP (· == k)
def rk (w : Nat) (l : List Int) : List Int :=
  if w = 0 then [(cn 0 l : Int)] else if w = 1 then [-(cn 2 l : Int), (cn 0 l : Int)] else if w = 2 then [-l.sum] else if w = 3 then [-mnL l, -l.sum]
  else if w = 4 then (if 0 < cn 0 l then [1, 0] else [0, -(cn 2 l : Int)]) else l.map fun x => -x
def sc (w : Nat) (l : List Int) : List Int :=
  if w = 0 then (if cn 0 l = 0 then [0, 0] else [1, (cn 0 l : Int)]) else if w = 1 then [-(cn 2 l : Int), (cn 0 l : Int)] else if w = 2 then [-l.sum, 0] else if w = 3 then [-mnL l, -l.sum]
  else if w = 4 then (if cn 0 l = 0 then [0, -(cn 2 l : Int)] else [1, 0]) else l.map fun x => -x
theorem rk_sc {w : Nat} {l l' : List Int} : llt (rk w l) (rk w l') = llt (sc w l) (sc w l') := by
  unfold rk sc
  by_cases h0 : w = 0
  · simp only [h0, if_true]
    by_cases a : cn 0 l = 0
    · by_cases b : cn 0 l' = 0
      · simp [a, b, llt]
      · rw [if_pos a, if_neg b, a]
        simp only [llt]
        rw [if_neg (by omega), if_neg (by omega)]
        rw [decide_eq_true (by omega), decide_eq_true (by omega)]
    · by_cases b : cn 0 l' = 0
      · rw [if_neg a, if_pos b, b]
        simp only [llt]
        rw [if_neg (by omega), if_neg (by omega)]
        rw [decide_eq_false (by omega), decide_eq_false (by omega)]
      · rw [if_neg a, if_neg b]
        simp [llt]
  · simp only [h0, if_false]
    by_cases h1 : w = 1
    · simp only [h1, if_true]
    · simp only [h1, if_false]
      by_cases h2 : w = 2
      · simp [h2, llt]
      · simp only [h2, if_false]
        by_cases h3 : w = 3
        · simp only [h3, if_true]
        · simp only [h3, if_false]
          by_cases h4 : w = 4
          · simp only [h4, if_true]
            by_cases a : cn 0 l = 0
            · by_cases b : cn 0 l' = 0
              · simp [a, b]
              · simp [a, b, Nat.pos_of_ne_zero b]
            · by_cases b : cn 0 l' = 0
              · simp [a, b, Nat.pos_of_ne_zero a]
              · simp [a, b, Nat.pos_of_ne_zero a, Nat.pos_of_ne_zero b]
          · simp only [h4, if_false]
section
variable {Φ : Fns}
def eR (w : Nat) (l : List Int) (z t x : Sl) : SEnv := [.sh (wy w), .sh (iL l), z, t, x]
theorem rank_run {w : Nat} (hw : w < 6) {l : List Int} (hl : l ≠ []) (hz : l.length ≤ 16777216) : (runDf Φ d_rank).run [wy w, iL l] = .ret (iT (rk w l)) [] := by
  show frR (evSs Φ 100 b_rank [.sh (wy w), .sh (iL l), .no, .no, .no]) = _
  unfold b_rank
  rw [seq_nxt (asg_now (cnt_ints (l := l) (k := 0) rfl rfl) (x := .no) rfl rfl)]
  rw [seq_nxt (asg_now (cnt_ints (l := l) (k := 2) rfl rfl) (x := .no) rfl rfl)]
  have tj : ∀ (s : D) (j : Nat), s = wy j → j < 6 → ∀ b : Bool, (w == j) = b → evT Φ (.cmp .Eq (.v 0) (.k s)) (eR w l (.sh (.int (cn 0 l : Nat))) (.sh (.int (cn 2 l : Nat))) .no) = .ok b (eR w l (.sh (.int (cn 0 l : Nat))) (.sh (.int (cn 2 l : Nat))) .no) :=
    fun s j hs hj b hb => tst (cmp_nows rfl rfl (by rw [hs, wyq hw hj, hb]))
  show frR (evSs Φ 100 _ (eR w l (.sh (.int (cn 0 l : Nat))) (.sh (.int (cn 2 l : Nat))) .no)) = _
  unfold rk
  by_cases h0 : w = 0
  · rw [if_pos h0, ite_1 (tj (.str "first") 0 rfl (by decide) true (by rw [h0]; rfl)) (seq_ret (ret_now (tup_of rfl rfl rfl)))]
    rfl
  rw [if_neg h0, ite_0 (tj (.str "first") 0 rfl (by decide) false (by simp [h0]))]
  by_cases h1 : w = 1
  · rw [if_pos h1, ite_1 (tj (.str "most") 1 rfl (by decide) true (by rw [h1]; rfl)) (seq_ret (ret_now (tup_of rfl rfl rfl)))]
    rfl
  rw [if_neg h1, ite_0 (tj (.str "most") 1 rfl (by decide) false (by simp [h1]))]
  by_cases h2 : w = 2
  · rw [if_pos h2, ite_1 (tj (.str "sum") 2 rfl (by decide) true (by rw [h2]; rfl)) (seq_ret (ret_now (tup_of (es_cons (neg_now (bf_now (d := iL l) rfl (sum_ints l))) rfl) rfl rfl)))]
    rfl
  rw [if_neg h2, ite_0 (tj (.str "sum") 2 rfl (by decide) false (by simp [h2]))]
  by_cases h3 : w = 3
  · rw [if_pos h3, ite_1 (tj (.str "worst") 3 rfl (by decide) true (by rw [h3]; rfl)) (seq_ret (ret_now (tup_of (es_cons (neg_now (bf_now (d := iL l) rfl (min_ints hl))) (es_cons (neg_now (bf_now (d := iL l) rfl (sum_ints l))) rfl)) rfl rfl)))]
    rfl
  rw [if_neg h3, ite_0 (tj (.str "worst") 3 rfl (by decide) false (by simp [h3]))]
  by_cases h4 : w = 4
  · have e : evE Φ (.cmp .Gt (.v 2) (.k (.int 0))) (eR w l (.sh (.int (cn 0 l : Nat))) (.sh (.int (cn 2 l : Nat))) .no) = .ok (.now (.bool (decide (0 < (cn 0 l : Int))))) (eR w l (.sh (.int (cn 0 l : Nat))) (.sh (.int (cn 2 l : Nat))) .no) := rfl
    have e2 : evE Φ (.ife (.cmp .Gt (.v 2) (.k (.int 0))) (.tup (.cons (.k (.int 1)) (.cons (.k (.int 0)) .nil))) (.tup (.cons (.k (.int 0)) (.cons (.neg (.v 3)) .nil)))) (eR w l (.sh (.int (cn 0 l : Nat))) (.sh (.int (cn 2 l : Nat))) .no) =
        .ok (.now (iT (if 0 < cn 0 l then [1, 0] else [0, -(cn 2 l : Int)]))) (eR w l (.sh (.int (cn 0 l : Nat))) (.sh (.int (cn 2 l : Nat))) .no) := by
      by_cases c : 0 < cn 0 l
      · rw [decide_eq_true (by omega)] at e
        rw [if_pos c, ife_t e]
        rfl
      · rw [decide_eq_false (by omega)] at e
        rw [if_neg c, ife_f e]
        rfl
    rw [if_pos h4, ite_1 (tj (.str "veto") 4 rfl (by decide) true (by rw [h4]; rfl)) (seq_ret (ret_now e2))]
    rfl
  rw [if_neg h4, ite_0 (tj (.str "veto") 4 rfl (by decide) false (by simp [h4]))]
  have hlc := lc_map (Φ := Φ) (e := .neg (.v 4)) (tg := .one 4) (it := .seq (.v 1)) (own := [4]) (env := eR w l (.sh (.int (cn 0 l : Nat))) (.sh (.int (cn 2 l : Nat))) .no) (xs := l) (enc := PyData.int) (f := fun x => .int (-x)) (e1 := eR w l (.sh (.int (cn 0 l : Nat))) (.sh (.int (cn 2 l : Nat))) .no) rfl rfl rfl
    (fun x _ => st_one (e1 := eR w l (.sh (.int (cn 0 l : Nat))) (.sh (.int (cn 2 l : Nat))) (.sh (.int x))) rfl (neg_now rfl) rfl) hz
  rw [seq_ret (ret_now (bf_tmp hlc rfl))]
  show FRes.ret (.tuple (l.map fun x => .int (-x))) [] = .ret (iT (l.map fun x => -x)) []
  unfold iT
  rw [List.map_map]
  rfl
end
end K11

set_option Elab.async false
set_option linter.all false
set_option autoImplicit false
set_option maxRecDepth 100000
set_option maxHeartbeats 4000000
/-! # k11: the chosen ones -/
namespace K11
open PySem PyE L2 PyV PySem.W
abbrev tabD (t : List (List Int)) : D := .tuple (t.map iT)
def col (t : List (List Int)) (c : Nat) : List Int := t.map fun r => r.getD c 0
structure Tab (t : List (List Int)) (p n : Nat) : Prop where
  len : t.length = p
  p1 : 1 ≤ p
  p4 : p ≤ 4
  n1 : 1 ≤ n
  n4 : n ≤ 4
  row : ∀ r ∈ t, r.length = n
  val : ∀ r ∈ t, ∀ x ∈ r, 0 ≤ x ∧ x ≤ 2
theorem at_row {r : List Int} {c : Nat} (h : c < r.length) : ixD (iT r) (.int (c : Nat)) = some (.int (r.getD c 0)) := by
  show L2.atI (r.map PyData.int) (c : Int) = _
  rw [at_ints h]
  simp [List.getD, h]
section
variable {Φ : Fns} {t : List (List Int)} {p n m w : Nat}
theorem Tab.col_ne (h : Tab t p n) (c : Nat) : col t c ≠ [] := by
  intro z
  have : (col t c).length = 0 := by rw [z]; rfl
  rw [col, List.length_map, h.len] at this
  have := h.p1
  omega
theorem Tab.col_len (h : Tab t p n) (c : Nat) : (col t c).length ≤ 16777216 := by
  rw [col, List.length_map, h.len]
  have := h.p4
  omega
theorem zeros_run (h : Tab t p n) {k : Nat} (hk : k < n) : (runDf Φ d__law_zeros).run [tabD t, .int k] = .ret (.int (cn 0 (col t k) : Nat)) [] := by
  show frR (evSs Φ 100 b__law_zeros [.sh (tabD t), .sh (.int k), .no]) = _
  have hlc := lc_filter (Φ := Φ) (e := .v 2) (tg := .one 2) (it := .seq (.v 0)) (c := .some (.cmp .Eq (.ix (.v 2) (.v 1)) (.k (.int 0)))) (own := [2]) (env := [.sh (tabD t), .sh (.int k), .no]) (e1 := [.sh (tabD t), .sh (.int k), .no]) (xs := t) (enc := iT) (f := iT) (p := fun r => r.getD k 0 == 0) rfl rfl rfl
    (fun r hr => st_if (e1 := [.sh (tabD t), .sh (.int k), .sh (iT r)]) rfl (tst (cmp_nows (ix_now rfl rfl (at_row (by rw [h.row r hr]; exact hk))) rfl (ceq_int _ _))) (fun _ => rfl) rfl) (by rw [h.len]; have := h.p4; omega)
  unfold b__law_zeros
  rw [seq_ret (ret_now (bf_tmp (w' := .now (.int (cn 0 (col t k) : Nat))) hlc (by
    show some (Vw.now (.int (((t.filter fun r => r.getD k 0 == 0).map iT).length : Nat))) = _
    rw [List.length_map, cn, col, List.countP_map, List.countP_eq_length_filter]
    rfl)))]
  rfl
theorem col_lc {i j : Nat} {env : SEnv} {e' : IE} (h : Tab t p n) {k : Nat} (hk : k < n) (hi : evI Φ (.seq (.v i)) env = .ok (t.map iT) env) (hp : ∀ r, putS env j (.sh r) = some (env.set j (.sh r))) (hr : ∀ r, evE Φ (.v j) (env.set j (.sh r)) = .ok (.now r) (env.set j (.sh r))) (hkv : ∀ r, evE Φ e' (env.set j (.sh r)) = .ok (.now (.int (k : Nat))) (env.set j (.sh r)))
    (hw : ∀ r, wipeE (env.set j (.sh r)) [j] = env) (hw0 : wipeE env [j] = env) (hb : backE env env [j] = env) : evE Φ (.lc (.ix (.v j) e') (.one j) (.seq (.v i)) .none [j]) env = .ok (.tmp ((col t k).map .int)) env := by
  have := lc_map (Φ := Φ) (e := .ix (.v j) e') (tg := .one j) (it := .seq (.v i)) (own := [j]) (env := env) (e1 := env) (xs := t) (enc := iT) (f := fun r => .int (r.getD k 0)) hi hw0 hb (fun r hr' => st_one (hp _) (ix_now (hr _) (hkv _) (at_row (by rw [h.row r hr']; exact hk))) (hw _)) (by rw [h.len]; have := h.p4; omega)
  rw [this, col, List.map_map]
  rfl
end
end K11

set_option Elab.async false
set_option linter.all false
set_option autoImplicit false
set_option maxRecDepth 100000
set_option maxHeartbeats 4000000
/-! # k11: the chosen ones, both ways -/
namespace K11
open PySem PyE L2 PyV PySem.W
section
variable {Φ : Fns} {t : List (List Int)} {p n m w : Nat}
theorem phiT {f : Str} {d : Df} {m : Nat} (h : T.find? (fun d : Df => d.name == f) = some d) : Phi T (m + 1) f = some (runDf (Phi T m) d) := phi h
theorem score_run (h : Tab t p n) {w k : Nat} (hw : w < 6) (hk : k < n) (m : Nat) : (runDf (Phi T (m + 1)) d__law_score).run [wy w, tabD t, .int k] = .ret (iT (sc w (col t k))) [] := by
  show frR (evSs (Phi T (m + 1)) 100 b__law_score [.sh (wy w), .sh (tabD t), .sh (.int k), .no, .no, .no, .no, .no]) = _
  have h1 := col_lc (Φ := Phi T (m + 1)) (e' := .v 2) (i := 1) (j := 4) (env := [.sh (wy w), .sh (tabD t), .sh (.int k), .no, .no, .no, .no, .no]) h hk rfl (fun _ => rfl) (fun _ => rfl) (fun _ => rfl) (fun _ => rfl) rfl rfl
  have hl := h.col_len k
  have h2 := lc_filter (Φ := Phi T (m + 1)) (e := .v 6) (tg := .one 6) (it := .seq (.v 3)) (c := .some (.cmp .Eq (.v 6) (.k (.int 2)))) (own := [6]) (env := [.sh (wy w), .sh (tabD t), .sh (.int k), .own ((col t k).map .int), .no, .no, .no, .no]) (e1 := [.sh (wy w), .sh (tabD t), .sh (.int k), .sh (iL (col t k)), .no, .no, .no, .no]) (xs := col t k) (enc := .int) (f := .int) (p := fun x => x == 2) rfl rfl rfl
    (fun x hx => st_if (e1 := [.sh (wy w), .sh (tabD t), .sh (.int k), .sh (iL (col t k)), .no, .no, .sh (.int x), .no]) rfl (tst (cmp_nows rfl rfl (ceq_int _ _))) (fun _ => rfl) rfl) hl
  have h2' : evE (Phi T (m + 1)) (.bf .len (.cons (.lc (.v 6) (.one 6) (.seq (.v 3)) (.some (.cmp .Eq (.v 6) (.k (.int 2)))) [6]) .nil)) [.sh (wy w), .sh (tabD t), .sh (.int k), .own ((col t k).map .int), .no, .no, .no, .no] = .ok (.now (.int (cn 2 (col t k) : Nat))) [.sh (wy w), .sh (tabD t), .sh (.int k), .sh (iL (col t k)), .no, .no, .no, .no] :=
    bf_tmp h2 (by
      show some (Vw.now (.int (((((col t k).filter fun x => x == 2)).map PyData.int).length : Nat))) = _
      rw [List.length_map, cn, List.countP_eq_length_filter])
  have h3 : evE (Phi T (m + 1)) (.call "_law_zeros" (.cons (.v 1) (.cons (.v 2) .nil))) [.sh (wy w), .sh (tabD t), .sh (.int k), .sh (iL (col t k)), .no, .sh (.int (cn 2 (col t k) : Nat)), .no, .no] = .ok (.now (.int (cn 0 (col t k) : Nat))) [.sh (wy w), .sh (tabD t), .sh (.int k), .sh (iL (col t k)), .no, .sh (.int (cn 2 (col t k) : Nat)), .no, .no] :=
    callN (fs := runDf (Phi T m) d__law_zeros) (ws := [.now (tabD t), .now (.int k)]) rfl rfl rfl rfl rfl (b := []) (zeros_run h hk)
  unfold b__law_score
  rw [seq_nxt (asg_tmp h1 (x := .no) rfl rfl)]
  rw [show List.set [Sl.sh (wy w), .sh (tabD t), .sh (.int k), .no, .no, .no, .no, .no] 3 (.own ((col t k).map .int)) = [.sh (wy w), .sh (tabD t), .sh (.int k), .own ((col t k).map .int), .no, .no, .no, .no] from rfl]
  rw [seq_nxt (asg_now h2' (x := .no) rfl rfl)]
  rw [show List.set [Sl.sh (wy w), .sh (tabD t), .sh (.int k), .sh (iL (col t k)), .no, .no, .no, .no] 5 (.sh (.int (cn 2 (col t k) : Nat))) = [.sh (wy w), .sh (tabD t), .sh (.int k), .sh (iL (col t k)), .no, .sh (.int (cn 2 (col t k) : Nat)), .no, .no] from rfl]
  rw [seq_nxt (asg_now h3 (x := .no) rfl rfl)]
  generalize hE : (List.set [Sl.sh (wy w), .sh (tabD t), .sh (.int k), .sh (iL (col t k)), .no, .sh (.int (cn 2 (col t k) : Nat)), .no, .no] 7 (.sh (.int (cn 0 (col t k) : Nat)))) = E
  have hE : E = [Sl.sh (wy w), .sh (tabD t), .sh (.int k), .sh (iL (col t k)), .no, .sh (.int (cn 2 (col t k) : Nat)), .no, .sh (.int (cn 0 (col t k) : Nat))] := hE.symm
  have tj : ∀ (s : D) (j : Nat), s = wy j → j < 6 → ∀ b : Bool, (w == j) = b → evT (Phi T (m + 1)) (.cmp .Eq (.v 0) (.k s)) E = .ok b E :=
    fun s j hs hj b hb => by
      subst hE
      exact tst (cmp_nows rfl rfl (by rw [hs, wyq hw hj, hb]))
  have z0 : evE (Phi T (m + 1)) (.cmp .Eq (.v 7) (.k (.int 0))) E = .ok (.now (.bool ((cn 0 (col t k) : Int) == 0))) E := by
    subst hE
    rfl
  have zq : ((cn 0 (col t k) : Int) == 0) = decide (cn 0 (col t k) = 0) := by
    by_cases c : cn 0 (col t k) = 0
    · rw [c]; rfl
    · rw [decide_eq_false c]
      simp
      exact c
  rw [zq] at z0
  unfold sc
  by_cases h0 : w = 0
  · have e2 : evE (Phi T (m + 1)) (.ife (.cmp .Eq (.v 7) (.k (.int 0))) (.tup (.cons (.k (.int 0)) (.cons (.k (.int 0)) .nil))) (.tup (.cons (.k (.int 1)) (.cons (.v 7) .nil)))) E = .ok (.now (iT (if cn 0 (col t k) = 0 then [0, 0] else [1, (cn 0 (col t k) : Int)]))) E := by
      by_cases c : cn 0 (col t k) = 0
      · rw [decide_eq_true c] at z0
        rw [if_pos c, ife_t z0]
        subst hE
        rfl
      · rw [decide_eq_false c] at z0
        rw [if_neg c, ife_f z0]
        subst hE
        rfl
    rw [if_pos h0, ite_1 (tj (.str "first") 0 rfl (by decide) true (by rw [h0]; rfl)) (seq_ret (ret_now e2))]
    rfl
  rw [if_neg h0, ite_0 (tj (.str "first") 0 rfl (by decide) false (by simp [h0]))]
  by_cases h1 : w = 1
  · rw [if_pos h1, ite_1 (tj (.str "most") 1 rfl (by decide) true (by rw [h1]; rfl)) (seq_ret (d := iT [-(cn 2 (col t k) : Int), (cn 0 (col t k) : Int)]) (e1 := E) (by subst hE; exact ret_now (tup_of rfl rfl rfl)))]
    rfl
  rw [if_neg h1, ite_0 (tj (.str "most") 1 rfl (by decide) false (by simp [h1]))]
  have hsum : evE (Phi T (m + 1)) (.bf .sum (.cons (.v 3) .nil)) E = .ok (.now (.int (col t k).sum)) E := by
    subst hE
    exact bf_now (d := iL (col t k)) rfl (sum_ints _)
  by_cases h2 : w = 2
  · rw [if_pos h2, ite_1 (tj (.str "sum") 2 rfl (by decide) true (by rw [h2]; rfl)) (seq_ret (ret_now (tup_of (es_cons (neg_now hsum) rfl) rfl rfl)))]
    rfl
  rw [if_neg h2, ite_0 (tj (.str "sum") 2 rfl (by decide) false (by simp [h2]))]
  by_cases h3 : w = 3
  · have hmin : evE (Phi T (m + 1)) (.bf .min (.cons (.v 3) .nil)) E = .ok (.now (.int (mnL (col t k)))) E := by
      subst hE
      exact bf_now (d := iL (col t k)) rfl (min_ints (h.col_ne k))
    rw [if_pos h3, ite_1 (tj (.str "worst") 3 rfl (by decide) true (by rw [h3]; rfl)) (seq_ret (ret_now (tup_of (es_cons (neg_now hmin) (es_cons (neg_now hsum) rfl)) rfl rfl)))]
    rfl
  rw [if_neg h3, ite_0 (tj (.str "worst") 3 rfl (by decide) false (by simp [h3]))]
  by_cases h4 : w = 4
  · have e2 : evE (Phi T (m + 1)) (.ife (.cmp .Eq (.v 7) (.k (.int 0))) (.tup (.cons (.k (.int 0)) (.cons (.neg (.v 5)) .nil))) (.tup (.cons (.k (.int 1)) (.cons (.k (.int 0)) .nil)))) E = .ok (.now (iT (if cn 0 (col t k) = 0 then [0, -(cn 2 (col t k) : Int)] else [1, 0]))) E := by
      by_cases c : cn 0 (col t k) = 0
      · rw [decide_eq_true c] at z0
        rw [if_pos c, ife_t z0]
        subst hE
        rfl
      · rw [decide_eq_false c] at z0
        rw [if_neg c, ife_f z0]
        subst hE
        rfl
    rw [if_pos h4, ite_1 (tj (.str "veto") 4 rfl (by decide) true (by rw [h4]; rfl)) (seq_ret (ret_now e2))]
    rfl
  rw [if_neg h4, ite_0 (tj (.str "veto") 4 rfl (by decide) false (by simp [h4]))]
  subst hE
  have hlc := lc_map (Φ := Phi T (m + 1)) (e := .neg (.v 6)) (tg := .one 6) (it := .seq (.v 3)) (own := [6]) (env := [Sl.sh (wy w), .sh (tabD t), .sh (.int k), .sh (iL (col t k)), .no, .sh (.int (cn 2 (col t k) : Nat)), .no, .sh (.int (cn 0 (col t k) : Nat))]) (xs := col t k) (enc := PyData.int) (f := fun x => .int (-x)) (e1 := [Sl.sh (wy w), .sh (tabD t), .sh (.int k), .sh (iL (col t k)), .no, .sh (.int (cn 2 (col t k) : Nat)), .no, .sh (.int (cn 0 (col t k) : Nat))]) rfl rfl rfl
    (fun x _ => st_one (e1 := [Sl.sh (wy w), .sh (tabD t), .sh (.int k), .sh (iL (col t k)), .no, .sh (.int (cn 2 (col t k) : Nat)), .sh (.int x), .sh (.int (cn 0 (col t k) : Nat))]) rfl (neg_now rfl) rfl) hl
  rw [seq_ret (ret_now (bf_tmp hlc rfl))]
  show FRes.ret (.tuple ((col t k).map fun x => .int (-x))) [] = .ret (iT ((col t k).map fun x => -x)) []
  unfold iT
  rw [List.map_map]
  rfl
/-- the candidate chosen -/
def ch (w : Nat) (t : List (List Int)) (n : Nat) : Nat := amin llt (fun c => rk w (col t c)) (n - 1)
theorem Tab.hd (h : Tab t p n) : ∃ r rs, t = r :: rs ∧ r.length = n := by
  cases t with
  | nil =>
    have := h.len
    have := h.p1
    simp at *
    omega
  | cons r rs => exact ⟨r, rs, rfl, h.row r List.mem_cons_self⟩
theorem Tab.len0 (h : Tab t p n) (Φ : Fns) {i : Nat} {env : SEnv} (e : evE Φ (.v i) env = .ok (.now (tabD t)) env) : evE Φ (.bf .len (.cons (.ix (.v i) (.k (.int 0))) .nil)) env = .ok (.now (.int (n : Nat))) env := by
  obtain ⟨r, rs, rfl, hr⟩ := h.hd
  refine bf_now (d := iT r) (ix_now e (d' := .int ((0 : Nat) : Int)) rfl (by
    show L2.atI ((r :: rs).map iT) ((0 : Nat) : Int) = _
    rw [at_nat (by simp)]
    rfl)) ?_
  show some (Vw.now (.int ((r.map PyData.int).length : Nat))) = _
  rw [List.length_map, hr]
theorem chosen_by_run (h : Tab t p n) {w : Nat} (hw : w < 6) (m : Nat) : (runDf (Phi T (m + 1)) d_chosen_by).run [wy w, tabD t] = .ret (.int (ch w t n : Nat)) [] := by
  let key : Nat → List Int := fun c => rk w (col t c)
  let bst : Nat → D := fun c => match c with
    | 0 => .int 0
    | c + 1 => .int (amin llt key c : Nat)
  let lst : Nat → D := fun c => match c with
    | 0 => .none
    | c + 1 => iT (key (amin llt key c))
  show frR (evSs (Phi T (m + 1)) 100 b_chosen_by [.sh (wy w), .sh (tabD t), .no, .no, .no, .no, .no]) = _
  have hI : evI (Phi T (m + 1)) (.r1 (.bf .len (.cons (.ix (.v 1) (.k (.int 0))) .nil))) [.sh (wy w), .sh (tabD t), .sh (.int 0), .sh .none, .no, .no, .no] = .ok (rgD 0 n) [.sh (wy w), .sh (tabD t), .sh (.int 0), .sh .none, .no, .no, .no] := i_r1 (h.len0 _ rfl) (by have := h.n4; omega)
  unfold b_chosen_by
  rw [seq_nxt (asg_now (d := .int 0) (x := .no) rfl rfl rfl)]
  rw [seq_nxt (asg_now (d := .none) (x := .no) rfl rfl rfl)]
  rw [show List.set (List.set [Sl.sh (wy w), .sh (tabD t), .no, .no, .no, .no, .no] 2 (.sh (.int 0))) 3 (.sh .none) = [.sh (wy w), .sh (tabD t), .sh (.int 0), .sh .none, .no, .no, .no] from rfl]
  have hloop := forL_range (f := fun x e => match putT e (.one 4) x with
      | some e2 => evSs (Phi T (m + 1)) 100 (.cons (.asg 5 (.call "rank" (.cons (.v 0) (.cons (.lc (.ix (.v 6) (.v 4)) (.one 6) (.seq (.v 1)) .none [6]) .nil)))) (.cons (.ite (.or (.cmp .Is (.v 3) (.k .none)) (.cmp .Lt (.v 5) (.v 3))) (.cons (.asg 3 (.v 5)) (.cons (.asg 2 (.v 4)) .nil)) .nil) .nil)) e2
      | none => .stuck) (R := fun c env => ∃ x4 x5, nb x4 = true ∧ nb x5 = true ∧ env = [.sh (wy w), .sh (tabD t), .sh (bst c), .sh (lst c), x4, x5, .no]) n (env := [.sh (wy w), .sh (tabD t), .sh (.int 0), .sh .none, .no, .no, .no]) ⟨.no, .no, rfl, rfl, rfl⟩ (by
    rintro i hi env ⟨x4, x5, h4, h5, rfl⟩
    have hp : putT [.sh (wy w), .sh (tabD t), .sh (bst i), .sh (lst i), x4, x5, .no] (.one 4) (.int (i : Nat)) = some [.sh (wy w), .sh (tabD t), .sh (bst i), .sh (lst i), .sh (.int (i : Nat)), x5, .no] := putS_nb (x := x4) rfl h4
    refine ⟨[.sh (wy w), .sh (tabD t), .sh (bst (i + 1)), .sh (lst (i + 1)), .sh (.int (i : Nat)), .sh (iT (key i)), .no], ?_, _, _, rfl, rfl, rfl⟩
    show (match putT [.sh (wy w), .sh (tabD t), .sh (bst i), .sh (lst i), x4, x5, .no] (.one 4) (.int (i : Nat)) with
      | some e2 => evSs _ 100 _ e2
      | none => FR.stuck) = _
    rw [hp]
    have h1 := col_lc (Φ := Phi T (m + 1)) (e' := .v 4) (i := 1) (j := 6) (env := [.sh (wy w), .sh (tabD t), .sh (bst i), .sh (lst i), .sh (.int (i : Nat)), x5, .no]) h hi rfl (fun _ => rfl) (fun _ => rfl) (fun _ => rfl) (fun _ => rfl) rfl rfl
    have h2 : evE (Phi T (m + 1)) (.call "rank" (.cons (.v 0) (.cons (.lc (.ix (.v 6) (.v 4)) (.one 6) (.seq (.v 1)) .none [6]) .nil))) [.sh (wy w), .sh (tabD t), .sh (bst i), .sh (lst i), .sh (.int (i : Nat)), x5, .no] = .ok (.now (iT (key i))) [.sh (wy w), .sh (tabD t), .sh (bst i), .sh (lst i), .sh (.int (i : Nat)), x5, .no] :=
      callN (fs := runDf (Phi T m) d_rank) (ws := [.now (wy w), .tmp ((col t i).map .int)]) rfl (es_cons rfl (es_cons h1 rfl)) rfl rfl rfl (b := []) (rank_run hw (h.col_ne i) (h.col_len i))
    show evSs _ 100 _ [.sh (wy w), .sh (tabD t), .sh (bst i), .sh (lst i), .sh (.int (i : Nat)), x5, .no] = _
    rw [seq_nxt (asg_now h2 (x := x5) rfl h5)]
    show evSs _ 100 _ [.sh (wy w), .sh (tabD t), .sh (bst i), .sh (lst i), .sh (.int (i : Nat)), .sh (iT (key i)), .no] = _
    cases i with
    | zero =>
      have e1 : evT (Phi T (m + 1)) (.or (.cmp .Is (.v 3) (.k .none)) (.cmp .Lt (.v 5) (.v 3))) [.sh (wy w), .sh (tabD t), .sh (bst 0), .sh (lst 0), .sh (.int ((0 : Nat) : Int)), .sh (iT (key 0)), .no] = .ok true [.sh (wy w), .sh (tabD t), .sh (bst 0), .sh (lst 0), .sh (.int ((0 : Nat) : Int)), .sh (iT (key 0)), .no] := tst (or_t rfl)
      rw [seq_nxt ((ite_t e1).trans rfl)]
      rfl
    | succ i =>
      have e1 : evT (Phi T (m + 1)) (.or (.cmp .Is (.v 3) (.k .none)) (.cmp .Lt (.v 5) (.v 3))) [.sh (wy w), .sh (tabD t), .sh (bst (i + 1)), .sh (lst (i + 1)), .sh (.int ((i + 1 : Nat) : Int)), .sh (iT (key (i + 1))), .no] = .ok (llt (key (i + 1)) (key (amin llt key i))) [.sh (wy w), .sh (tabD t), .sh (bst (i + 1)), .sh (lst (i + 1)), .sh (.int ((i + 1 : Nat) : Int)), .sh (iT (key (i + 1))), .no] :=
        tst ((or_f rfl).trans (cmp_nows rfl rfl (clt_iT _ _)))
      cases c : llt (key (i + 1)) (key (amin llt key i)) with
      | true =>
        rw [c] at e1
        rw [seq_nxt ((ite_t e1).trans rfl)]
        have a1 : amin llt key (i + 1) = i + 1 := by
          unfold amin
          rw [c]
          rfl
        show FR.nxt [.sh (wy w), .sh (tabD t), .sh (.int ((i + 1 : Nat) : Int)), .sh (iT (key (i + 1))), .sh (.int ((i + 1 : Nat) : Int)), .sh (iT (key (i + 1))), .no] = FR.nxt [.sh (wy w), .sh (tabD t), .sh (.int (amin llt key (i + 1) : Nat)), .sh (iT (key (amin llt key (i + 1)))), .sh (.int ((i + 1 : Nat) : Int)), .sh (iT (key (i + 1))), .no]
        rw [a1]
      | false =>
        rw [c] at e1
        rw [seq_nxt ((ite_f e1).trans rfl)]
        have a1 : amin llt key (i + 1) = amin llt key i := by
          conv => lhs; unfold amin
          rw [c]
          rfl
        show FR.nxt [.sh (wy w), .sh (tabD t), .sh (.int (amin llt key i : Nat)), .sh (iT (key (amin llt key i))), .sh (.int ((i + 1 : Nat) : Int)), .sh (iT (key (i + 1))), .no] = FR.nxt [.sh (wy w), .sh (tabD t), .sh (.int (amin llt key (i + 1) : Nat)), .sh (iT (key (amin llt key (i + 1)))), .sh (.int ((i + 1 : Nat) : Int)), .sh (iT (key (i + 1))), .no]
        rw [a1])
  obtain ⟨e, q1, x4, x5, _, _, rfl⟩ := hloop
  rw [seq_nxt ((for_eq hI).trans q1)]
  have hn : n = n - 1 + 1 := by have := h.n1; omega
  show FRes.ret (bst n) [] = _
  rw [hn]
  show FRes.ret (.int (amin llt key (n - 1) : Nat)) [] = .ret (.int (amin llt key (n - 1 + 1 - 1) : Nat)) []
  rfl
end
end K11

set_option Elab.async false
set_option linter.all false
set_option autoImplicit false
set_option maxRecDepth 100000
set_option maxHeartbeats 4000000
/-! # k11: the law's chosen ones; rows -/
namespace K11
open PySem PyE L2 PyV PySem.W
section
variable {Φ : Fns} {t : List (List Int)} {p n m w : Nat}
theorem min_keys (key : Nat → List Int) {n : Nat} (hn : 1 ≤ n) : bfD .min [.list ((List.range n).map fun k => .tuple [iT (key k), .int (k : Nat)])] = some (.now (.tuple [iT (key (amin llt key (n - 1))), .int (amin llt key (n - 1) : Nat)])) := by
  have e : List.range n = 0 :: List.range' 1 (n - 1) := by
    rw [List.range_eq_range']
    have : n = (n - 1) + 1 := by omega
    rw [this, List.range'_succ]
    simp
  have hm : ∀ y ∈ ((List.range n).map fun k => PyData.tuple [iT (key k), .int (k : Nat)]), ∃ k : Nat, y = .tuple [iT (key k), .int (k : Nat)] := fun y hy => by
    obtain ⟨k, _, e⟩ := List.mem_map.mp hy
    exact ⟨k, e.symm⟩
  have ha : alikeL ((List.range n).map fun k => PyData.tuple [iT (key k), .int (k : Nat)]) = true := by
    refine alikeL_mk (fun y hy z hz => ?_) (fun y hy => ?_) (fun y hy => ?_) (fun y hy => ?_)
    · obtain ⟨i, rfl⟩ := hm y hy
      obtain ⟨j, rfl⟩ := hm z hz
      show (alike (iT (key i)) (iT (key j)) && true) = true
      rw [alike_iT]
      rfl
    · obtain ⟨i, rfl⟩ := hm y hy
      simp
    · obtain ⟨i, rfl⟩ := hm y hy
      show max (iT (key i)).depth (max 0 0) + 1 ≤ 40
      rw [depth_iT]
      decide
    · obtain ⟨i, rfl⟩ := hm y hy
      show ((iT (key i)).canLay0 && true) = true
      rw [lay_iT]
      rfl
  rw [e] at ha ⊢
  rw [List.map_cons] at ha ⊢
  show (if alikeL _ = true then some (Vw.now (minD _ _)) else none) = _
  rw [if_pos ha]
  have := minD_keys key (n - 1)
  show some (Vw.now (minD (.tuple [iT (key 0), .int 0]) ((List.range' 1 (n - 1)).map fun k => .tuple [iT (key k), .int (k : Nat)]))) = _
  rw [this]
theorem law_chosen_run (h : Tab t p n) {w : Nat} (hw : w < 6) (m : Nat) : (runDf (Phi T (m + 2)) d__law_chosen).run [wy w, tabD t] = .ret (.int (ch w t n : Nat)) [] := by
  show frR (evSs (Phi T (m + 2)) 100 b__law_chosen [.sh (wy w), .sh (tabD t), .no]) = _
  have hn := h.n4
  have hI : evI (Phi T (m + 2)) (.r1 (.bf .len (.cons (.ix (.v 1) (.k (.int 0))) .nil))) [.sh (wy w), .sh (tabD t), .no] = .ok ((List.range n).map fun k => .int (k : Nat)) [.sh (wy w), .sh (tabD t), .no] := by
    rw [← rg_map]
    exact i_r1 (h.len0 _ rfl) (by omega)
  have hlc := lc_map (Φ := Phi T (m + 2)) (e := .tup (.cons (.call "_law_score" (.cons (.v 0) (.cons (.v 1) (.cons (.v 2) .nil)))) (.cons (.v 2) .nil))) (tg := .one 2) (own := [2]) (xs := List.range n) (enc := fun k => .int (k : Nat)) (f := fun k => .tuple [iT (sc w (col t k)), .int (k : Nat)]) hI rfl rfl (fun k hk => by
    have hk : k < n := List.mem_range.mp hk
    have h1 : evE (Phi T (m + 2)) (.call "_law_score" (.cons (.v 0) (.cons (.v 1) (.cons (.v 2) .nil)))) [.sh (wy w), .sh (tabD t), .sh (.int (k : Nat))] = .ok (.now (iT (sc w (col t k)))) [.sh (wy w), .sh (tabD t), .sh (.int (k : Nat))] :=
      callN (fs := runDf (Phi T (m + 1)) d__law_score) (ws := [.now (wy w), .now (tabD t), .now (.int (k : Nat))]) rfl rfl rfl rfl rfl (b := []) (score_run h hw hk m)
    exact st_one (e1 := [.sh (wy w), .sh (tabD t), .sh (.int (k : Nat))]) rfl (tup_of (es_cons h1 rfl) rfl rfl) rfl) (by rw [List.length_range]; omega)
  unfold b__law_chosen
  rw [seq_ret (ret_now (ix_now (d' := .int 1) (bf_tmp hlc (min_keys (fun k => sc w (col t k)) h.n1)) rfl rfl))]
  show FRes.ret (.int (amin llt (fun k => sc w (col t k)) (n - 1) : Nat)) [] = .ret (.int (amin llt (fun c => rk w (col t c)) (n - 1) : Nat)) []
  rw [amin_congr llt llt (fun c => rk w (col t c)) (fun k => sc w (col t k)) (n - 1) fun i j _ _ => rk_sc]
theorem ch_lt (h : Tab t p n) : ch w t n < n := by
  have := amin_le llt (fun c => rk w (col t c)) (n - 1)
  have := h.n1
  unfold ch
  omega
/-! ### all rows -/
def rows : Nat → List (List Int)
  | 0 => [[]]
  | k + 1 => (rows k).flatMap fun r => [r ++ [0], r ++ [1], r ++ [2]]
theorem rows_mem : ∀ (k : Nat) (r : List Int), r ∈ rows k → r.length = k ∧ ∀ x ∈ r, 0 ≤ x ∧ x ≤ 2
  | 0, r, h => by
    rw [rows, List.mem_singleton] at h
    subst h
    exact ⟨rfl, fun x hx => by cases hx⟩
  | k + 1, r, h => by
    rw [rows, List.mem_flatMap] at h
    obtain ⟨q, h1, h2⟩ := h
    obtain ⟨h3, h4⟩ := rows_mem k q h1
    have key : ∃ y : Int, 0 ≤ y ∧ y ≤ 2 ∧ r = q ++ [y] := by
      simp only [List.mem_cons, List.not_mem_nil, or_false] at h2
      rcases h2 with e | e | e
      · exact ⟨0, by decide, by decide, e⟩
      · exact ⟨1, by decide, by decide, e⟩
      · exact ⟨2, by decide, by decide, e⟩
    obtain ⟨y, y1, y2, rfl⟩ := key
    refine ⟨by rw [List.length_append, h3]; rfl, fun x hx => ?_⟩
    rcases List.mem_append.mp hx with z | z
    · exact h4 x z
    · rw [List.mem_singleton.mp z]; exact ⟨y1, y2⟩
def nums : D := .tuple [.int 0, .int 1, .int 2]
def eqF : FRes → D → Bool
  | .ret d [], e => sameD d e
  | _, _ => false
theorem eqF_eq {r : FRes} {d : D} (h : eqF r d = true) : r = .ret d [] := by
  cases r with
  | ret x b =>
    cases b with
    | nil => rw [sameD_eq _ _ h]
    | cons _ _ => cases h
  | exc _ _ _ => cases h
  | stuck => cases h
theorem ar1 (Φ : Fns) : (runDf Φ d_all_rows).run [.int 1, nums] = .ret (.list ((rows 1).map iT)) [] := by kernel_rfl
theorem ar2 (Φ : Fns) : (runDf Φ d_all_rows).run [.int 2, nums] = .ret (.list ((rows 2).map iT)) [] := by kernel_rfl
theorem ar3 (Φ : Fns) : (runDf Φ d_all_rows).run [.int 3, nums] = .ret (.list ((rows 3).map iT)) [] := by kernel_rfl
theorem ar4 (Φ : Fns) : (runDf Φ d_all_rows).run [.int 4, nums] = .ret (.list ((rows 4).map iT)) [] := by kernel_rfl
theorem le1 (Φ : Fns) : (runDf Φ d__law_every).run [.int 1, nums] = .ret (.list ((rows 1).map iT)) [] := by kernel_rfl
theorem le2 (Φ : Fns) : (runDf Φ d__law_every).run [.int 2, nums] = .ret (.list ((rows 2).map iT)) [] := by kernel_rfl
theorem le3 (Φ : Fns) : (runDf Φ d__law_every).run [.int 3, nums] = .ret (.list ((rows 3).map iT)) [] := by kernel_rfl
theorem le4 (Φ : Fns) : (runDf Φ d__law_every).run [.int 4, nums] = .ret (.list ((rows 4).map iT)) [] := by kernel_rfl
theorem in4 (h : Tab t p n) : n = 1 ∨ n = 2 ∨ n = 3 ∨ n = 4 := by
  have := h.n1
  have := h.n4
  omega
theorem all_rows_run (h : Tab t p n) : (runDf Φ d_all_rows).run [.int (n : Nat), nums] = .ret (.list ((rows n).map iT)) [] := by
  rcases in4 h with e | e | e | e <;> subst e
  · exact ar1 Φ
  · exact ar2 Φ
  · exact ar3 Φ
  · exact ar4 Φ
theorem law_every_run (h : Tab t p n) : (runDf Φ d__law_every).run [.int (n : Nat), nums] = .ret (.list ((rows n).map iT)) [] := by
  rcases in4 h with e | e | e | e <;> subst e
  · exact le1 Φ
  · exact le2 Φ
  · exact le3 Φ
  · exact le4 Φ
theorem rows_len (h : Tab t p n) : (rows n).length ≤ 81 := by
  rcases in4 h with e | e | e | e <;> subst e <;> decide
/-! ### another row in a person's place -/
theorem Tab.set (h : Tab t p n) {i : Nat} {r : List Int} (hr : r ∈ rows n) : Tab (t.set i r) p n := by
  obtain ⟨h1, h2⟩ := rows_mem n r hr
  refine ⟨by rw [List.length_set]; exact h.len, h.p1, h.p4, h.n1, h.n4, fun q hq => ?_, fun q hq => ?_⟩
  · rcases List.mem_or_eq_of_mem_set hq with z | z
    · exact h.row q z
    · rw [z]; exact h1
  · rcases List.mem_or_eq_of_mem_set hq with z | z
    · exact h.val q z
    · rw [z]; exact h2
theorem cut_lo (xs : List D) (i : Nat) (h : i ≤ xs.length) : cutD xs none (some (i : Int)) = xs.take i := by
  unfold cutD
  have e1 : HT.sIx xs.length 0 none = 0 := rfl
  have e2 : HT.sIx xs.length xs.length (some (i : Int)) = i := by
    rw [HT.sIx_nat]
    omega
  rw [e1, e2]
  simp
theorem cut_hi (xs : List D) (i : Nat) (h : i ≤ xs.length) : cutD xs (some (i : Int)) none = xs.drop i := by
  unfold cutD
  have e1 : HT.sIx xs.length 0 (some (i : Int)) = i := by
    rw [HT.sIx_nat]
    omega
  have e2 : HT.sIx xs.length xs.length none = xs.length := rfl
  rw [e1, e2]
  rw [List.take_of_length_le]
  rw [List.length_drop]
  omega
end
end K11

set_option Elab.async false
set_option linter.all false
set_option autoImplicit false
set_option maxRecDepth 100000
set_option maxHeartbeats 4000000
/-! # k11: what is gained -/
namespace K11
open PySem PyE L2 PyV PySem.W
section
variable {Φ : Fns} {t : List (List Int)} {p n m w : Nat}
theorem with_expr (h : Tab t p n) {i0 i1 i2 i : Nat} {r : List Int} {env : SEnv} (hi : i < p) (e0 : evE Φ (.v i0) env = .ok (.now (tabD t)) env) (e1 : evE Φ (.v i1) env = .ok (.now (.int (i : Nat))) env) (e2 : evE Φ (.v i2) env = .ok (.now (iT r)) env) :
    evE Φ (.bin .Add (.bin .Add (.sl (.v i0) .none (.some (.v i1))) (.tup (.cons (.v i2) .nil))) (.sl (.v i0) (.some (.bin .Add (.v i1) (.k (.int 1)))) .none)) env = .ok (.now (tabD (t.set i r))) env := by
  have hl := h.len
  have h4 := h.p4
  have s1 : evE Φ (.sl (.v i0) .none (.some (.v i1))) env = .ok (.now (tabD (t.take i))) env := by
    refine sl_vw e0 rfl (o_int e1) rfl ?_
    show some (Vw.now (.tuple (cutD (t.map iT) none (some (i : Int))))) = _
    rw [cut_lo _ _ (by rw [List.length_map]; omega), ← List.map_take]
  have s2 : evE Φ (.sl (.v i0) (.some (.bin .Add (.v i1) (.k (.int 1)))) .none) env = .ok (.now (tabD (t.drop (i + 1)))) env := by
    refine sl_vw e0 (o_int (i := ((i + 1 : Nat) : Int)) (bin_now e1 rfl rfl)) rfl rfl ?_
    show some (Vw.now (.tuple (cutD (t.map iT) (some ((i + 1 : Nat) : Int)) none))) = _
    rw [cut_hi _ _ (by rw [List.length_map]; omega), ← List.map_drop]
  have s3 : evE Φ (.tup (.cons (.v i2) .nil)) env = .ok (.now (.tuple [iT r])) env := tup_of (es_cons e2 rfl) rfl rfl
  have s4 : evE Φ (.bin .Add (.sl (.v i0) .none (.some (.v i1))) (.tup (.cons (.v i2) .nil))) env = .ok (.now (tabD (t.take i ++ [r]))) env := by
    refine bin_now s1 s3 ?_
    show (if szOk (((t.take i).map iT).length + 1) = true then some (Vw.now (.tuple ((t.take i).map iT ++ [iT r]))) else none) = _
    rw [if_pos (szOk_k (by rw [List.length_map, List.length_take]; omega)), tabD, List.map_append]
    rfl
  refine bin_now s4 s2 ?_
  show (if szOk (((t.take i ++ [r]).map iT).length + ((t.drop (i + 1)).map iT).length) = true then some (Vw.now (.tuple ((t.take i ++ [r]).map iT ++ (t.drop (i + 1)).map iT))) else none) = _
  rw [if_pos (szOk_k (by simp only [List.length_map, List.length_append, List.length_take, List.length_drop, List.length_cons, List.length_nil]; omega)), ← List.map_append]
  have e : t.set i r = t.take i ++ [r] ++ t.drop (i + 1) := by
    rw [List.set_eq_take_append_cons_drop, if_pos (by omega)]
    simp
  rw [e]
theorem with_row_run (h : Tab t p n) {i : Nat} (hi : i < p) (r : List Int) (Φ : Fns) : (runDf Φ d_with_row).run [tabD t, .int i, iT r] = .ret (tabD (t.set i r)) [] := by
  show frR (evSs Φ 100 b_with_row [.sh (tabD t), .sh (.int i), .sh (iT r)]) = _
  unfold b_with_row
  rw [seq_ret (ret_now (with_expr h hi rfl rfl rfl))]
  rfl
def own (t : List (List Int)) (i k : Nat) : Int := (t.getD i []).getD k 0
def lvl (t : List (List Int)) (i : Nat) (here : Int) : Option (List Int × Nat) → Int
  | none => here
  | some x => own t i x.2
def stp (w : Nat) (t : List (List Int)) (i n : Nat) (here : Int) (f : Option (List Int × Nat)) (r : List Int) : Option (List Int × Nat) :=
  if lvl t i here f < own t i (ch w (t.set i r) n) then some (r, ch w (t.set i r) n) else f
/-- what the person comes to -/
def gn (w : Nat) (t : List (List Int)) (i n : Nat) : Option (List Int × Nat) := (rows n).foldl (stp w t i n (own t i (ch w t n))) none
def fD : Option (List Int × Nat) → D
  | none => .none
  | some x => .tuple [iT x.1, .int x.2]
theorem at_tab (h : Tab t p n) {i : Nat} (hi : i < p) : ixD (tabD t) (.int (i : Nat)) = some (iT (t.getD i [])) := by
  show L2.atI (t.map iT) (i : Int) = _
  have hl : i < t.length := by rw [h.len]; exact hi
  rw [at_nat (by rw [List.length_map]; exact hl)]
  simp [List.getD, hl]
theorem row_len (h : Tab t p n) {i : Nat} (hi : i < p) : (t.getD i []).length = n := by
  have hl : i < t.length := by rw [h.len]; exact hi
  refine h.row _ ?_
  simp [List.getD, hl]
theorem at_own (h : Tab t p n) {i k : Nat} (hi : i < p) (hk : k < n) : ixD (iT (t.getD i [])) (.int (k : Nat)) = some (.int (own t i k)) := at_row (by rw [row_len h hi]; exact hk)
theorem gain_by_run (h : Tab t p n) {w i : Nat} (hw : w < 6) (hi : i < p) (m : Nat) : (runDf (Phi T (m + 2)) d_gain_by).run [wy w, tabD t, .int i] = .ret (fD (gn w t i n)) [] := by
  let here := own t i (ch w t n)
  let ow := iT (t.getD i [])
  show frR (evSs (Phi T (m + 2)) 100 b_gain_by [.sh (wy w), .sh (tabD t), .sh (.int i), .no, .no, .no, .no, .no]) = _
  have e1 : evE (Phi T (m + 2)) (.ix (.v 1) (.v 2)) [.sh (wy w), .sh (tabD t), .sh (.int i), .no, .no, .no, .no, .no] = .ok (.now ow) [.sh (wy w), .sh (tabD t), .sh (.int i), .no, .no, .no, .no, .no] := ix_now rfl rfl (at_tab h hi)
  have e2 : evE (Phi T (m + 2)) (.ix (.v 3) (.call "chosen_by" (.cons (.v 0) (.cons (.v 1) .nil)))) [.sh (wy w), .sh (tabD t), .sh (.int i), .sh ow, .no, .no, .no, .no] = .ok (.now (.int here)) [.sh (wy w), .sh (tabD t), .sh (.int i), .sh ow, .no, .no, .no, .no] :=
    ix_now rfl (callN (fs := runDf (Phi T (m + 1)) d_chosen_by) (ws := [.now (wy w), .now (tabD t)]) rfl rfl rfl rfl rfl (b := []) (chosen_by_run h hw m)) (at_own h hi (ch_lt h))
  have hI : evI (Phi T (m + 2)) (.seq (.call "all_rows" (.cons (.bf .len (.cons (.v 3) .nil)) (.cons (.g "NUMBERS" c_NUMBERS) .nil)))) [.sh (wy w), .sh (tabD t), .sh (.int i), .sh ow, .sh (.int here), .sh .none, .no, .no] = .ok ((rows n).map iT) [.sh (wy w), .sh (tabD t), .sh (.int i), .sh ow, .sh (.int here), .sh .none, .no, .no] := by
    have c1 : evE (Phi T (m + 2)) (.call "all_rows" (.cons (.bf .len (.cons (.v 3) .nil)) (.cons (.g "NUMBERS" c_NUMBERS) .nil))) [.sh (wy w), .sh (tabD t), .sh (.int i), .sh ow, .sh (.int here), .sh .none, .no, .no] = .ok (.now (.list ((rows n).map iT))) [.sh (wy w), .sh (tabD t), .sh (.int i), .sh ow, .sh (.int here), .sh .none, .no, .no] :=
      callN (fs := runDf (Phi T (m + 1)) d_all_rows) (ws := [.now (.int (n : Nat)), .now nums]) rfl (es_cons (bf_now (d := ow) rfl (by
        show some (Vw.now (.int (((t.getD i []).map PyData.int).length : Nat))) = _
        rw [List.length_map, row_len h hi])) rfl) rfl rfl rfl (b := []) (all_rows_run h)
    unfold evI
    rw [c1, bind_ok]
    rfl
  unfold b_gain_by
  rw [seq_nxt (asg_now e1 (x := .no) rfl rfl)]
  show frR (evSs _ 100 _ [.sh (wy w), .sh (tabD t), .sh (.int i), .sh ow, .no, .no, .no, .no]) = _
  rw [seq_nxt (asg_now e2 (x := .no) rfl rfl)]
  show frR (evSs _ 100 _ [.sh (wy w), .sh (tabD t), .sh (.int i), .sh ow, .sh (.int here), .no, .no, .no]) = _
  rw [seq_nxt (asg_now (d := .none) (x := .no) rfl rfl rfl)]
  show frR (evSs _ 100 _ [.sh (wy w), .sh (tabD t), .sh (.int i), .sh ow, .sh (.int here), .sh .none, .no, .no]) = _
  have hloop := forL_fold (f := fun x e => match putT e (.one 6) x with
      | some e2 => evSs (Phi T (m + 2)) 100 (.cons (.asg 7 (.call "chosen_by" (.cons (.v 0) (.cons (.call "with_row" (.cons (.v 1) (.cons (.v 2) (.cons (.v 6) .nil)))) .nil)))) (.cons (.ite (.cmp .Gt (.ix (.v 3) (.v 7)) (.v 4)) (.cons (.asg 4 (.ix (.v 3) (.v 7))) (.cons (.asg 5 (.tup (.cons (.v 6) (.cons (.v 7) .nil)))) .nil)) .nil) .nil)) e2
      | none => .stuck) (R := fun f env => ∃ x6 x7, nb x6 = true ∧ nb x7 = true ∧ env = [.sh (wy w), .sh (tabD t), .sh (.int i), .sh ow, .sh (.int (lvl t i here f)), .sh (fD f), x6, x7]) (step := stp w t i n here) (enc := iT) (rows n) none [.sh (wy w), .sh (tabD t), .sh (.int i), .sh ow, .sh (.int here), .sh .none, .no, .no] ⟨.no, .no, rfl, rfl, rfl⟩ (by
    rintro r hr f env ⟨x6, x7, h6, h7, rfl⟩
    have hT := h.set (i := i) hr
    have hp : putT [.sh (wy w), .sh (tabD t), .sh (.int i), .sh ow, .sh (.int (lvl t i here f)), .sh (fD f), x6, x7] (.one 6) (iT r) = some [.sh (wy w), .sh (tabD t), .sh (.int i), .sh ow, .sh (.int (lvl t i here f)), .sh (fD f), .sh (iT r), x7] := putS_nb (x := x6) rfl h6
    let k := ch w (t.set i r) n
    have hk : k < n := ch_lt hT
    refine ⟨[.sh (wy w), .sh (tabD t), .sh (.int i), .sh ow, .sh (.int (lvl t i here (stp w t i n here f r))), .sh (fD (stp w t i n here f r)), .sh (iT r), .sh (.int (k : Nat))], ?_, _, _, rfl, rfl, rfl⟩
    show (match putT [.sh (wy w), .sh (tabD t), .sh (.int i), .sh ow, .sh (.int (lvl t i here f)), .sh (fD f), x6, x7] (.one 6) (iT r) with
      | some e2 => evSs _ 100 _ e2
      | none => FR.stuck) = _
    rw [hp]
    have c1 : evE (Phi T (m + 2)) (.call "with_row" (.cons (.v 1) (.cons (.v 2) (.cons (.v 6) .nil)))) [.sh (wy w), .sh (tabD t), .sh (.int i), .sh ow, .sh (.int (lvl t i here f)), .sh (fD f), .sh (iT r), x7] = .ok (.now (tabD (t.set i r))) [.sh (wy w), .sh (tabD t), .sh (.int i), .sh ow, .sh (.int (lvl t i here f)), .sh (fD f), .sh (iT r), x7] :=
      callN (fs := runDf (Phi T (m + 1)) d_with_row) (ws := [.now (tabD t), .now (.int i), .now (iT r)]) rfl rfl rfl rfl rfl (b := []) (with_row_run h hi r _)
    have c2 : evE (Phi T (m + 2)) (.call "chosen_by" (.cons (.v 0) (.cons (.call "with_row" (.cons (.v 1) (.cons (.v 2) (.cons (.v 6) .nil)))) .nil))) [.sh (wy w), .sh (tabD t), .sh (.int i), .sh ow, .sh (.int (lvl t i here f)), .sh (fD f), .sh (iT r), x7] = .ok (.now (.int (k : Nat))) [.sh (wy w), .sh (tabD t), .sh (.int i), .sh ow, .sh (.int (lvl t i here f)), .sh (fD f), .sh (iT r), x7] :=
      callN (fs := runDf (Phi T (m + 1)) d_chosen_by) (ws := [.now (wy w), .now (tabD (t.set i r))]) rfl (es_cons rfl (es_cons c1 rfl)) rfl rfl rfl (b := []) (chosen_by_run hT hw m)
    show evSs _ 100 _ [.sh (wy w), .sh (tabD t), .sh (.int i), .sh ow, .sh (.int (lvl t i here f)), .sh (fD f), .sh (iT r), x7] = _
    rw [seq_nxt (asg_now c2 (x := x7) rfl h7)]
    show evSs _ 100 _ [.sh (wy w), .sh (tabD t), .sh (.int i), .sh ow, .sh (.int (lvl t i here f)), .sh (fD f), .sh (iT r), .sh (.int (k : Nat))] = _
    have c3 : evE (Phi T (m + 2)) (.ix (.v 3) (.v 7)) [.sh (wy w), .sh (tabD t), .sh (.int i), .sh ow, .sh (.int (lvl t i here f)), .sh (fD f), .sh (iT r), .sh (.int (k : Nat))] = .ok (.now (.int (own t i k))) [.sh (wy w), .sh (tabD t), .sh (.int i), .sh ow, .sh (.int (lvl t i here f)), .sh (fD f), .sh (iT r), .sh (.int (k : Nat))] := ix_now rfl rfl (at_own h hi hk)
    have c4 : evT (Phi T (m + 2)) (.cmp .Gt (.ix (.v 3) (.v 7)) (.v 4)) [.sh (wy w), .sh (tabD t), .sh (.int i), .sh ow, .sh (.int (lvl t i here f)), .sh (fD f), .sh (iT r), .sh (.int (k : Nat))] = .ok (decide (lvl t i here f < own t i k)) [.sh (wy w), .sh (tabD t), .sh (.int i), .sh ow, .sh (.int (lvl t i here f)), .sh (fD f), .sh (iT r), .sh (.int (k : Nat))] :=
      tst (cmp_nows c3 rfl rfl)
    by_cases c : lvl t i here f < own t i k
    · rw [decide_eq_true c] at c4
      have es : stp w t i n here f r = some (r, k) := if_pos c
      rw [es, seq_nxt ((ite_t c4).trans ((seq_nxt (asg_now c3 (x := .sh (.int (lvl t i here f))) rfl rfl)).trans rfl))]
      rfl
    · rw [decide_eq_false c] at c4
      have es : stp w t i n here f r = f := if_neg c
      rw [es, seq_nxt ((ite_f c4).trans rfl)]
      rfl)
  obtain ⟨e, q1, x6, x7, _, _, rfl⟩ := hloop
  rw [seq_nxt ((for_eq hI).trans q1)]
  rfl
end
end K11

set_option Elab.async false
set_option linter.all false
set_option autoImplicit false
set_option maxRecDepth 100000
set_option maxHeartbeats 4000000
/-! # k11: the law's gain; forms -/
namespace K11
open PySem PyE L2 PyV PySem.W
section
variable {Φ : Fns} {t : List (List Int)} {p n m w : Nat}
theorem law_gain_run (h : Tab t p n) {w i : Nat} (hw : w < 6) (hi : i < p) (m : Nat) : (runDf (Phi T (m + 3)) d__law_gain).run [wy w, tabD t, .int i] = .ret (fD (gn w t i n)) [] := by
  let here := own t i (ch w t n)
  show frR (evSs (Phi T (m + 3)) 100 b__law_gain [.sh (wy w), .sh (tabD t), .sh (.int i), .no, .no, .no, .no, .no]) = _
  have e1 : evE (Phi T (m + 3)) (.ix (.ix (.v 1) (.v 2)) (.call "_law_chosen" (.cons (.v 0) (.cons (.v 1) .nil)))) [.sh (wy w), .sh (tabD t), .sh (.int i), .no, .no, .no, .no, .no] = .ok (.now (.int here)) [.sh (wy w), .sh (tabD t), .sh (.int i), .no, .no, .no, .no, .no] :=
    ix_now (ix_now rfl rfl (at_tab h hi)) (callN (fs := runDf (Phi T (m + 2)) d__law_chosen) (ws := [.now (wy w), .now (tabD t)]) rfl rfl rfl rfl rfl (b := []) (law_chosen_run h hw m)) (at_own h hi (ch_lt h))
  have hI : evI (Phi T (m + 3)) (.seq (.call "_law_every" (.cons (.bf .len (.cons (.ix (.v 1) (.k (.int 0))) .nil)) (.cons (.tup (.cons (.k (.int 0)) (.cons (.k (.int 1)) (.cons (.k (.int 2)) .nil)))) .nil)))) [.sh (wy w), .sh (tabD t), .sh (.int i), .sh (.int here), .sh .none, .no, .no, .no] = .ok ((rows n).map iT) [.sh (wy w), .sh (tabD t), .sh (.int i), .sh (.int here), .sh .none, .no, .no, .no] := by
    have c1 : evE (Phi T (m + 3)) (.call "_law_every" (.cons (.bf .len (.cons (.ix (.v 1) (.k (.int 0))) .nil)) (.cons (.tup (.cons (.k (.int 0)) (.cons (.k (.int 1)) (.cons (.k (.int 2)) .nil)))) .nil))) [.sh (wy w), .sh (tabD t), .sh (.int i), .sh (.int here), .sh .none, .no, .no, .no] = .ok (.now (.list ((rows n).map iT))) [.sh (wy w), .sh (tabD t), .sh (.int i), .sh (.int here), .sh .none, .no, .no, .no] :=
      callN (fs := runDf (Phi T (m + 2)) d__law_every) (ws := [.now (.int (n : Nat)), .now nums]) rfl (es_cons (h.len0 _ rfl) rfl) rfl rfl rfl (b := []) (law_every_run h)
    unfold evI
    rw [c1, bind_ok]
    rfl
  unfold b__law_gain
  rw [seq_nxt (asg_now e1 (x := .no) rfl rfl)]
  show frR (evSs _ 100 _ [.sh (wy w), .sh (tabD t), .sh (.int i), .sh (.int here), .no, .no, .no, .no]) = _
  rw [seq_nxt (asg_now (d := .none) (x := .no) rfl rfl rfl)]
  show frR (evSs _ 100 _ [.sh (wy w), .sh (tabD t), .sh (.int i), .sh (.int here), .sh .none, .no, .no, .no]) = _
  have hloop := forL_foldI (f := fun x e => match putT e (.one 5) x with
      | some e2 => evSs (Phi T (m + 3)) 100 (.cons (.asg 6 (.bin .Add (.bin .Add (.sl (.v 1) .none (.some (.v 2))) (.tup (.cons (.v 5) .nil))) (.sl (.v 1) (.some (.bin .Add (.v 2) (.k (.int 1)))) .none))) (.cons (.asg 7 (.call "_law_chosen" (.cons (.v 0) (.cons (.v 6) .nil)))) (.cons (.ite (.and (.cmp .Gt (.ix (.ix (.v 1) (.v 2)) (.v 7)) (.v 3)) (.or (.cmp .Is (.v 4) (.k .none)) (.cmp .Gt (.ix (.ix (.v 1) (.v 2)) (.v 7)) (.ix (.ix (.v 1) (.v 2)) (.ix (.v 4) (.k (.int 1))))))) (.cons (.asg 4 (.tup (.cons (.v 5) (.cons (.v 7) .nil)))) .nil) .nil) .nil))) e2
      | none => .stuck) (R := fun f env => ∃ x5 x6 x7, nb x5 = true ∧ nb x6 = true ∧ nb x7 = true ∧ env = [.sh (wy w), .sh (tabD t), .sh (.int i), .sh (.int here), .sh (fD f), x5, x6, x7])
      (I := fun f => ∀ x, f = some x → x.2 < n ∧ here < own t i x.2) (step := stp w t i n here) (enc := iT) (rows n) none [.sh (wy w), .sh (tabD t), .sh (.int i), .sh (.int here), .sh .none, .no, .no, .no] ⟨.no, .no, .no, rfl, rfl, rfl, rfl⟩ (fun x z => by cases z) (by
    rintro r hr f env ⟨x5, x6, x7, h5, h6, h7, rfl⟩ hI
    have hT := h.set (i := i) hr
    have hp : putT [.sh (wy w), .sh (tabD t), .sh (.int i), .sh (.int here), .sh (fD f), x5, x6, x7] (.one 5) (iT r) = some [.sh (wy w), .sh (tabD t), .sh (.int i), .sh (.int here), .sh (fD f), .sh (iT r), x6, x7] := putS_nb (x := x5) rfl h5
    let k := ch w (t.set i r) n
    have hk : k < n := ch_lt hT
    have hlv : here ≤ lvl t i here f := by
      cases f with
      | none => exact Int.le_refl _
      | some x => exact Int.le_of_lt (hI x rfl).2
    refine ⟨fun x hx => ?_, [.sh (wy w), .sh (tabD t), .sh (.int i), .sh (.int here), .sh (fD (stp w t i n here f r)), .sh (iT r), .sh (tabD (t.set i r)), .sh (.int (k : Nat))], ?_, _, _, _, rfl, rfl, rfl, rfl⟩
    · unfold stp at hx
      split at hx
      · rename_i c
        cases hx
        exact ⟨hk, by have : here < own t i k := Int.lt_of_le_of_lt hlv c; exact this⟩
      · exact hI x hx
    show (match putT [.sh (wy w), .sh (tabD t), .sh (.int i), .sh (.int here), .sh (fD f), x5, x6, x7] (.one 5) (iT r) with
      | some e2 => evSs _ 100 _ e2
      | none => FR.stuck) = _
    rw [hp]
    show evSs _ 100 _ [.sh (wy w), .sh (tabD t), .sh (.int i), .sh (.int here), .sh (fD f), .sh (iT r), x6, x7] = _
    rw [seq_nxt (asg_now (with_expr h hi rfl rfl rfl) (x := x6) rfl h6)]
    show evSs _ 100 _ [.sh (wy w), .sh (tabD t), .sh (.int i), .sh (.int here), .sh (fD f), .sh (iT r), .sh (tabD (t.set i r)), x7] = _
    have c2 : evE (Phi T (m + 3)) (.call "_law_chosen" (.cons (.v 0) (.cons (.v 6) .nil))) [.sh (wy w), .sh (tabD t), .sh (.int i), .sh (.int here), .sh (fD f), .sh (iT r), .sh (tabD (t.set i r)), x7] = .ok (.now (.int (k : Nat))) [.sh (wy w), .sh (tabD t), .sh (.int i), .sh (.int here), .sh (fD f), .sh (iT r), .sh (tabD (t.set i r)), x7] :=
      callN (fs := runDf (Phi T (m + 2)) d__law_chosen) (ws := [.now (wy w), .now (tabD (t.set i r))]) rfl rfl rfl rfl rfl (b := []) (law_chosen_run hT hw m)
    rw [seq_nxt (asg_now c2 (x := x7) rfl h7)]
    show evSs _ 100 _ [.sh (wy w), .sh (tabD t), .sh (.int i), .sh (.int here), .sh (fD f), .sh (iT r), .sh (tabD (t.set i r)), .sh (.int (k : Nat))] = _
    have c3 : evE (Phi T (m + 3)) (.ix (.ix (.v 1) (.v 2)) (.v 7)) [.sh (wy w), .sh (tabD t), .sh (.int i), .sh (.int here), .sh (fD f), .sh (iT r), .sh (tabD (t.set i r)), .sh (.int (k : Nat))] = .ok (.now (.int (own t i k))) [.sh (wy w), .sh (tabD t), .sh (.int i), .sh (.int here), .sh (fD f), .sh (iT r), .sh (tabD (t.set i r)), .sh (.int (k : Nat))] := ix_now (ix_now rfl rfl (at_tab h hi)) rfl (at_own h hi hk)
    have c4 : evE (Phi T (m + 3)) (.cmp .Gt (.ix (.ix (.v 1) (.v 2)) (.v 7)) (.v 3)) [.sh (wy w), .sh (tabD t), .sh (.int i), .sh (.int here), .sh (fD f), .sh (iT r), .sh (tabD (t.set i r)), .sh (.int (k : Nat))] = .ok (.now (.bool (decide (here < own t i k)))) [.sh (wy w), .sh (tabD t), .sh (.int i), .sh (.int here), .sh (fD f), .sh (iT r), .sh (tabD (t.set i r)), .sh (.int (k : Nat))] :=
      cmp_nows c3 rfl rfl
    have c5 : evT (Phi T (m + 3)) (.and (.cmp .Gt (.ix (.ix (.v 1) (.v 2)) (.v 7)) (.v 3)) (.or (.cmp .Is (.v 4) (.k .none)) (.cmp .Gt (.ix (.ix (.v 1) (.v 2)) (.v 7)) (.ix (.ix (.v 1) (.v 2)) (.ix (.v 4) (.k (.int 1))))))) [.sh (wy w), .sh (tabD t), .sh (.int i), .sh (.int here), .sh (fD f), .sh (iT r), .sh (tabD (t.set i r)), .sh (.int (k : Nat))] =
        .ok (decide (lvl t i here f < own t i k)) [.sh (wy w), .sh (tabD t), .sh (.int i), .sh (.int here), .sh (fD f), .sh (iT r), .sh (tabD (t.set i r)), .sh (.int (k : Nat))] := by
      refine tst ?_
      by_cases c : here < own t i k
      · rw [decide_eq_true c] at c4
        rw [and_t c4]
        cases f with
        | none =>
          rw [show decide (lvl t i here none < own t i k) = true from decide_eq_true c]
          exact or_t rfl
        | some x =>
          refine (or_f rfl).trans (cmp_nows c3 (ix_now (ix_now rfl rfl (at_tab h hi)) (ix_now (d := fD (some x)) (d' := .int 1) rfl rfl rfl) (at_own h hi (hI x rfl).1)) rfl)
      · rw [decide_eq_false c] at c4
        rw [show decide (lvl t i here f < own t i k) = false from decide_eq_false fun z => c (Int.lt_of_le_of_lt hlv z)]
        exact and_f c4
    by_cases c : lvl t i here f < own t i k
    · rw [decide_eq_true c] at c5
      have es : stp w t i n here f r = some (r, k) := if_pos c
      rw [es, seq_nxt ((ite_t c5).trans rfl)]
      rfl
    · rw [decide_eq_false c] at c5
      have es : stp w t i n here f r = f := if_neg c
      rw [es, seq_nxt ((ite_f c5).trans rfl)]
      rfl)
  obtain ⟨e, q1, ⟨x5, x6, x7, _, _, _, rfl⟩, _⟩ := hloop
  rw [seq_nxt ((for_eq hI).trans q1)]
  rfl
/-! ### forms -/
theorem way_form_run (Φ : Fns) {w : Nat} (hw : w < 6) : (runDf Φ d_way_form).run [wy w] = .ret (.bool true) [] := by
  match w, hw with
  | 0, _ => kernel_rfl
  | 1, _ => kernel_rfl
  | 2, _ => kernel_rfl
  | 3, _ => kernel_rfl
  | 4, _ => kernel_rfl
  | 5, _ => kernel_rfl
theorem row_form_run {r : List Int} {n : Nat} (hl : r.length = n) (hn : n ≤ 4) (hv : ∀ x ∈ r, 0 ≤ x ∧ x ≤ 2) (m : Nat) : (runDf (Phi T (m + 2)) d_row_form).run [iT r, .int n] = .ret (.bool true) [] := by
  show frR (evSs (Phi T (m + 2)) 100 b_row_form [.sh (iT r), .sh (.int n), .no]) = _
  have c1 : evE (Phi T (m + 2)) (.call "is_tuple" (.cons (.v 0) (.cons (.v 1) .nil))) [.sh (iT r), .sh (.int n), .no] = .ok (.now (.bool true)) [.sh (iT r), .sh (.int n), .no] := by
    refine callN (fs := runDf (Phi T (m + 1)) d_is_tuple) (ws := [.now (iT r), .now (.int n)]) rfl rfl rfl rfl rfl (b := []) ((is_tuple_len _ _ _).trans ?_)
    rw [List.length_map, hl, beq_self_eq_true]
  have hlc := lc_map (Φ := Phi T (m + 2)) (e := .call "in_range" (.cons (.v 2) (.cons (.k (.int 0)) (.cons (.k (.int 2)) .nil)))) (tg := .one 2) (it := .seq (.v 0)) (own := [2]) (env := [.sh (iT r), .sh (.int n), .no]) (e1 := [.sh (iT r), .sh (.int n), .no]) (xs := r) (enc := .int) (f := fun _ => .bool true) rfl rfl rfl (fun x hx => by
    have hv := hv x hx
    refine st_one (e1 := [.sh (iT r), .sh (.int n), .sh (.int x)]) rfl (callN (fs := runDf (Phi T (m + 1)) d_in_range) (ws := [.now (.int x), .now (.int 0), .now (.int 2)]) rfl rfl rfl rfl rfl (b := []) ((in_range_int (T := T) rfl x 0 2 m).trans ?_)) rfl
    rw [decide_eq_true hv.1, decide_eq_true hv.2]
    rfl) (by omega)
  unfold b_row_form
  rw [seq_ret (ret_now ((and_t c1).trans (bf_tmp hlc (all_true r))))]
  rfl
theorem table_form_run (h : Tab t p n) (m : Nat) : (runDf (Phi T (m + 3)) d_table_form).run [tabD t] = .ret (.bool true) [] := by
  obtain ⟨r0, rs, e0, hr0⟩ := h.hd
  have hl := h.len
  have hp1 := h.p1
  have hp4 := h.p4
  have hn1 := h.n1
  have hn4 := h.n4
  show frR (evSs (Phi T (m + 3)) 100 b_table_form [.sh (tabD t), .no]) = _
  have l0 : evE (Phi T (m + 3)) (.bf .len (.cons (.v 0) .nil)) [.sh (tabD t), .no] = .ok (.now (.int (p : Nat))) [.sh (tabD t), .no] := by
    refine bf_now (d := tabD t) rfl ?_
    show some (Vw.now (.int ((t.map iT).length : Nat))) = _
    rw [List.length_map, hl]
  have rng : ∀ {e : IE} {k : Nat} {env : SEnv}, evE (Phi T (m + 3)) e env = .ok (.now (.int (k : Nat))) env → 1 ≤ k → k ≤ 4 → evE (Phi T (m + 3)) (.nt (.cmp2 .LtE .LtE (.k (.int 1)) e (.k (.int 4)))) env = .ok (.now (.bool false)) env := by
    intro e k env he h1 h4
    refine nt_now (x := true) ?_
    unfold evE
    rw [show evE (Phi T (m + 3)) (.k (.int 1)) env = .ok (.now (.int 1)) env from rfl, bind_ok, he, bind_ok]
    show (match (some (decide ((1 : Int) ≤ (k : Int)))) with
      | some true => _
      | some false => _
      | none => _) = _
    rw [decide_eq_true (by omega)]
    show Rs.opt ((some (decide ((k : Int) ≤ 4))).map fun b => Vw.now (.bool b)) env = _
    rw [decide_eq_true (by omega)]
    rfl
  have at0 : evE (Phi T (m + 3)) (.ix (.v 0) (.k (.int 0))) [.sh (tabD t), .no] = .ok (.now (iT r0)) [.sh (tabD t), .no] := by
    refine ix_now (d' := .int ((0 : Nat) : Int)) rfl rfl ?_
    have := at_tab h (i := 0) (by omega)
    rw [this, e0]
    rfl
  have t1 : evT (Phi T (m + 3)) (.or (.nt (.call "is_tuple" (.cons (.v 0) (.cons (.k .none) .nil)))) (.nt (.cmp2 .LtE .LtE (.k (.int 1)) (.bf .len (.cons (.v 0) .nil)) (.k (.int 4))))) [.sh (tabD t), .no] = .ok false [.sh (tabD t), .no] :=
    tst ((or_f (nt_now (x := true) (callN (fs := runDf (Phi T (m + 2)) d_is_tuple) (ws := [.now (tabD t), .now .none]) rfl rfl rfl rfl rfl (b := []) rfl))).trans (rng l0 hp1 hp4))
  have t2 : evT (Phi T (m + 3)) (.or (.nt (.call "is_tuple" (.cons (.ix (.v 0) (.k (.int 0))) (.cons (.k .none) .nil)))) (.nt (.cmp2 .LtE .LtE (.k (.int 1)) (.bf .len (.cons (.ix (.v 0) (.k (.int 0))) .nil)) (.k (.int 4))))) [.sh (tabD t), .no] = .ok false [.sh (tabD t), .no] :=
    tst ((or_f (nt_now (x := true) (callN (fs := runDf (Phi T (m + 2)) d_is_tuple) (ws := [.now (iT r0), .now .none]) rfl (es_cons at0 rfl) rfl rfl rfl (b := []) rfl))).trans (rng (h.len0 _ rfl) hn1 hn4))
  have hlc := lc_map (Φ := Phi T (m + 3)) (e := .call "row_form" (.cons (.v 1) (.cons (.bf .len (.cons (.ix (.v 0) (.k (.int 0))) .nil)) .nil))) (tg := .one 1) (it := .seq (.v 0)) (own := [1]) (env := [.sh (tabD t), .no]) (e1 := [.sh (tabD t), .no]) (xs := t) (enc := iT) (f := fun _ => .bool true) rfl rfl rfl (fun r hr => by
    refine st_one (e1 := [.sh (tabD t), .sh (iT r)]) rfl (callN (fs := runDf (Phi T (m + 2)) d_row_form) (ws := [.now (iT r), .now (.int (n : Nat))]) rfl (es_cons rfl (es_cons (h.len0 _ rfl) rfl)) rfl rfl rfl (b := []) (row_form_run (h.row r hr) hn4 (h.val r hr) m)) rfl) (by omega)
  unfold b_table_form
  rw [ite_0 t1, ite_0 t2, seq_ret (ret_now (bf_tmp hlc (all_true t)))]
  rfl
end
end K11

set_option Elab.async false
set_option linter.all false
set_option autoImplicit false
set_option maxRecDepth 100000
set_option maxHeartbeats 4000000
/-! # k11: the four calls -/
namespace K11
open PySem PyE L2 PyV PySem.W
theorem ndL_of {α : Type} (f : α → D) : ∀ (xs : List α), (∀ x ∈ xs, nd (f x) = true) → ndL (xs.map f) = true
  | [], _ => rfl
  | x :: xs, h => by
    rw [List.map_cons, ndL, h x List.mem_cons_self, ndL_of f xs fun y hy => h y (List.mem_cons_of_mem _ hy)]
    rfl
theorem szL_of {α : Type} (f : α → D) : ∀ (xs : List α), (∀ x ∈ xs, sz (f x) = true) → szL (xs.map f) = true
  | [], _ => rfl
  | x :: xs, h => by
    rw [List.map_cons, szL, h x List.mem_cons_self, szL_of f xs fun y hy => h y (List.mem_cons_of_mem _ hy)]
    rfl
theorem depth_of {α : Type} (f : α → D) (k : Nat) : ∀ (xs : List α), (∀ x ∈ xs, (f x).depth ≤ k) → PyData.depthAll (xs.map f) ≤ k
  | [], _ => Nat.zero_le _
  | x :: xs, h => by
    rw [List.map_cons, PyData.depthAll]
    exact Nat.max_le.mpr ⟨h x List.mem_cons_self, depth_of f k xs fun y hy => h y (List.mem_cons_of_mem _ hy)⟩
theorem nd_iT (r : List Int) : nd (iT r) = true := by
  rw [nd]
  exact ndL_of _ _ fun x _ => by simp [nd]
theorem nd_iL (r : List Int) : nd (iL r) = true := by
  rw [nd]
  exact ndL_of _ _ fun x _ => by simp [nd]
theorem tup_ints (r : List Int) : tupL (r.map PyData.int) = r.map PyData.int := by
  rw [tupL_map, List.map_map]
  refine List.map_congr_left fun x _ => ?_
  show tupD (.int x) = .int x
  unfold tupD
  rfl
/-- the table, as the four calls take it -/
structure Tk (x : D) (t : List (List Int)) : Prop where
  n : nd x = true
  d : x.depth ≤ 2
  z : sz x = true
  u : tupD x = tabD t
abbrev lsD (t : List (List Int)) : D := .list (t.map iL)
section
variable {Φ : Fns} {t : List (List Int)} {p n m w : Nat}
theorem sz_ints {r : List Int} (h : r.length ≤ 4) : (szOk (r.map PyData.int).length && szL (r.map PyData.int)) = true := by
  rw [List.length_map, szOk_k (by omega), szL_of _ _ fun x _ => by simp [sz]]
  rfl
theorem tk_tab (h : Tab t p n) : Tk (tabD t) t where
  n := by
    rw [nd]
    exact ndL_of _ _ fun r _ => nd_iT r
  d := by
    show PyData.depthAll (t.map iT) + 1 ≤ 2
    have := depth_of iT 1 t fun r _ => by rw [depth_iT]; exact Nat.le_refl _
    omega
  z := by
    have h1 := h.len
    have h2 := h.p4
    rw [sz, List.length_map, szOk_k (by omega), szL_of _ _ fun r hr => by rw [sz]; exact sz_ints (by rw [h.row r hr]; exact h.n4)]
    rfl
  u := by
    rw [tupD, tupL_map, List.map_map]
    congr 1
    refine List.map_congr_left fun r _ => ?_
    show tupD (iT r) = iT r
    rw [tupD, tup_ints]
theorem tk_ls (h : Tab t p n) : Tk (lsD t) t where
  n := by
    rw [nd]
    exact ndL_of _ _ fun r _ => nd_iL r
  d := by
    show PyData.depthAll (t.map iL) + 1 ≤ 2
    have := depth_of iL 1 t fun r _ => by
      show PyData.depthAll (r.map .int) + 1 ≤ 1
      rw [PyV.depth_ints]
      exact Nat.le_refl _
    omega
  z := by
    have h1 := h.len
    have h2 := h.p4
    rw [sz, List.length_map, szOk_k (by omega), szL_of _ _ fun r hr => by rw [sz]; exact sz_ints (by rw [h.row r hr]; exact h.n4)]
    rfl
  u := by
    rw [tupD, tupL_map, List.map_map]
    congr 1
    refine List.map_congr_left fun r _ => ?_
    show tupD (iL r) = iT r
    rw [tupD, tup_ints]
theorem plain_call {x : D} (h : Tk x t) (m : Nat) : (runDf (Phi T (m + 3)) d_plain).run [x] = .ret (tabD t) [] := by
  have := plain_run (T := T) rfl rfl h.n h.d (by decide) h.z m
  rw [← h.u]
  exact this
theorem need_call {Φ : Fns} {e : IE} {env : SEnv} {k : Int} {m : Nat} (hΦ : Φ "need" = some (runDf (Phi T m) d_need)) (h : evE Φ e env = .ok (.now (.bool true)) env) : evS Φ 100 (.ex (.call "need" (.cons e (.cons (.k (.int k)) .nil)))) env = .nxt env :=
  ex_nxt (callN (fs := runDf (Phi T m) d_need) (ws := [.now (.bool true), .now (.int k)]) hΦ (es_cons h rfl) rfl rfl rfl (b := []) (need_true _ _))
theorem head_call {x : D} (h : Tab t p n) (hx : Tk x t) {w : Nat} (hw : w < 6) (m : Nat) {r : List Sl} {b : ISs} : evSs (Phi T (m + 4)) 100 (.cons (.asg 1 (.call "plain" (.cons (.v 1) .nil))) (.cons (.ex (.call "need" (.cons (.call "way_form" (.cons (.v 0) .nil)) (.cons (.k (.int 1)) .nil)))) (.cons (.ex (.call "need" (.cons (.call "table_form" (.cons (.v 1) .nil)) (.cons (.k (.int 2)) .nil)))) b))) (.sh (wy w) :: .sh x :: r) =
    evSs (Phi T (m + 4)) 100 b (.sh (wy w) :: .sh (tabD t) :: r) := by
  have c1 : evE (Phi T (m + 4)) (.call "plain" (.cons (.v 1) .nil)) (.sh (wy w) :: .sh x :: r) = .ok (.now (tabD t)) (.sh (wy w) :: .sh x :: r) := callN (fs := runDf (Phi T (m + 3)) d_plain) (ws := [.now x]) rfl rfl rfl rfl rfl (b := []) (plain_call hx m)
  have c2 : evE (Phi T (m + 4)) (.call "way_form" (.cons (.v 0) .nil)) (.sh (wy w) :: .sh (tabD t) :: r) = .ok (.now (.bool true)) (.sh (wy w) :: .sh (tabD t) :: r) := callN (fs := runDf (Phi T (m + 3)) d_way_form) (ws := [.now (wy w)]) rfl rfl rfl rfl rfl (b := []) (way_form_run _ hw)
  have c3 : evE (Phi T (m + 4)) (.call "table_form" (.cons (.v 1) .nil)) (.sh (wy w) :: .sh (tabD t) :: r) = .ok (.now (.bool true)) (.sh (wy w) :: .sh (tabD t) :: r) := callN (fs := runDf (Phi T (m + 3)) d_table_form) (ws := [.now (tabD t)]) rfl rfl rfl rfl rfl (b := []) (table_form_run h m)
  rw [seq_nxt (asg_now c1 (x := .sh x) rfl rfl)]
  show evSs _ 100 _ (.sh (wy w) :: .sh (tabD t) :: r) = _
  rw [seq_nxt (need_call (m := m + 3) rfl c2), seq_nxt (need_call (m := m + 3) rfl c3)]
theorem chosen_run {x : D} (h : Tab t p n) (hx : Tk x t) {w : Nat} (hw : w < 6) (m : Nat) : (runDf (Phi T (m + 4)) d_chosen).run [wy w, x] = .ret (.int (ch w t n : Nat)) [] := by
  show frR (evSs (Phi T (m + 4)) 100 b_chosen [.sh (wy w), .sh x]) = _
  unfold b_chosen
  rw [head_call h hx hw m]
  rw [seq_ret (ret_now (callN (fs := runDf (Phi T (m + 3)) d_chosen_by) (ws := [.now (wy w), .now (tabD t)]) rfl rfl rfl rfl rfl (b := []) (chosen_by_run h hw (m + 2))))]
  rfl
theorem person_ok (h : Tab t p n) {i : Nat} (hi : i < p) (m : Nat) {e : SEnv} {j : Nat} (e1 : evE (Phi T (m + 4)) (.v 1) e = .ok (.now (tabD t)) e) (e2 : evE (Phi T (m + 4)) (.v 2) e = .ok (.now (.int (i : Nat))) e) : evE (Phi T (m + 4)) (.call "in_range" (.cons (.v 2) (.cons (.k (.int 0)) (.cons (.bin .Sub (.bf .len (.cons (.v 1) .nil)) (.k (.int 1))) .nil)))) e = .ok (.now (.bool true)) e := by
  have l1 : evE (Phi T (m + 4)) (.bin .Sub (.bf .len (.cons (.v 1) .nil)) (.k (.int 1))) e = .ok (.now (.int ((p : Int) - 1))) e := by
    refine bin_now (bf_now (w' := .now (.int (p : Nat))) e1 ?_) rfl rfl
    show some (Vw.now (.int ((t.map iT).length : Nat))) = _
    rw [List.length_map, h.len]
  refine callN (fs := runDf (Phi T (m + 3)) d_in_range) (ws := [.now (.int i), .now (.int 0), .now (.int ((p : Int) - 1))]) rfl (es_cons e2 (es_cons rfl (es_cons l1 rfl))) rfl rfl rfl (b := []) ((in_range_int (T := T) rfl i 0 ((p : Int) - 1) (m + 2)).trans ?_)
  rw [decide_eq_true (by omega), decide_eq_true (by omega)]
  rfl
theorem gain_run {x : D} (h : Tab t p n) (hx : Tk x t) {w i : Nat} (hw : w < 6) (hi : i < p) (m : Nat) : (runDf (Phi T (m + 4)) d_gain).run [wy w, x, .int i] = .ret (fD (gn w t i n)) [] := by
  show frR (evSs (Phi T (m + 4)) 100 b_gain [.sh (wy w), .sh x, .sh (.int i)]) = _
  unfold b_gain
  rw [head_call h hx hw m, seq_nxt (need_call (m := m + 3) rfl (person_ok h hi m (j := 0) rfl rfl))]
  rw [seq_ret (ret_now (callN (fs := runDf (Phi T (m + 3)) d_gain_by) (ws := [.now (wy w), .now (tabD t), .now (.int i)]) rfl rfl rfl rfl rfl (b := []) (gain_by_run h hw hi (m + 1))))]
  rfl
def some? : Option (List Int × Nat) → Bool
  | none => false
  | some _ => true
theorem isN_fD {f : Option (List Int × Nat)} {Φ : Fns} {e : IE} {env e1 : SEnv} (h : evE Φ e env = .ok (.now (fD f)) e1) : evE Φ (.cmp .IsNot e (.k .none)) env = .ok (.now (.bool (some? f))) e1 := by
  refine cmp_nows h rfl ?_
  cases f <;> rfl
theorem isF_fD {f : Option (List Int × Nat)} {Φ : Fns} {e : IE} {env e1 : SEnv} (h : evE Φ e env = .ok (.now (fD f)) e1) : evE Φ (.cmp .Is e (.k .none)) env = .ok (.now (.bool (!some? f))) e1 := by
  refine cmp_nows h rfl ?_
  cases f <;> rfl
def hlp (w : Nat) (t : List (List Int)) (p n : Nat) : D := .tuple (((List.range p).filter fun i => some? (gn w t i n)).map fun i => .int (i : Nat))
theorem len_tab (h : Tab t p n) {Φ : Fns} {i : Nat} {e : SEnv} (e1 : evE Φ (.v i) e = .ok (.now (tabD t)) e) : evI Φ (.r1 (.bf .len (.cons (.v i) .nil))) e = .ok ((List.range p).map fun k => .int (k : Nat)) e := by
  rw [← rg_map]
  refine i_r1 (bf_now e1 ?_) (by have := h.p4; omega)
  show some (Vw.now (.int ((t.map iT).length : Nat))) = _
  rw [List.length_map, h.len]
theorem helped_by_run (h : Tab t p n) {w : Nat} (hw : w < 6) (m : Nat) : (runDf (Phi T (m + 3)) d_helped_by).run [wy w, tabD t] = .ret (hlp w t p n) [] := by
  show frR (evSs (Phi T (m + 3)) 100 b_helped_by [.sh (wy w), .sh (tabD t), .no]) = _
  have hlc := lc_filter (Φ := Phi T (m + 3)) (e := .v 2) (tg := .one 2) (c := .some (.cmp .IsNot (.call "gain_by" (.cons (.v 0) (.cons (.v 1) (.cons (.v 2) .nil)))) (.k .none))) (own := [2]) (xs := List.range p) (enc := fun k => .int (k : Nat)) (f := fun k => .int (k : Nat)) (p := fun i => some? (gn w t i n)) (len_tab h (Φ := Phi T (m + 3)) (i := 1) (e := [.sh (wy w), .sh (tabD t), .no]) rfl) rfl rfl (fun i hi => by
    have hi : i < p := List.mem_range.mp hi
    exact st_if (e1 := [.sh (wy w), .sh (tabD t), .sh (.int (i : Nat))]) rfl (tst (isN_fD (callN (fs := runDf (Phi T (m + 2)) d_gain_by) (ws := [.now (wy w), .now (tabD t), .now (.int i)]) rfl rfl rfl rfl rfl (b := []) (gain_by_run h hw hi m)))) (fun _ => rfl) rfl) (by rw [List.length_range]; have := h.p4; omega)
  unfold b_helped_by
  rw [seq_ret (ret_now (bf_tmp hlc rfl))]
  rfl
theorem helped_run {x : D} (h : Tab t p n) (hx : Tk x t) {w : Nat} (hw : w < 6) (m : Nat) : (runDf (Phi T (m + 4)) d_helped).run [wy w, x] = .ret (hlp w t p n) [] := by
  show frR (evSs (Phi T (m + 4)) 100 b_helped [.sh (wy w), .sh x]) = _
  unfold b_helped
  rw [head_call h hx hw m]
  rw [seq_ret (ret_now (callN (fs := runDf (Phi T (m + 3)) d_helped_by) (ws := [.now (wy w), .now (tabD t)]) rfl rfl rfl rfl rfl (b := []) (helped_by_run h hw m)))]
  rfl
/-- those worse off -/
def wrs (w : Nat) (t : List (List Int)) (i p n : Nat) : D := match gn w t i n with
  | none => .tuple []
  | some x => .tuple (((List.range p).filter fun k => (k != i) && decide (own t k x.2 < own t k (ch w t n))).map fun k => .int (k : Nat))
theorem gn_lt (h : Tab t p n) {i : Nat} {x : List Int × Nat} (e : gn w t i n = some x) : x.2 < n := by
  have key : ∀ (rs : List (List Int)) (f : Option (List Int × Nat)), (∀ r ∈ rs, r ∈ rows n) → (∀ x, f = some x → x.2 < n) → ∀ x, rs.foldl (stp w t i n (own t i (ch w t n))) f = some x → x.2 < n := by
    intro rs
    induction rs with
    | nil => intro f _ hf x hx; exact hf x hx
    | cons r rs ih =>
      intro f hr hf
      rw [List.foldl_cons]
      refine ih _ (fun q hq => hr q (List.mem_cons_of_mem _ hq)) fun x hx => ?_
      unfold stp at hx
      split at hx
      · cases hx
        exact ch_lt (h.set (hr r List.mem_cons_self))
      · exact hf x hx
  exact key (rows n) none (fun _ h => h) (fun x z => by cases z) x e
theorem hurt_run {x : D} (h : Tab t p n) (hx : Tk x t) {w i : Nat} (hw : w < 6) (hi : i < p) (m : Nat) : (runDf (Phi T (m + 4)) d_hurt).run [wy w, x, .int i] = .ret (wrs w t i p n) [] := by
  show frR (evSs (Phi T (m + 4)) 100 b_hurt [.sh (wy w), .sh x, .sh (.int i), .no, .no, .no, .no]) = _
  unfold b_hurt
  rw [head_call h hx hw m, seq_nxt (need_call (m := m + 3) rfl (person_ok h hi m (j := 0) rfl rfl))]
  have c1 : evE (Phi T (m + 4)) (.call "gain_by" (.cons (.v 0) (.cons (.v 1) (.cons (.v 2) .nil)))) [.sh (wy w), .sh (tabD t), .sh (.int i), .no, .no, .no, .no] = .ok (.now (fD (gn w t i n))) [.sh (wy w), .sh (tabD t), .sh (.int i), .no, .no, .no, .no] :=
    callN (fs := runDf (Phi T (m + 3)) d_gain_by) (ws := [.now (wy w), .now (tabD t), .now (.int i)]) rfl rfl rfl rfl rfl (b := []) (gain_by_run h hw hi (m + 1))
  rw [seq_nxt (asg_now c1 (x := .no) rfl rfl)]
  show frR (evSs _ 100 _ [.sh (wy w), .sh (tabD t), .sh (.int i), .sh (fD (gn w t i n)), .no, .no, .no]) = _
  have c2 : evT (Phi T (m + 4)) (.cmp .Is (.v 3) (.k .none)) [.sh (wy w), .sh (tabD t), .sh (.int i), .sh (fD (gn w t i n)), .no, .no, .no] = .ok (!some? (gn w t i n)) [.sh (wy w), .sh (tabD t), .sh (.int i), .sh (fD (gn w t i n)), .no, .no, .no] := tst (isF_fD rfl)
  unfold wrs
  cases e : gn w t i n with
  | none =>
    rw [e] at c2
    rw [ite_1 c2 (seq_ret (ret_now (tup_of rfl rfl rfl)))]
    rfl
  | some x =>
    rw [e] at c2
    have hx2 := gn_lt h e
    rw [ite_0 c2]
    have c3 : evE (Phi T (m + 4)) (.call "chosen_by" (.cons (.v 0) (.cons (.v 1) .nil))) [.sh (wy w), .sh (tabD t), .sh (.int i), .sh (fD (some x)), .no, .no, .no] = .ok (.now (.int (ch w t n : Nat))) [.sh (wy w), .sh (tabD t), .sh (.int i), .sh (fD (some x)), .no, .no, .no] :=
      callN (fs := runDf (Phi T (m + 3)) d_chosen_by) (ws := [.now (wy w), .now (tabD t)]) rfl rfl rfl rfl rfl (b := []) (chosen_by_run h hw (m + 2))
    rw [seq_nxt (asg_now c3 (x := .no) rfl rfl)]
    show frR (evSs _ 100 _ [.sh (wy w), .sh (tabD t), .sh (.int i), .sh (fD (some x)), .sh (.int (ch w t n : Nat)), .no, .no]) = _
    have hlc := lc_filter (Φ := Phi T (m + 4)) (e := .v 6) (tg := .one 6) (c := .some (.cmp .NotEq (.v 6) (.v 2))) (own := [6]) (xs := List.range p) (enc := fun k => .int (k : Nat)) (f := fun k => .int (k : Nat)) (p := fun k => !((k : Int) == (i : Int))) (len_tab h (Φ := Phi T (m + 4)) (i := 1) (e := [.sh (wy w), .sh (tabD t), .sh (.int i), .sh (fD (some x)), .sh (.int (ch w t n : Nat)), .no, .no]) rfl) rfl rfl (fun k hk =>
      st_if (e1 := [.sh (wy w), .sh (tabD t), .sh (.int i), .sh (fD (some x)), .sh (.int (ch w t n : Nat)), .no, .sh (.int (k : Nat))]) rfl (tst (cmp_nows rfl rfl (cne_int _ _))) (fun _ => rfl) rfl) (by rw [List.length_range]; have := h.p4; omega)
    rw [seq_nxt (asg_tmp hlc (x := .no) rfl rfl)]
    generalize hO : (List.range p).filter (fun k : Nat => !((k : Int) == (i : Int))) = os
    show frR (evSs _ 100 _ [.sh (wy w), .sh (tabD t), .sh (.int i), .sh (fD (some x)), .sh (.int (ch w t n : Nat)), .own (os.map fun k => .int (k : Nat)), .no]) = _
    have hos : ∀ k ∈ os, k < p := fun k hk => by
      rw [← hO] at hk
      exact List.mem_range.mp (List.mem_filter.mp hk).1
    have hlc2 := lc_filter (Φ := Phi T (m + 4)) (e := .v 6) (tg := .one 6) (it := .seq (.v 5)) (c := .some (.cmp .Lt (.ix (.ix (.v 1) (.v 6)) (.ix (.v 3) (.k (.int 1)))) (.ix (.ix (.v 1) (.v 6)) (.v 4)))) (own := [6]) (env := [.sh (wy w), .sh (tabD t), .sh (.int i), .sh (fD (some x)), .sh (.int (ch w t n : Nat)), .own (os.map fun k => .int (k : Nat)), .no]) (e1 := [.sh (wy w), .sh (tabD t), .sh (.int i), .sh (fD (some x)), .sh (.int (ch w t n : Nat)), .sh (.list (os.map fun k => .int (k : Nat))), .no]) (xs := os) (enc := fun k => .int (k : Nat)) (f := fun k => .int (k : Nat)) (p := fun k => decide (own t k x.2 < own t k (ch w t n))) rfl rfl rfl (fun k hk => by
      have hkp := hos k hk
      have a1 : evE (Phi T (m + 4)) (.ix (.v 1) (.v 6)) [.sh (wy w), .sh (tabD t), .sh (.int i), .sh (fD (some x)), .sh (.int (ch w t n : Nat)), .sh (.list (os.map fun k => .int (k : Nat))), .sh (.int (k : Nat))] = .ok (.now (iT (t.getD k []))) [.sh (wy w), .sh (tabD t), .sh (.int i), .sh (fD (some x)), .sh (.int (ch w t n : Nat)), .sh (.list (os.map fun k => .int (k : Nat))), .sh (.int (k : Nat))] := ix_now rfl rfl (at_tab h hkp)
      exact st_if (e1 := [.sh (wy w), .sh (tabD t), .sh (.int i), .sh (fD (some x)), .sh (.int (ch w t n : Nat)), .sh (.list (os.map fun k => .int (k : Nat))), .sh (.int (k : Nat))]) rfl (tst (cmp_nows (ix_now a1 (ix_now (d := fD (some x)) (d' := .int 1) rfl rfl rfl) (at_own h hkp hx2)) (ix_now a1 rfl (at_own h hkp (ch_lt h))) rfl)) (fun _ => rfl) rfl) (by
        rw [← hO]
        refine Nat.le_trans (List.length_filter_le _ _) ?_
        rw [List.length_range]
        have := h.p4
        omega)
    rw [seq_ret (ret_now (bf_tmp hlc2 rfl))]
    show FRes.ret (.tuple ((os.filter fun k => decide (own t k x.2 < own t k (ch w t n))).map fun k => .int (k : Nat))) [] = _
    rw [← hO, List.filter_filter]
    have : (fun k : Nat => decide (own t k x.2 < own t k (ch w t n)) && !((k : Int) == (i : Int))) = fun k => (k != i) && decide (own t k x.2 < own t k (ch w t n)) := by
      funext k
      rw [Bool.and_comm]
      have q : ((k : Int) == (i : Int)) = (k == i) := by
        rw [Bool.eq_iff_iff, beq_iff_eq, beq_iff_eq]
        omega
      rw [q]
      rfl
    rw [this]
end
end K11

set_option Elab.async false
set_option linter.all false
set_option autoImplicit false
set_option maxRecDepth 100000
set_option maxHeartbeats 4000000
/-! # k11: where nobody gains; the drawn table -/
namespace K11
open PySem PyE L2 PyV PySem.W
section
variable {Φ : Fns} {t : List (List Int)} {p n m w : Nat}
theorem no_gain (h : Tab t p n) {i : Nat} (hx : ∀ k, k < n → own t i k ≤ own t i (ch w t n)) : gn w t i n = none := by
  have key : ∀ (rs : List (List Int)), (∀ r ∈ rs, r ∈ rows n) → rs.foldl (stp w t i n (own t i (ch w t n))) none = none := by
    intro rs
    induction rs with
    | nil => intro _; rfl
    | cons r rs ih =>
      intro hr
      rw [List.foldl_cons]
      have : stp w t i n (own t i (ch w t n)) none r = none := by
        unfold stp
        rw [if_neg]
        have := hx _ (ch_lt (w := w) (h.set (i := i) (hr r List.mem_cons_self)))
        show ¬ own t i (ch w t n) < own t i (ch w (t.set i r) n)
        omega
      rw [this]
      exact ih fun q hq => hr q (List.mem_cons_of_mem _ hq)
  exact key (rows n) fun _ h => h
theorem key_min (h : Tab t p n) (k : Nat) (hk : k < n) : llt (rk w (col t k)) (rk w (col t (ch w t n))) = false := amin_min (fun c => rk w (col t c)) (n - 1) k (by omega)
theorem mono_c : ∀ p ∈ [1, 2, 3, 4], ∀ w ∈ [1, 2, 3, 4, 5], ∀ a ∈ [(0 : Int), 1, 2], ∀ b ∈ [(0 : Int), 1, 2], b < a → llt (rk w (List.replicate p a)) (rk w (List.replicate p b)) = true := by decide +kernel
theorem in3 {x : Int} (h : 0 ≤ x ∧ x ≤ 2) : x ∈ [(0 : Int), 1, 2] := by
  have : x = 0 ∨ x = 1 ∨ x = 2 := by omega
  rcases this with e | e | e <;> rw [e] <;> decide
theorem mem_14 {p : Nat} (h1 : 1 ≤ p) (h4 : p ≤ 4) : p ∈ [1, 2, 3, 4] := by
  have : p = 1 ∨ p = 2 ∨ p = 3 ∨ p = 4 := by omega
  rcases this with e | e | e | e <;> rw [e] <;> decide
theorem mem_15 {p : Nat} (h1 : p ≠ 0) (h4 : p < 6) : p ∈ [1, 2, 3, 4, 5] := by
  have : p = 1 ∨ p = 2 ∨ p = 3 ∨ p = 4 ∨ p = 5 := by omega
  rcases this with e | e | e | e | e <;> rw [e] <;> decide
theorem map_same {α β : Type} (f : α → β) (b : β) : ∀ (l : List α), (∀ x ∈ l, f x = b) → l.map f = List.replicate l.length b
  | [], _ => rfl
  | x :: l, h => by rw [List.map_cons, h x List.mem_cons_self, map_same f b l fun y hy => h y (List.mem_cons_of_mem _ hy)]; rfl
theorem getD_val {r : List Int} (h : ∀ x ∈ r, 0 ≤ x ∧ x ≤ 2) (k : Nat) : 0 ≤ r.getD k 0 ∧ r.getD k 0 ≤ 2 := by
  by_cases hk : k < r.length
  · have : r.getD k 0 = r[k] := by simp [List.getD, hk]
    rw [this]
    exact h _ (List.getElem_mem hk)
  · have : r.getD k 0 = 0 := by simp [List.getD, List.getElem?_eq_none (Nat.le_of_not_lt hk)]
    rw [this]
    decide
theorem same_none (h : Tab t p n) {r0 : List Int} (hs : ∀ r ∈ t, r = r0) (hw : w < 6) (h0 : w ≠ 0) {i : Nat} (hi : i < p) : gn w t i n = none := by
  have hmem : ∀ i, i < p → t.getD i [] = r0 := fun i hi => by
    have hl : i < t.length := by rw [h.len]; exact hi
    have e : t.getD i [] = t[i] := by simp [List.getD, hl]
    rw [e]
    exact hs _ (List.getElem_mem hl)
  have hr0 : r0 ∈ t := by
    have := hmem i hi
    have hl : i < t.length := by rw [h.len]; exact hi
    have e : t.getD i [] = t[i] := by simp [List.getD, hl]
    rw [← this, e]
    exact List.getElem_mem hl
  have hcol : ∀ k, col t k = List.replicate p (r0.getD k 0) := fun k => by
    rw [col, map_same _ (r0.getD k 0) t fun r hr => by rw [hs r hr], h.len]
  refine no_gain h fun k hk => ?_
  unfold own
  rw [hmem i hi]
  have hk' := key_min (w := w) h k hk
  rw [hcol, hcol] at hk'
  rcases Int.lt_or_le (r0.getD (ch w t n) 0) (r0.getD k 0) with c | c
  · rw [mono_c p (mem_14 h.p1 h.p4) w (mem_15 h0 hw) _ (in3 (getD_val (h.val r0 hr0) k)) _ (in3 (getD_val (h.val r0 hr0) _)) c] at hk'
    cases hk'
  · exact c
theorem lead_none (h : Tab t p n) : gn 5 t 0 n = none := by
  obtain ⟨r, rs, e, _⟩ := h.hd
  refine no_gain h fun k hk => ?_
  have hk' := key_min (w := 5) h k hk
  have e1 : ∀ c, rk 5 (col t c) = (-own t 0 c) :: (col rs c).map fun x => -x := fun c => by
    rw [e]
    rfl
  rw [e1, e1, llt] at hk'
  split at hk'
  · omega
  · have := of_decide_eq_false hk'
    omega
theorem tups_tab (t : List (List Int)) : tupsI (t.map iT) = some t := by
  induction t with
  | nil => rfl
  | cons r t ih =>
    rw [List.map_cons, tupsI]
    have : tupI (iT r) = some r := ints_some r
    rw [this]
    show (tupsI (t.map iT)).bind (fun ks => some (r :: ks)) = _
    rw [ih]
    rfl
theorem lnset_tab (h : Tab t p n) : lnsetD (tabD t) = some (.now (.int ((ndup t).length : Nat))) := by
  show (tupsI (t.map iT)).bind _ = _
  rw [tups_tab]
  show (if decide (t.length < 64) = true then some (Vw.now (.int (ndup t).length)) else none) = _
  have h1 := h.len
  have h2 := h.p4
  rw [if_pos (decide_eq_true (by omega))]
theorem one_same (h : (ndup t).length = 1) : ∃ r0, ∀ r ∈ t, r = r0 := by
  cases e : ndup t with
  | nil => rw [e] at h; cases h
  | cons a l =>
    rw [e] at h
    have hl : l = [] := List.eq_nil_of_length_eq_zero (by simpa using h)
    subst hl
    refine ⟨a, fun r hr => ?_⟩
    rw [← ndup_mem, e] at hr
    exact List.mem_singleton.mp hr
/-! ### the drawn table -/
def pw (k : Nat) : Int := [(1 : Int), 3, 9, 27].getD k 1
theorem pw_at {k : Nat} (h : k < 4) : ixD (.list [.int 1, .int 3, .int 9, .int 27]) (.int (k : Nat)) = some (.int (pw k)) := by
  match k, h with
  | 0, _ => rfl
  | 1, _ => rfl
  | 2, _ => rfl
  | 3, _ => rfl
theorem pw_ok {k : Nat} (h : k < 4) : divOk (pw k) = true := by
  match k, h with
  | 0, _ => decide +kernel
  | 1, _ => decide +kernel
  | 2, _ => decide +kernel
  | 3, _ => decide +kernel
theorem table_run {l : List Int} (hl : l.length = 4) (p1 : 1 ≤ p) (p4 : p ≤ 4) (n1 : 1 ≤ n) (n4 : n ≤ 4) (Φ : Fns) : ∃ t, Tab t p n ∧ (runDf Φ d__law_table).run [iL l, .int p, .int n] = .ret (tabD t) [] := by
  have hI : evI Φ (.r1 (.v 1)) [.sh (iL l), .sh (.int p), .sh (.int n), .own [], .no, .no] = .ok (rgD 0 p) [.sh (iL l), .sh (.int p), .sh (.int n), .own [], .no, .no] := i_r1 rfl (by omega)
  obtain ⟨e, q1, t, ⟨h1, h2⟩, x4, hx4, rfl⟩ := forL_range (f := fun x e => match putT e (.one 4) x with
      | some e2 => evSs Φ 100 (.cons (.app 3 (.bf .tuple (.cons (.lc (.bin .Mod (.bf .int (.cons (.bin .FloorDiv (.ix (.v 0) (.v 4)) (.ix (.lst (.cons (.k (.int 1)) (.cons (.k (.int 3)) (.cons (.k (.int 9)) (.cons (.k (.int 27)) .nil))))) (.v 5))) .nil)) (.k (.int 3))) (.one 5) (.r1 (.v 2)) .none [5]) .nil))) .nil) e2
      | none => .stuck) (R := fun c env => ∃ t : List (List Int), (t.length = c ∧ ∀ r ∈ t, r.length = n ∧ ∀ x ∈ r, 0 ≤ x ∧ x ≤ 2) ∧ ∃ x4, nb x4 = true ∧ env = [.sh (iL l), .sh (.int p), .sh (.int n), .own (t.map iT), x4, .no]) p (env := [.sh (iL l), .sh (.int p), .sh (.int n), .own [], .no, .no]) ⟨[], ⟨rfl, fun r hr => by cases hr⟩, .no, rfl, rfl⟩ (by
    rintro i hi env ⟨t, ⟨h1, h2⟩, x4, hx4, rfl⟩
    have hil : i < l.length := by omega
    have hp : putT [.sh (iL l), .sh (.int p), .sh (.int n), .own (t.map iT), x4, .no] (.one 4) (.int (i : Nat)) = some [.sh (iL l), .sh (.int p), .sh (.int n), .own (t.map iT), .sh (.int (i : Nat)), .no] := putS_nb (x := x4) rfl hx4
    let r : List Int := (List.range n).map fun k => l[i] / pw k % 3
    have hlc := lc_map (Φ := Φ) (e := .bin .Mod (.bf .int (.cons (.bin .FloorDiv (.ix (.v 0) (.v 4)) (.ix (.lst (.cons (.k (.int 1)) (.cons (.k (.int 3)) (.cons (.k (.int 9)) (.cons (.k (.int 27)) .nil))))) (.v 5))) .nil)) (.k (.int 3))) (tg := .one 5) (it := .r1 (.v 2)) (own := [5]) (env := [.sh (iL l), .sh (.int p), .sh (.int n), .own (t.map iT), .sh (.int (i : Nat)), .no]) (e1 := [.sh (iL l), .sh (.int p), .sh (.int n), .own (t.map iT), .sh (.int (i : Nat)), .no]) (xs := List.range n) (enc := fun k => .int (k : Nat)) (f := fun k => .int (l[i] / pw k % 3)) (by
        rw [← rg_map]
        exact i_r1 rfl (by omega)) rfl rfl (fun k hk => by
      have hk : k < 4 := by have := List.mem_range.mp hk; omega
      refine st_one (e1 := [.sh (iL l), .sh (.int p), .sh (.int n), .own (t.map iT), .sh (.int (i : Nat)), .sh (.int (k : Nat))]) rfl ?_ rfl
      have a1 : evE Φ (.ix (.v 0) (.v 4)) [.sh (iL l), .sh (.int p), .sh (.int n), .own (t.map iT), .sh (.int (i : Nat)), .sh (.int (k : Nat))] = .ok (.now (.int l[i])) [.sh (iL l), .sh (.int p), .sh (.int n), .own (t.map iT), .sh (.int (i : Nat)), .sh (.int (k : Nat))] := ix_now rfl rfl (at_ints hil)
      have a2 : evE Φ (.ix (.lst (.cons (.k (.int 1)) (.cons (.k (.int 3)) (.cons (.k (.int 9)) (.cons (.k (.int 27)) .nil))))) (.v 5)) [.sh (iL l), .sh (.int p), .sh (.int n), .own (t.map iT), .sh (.int (i : Nat)), .sh (.int (k : Nat))] = .ok (.now (.int (pw k))) [.sh (iL l), .sh (.int p), .sh (.int n), .own (t.map iT), .sh (.int (i : Nat)), .sh (.int (k : Nat))] :=
        ix_vw (w := .tmp [.int 1, .int 3, .int 9, .int 27]) (w2 := .now (.int (k : Nat))) rfl rfl rfl rfl (pw_at hk)
      have a3 : evE Φ (.bin .FloorDiv (.ix (.v 0) (.v 4)) (.ix (.lst (.cons (.k (.int 1)) (.cons (.k (.int 3)) (.cons (.k (.int 9)) (.cons (.k (.int 27)) .nil))))) (.v 5))) [.sh (iL l), .sh (.int p), .sh (.int n), .own (t.map iT), .sh (.int (i : Nat)), .sh (.int (k : Nat))] = .ok (.now (.int (l[i] / pw k))) [.sh (iL l), .sh (.int p), .sh (.int n), .own (t.map iT), .sh (.int (i : Nat)), .sh (.int (k : Nat))] := by
        refine bin_now a1 a2 ?_
        show (if divOk (pw k) = true then some (Vw.now (.int (l[i] / pw k))) else none) = _
        rw [if_pos (pw_ok hk)]
      exact bin_now (bf_now a3 rfl) rfl rfl) (by rw [List.length_range]; omega)
    have er : ((List.range n).map fun k => PyData.int (l[i] / pw k % 3)) = r.map PyData.int := by
      show _ = ((List.range n).map _).map _
      rw [List.map_map]
      rfl
    rw [er] at hlc
    refine ⟨[.sh (iL l), .sh (.int p), .sh (.int n), .own ((t ++ [r]).map iT), .sh (.int (i : Nat)), .no], ?_, t ++ [r], ⟨by rw [List.length_append, h1]; rfl, fun q hq => ?_⟩, _, rfl, rfl⟩
    · show (match putT [.sh (iL l), .sh (.int p), .sh (.int n), .own (t.map iT), x4, .no] (.one 4) (.int (i : Nat)) with
        | some e2 => evSs Φ 100 _ e2
        | none => FR.stuck) = _
      rw [hp]
      show evSs Φ 100 _ [.sh (iL l), .sh (.int p), .sh (.int n), .own (t.map iT), .sh (.int (i : Nat)), .no] = _
      rw [seq_nxt (app_own rfl (bf_tmp hlc rfl) rfl (by rw [List.length_map]; omega))]
      show FR.nxt [.sh (iL l), .sh (.int p), .sh (.int n), .own (t.map iT ++ [iT r]), .sh (.int (i : Nat)), .no] = _
      rw [List.map_append]
      rfl
    · rcases List.mem_append.mp hq with z | z
      · exact h2 q z
      · rw [List.mem_singleton.mp z]
        refine ⟨by show ((List.range n).map _).length = n; rw [List.length_map, List.length_range], fun x hx => ?_⟩
        obtain ⟨k, _, rfl⟩ := List.mem_map.mp hx
        have a1 := Int.emod_nonneg (l[i] / pw k) (show (3 : Int) ≠ 0 by decide)
        have a2 := Int.emod_lt_of_pos (l[i] / pw k) (show (0 : Int) < 3 by decide)
        omega)
  refine ⟨t, ⟨h1, p1, p4, n1, n4, fun r hr => (h2 r hr).1, fun r hr => (h2 r hr).2⟩, ?_⟩
  show frR (evSs Φ 100 b__law_table [.sh (iL l), .sh (.int p), .sh (.int n), .no, .no, .no]) = _
  unfold b__law_table
  rw [seq_nxt (asg_tmp (ds := []) (x := .no) rfl rfl rfl)]
  rw [show List.set [Sl.sh (iL l), .sh (.int p), .sh (.int n), .no, .no, .no] 3 (.own []) = [.sh (iL l), .sh (.int p), .sh (.int n), .own [], .no, .no] from rfl]
  rw [seq_nxt ((for_eq hI).trans q1)]
  rfl
end
end K11

set_option Elab.async false
set_option linter.all false
set_option autoImplicit false
set_option maxRecDepth 100000
set_option maxHeartbeats 4000000
/-! # k11: one run -/
namespace K11
open PySem PyE L2 PyV PySem.W
section
variable {Φ : Fns} {t : List (List Int)} {p n m w : Nat}
theorem sane_ints (r : List Int) : saneL (r.map PyData.int) = true := by
  induction r with
  | nil => rfl
  | cons x r ih =>
    rw [List.map_cons, saneL, ih]
    simp [sane]
theorem sane_iT {r : List Int} (h : r.length ≤ 100000) : sane (iT r) = true := by
  rw [sane, List.length_map, decide_eq_true h, sane_ints]
  rfl
theorem same_call {m : Nat} {d : D} {a b : IE} {env : SEnv} (hs : sane d = true) (hd : d.depth ≤ 2) (h1 : evE (Phi T (m + 3)) a env = .ok (.now d) env) (h2 : evE (Phi T (m + 3)) b env = .ok (.now d) env) : evE (Phi T (m + 3)) (.call "_law_same" (.cons a (.cons b .nil))) env = .ok (.now (.bool true)) env :=
  callN (fs := runDf (Phi T (m + 2)) d__law_same) (ws := [.now d, .now d]) rfl (es_cons h1 (es_cons h2 rfl)) rfl rfl rfl (b := []) (same_run (T := T) rfl 2 d hs hd m)
theorem same_test {m : Nat} {d : D} {a b : IE} {env : SEnv} {r : ISs} (hs : sane d = true) (hd : d.depth ≤ 2) (h1 : evE (Phi T (m + 3)) a env = .ok (.now d) env) (h2 : evE (Phi T (m + 3)) b env = .ok (.now d) env) :
    evSs (Phi T (m + 3)) 100 (.cons (.ite (.nt (.call "_law_same" (.cons a (.cons b .nil)))) (.cons (.ret (.k (.bool false))) .nil) .nil) r) env = evSs (Phi T (m + 3)) 100 r env :=
  ite_0 (tst (nt_now (x := true) (same_call hs hd h1 h2)))
theorem sane_fD (h : Tab t p n) {i : Nat} {f : Option (List Int × Nat)} (hf : ∀ x, f = some x → x.1.length ≤ 100000) : sane (fD f) = true ∧ (fD f).depth ≤ 2 := by
  cases f with
  | none => exact ⟨by simp [fD, sane], by show 0 ≤ 2; omega⟩
  | some x =>
    refine ⟨?_, ?_⟩
    · show sane (.tuple [iT x.1, .int x.2]) = true
      rw [sane, saneL, sane_iT (hf x rfl), saneL, saneL]
      simp [sane]
    · show max (iT x.1).depth (max 0 0) + 1 ≤ 2
      rw [PyV.depth_iT]
      decide
theorem gn_row (h : Tab t p n) {i : Nat} {x : List Int × Nat} (e : gn w t i n = some x) : x.1 ∈ rows n := by
  have key : ∀ (rs : List (List Int)) (f : Option (List Int × Nat)), (∀ r ∈ rs, r ∈ rows n) → (∀ x, f = some x → x.1 ∈ rows n) → ∀ x, rs.foldl (stp w t i n (own t i (ch w t n))) f = some x → x.1 ∈ rows n := by
    intro rs
    induction rs with
    | nil => intro f _ hf x hx; exact hf x hx
    | cons r rs ih =>
      intro f hr hf
      rw [List.foldl_cons]
      refine ih _ (fun q hq => hr q (List.mem_cons_of_mem _ hq)) fun x hx => ?_
      unfold stp at hx
      split at hx
      · cases hx
        exact hr r List.mem_cons_self
      · exact hf x hx
  exact key (rows n) none (fun _ h => h) (fun x z => by cases z) x e
theorem sane_gn (h : Tab t p n) (w i : Nat) : sane (fD (gn w t i n)) = true ∧ (fD (gn w t i n)).depth ≤ 2 :=
  sane_fD (i := i) h fun x e => by
    rw [(rows_mem n _ (gn_row h e)).1]
    have := h.n4
    omega
theorem sane_nats (l : List Nat) (hl : l.length ≤ 100000) : sane (.tuple (l.map fun k => .int (k : Nat))) = true ∧ (PyData.tuple (l.map fun k => PyData.int (k : Nat))).depth ≤ 2 := by
  refine ⟨?_, ?_⟩
  · rw [sane, List.length_map, decide_eq_true hl]
    have : saneL (l.map fun k : Nat => PyData.int (k : Nat)) = true := by
      induction l with
      | nil => rfl
      | cons x r ih =>
        rw [List.map_cons, saneL, ih (by simp at hl; omega)]
        simp [sane]
    rw [this]
    rfl
  · show PyData.depthAll (l.map fun k : Nat => PyData.int (k : Nat)) + 1 ≤ 2
    have := depth_of (fun k : Nat => PyData.int (k : Nat)) 0 l fun k _ => Nat.le_refl _
    omega
theorem filt_le (f : Nat → Bool) (h : Tab t p n) : ((List.range p).filter f).length ≤ 100000 := by
  have := List.length_filter_le f (List.range p)
  rw [List.length_range] at this
  have := h.p4
  omega
theorem sane_hlp (h : Tab t p n) (w : Nat) : sane (hlp w t p n) = true ∧ (hlp w t p n).depth ≤ 2 := sane_nats _ (filt_le _ h)
theorem sane_wrs (h : Tab t p n) (w i : Nat) : sane (wrs w t i p n) = true ∧ (wrs w t i p n).depth ≤ 2 := by
  unfold wrs
  cases gn w t i n with
  | none => exact ⟨by simp [sane, saneL], by simp [PyData.depth, PyData.depthAll]⟩
  | some x => exact sane_nats _ (filt_le _ h)
/-- slots of the run -/
def eX (nu : List Int) (p n : Nat) (t : List (List Int)) (x4 x5 x6 x7 x8 x9 x10 x11 : Sl) : SEnv := [.sh (iL nu), .sh (.int p), .sh (.int n), .sh (tabD t), x4, x5, x6, x7, x8, x9, x10, x11]
def bIn : ISs := (.cons (.asg 8 (.call "_law_gain" (.cons (.v 4) (.cons (.v 3) (.cons (.v 7) .nil)))))
(.cons (.ite (.nt (.call "_law_same" (.cons (.call "gain" (.cons (.v 4) (.cons (.v 3) (.cons (.v 7) .nil)))) (.cons (.v 8) .nil)))) (.cons (.ret (.k (.bool false))) .nil) .nil)
(.cons (.asg 6 (.bin .Add (.v 6) (.ife (.cmp .IsNot (.v 8) (.k .none)) (.lst (.cons (.v 7) .nil)) (.lst .nil))))
(.cons (.asg 9 (.tup .nil))
(.cons (.ite (.cmp .IsNot (.v 8) (.k .none))
(.cons (.asg 10 (.call "_law_chosen" (.cons (.v 4) (.cons (.v 3) .nil))))
(.cons (.asg 9 (.bf .tuple (.cons (.lc (.v 11) (.one 11) (.r1 (.v 1)) (.some (.and (.cmp .NotEq (.v 11) (.v 7)) (.cmp .Lt (.ix (.ix (.v 3) (.v 11)) (.ix (.v 8) (.k (.int 1)))) (.ix (.ix (.v 3) (.v 11)) (.v 10))))) [11]) .nil))) .nil)) .nil)
(.cons (.ite (.nt (.call "_law_same" (.cons (.call "hurt" (.cons (.v 4) (.cons (.v 3) (.cons (.v 7) .nil)))) (.cons (.v 9) .nil)))) (.cons (.ret (.k (.bool false))) .nil) .nil) .nil))))))
def som (w : Nat) (t : List (List Int)) (n c : Nat) : List D := ((List.range c).filter fun i => some? (gn w t i n)).map fun i => .int (i : Nat)
theorem som_succ (w : Nat) (t : List (List Int)) (n c : Nat) : som w t n (c + 1) = som w t n c ++ (if some? (gn w t c n) = true then [.int (c : Nat)] else []) := by
  unfold som
  rw [List.range_succ, List.filter_append, List.map_append]
  congr 1
  rw [List.filter_cons]
  split <;> rfl
theorem in_turn (h : Tab t p n) {nu : List Int} {w i : Nat} (hw : w < 6) (hi : i < p) (m : Nat) {x8 x9 x10 : Sl} (h8 : nb x8 = true) (h9 : nb x9 = true) (h10 : nb x10 = true) : ∃ x10', nb x10' = true ∧ evSs (Phi T (m + 5)) 100 bIn (eX nu p n t (.sh (wy w)) .no (.own (som w t n i)) (.sh (.int (i : Nat))) x8 x9 x10 .no) = .nxt (eX nu p n t (.sh (wy w)) .no (.own (som w t n (i + 1))) (.sh (.int (i : Nat))) (.sh (fD (gn w t i n))) (.sh (wrs w t i p n)) x10' .no) := by
  have c1 : evE (Phi T (m + 5)) (.call "_law_gain" (.cons (.v 4) (.cons (.v 3) (.cons (.v 7) .nil)))) (eX nu p n t (.sh (wy w)) .no (.own (som w t n i)) (.sh (.int (i : Nat))) x8 x9 x10 .no) = .ok (.now (fD (gn w t i n))) (eX nu p n t (.sh (wy w)) .no (.own (som w t n i)) (.sh (.int (i : Nat))) x8 x9 x10 .no) :=
    callN (fs := runDf (Phi T (m + 4)) d__law_gain) (ws := [.now (wy w), .now (tabD t), .now (.int i)]) rfl rfl rfl rfl rfl (b := []) (law_gain_run h hw hi (m + 1))
  unfold bIn
  rw [seq_nxt (asg_now c1 (x := x8) rfl h8)]
  show ∃ x10', nb x10' = true ∧ evSs _ 100 _ (eX nu p n t (.sh (wy w)) .no (.own (som w t n i)) (.sh (.int (i : Nat))) (.sh (fD (gn w t i n))) x9 x10 .no) = _
  have c2 : evE (Phi T (m + 5)) (.call "gain" (.cons (.v 4) (.cons (.v 3) (.cons (.v 7) .nil)))) (eX nu p n t (.sh (wy w)) .no (.own (som w t n i)) (.sh (.int (i : Nat))) (.sh (fD (gn w t i n))) x9 x10 .no) = .ok (.now (fD (gn w t i n))) (eX nu p n t (.sh (wy w)) .no (.own (som w t n i)) (.sh (.int (i : Nat))) (.sh (fD (gn w t i n))) x9 x10 .no) :=
    callN (fs := runDf (Phi T (m + 4)) d_gain) (ws := [.now (wy w), .now (tabD t), .now (.int i)]) rfl rfl rfl rfl rfl (b := []) (gain_run h (tk_tab h) hw hi m)
  rw [same_test (m := m + 2) (sane_gn h w i).1 (sane_gn h w i).2 c2 rfl]
  have c3 : evE (Phi T (m + 5)) (.bin .Add (.v 6) (.ife (.cmp .IsNot (.v 8) (.k .none)) (.lst (.cons (.v 7) .nil)) (.lst .nil))) (eX nu p n t (.sh (wy w)) .no (.own (som w t n i)) (.sh (.int (i : Nat))) (.sh (fD (gn w t i n))) x9 x10 .no) = .ok (.tmp (som w t n (i + 1))) (eX nu p n t (.sh (wy w)) .no (.own (som w t n i)) (.sh (.int (i : Nat))) (.sh (fD (gn w t i n))) x9 x10 .no) := by
    have b1 := isN_fD (f := gn w t i n) (Φ := Phi T (m + 5)) (e := .v 8) (env := eX nu p n t (.sh (wy w)) .no (.own (som w t n i)) (.sh (.int (i : Nat))) (.sh (fD (gn w t i n))) x9 x10 .no) (e1 := eX nu p n t (.sh (wy w)) .no (.own (som w t n i)) (.sh (.int (i : Nat))) (.sh (fD (gn w t i n))) x9 x10 .no) rfl
    have b2 : evE (Phi T (m + 5)) (.ife (.cmp .IsNot (.v 8) (.k .none)) (.lst (.cons (.v 7) .nil)) (.lst .nil)) (eX nu p n t (.sh (wy w)) .no (.own (som w t n i)) (.sh (.int (i : Nat))) (.sh (fD (gn w t i n))) x9 x10 .no) = .ok (.tmp (if some? (gn w t i n) = true then [.int (i : Nat)] else [])) (eX nu p n t (.sh (wy w)) .no (.own (som w t n i)) (.sh (.int (i : Nat))) (.sh (fD (gn w t i n))) x9 x10 .no) := by
      cases e : some? (gn w t i n) with
      | true =>
        rw [e] at b1
        rw [ife_t b1]
        rfl
      | false =>
        rw [e] at b1
        rw [ife_f b1]
        rfl
    refine bin_vw (w := .late 6) rfl b2 (d := .list (som w t n i)) (d' := .list (if some? (gn w t i n) = true then [.int (i : Nat)] else [])) rfl rfl ?_
    show (if szOk ((som w t n i).length + (if some? (gn w t i n) = true then [PyData.int (i : Nat)] else []).length) = true then some (Vw.tmp (som w t n i ++ (if some? (gn w t i n) = true then [.int (i : Nat)] else []))) else none) = _
    rw [if_pos, som_succ]
    refine szOk_k ?_
    have a1 : (som w t n i).length ≤ i := by
      unfold som
      rw [List.length_map]
      have := List.length_filter_le (fun i => some? (gn w t i n)) (List.range i)
      rwa [List.length_range] at this
    have a2 : (if some? (gn w t i n) = true then [PyData.int (i : Nat)] else []).length ≤ 1 := by split <;> simp
    have := h.p4
    omega
  rw [seq_nxt (asg_tmp c3 (x := .own (som w t n i)) rfl rfl)]
  show ∃ x10', nb x10' = true ∧ evSs _ 100 _ (eX nu p n t (.sh (wy w)) .no (.own (som w t n (i + 1))) (.sh (.int (i : Nat))) (.sh (fD (gn w t i n))) x9 x10 .no) = _
  rw [seq_nxt (asg_now (d := .tuple []) rfl (x := x9) rfl h9)]
  show ∃ x10', nb x10' = true ∧ evSs _ 100 _ (eX nu p n t (.sh (wy w)) .no (.own (som w t n (i + 1))) (.sh (.int (i : Nat))) (.sh (fD (gn w t i n))) (.sh (.tuple [])) x10 .no) = _
  have b1 := isN_fD (f := gn w t i n) (Φ := Phi T (m + 5)) (e := .v 8) (env := eX nu p n t (.sh (wy w)) .no (.own (som w t n (i + 1))) (.sh (.int (i : Nat))) (.sh (fD (gn w t i n))) (.sh (.tuple [])) x10 .no) (e1 := eX nu p n t (.sh (wy w)) .no (.own (som w t n (i + 1))) (.sh (.int (i : Nat))) (.sh (fD (gn w t i n))) (.sh (.tuple [])) x10 .no) rfl
  have hu : ∀ (x10' : Sl), evE (Phi T (m + 5)) (.call "hurt" (.cons (.v 4) (.cons (.v 3) (.cons (.v 7) .nil)))) (eX nu p n t (.sh (wy w)) .no (.own (som w t n (i + 1))) (.sh (.int (i : Nat))) (.sh (fD (gn w t i n))) (.sh (wrs w t i p n)) x10' .no) = .ok (.now (wrs w t i p n)) (eX nu p n t (.sh (wy w)) .no (.own (som w t n (i + 1))) (.sh (.int (i : Nat))) (.sh (fD (gn w t i n))) (.sh (wrs w t i p n)) x10' .no) := fun x10' =>
    callN (fs := runDf (Phi T (m + 4)) d_hurt) (ws := [.now (wy w), .now (tabD t), .now (.int i)]) rfl rfl rfl rfl rfl (b := []) (hurt_run h (tk_tab h) hw hi m)
  cases e : gn w t i n with
  | none =>
    rw [e] at b1
    have ew : wrs w t i p n = .tuple [] := by unfold wrs; rw [e]
    refine ⟨x10, h10, ?_⟩
    rw [ite_0 (tst b1)]
    have hu := hu x10
    rw [ew, e] at hu
    rw [same_test (m := m + 2) (d := .tuple []) (by rw [← ew]; exact (sane_wrs h w i).1) (by rw [← ew]; exact (sane_wrs h w i).2) hu rfl, ew]
    rfl
  | some x =>
    rw [e] at b1
    have hx2 := gn_lt h e
    have ew : wrs w t i p n = .tuple (((List.range p).filter fun k => (k != i) && decide (own t k x.2 < own t k (ch w t n))).map fun k => .int (k : Nat)) := by unfold wrs; rw [e]
    refine ⟨.sh (.int (ch w t n : Nat)), rfl, ?_⟩
    have d1 : evE (Phi T (m + 5)) (.call "_law_chosen" (.cons (.v 4) (.cons (.v 3) .nil))) (eX nu p n t (.sh (wy w)) .no (.own (som w t n (i + 1))) (.sh (.int (i : Nat))) (.sh (fD (some x))) (.sh (.tuple [])) x10 .no) = .ok (.now (.int (ch w t n : Nat))) (eX nu p n t (.sh (wy w)) .no (.own (som w t n (i + 1))) (.sh (.int (i : Nat))) (.sh (fD (some x))) (.sh (.tuple [])) x10 .no) :=
      callN (fs := runDf (Phi T (m + 4)) d__law_chosen) (ws := [.now (wy w), .now (tabD t)]) rfl rfl rfl rfl rfl (b := []) (law_chosen_run h hw (m + 2))
    have hlc := lc_filter (Φ := Phi T (m + 5)) (e := .v 11) (tg := .one 11) (it := .r1 (.v 1)) (c := .some (.and (.cmp .NotEq (.v 11) (.v 7)) (.cmp .Lt (.ix (.ix (.v 3) (.v 11)) (.ix (.v 8) (.k (.int 1)))) (.ix (.ix (.v 3) (.v 11)) (.v 10))))) (own := [11]) (env := eX nu p n t (.sh (wy w)) .no (.own (som w t n (i + 1))) (.sh (.int (i : Nat))) (.sh (fD (some x))) (.sh (.tuple [])) (.sh (.int (ch w t n : Nat))) .no) (e1 := eX nu p n t (.sh (wy w)) .no (.own (som w t n (i + 1))) (.sh (.int (i : Nat))) (.sh (fD (some x))) (.sh (.tuple [])) (.sh (.int (ch w t n : Nat))) .no) (xs := List.range p) (enc := fun k => .int (k : Nat)) (f := fun k => .int (k : Nat)) (p := fun k => (k != i) && decide (own t k x.2 < own t k (ch w t n))) (by
        rw [← rg_map]
        exact i_r1 rfl (by have := h.p4; omega)) rfl rfl (fun k hk => by
      have hk : k < p := List.mem_range.mp hk
      have a1 : evE (Phi T (m + 5)) (.ix (.v 3) (.v 11)) (eX nu p n t (.sh (wy w)) .no (.own (som w t n (i + 1))) (.sh (.int (i : Nat))) (.sh (fD (some x))) (.sh (.tuple [])) (.sh (.int (ch w t n : Nat))) (.sh (.int (k : Nat)))) = .ok (.now (iT (t.getD k []))) (eX nu p n t (.sh (wy w)) .no (.own (som w t n (i + 1))) (.sh (.int (i : Nat))) (.sh (fD (some x))) (.sh (.tuple [])) (.sh (.int (ch w t n : Nat))) (.sh (.int (k : Nat)))) := ix_now rfl rfl (at_tab h hk)
      have q : (k != i) = !((k : Int) == (i : Int)) := by
        have : ((k : Int) == (i : Int)) = (k == i) := by
          rw [Bool.eq_iff_iff, beq_iff_eq, beq_iff_eq]
          omega
        rw [this]
        rfl
      rw [q]
      exact st_if (e1 := eX nu p n t (.sh (wy w)) .no (.own (som w t n (i + 1))) (.sh (.int (i : Nat))) (.sh (fD (some x))) (.sh (.tuple [])) (.sh (.int (ch w t n : Nat))) (.sh (.int (k : Nat)))) rfl (tst (and_b (cmp_nows rfl rfl (cne_int _ _)) (cmp_nows (ix_now a1 (ix_now (d := fD (some x)) (d' := .int 1) rfl rfl rfl) (at_own h hk hx2)) (ix_now a1 rfl (at_own h hk (ch_lt h))) rfl))) (fun _ => rfl) rfl) (by rw [List.length_range]; have := h.p4; omega)
    rw [seq_nxt ((ite_t (tst b1)).trans ((seq_nxt (asg_now d1 (x := x10) rfl h10)).trans ((seq_nxt (asg_now (bf_tmp hlc rfl) (x := .sh (.tuple [])) rfl rfl)).trans rfl)))]
    rw [← ew]
    show evSs _ 100 _ (eX nu p n t (.sh (wy w)) .no (.own (som w t n (i + 1))) (.sh (.int (i : Nat))) (.sh (fD (some x))) (.sh (wrs w t i p n)) (.sh (.int (ch w t n : Nat))) .no) = _
    have hu := hu (.sh (.int (ch w t n : Nat)))
    rw [e] at hu
    rw [same_test (m := m + 2) (sane_wrs h w i).1 (sane_wrs h w i).2 hu rfl]
    rfl
end
end K11

set_option Elab.async false
set_option linter.all false
set_option autoImplicit false
set_option maxRecDepth 100000
set_option maxHeartbeats 4000000
/-! # k11: the law -/
namespace K11
open PySem PyE L2 PyV PySem.W
section
variable {Φ : Fns} {t : List (List Int)} {p n m w : Nat}
def bOut : ISs := (.cons (.ite (.nt (.call "_law_same" (.cons (.call "chosen" (.cons (.v 4) (.cons (.v 3) .nil))) (.cons (.call "_law_chosen" (.cons (.v 4) (.cons (.v 3) .nil))) .nil)))) (.cons (.ret (.k (.bool false))) .nil) .nil)
(.cons (.ite (.nt (.call "_law_same" (.cons (.call "chosen" (.cons (.v 4) (.cons (.lc (.bf .list (.cons (.v 5) .nil)) (.one 5) (.seq (.v 3)) .none [5]) .nil))) (.cons (.call "_law_chosen" (.cons (.v 4) (.cons (.v 3) .nil))) .nil)))) (.cons (.ret (.k (.bool false))) .nil) .nil)
(.cons (.asg 6 (.lst .nil))
(.cons (.for_ (.one 7) (.r1 (.v 1)) bIn)
(.cons (.ite (.nt (.call "_law_same" (.cons (.call "helped" (.cons (.v 4) (.cons (.v 3) .nil))) (.cons (.bf .tuple (.cons (.v 6) .nil)) .nil)))) (.cons (.ret (.k (.bool false))) .nil) .nil)
(.cons (.ite (.and (.v 6) (.and (.cmp .NotEq (.v 4) (.k (.str "first"))) (.or (.cmp .Eq (.v 1) (.k (.int 1))) (.cmp .Eq (.lnset (.v 3)) (.k (.int 1)))))) (.cons (.ret (.k (.bool false))) .nil) .nil) .nil))))))
theorem last_test (h : Tab t p n) {nu : List Int} {w : Nat} (hw : w < 6) {x7 x8 x9 x10 : Sl} : evT Φ (.and (.v 6) (.and (.cmp .NotEq (.v 4) (.k (.str "first"))) (.or (.cmp .Eq (.v 1) (.k (.int 1))) (.cmp .Eq (.lnset (.v 3)) (.k (.int 1)))))) (eX nu p n t (.sh (wy w)) .no (.own (som w t n p)) x7 x8 x9 x10 .no) = .ok false (eX nu p n t (.sh (wy w)) .no (.own (som w t n p)) x7 x8 x9 x10 .no) := by
  cases e : som w t n p with
  | nil => rfl
  | cons d ds =>
    rw [← e]
    have a1 : evE Φ (.and (.v 6) (.and (.cmp .NotEq (.v 4) (.k (.str "first"))) (.or (.cmp .Eq (.v 1) (.k (.int 1))) (.cmp .Eq (.lnset (.v 3)) (.k (.int 1)))))) (eX nu p n t (.sh (wy w)) .no (.own (som w t n p)) x7 x8 x9 x10 .no) =
        evE Φ (.and (.cmp .NotEq (.v 4) (.k (.str "first"))) (.or (.cmp .Eq (.v 1) (.k (.int 1))) (.cmp .Eq (.lnset (.v 3)) (.k (.int 1))))) (eX nu p n t (.sh (wy w)) .no (.own (som w t n p)) x7 x8 x9 x10 .no) := by
      rw [e]
      rfl
    refine tst (a1.trans ?_)
    have a2 : evE Φ (.cmp .NotEq (.v 4) (.k (.str "first"))) (eX nu p n t (.sh (wy w)) .no (.own (som w t n p)) x7 x8 x9 x10 .no) = .ok (.now (.bool (!(w == 0)))) (eX nu p n t (.sh (wy w)) .no (.own (som w t n p)) x7 x8 x9 x10 .no) := cmp_nows rfl rfl (wyn hw (j := 0) (by decide))
    by_cases h0 : w = 0
    · subst h0
      exact and_f a2
    · have e0 : (!(w == 0)) = true := by simp [h0]
      rw [e0] at a2
      rw [and_t a2]
      -- somebody gains
      have hm : d ∈ som w t n p := by rw [e]; exact List.mem_cons_self
      unfold som at hm
      obtain ⟨i, hi, _⟩ := List.mem_map.mp hm
      obtain ⟨hi1, hi2⟩ := List.mem_filter.mp hi
      have hip : i < p := List.mem_range.mp hi1
      have no : ∀ r0, (∀ r ∈ t, r = r0) → False := fun r0 hs => by
        rw [same_none h hs hw h0 hip] at hi2
        cases hi2
      have p1 : ((p : Int) == 1) = false := by
        cases c : ((p : Int) == 1) with
        | false => rfl
        | true =>
          rw [beq_iff_eq] at c
          obtain ⟨r, rs, et, _⟩ := h.hd
          have hl := h.len
          rw [et, List.length_cons] at hl
          have : rs = [] := List.eq_nil_of_length_eq_zero (by omega)
          subst this
          exact (no r fun q hq => by rw [et] at hq; exact List.mem_singleton.mp hq).elim
      have l1 : (((ndup t).length : Int) == 1) = false := by
        cases c : (((ndup t).length : Int) == 1) with
        | false => rfl
        | true =>
          rw [beq_iff_eq] at c
          obtain ⟨r0, hr⟩ := one_same (t := t) (by omega)
          exact (no r0 hr).elim
      have a3 : evE Φ (.cmp .Eq (.v 1) (.k (.int 1))) (eX nu p n t (.sh (wy w)) .no (.own (som w t n p)) x7 x8 x9 x10 .no) = .ok (.now (.bool false)) (eX nu p n t (.sh (wy w)) .no (.own (som w t n p)) x7 x8 x9 x10 .no) := by
        have : cmpD .Eq (.int (p : Nat)) (.int 1) = some false := by rw [ceq_int, p1]
        exact cmp_nows rfl rfl this
      have a4 : evE Φ (.lnset (.v 3)) (eX nu p n t (.sh (wy w)) .no (.own (som w t n p)) x7 x8 x9 x10 .no) = .ok (.now (.int ((ndup t).length : Nat))) (eX nu p n t (.sh (wy w)) .no (.own (som w t n p)) x7 x8 x9 x10 .no) := by
        show Rs.opt (lnsetD (tabD t)) _ = _
        rw [lnset_tab h]
      rw [or_f a3]
      exact cmp_nows a4 rfl (by rw [ceq_int, l1])
theorem out_turn (h : Tab t p n) {nu : List Int} {w : Nat} (hw : w < 6) (m : Nat) {x6 x7 x8 x9 x10 : Sl} (h6 : nb x6 = true) (h7 : nb x7 = true) (h8 : nb x8 = true) (h9 : nb x9 = true) (h10 : nb x10 = true) :
    ∃ y6 y7 y8 y9 y10, nb y6 = true ∧ nb y7 = true ∧ nb y8 = true ∧ nb y9 = true ∧ nb y10 = true ∧ evSs (Phi T (m + 5)) 100 bOut (eX nu p n t (.sh (wy w)) .no x6 x7 x8 x9 x10 .no) = .nxt (eX nu p n t (.sh (wy w)) .no y6 y7 y8 y9 y10 .no) := by
  have s0 : ∀ k : Nat, sane (.int (k : Nat)) = true := fun k => by simp [sane]
  have c1 : evE (Phi T (m + 5)) (.call "chosen" (.cons (.v 4) (.cons (.v 3) .nil))) (eX nu p n t (.sh (wy w)) .no x6 x7 x8 x9 x10 .no) = .ok (.now (.int (ch w t n : Nat))) (eX nu p n t (.sh (wy w)) .no x6 x7 x8 x9 x10 .no) :=
    callN (fs := runDf (Phi T (m + 4)) d_chosen) (ws := [.now (wy w), .now (tabD t)]) rfl rfl rfl rfl rfl (b := []) (chosen_run h (tk_tab h) hw m)
  have c2 : evE (Phi T (m + 5)) (.call "_law_chosen" (.cons (.v 4) (.cons (.v 3) .nil))) (eX nu p n t (.sh (wy w)) .no x6 x7 x8 x9 x10 .no) = .ok (.now (.int (ch w t n : Nat))) (eX nu p n t (.sh (wy w)) .no x6 x7 x8 x9 x10 .no) :=
    callN (fs := runDf (Phi T (m + 4)) d__law_chosen) (ws := [.now (wy w), .now (tabD t)]) rfl rfl rfl rfl rfl (b := []) (law_chosen_run h hw (m + 2))
  have hlc := lc_map (Φ := Phi T (m + 5)) (e := .bf .list (.cons (.v 5) .nil)) (tg := .one 5) (it := .seq (.v 3)) (own := [5]) (env := eX nu p n t (.sh (wy w)) .no x6 x7 x8 x9 x10 .no) (e1 := eX nu p n t (.sh (wy w)) .no x6 x7 x8 x9 x10 .no) (xs := t) (enc := iT) (f := iL) rfl rfl rfl (fun r _ => rfl) (by rw [h.len]; have := h.p4; omega)
  have c3 : evE (Phi T (m + 5)) (.call "chosen" (.cons (.v 4) (.cons (.lc (.bf .list (.cons (.v 5) .nil)) (.one 5) (.seq (.v 3)) .none [5]) .nil))) (eX nu p n t (.sh (wy w)) .no x6 x7 x8 x9 x10 .no) = .ok (.now (.int (ch w t n : Nat))) (eX nu p n t (.sh (wy w)) .no x6 x7 x8 x9 x10 .no) :=
    callN (fs := runDf (Phi T (m + 4)) d_chosen) (ws := [.now (wy w), .tmp (t.map iL)]) rfl (es_cons rfl (es_cons hlc rfl)) rfl rfl rfl (b := []) (chosen_run h (tk_ls h) hw m)
  unfold bOut
  rw [same_test (m := m + 2) (s0 _) (Nat.zero_le _) c1 c2, same_test (m := m + 2) (s0 _) (Nat.zero_le _) c3 c2]
  rw [seq_nxt (asg_tmp (ds := []) (x := x6) rfl rfl h6)]
  show ∃ y6 y7 y8 y9 y10, nb y6 = true ∧ nb y7 = true ∧ nb y8 = true ∧ nb y9 = true ∧ nb y10 = true ∧ evSs _ 100 _ (eX nu p n t (.sh (wy w)) .no (.own []) x7 x8 x9 x10 .no) = _
  have hI : evI (Phi T (m + 5)) (.r1 (.v 1)) (eX nu p n t (.sh (wy w)) .no (.own []) x7 x8 x9 x10 .no) = .ok (rgD 0 p) (eX nu p n t (.sh (wy w)) .no (.own []) x7 x8 x9 x10 .no) := i_r1 rfl (by have := h.p4; omega)
  obtain ⟨e, q1, y7, y8, y9, y10, g7, g8, g9, g10, rfl⟩ := forL_range (f := fun x e => match putT e (.one 7) x with
      | some e2 => evSs (Phi T (m + 5)) 100 bIn e2
      | none => .stuck) (R := fun c env => ∃ x7 x8 x9 x10, nb x7 = true ∧ nb x8 = true ∧ nb x9 = true ∧ nb x10 = true ∧ env = eX nu p n t (.sh (wy w)) .no (.own (som w t n c)) x7 x8 x9 x10 .no) p (env := eX nu p n t (.sh (wy w)) .no (.own []) x7 x8 x9 x10 .no) ⟨x7, x8, x9, x10, h7, h8, h9, h10, rfl⟩ (by
    rintro i hi env ⟨x7, x8, x9, x10, h7, h8, h9, h10, rfl⟩
    have hp : putT (eX nu p n t (.sh (wy w)) .no (.own (som w t n i)) x7 x8 x9 x10 .no) (.one 7) (.int (i : Nat)) = some (eX nu p n t (.sh (wy w)) .no (.own (som w t n i)) (.sh (.int (i : Nat))) x8 x9 x10 .no) := putS_nb (x := x7) rfl h7
    obtain ⟨z10, hz, e⟩ := in_turn h (nu := nu) hw hi m h8 h9 h10
    refine ⟨_, ?_, .sh (.int (i : Nat)), .sh (fD (gn w t i n)), .sh (wrs w t i p n), z10, rfl, rfl, rfl, hz, rfl⟩
    show (match putT (eX nu p n t (.sh (wy w)) .no (.own (som w t n i)) x7 x8 x9 x10 .no) (.one 7) (.int (i : Nat)) with
      | some e2 => evSs _ 100 bIn e2
      | none => FR.stuck) = _
    rw [hp]
    exact e)
  rw [seq_nxt ((for_eq hI).trans q1)]
  have c4 : evE (Phi T (m + 5)) (.call "helped" (.cons (.v 4) (.cons (.v 3) .nil))) (eX nu p n t (.sh (wy w)) .no (.own (som w t n p)) y7 y8 y9 y10 .no) = .ok (.now (hlp w t p n)) (eX nu p n t (.sh (wy w)) .no (.own (som w t n p)) y7 y8 y9 y10 .no) :=
    callN (fs := runDf (Phi T (m + 4)) d_helped) (ws := [.now (wy w), .now (tabD t)]) rfl rfl rfl rfl rfl (b := []) (helped_run h (tk_tab h) hw m)
  have c5 : evE (Phi T (m + 5)) (.bf .tuple (.cons (.v 6) .nil)) (eX nu p n t (.sh (wy w)) .no (.own (som w t n p)) y7 y8 y9 y10 .no) = .ok (.now (hlp w t p n)) (eX nu p n t (.sh (wy w)) .no (.own (som w t n p)) y7 y8 y9 y10 .no) := rfl
  rw [same_test (m := m + 2) (sane_hlp h w).1 (sane_hlp h w).2 c4 c5, ite_0 (last_test h hw)]
  exact ⟨_, y7, y8, y9, y10, rfl, g7, g8, g9, g10, rfl⟩
def tailR : ISs := (.cons (.for_ (.one 4) (.seq (.call "_law_ways" .nil)) bOut) (.cons (.ret (.nt (.call "_law_gain" (.cons (.k (.str "lead")) (.cons (.v 3) (.cons (.k (.int 0)) .nil)))))) .nil))
theorem tail_run (h : Tab t p n) (nu : List Int) (m : Nat) : ∃ e, evSs (Phi T (m + 5)) 100 tailR (eX nu p n t .no .no .no .no .no .no .no .no) = .ret (.bool true) e := by
  have hI : evI (Phi T (m + 5)) (.seq (.call "_law_ways" .nil)) (eX nu p n t .no .no .no .no .no .no .no .no) = .ok [wy 0, wy 1, wy 2, wy 3, wy 4, wy 5] (eX nu p n t .no .no .no .no .no .no .no .no) := rfl
  obtain ⟨e, q1, x4, x6, x7, x8, x9, x10, g4, g6, g7, g8, g9, g10, rfl⟩ := forL_inv (f := fun x e => match putT e (.one 4) x with
      | some e2 => evSs (Phi T (m + 5)) 100 bOut e2
      | none => .stuck) (P := fun env => ∃ x4 x6 x7 x8 x9 x10, nb x4 = true ∧ nb x6 = true ∧ nb x7 = true ∧ nb x8 = true ∧ nb x9 = true ∧ nb x10 = true ∧ env = eX nu p n t x4 .no x6 x7 x8 x9 x10 .no) (xs := [wy 0, wy 1, wy 2, wy 3, wy 4, wy 5]) (env := eX nu p n t .no .no .no .no .no .no .no .no) ⟨.no, .no, .no, .no, .no, .no, rfl, rfl, rfl, rfl, rfl, rfl, rfl⟩ (by
    rintro x hx env ⟨x4, x6, x7, x8, x9, x10, h4, h6, h7, h8, h9, h10, rfl⟩
    have hw : ∃ w, w < 6 ∧ x = wy w := by
      simp only [List.mem_cons, List.not_mem_nil, or_false] at hx
      rcases hx with e | e | e | e | e | e
      · exact ⟨0, by decide, e⟩
      · exact ⟨1, by decide, e⟩
      · exact ⟨2, by decide, e⟩
      · exact ⟨3, by decide, e⟩
      · exact ⟨4, by decide, e⟩
      · exact ⟨5, by decide, e⟩
    obtain ⟨w, hw, rfl⟩ := hw
    have hp : putT (eX nu p n t x4 .no x6 x7 x8 x9 x10 .no) (.one 4) (wy w) = some (eX nu p n t (.sh (wy w)) .no x6 x7 x8 x9 x10 .no) := putS_nb (x := x4) rfl h4
    obtain ⟨y6, y7, y8, y9, y10, g6, g7, g8, g9, g10, e⟩ := out_turn h (nu := nu) hw m h6 h7 h8 h9 h10
    refine ⟨_, ?_, .sh (wy w), y6, y7, y8, y9, y10, rfl, g6, g7, g8, g9, g10, rfl⟩
    show (match putT (eX nu p n t x4 .no x6 x7 x8 x9 x10 .no) (.one 4) (wy w) with
      | some e2 => evSs _ 100 bOut e2
      | none => FR.stuck) = _
    rw [hp]
    exact e)
  have c1 : evE (Phi T (m + 5)) (.call "_law_gain" (.cons (.k (.str "lead")) (.cons (.v 3) (.cons (.k (.int 0)) .nil)))) (eX nu p n t x4 .no x6 x7 x8 x9 x10 .no) = .ok (.now .none) (eX nu p n t x4 .no x6 x7 x8 x9 x10 .no) := by
    refine callN (fs := runDf (Phi T (m + 4)) d__law_gain) (ws := [.now (wy 5), .now (tabD t), .now (.int ((0 : Nat) : Int))]) rfl rfl rfl rfl rfl (b := []) ((law_gain_run h (w := 5) (by decide) (by have := h.p1; omega) (m + 1)).trans ?_)
    rw [lead_none h]
    rfl
  have c2 : evE (Phi T (m + 5)) (.nt (.call "_law_gain" (.cons (.k (.str "lead")) (.cons (.v 3) (.cons (.k (.int 0)) .nil))))) (eX nu p n t x4 .no x6 x7 x8 x9 x10 .no) = .ok (.now (.bool true)) (eX nu p n t x4 .no x6 x7 x8 x9 x10 .no) := by
    unfold evE
    rw [c1]
    rfl
  refine ⟨eX nu p n t x4 .no x6 x7 x8 x9 x10 .no, ?_⟩
  unfold tailR
  rw [seq_nxt ((for_eq hI).trans q1), seq_ret (ret_now c2)]
theorem Tab.rep (h : Tab t p n) : ∃ r0, ixD (tabD t) (.int 0) = some (iT r0) ∧ Tab (List.replicate p r0) p n := by
  obtain ⟨r, rs, e, hr⟩ := h.hd
  refine ⟨r, ?_, ?_⟩
  · have := at_tab h (i := 0) (by have := h.p1; omega)
    rw [e] at this ⊢
    exact this
  · have hm : ∀ q ∈ List.replicate p r, q = r := fun q hq => List.eq_of_mem_replicate hq
    refine ⟨List.length_replicate, h.p1, h.p4, h.n1, h.n4, fun q hq => by rw [hm q hq]; exact hr, fun q hq => by rw [hm q hq]; exact h.val r (by rw [e]; exact List.mem_cons_self)⟩
theorem rep_flat (r0 : List Int) : ∀ p : Nat, (List.replicate p [iT r0]).flatten = (List.replicate p r0).map iT
  | 0 => rfl
  | p + 1 => by rw [List.replicate_succ, List.replicate_succ, List.flatten_cons, rep_flat r0 p]; rfl
theorem run_run (nu : List Int) (hl : nu.length = 8) (m : Nat) : (runDf (Phi T (m + 5)) d__law_run).run [iL nu] = .ret (.bool true) [] := by
  match nu, hl with
  | [a0, a1, a2, a3, a4, a5, a6, a7], _ =>
    have hp : ∃ p : Nat, 1 ≤ p ∧ p ≤ 4 ∧ (1 + a0 % 4 : Int) = (p : Nat) := ⟨(1 + a0 % 4).toNat, by omega, by omega, by omega⟩
    have hn : ∃ n : Nat, 1 ≤ n ∧ n ≤ 4 ∧ (1 + a1 % 4 : Int) = (n : Nat) := ⟨(1 + a1 % 4).toNat, by omega, by omega, by omega⟩
    obtain ⟨p, p1, p4, ep⟩ := hp
    obtain ⟨n, n1, n4, en⟩ := hn
    obtain ⟨t, h, ht⟩ := table_run (p := p) (n := n) (l := [a2, a3, a4, a5]) rfl p1 p4 n1 n4 (Phi T (m + 4))
    show frR (evSs (Phi T (m + 5)) 100 b__law_run [.sh (iL [a0, a1, a2, a3, a4, a5, a6, a7]), .no, .no, .no, .no, .no, .no, .no, .no, .no, .no, .no]) = _
    have s1 : evE (Phi T (m + 5)) (.bin .Add (.k (.int 1)) (.bin .Mod (.bf .int (.cons (.ix (.v 0) (.k (.int 0))) .nil)) (.k (.int 4)))) [.sh (iL [a0, a1, a2, a3, a4, a5, a6, a7]), .no, .no, .no, .no, .no, .no, .no, .no, .no, .no, .no] = .ok (.now (.int (p : Nat))) [.sh (iL [a0, a1, a2, a3, a4, a5, a6, a7]), .no, .no, .no, .no, .no, .no, .no, .no, .no, .no, .no] := by
      rw [← ep]
      rfl
    have s2 : evE (Phi T (m + 5)) (.bin .Add (.k (.int 1)) (.bin .Mod (.bf .int (.cons (.ix (.v 0) (.k (.int 1))) .nil)) (.k (.int 4)))) [.sh (iL [a0, a1, a2, a3, a4, a5, a6, a7]), .sh (.int (p : Nat)), .no, .no, .no, .no, .no, .no, .no, .no, .no, .no] = .ok (.now (.int (n : Nat))) [.sh (iL [a0, a1, a2, a3, a4, a5, a6, a7]), .sh (.int (p : Nat)), .no, .no, .no, .no, .no, .no, .no, .no, .no, .no] := by
      rw [← en]
      rfl
    have s3 : evE (Phi T (m + 5)) (.call "_law_table" (.cons (.sl (.v 0) (.some (.k (.int 2))) (.some (.k (.int 6)))) (.cons (.v 1) (.cons (.v 2) .nil)))) [.sh (iL [a0, a1, a2, a3, a4, a5, a6, a7]), .sh (.int (p : Nat)), .sh (.int (n : Nat)), .no, .no, .no, .no, .no, .no, .no, .no, .no] = .ok (.now (tabD t)) [.sh (iL [a0, a1, a2, a3, a4, a5, a6, a7]), .sh (.int (p : Nat)), .sh (.int (n : Nat)), .no, .no, .no, .no, .no, .no, .no, .no, .no] :=
      callN (fs := runDf (Phi T (m + 4)) d__law_table) (ws := [.tmp ([a2, a3, a4, a5].map .int), .now (.int (p : Nat)), .now (.int (n : Nat))]) rfl rfl rfl rfl rfl (b := []) ht
    unfold b__law_run
    rw [seq_nxt (asg_now s1 (x := .no) rfl rfl)]
    show frR (evSs _ 100 _ [.sh (iL [a0, a1, a2, a3, a4, a5, a6, a7]), .sh (.int (p : Nat)), .no, .no, .no, .no, .no, .no, .no, .no, .no, .no]) = _
    rw [seq_nxt (asg_now s2 (x := .no) rfl rfl)]
    show frR (evSs _ 100 _ [.sh (iL [a0, a1, a2, a3, a4, a5, a6, a7]), .sh (.int (p : Nat)), .sh (.int (n : Nat)), .no, .no, .no, .no, .no, .no, .no, .no, .no]) = _
    rw [seq_nxt (asg_now s3 (x := .no) rfl rfl)]
    show frR (evSs _ 100 _ (eX [a0, a1, a2, a3, a4, a5, a6, a7] p n t .no .no .no .no .no .no .no .no)) = _
    have s4 : evT (Phi T (m + 5)) (.cmp .Eq (.bin .Mod (.bf .int (.cons (.ix (.v 0) (.k (.int 6))) .nil)) (.k (.int 5))) (.k (.int 0))) (eX [a0, a1, a2, a3, a4, a5, a6, a7] p n t .no .no .no .no .no .no .no .no) = .ok (a6 % 5 == 0) (eX [a0, a1, a2, a3, a4, a5, a6, a7] p n t .no .no .no .no .no .no .no .no) := rfl
    cases c : a6 % 5 == 0 with
    | false =>
      rw [c] at s4
      rw [seq_nxt ((ite_f s4).trans rfl)]
      obtain ⟨e, q⟩ := tail_run h [a0, a1, a2, a3, a4, a5, a6, a7] m
      exact congrArg frR q
    | true =>
      rw [c] at s4
      obtain ⟨r0, hr, h2⟩ := h.rep
      have s5 : evE (Phi T (m + 5)) (.bin .Mult (.tup (.cons (.ix (.v 3) (.k (.int 0))) .nil)) (.v 1)) (eX [a0, a1, a2, a3, a4, a5, a6, a7] p n t .no .no .no .no .no .no .no .no) = .ok (.now (tabD (List.replicate p r0))) (eX [a0, a1, a2, a3, a4, a5, a6, a7] p n t .no .no .no .no .no .no .no .no) := by
        refine bin_now (d := .tuple [iT r0]) (d' := .int (p : Nat)) (tup_of (es_cons (ix_now rfl rfl hr) rfl) rfl rfl) rfl ?_
        have hb : inB 1000 (p : Int) = true := Nat.ble_eq_true_of_le (by omega)
        show (if (!([iT r0] : List D).isEmpty && decide (([iT r0] : List D).length ≤ 1000) && decide ((1 : Int) ≤ (p : Int)) && inB 1000 (p : Int)) = true then some (Vw.now (.tuple (List.replicate ((p : Int)).toNat [iT r0]).flatten)) else none) = _
        rw [hb, decide_eq_true (show (1 : Int) ≤ (p : Int) by omega)]
        show some (Vw.now (PyData.tuple (List.replicate p [iT r0]).flatten)) = _
        rw [rep_flat]
      rw [seq_nxt ((ite_t s4).trans ((seq_nxt (asg_now s5 (x := .sh (tabD t)) rfl rfl)).trans rfl))]
      obtain ⟨e, q⟩ := tail_run h2 [a0, a1, a2, a3, a4, a5, a6, a7] m
      exact congrArg frR q
def bRun : ISs := (.cons (.ite (.nt (.call "_law_run" (.cons (.call "_law_draws" (.cons (.v 0) (.cons (.v 1) (.cons (.k (.int 8)) .nil)))) .nil))) (.cons (.ret (.k (.bool false))) .nil) .nil) .nil)
theorem law_loop (ns : List Int) : ∃ x1, evS (Phi T 12) 100 (.for_ (.one 1) (.r1 (.k (.int 4))) bRun) [.sh (iL ns), .no, .no, .no, .no] = .nxt [.sh (iL ns), x1, .no, .no, .no] := by
  have hI : evI (Phi T 12) (.r1 (.k (.int 4))) [.sh (iL ns), .no, .no, .no, .no] = .ok (rgD 0 4) [.sh (iL ns), .no, .no, .no, .no] := rfl
  obtain ⟨e, q1, x1, _, rfl⟩ := forL_range (f := fun x e => match putT e (.one 1) x with
      | some e2 => evSs (Phi T 12) 100 bRun e2
      | none => .stuck) (R := fun _ env => ∃ x1, nb x1 = true ∧ env = [.sh (iL ns), x1, .no, .no, .no]) 4 (env := [.sh (iL ns), .no, .no, .no, .no]) ⟨.no, rfl, rfl⟩ (by
    rintro i hi env ⟨x1, h1, rfl⟩
    have hp : putT [.sh (iL ns), x1, .no, .no, .no] (.one 1) (.int (i : Nat)) = some [.sh (iL ns), .sh (.int (i : Nat)), .no, .no, .no] := putS_nb (x := x1) rfl h1
    refine ⟨[.sh (iL ns), .sh (.int (i : Nat)), .no, .no, .no], ?_, _, rfl, rfl⟩
    show (match putT [.sh (iL ns), x1, .no, .no, .no] (.one 1) (.int (i : Nat)) with
      | some e2 => evSs _ 100 bRun e2
      | none => FR.stuck) = _
    rw [hp]
    show evSs _ 100 bRun [.sh (iL ns), .sh (.int (i : Nat)), .no, .no, .no] = _
    obtain ⟨xs, hx, _, hr⟩ := draws_run (Phi T 11) ns i 8 (by decide)
    have c1 : evE (Phi T 12) (.call "_law_draws" (.cons (.v 0) (.cons (.v 1) (.cons (.k (.int 8)) .nil)))) [.sh (iL ns), .sh (.int (i : Nat)), .no, .no, .no] = .ok (.now (iL xs)) [.sh (iL ns), .sh (.int (i : Nat)), .no, .no, .no] :=
      callN (fs := runDf (Phi T 11) d__law_draws) (ws := [.now (iL ns), .now (.int (i : Nat)), .now (.int 8)]) rfl rfl rfl rfl rfl (b := []) hr
    have c2 : evE (Phi T 12) (.call "_law_run" (.cons (.call "_law_draws" (.cons (.v 0) (.cons (.v 1) (.cons (.k (.int 8)) .nil)))) .nil)) [.sh (iL ns), .sh (.int (i : Nat)), .no, .no, .no] = .ok (.now (.bool true)) [.sh (iL ns), .sh (.int (i : Nat)), .no, .no, .no] :=
      callN (fs := runDf (Phi T 11) d__law_run) (ws := [.now (iL xs)]) rfl (es_cons c1 rfl) rfl rfl rfl (b := []) (run_run xs hx 6)
    unfold bRun
    rw [ite_0 (tst (nt_now (x := true) c2))]
    rfl)
  exact ⟨x1, (for_eq hI).trans q1⟩
end
end K11

set_option Elab.async false
set_option linter.all false
set_option autoImplicit false
set_option maxRecDepth 100000
set_option maxHeartbeats 4000000
/-! # k11: the law's end -/
namespace K11
open PySem PyE L2 PyV PySem.W
def sRight : IS := (.asg 2 (.lst (.cons (.k (.str "sum")) (.cons (.tup (.cons (.tup (.cons (.k (.int 2)) (.cons (.k (.int 1)) .nil))) (.cons (.tup (.cons (.k (.int 0)) (.cons (.k (.int 2)) .nil))) .nil))) (.cons (.k (.int 0)) .nil)))))
def sWrong : IS := (.asg 3 (.lst (.cons (.tup (.cons (.k (.int 0)) (.cons (.k (.str "best")) (.cons (.k (.int 1)) .nil)))) (.cons (.tup (.cons (.k (.int 0)) (.cons (.k (.int 3)) (.cons (.k (.int 1)) .nil)))) (.cons (.tup (.cons (.k (.int 1)) (.cons (.tup .nil) (.cons (.k (.int 2)) .nil)))) (.cons (.tup (.cons (.k (.int 1)) (.cons (.tup (.cons (.tup (.cons (.k (.int 2)) (.cons (.k (.int 1)) .nil))) (.cons (.tup (.cons (.k (.int 0)) .nil)) .nil))) (.cons (.k (.int 2)) .nil)))) (.cons (.tup (.cons (.k (.int 1)) (.cons (.tup (.cons (.tup (.cons (.k (.int 2)) (.cons (.k (.int 3)) .nil))) .nil)) (.cons (.k (.int 2)) .nil)))) (.cons (.tup (.cons (.k (.int 1)) (.cons (.tup (.cons (.tup (.cons (.k (.bool true)) (.cons (.k (.int 1)) .nil))) .nil)) (.cons (.k (.int 2)) .nil)))) (.cons (.tup (.cons (.k (.int 1)) (.cons (.tup (.cons (.tup .nil) .nil)) (.cons (.k (.int 2)) .nil)))) (.cons (.tup (.cons (.k (.int 2)) (.cons (.k (.int 2)) (.cons (.k (.int 3)) .nil)))) (.cons (.tup (.cons (.k (.int 2)) (.cons (.neg (.k (.int 1))) (.cons (.k (.int 3)) .nil)))) (.cons (.tup (.cons (.k (.int 2)) (.cons (.k (.bool false)) (.cons (.k (.int 3)) .nil)))) .nil))))))))))))
def sRef : IS := (.for_ (.one 4) (.seq (.v 3)) (.cons (.ite (.nt (.call "_law_refused" (.cons (.bin .Add (.bin .Add (.sl (.v 2) .none (.some (.ix (.v 4) (.k (.int 0))))) (.lst (.cons (.ix (.v 4) (.k (.int 1))) .nil))) (.sl (.v 2) (.some (.bin .Add (.ix (.v 4) (.k (.int 0))) (.k (.int 1)))) .none)) (.cons (.ix (.v 4) (.k (.int 2))) .nil)))) (.cons (.ret (.k (.bool false))) .nil) .nil) .nil))
def sEnd : IS := (.ret (.and (.call "_law_same" (.cons (.call "gain" (.cons (.k (.str "sum")) (.cons (.ix (.v 2) (.k (.int 1))) (.cons (.k (.int 0)) .nil)))) (.cons (.tup (.cons (.tup (.cons (.k (.int 2)) (.cons (.k (.int 0)) .nil))) (.cons (.k (.int 0)) .nil))) .nil))) (.call "_law_same" (.cons (.call "gain" (.cons (.k (.str "first")) (.cons (.ix (.v 2) (.k (.int 1))) (.cons (.k (.int 0)) .nil)))) (.cons (.tup (.cons (.tup (.cons (.k (.int 1)) (.cons (.k (.int 0)) .nil))) (.cons (.k (.int 0)) .nil))) .nil)))))
def tl : ISs := .cons sRight (.cons sWrong (.cons sRef (.cons sEnd .nil)))
theorem tl_run (s x1 : Sl) : frR (evSs (Phi T 12) 100 tl [s, x1, .no, .no, .no]) = .ret (.bool true) [] := by
  unfold tl sRight sWrong sRef sEnd
  kernel_rfl
theorem plain : ∀ ns : List Int, ns.length ≤ 63 → ∃ b, (runDf (Phi T 12) d_law).run [.list (ns.map .int)] = .ret (.bool true) b := by
  intro ns _
  obtain ⟨x1, h1⟩ := law_loop ns
  refine ⟨[], ?_⟩
  show frR (evSs (Phi T 12) 100 (.cons (.for_ (.one 1) (.r1 (.k (.int 4))) bRun) tl) [.sh (iL ns), .no, .no, .no, .no]) = _
  rw [seq_nxt h1]
  exact tl_run _ _
end K11

open PySem PySem.W PyProof.Rows
set_option maxRecDepth 100000 in
set_option maxHeartbeats 0 in
theorem PySem.Challenge.cw_suitday_k11_chosen_and_gained_holds : PySem.Challenge.rw_suitday_k11_chosen_and_gained.Holds := by
  w_on; o_law; k_head; (case hw => w_witness2)
  k_fill
  refine PyE.walk (l := PySem.Challenge.rw_suitday_k11_chosen_and_gained) (m := 12) rfl rfl ⟨rfl, by decide, by decide⟩ (fun w h Y => PySem.W.kIn_of Y) ?F
  case F =>
    intro w mg fa h KX G hmg0
    have hmg : mg ("law" : PySem.Str) = some (.ref fa) := hmg0
    clear hmg0
    refine' PyE.law_fn (P := PySem.Challenge.rw_suitday_k11_chosen_and_gained.prog) (w := w) (T := K11.T) (con := K11.con) (mb := K11.mb) (m := 12) (d := K11.d_law) (PyE.TopOk.mk ?t1 ?t4 ?t2 ?t5 ?t3) (by simp [K11.T]) rfl hmg rfl K11.plain
    case t1 =>
      refine' (PyE.all_cons ?e0 (PyE.all_cons ?e1 (PyE.all_cons ?e2 (PyE.all_cons ?e3 (PyE.all_cons ?e4 (PyE.all_cons ?e5 (PyE.all_cons ?e6 (PyE.all_cons ?e7 (PyE.all_cons ?e8 (PyE.all_cons ?e9 (PyE.all_cons ?e10 (PyE.all_cons ?e11 (PyE.all_cons ?e12 (PyE.all_cons ?e13 (PyE.all_cons ?e14 (PyE.all_cons ?e15 (PyE.all_cons ?e16 (PyE.all_cons ?e17 (PyE.all_cons ?e18 (PyE.all_cons ?e19 (PyE.all_cons ?e20 (PyE.all_cons ?e21 (PyE.all_cons ?e22 (PyE.all_cons ?e23 (PyE.all_cons ?e24 (PyE.all_cons ?e25 (PyE.all_cons ?e26 (PyE.all_cons ?e27 (PyE.all_cons ?e28 (PyE.all_cons ?e29 (PyE.all_cons ?e30 (PyE.all_cons ?e31 PyE.all_nil))))))))))))))))))))))))))))))))
      (case e0 => (refine' PyE.df_ok (x := "too_deep") (st := K11.top 5) KX G rfl ?a ?l ?c ?k K11.bnd_too_deep K11.scp_too_deep K11.chk_too_deep (by decide)); (case a => k_is); (case l => k_is); (case c => k_is); (case k => k_is))
      (case e1 => (refine' PyE.df_ok (x := "as_tuples") (st := K11.top 6) KX G rfl ?a ?l ?c ?k K11.bnd_as_tuples K11.scp_as_tuples K11.chk_as_tuples (by decide)); (case a => k_is); (case l => k_is); (case c => k_is); (case k => k_is))
      (case e2 => (refine' PyE.df_ok (x := "plain") (st := K11.top 7) KX G rfl ?a ?l ?c ?k K11.bnd_plain K11.scp_plain K11.chk_plain (by decide)); (case a => k_is); (case l => k_is); (case c => k_is); (case k => k_is))
      (case e3 => (refine' PyE.df_ok (x := "is_int") (st := K11.top 8) KX G rfl ?a ?l ?c ?k K11.bnd_is_int K11.scp_is_int K11.chk_is_int (by decide)); (case a => k_is); (case l => k_is); (case c => k_is); (case k => k_is))
      (case e4 => (refine' PyE.df_ok (x := "in_range") (st := K11.top 9) KX G rfl ?a ?l ?c ?k K11.bnd_in_range K11.scp_in_range K11.chk_in_range (by decide)); (case a => k_is); (case l => k_is); (case c => k_is); (case k => k_is))
      (case e5 => (refine' PyE.df_ok (x := "is_tuple") (st := K11.top 10) KX G rfl ?a ?l ?c ?k K11.bnd_is_tuple K11.scp_is_tuple K11.chk_is_tuple (by decide)); (case a => k_is); (case l => k_is); (case c => k_is); (case k => k_is))
      (case e6 => (refine' PyE.df_ok (x := "need") (st := K11.top 11) KX G rfl ?a ?l ?c ?k K11.bnd_need K11.scp_need K11.chk_need (by decide)); (case a => k_is); (case l => k_is); (case c => k_is); (case k => k_is))
      (case e7 => (refine' PyE.df_ok (x := "all_rows") (st := K11.top 13) KX G rfl ?a ?l ?c ?k K11.bnd_all_rows K11.scp_all_rows K11.chk_all_rows (by decide)); (case a => k_is); (case l => k_is); (case c => k_is); (case k => k_is))
      (case e8 => (refine' PyE.df_ok (x := "with_row") (st := K11.top 14) KX G rfl ?a ?l ?c ?k K11.bnd_with_row K11.scp_with_row K11.chk_with_row (by decide)); (case a => k_is); (case l => k_is); (case c => k_is); (case k => k_is))
      (case e9 => (refine' PyE.df_ok (x := "way_form") (st := K11.top 18) KX G rfl ?a ?l ?c ?k K11.bnd_way_form K11.scp_way_form K11.chk_way_form (by decide)); (case a => k_is); (case l => k_is); (case c => k_is); (case k => k_is))
      (case e10 => (refine' PyE.df_ok (x := "row_form") (st := K11.top 19) KX G rfl ?a ?l ?c ?k K11.bnd_row_form K11.scp_row_form K11.chk_row_form (by decide)); (case a => k_is); (case l => k_is); (case c => k_is); (case k => k_is))
      (case e11 => (refine' PyE.df_ok (x := "table_form") (st := K11.top 20) KX G rfl ?a ?l ?c ?k K11.bnd_table_form K11.scp_table_form K11.chk_table_form (by decide)); (case a => k_is); (case l => k_is); (case c => k_is); (case k => k_is))
      (case e12 => (refine' PyE.df_ok (x := "rank") (st := K11.top 21) KX G rfl ?a ?l ?c ?k K11.bnd_rank K11.scp_rank K11.chk_rank (by decide)); (case a => k_is); (case l => k_is); (case c => k_is); (case k => k_is))
      (case e13 => (refine' PyE.df_ok (x := "chosen_by") (st := K11.top 22) KX G rfl ?a ?l ?c ?k K11.bnd_chosen_by K11.scp_chosen_by K11.chk_chosen_by (by decide)); (case a => k_is); (case l => k_is); (case c => k_is); (case k => k_is))
      (case e14 => (refine' PyE.df_ok (x := "gain_by") (st := K11.top 23) KX G rfl ?a ?l ?c ?k K11.bnd_gain_by K11.scp_gain_by K11.chk_gain_by (by decide)); (case a => k_is); (case l => k_is); (case c => k_is); (case k => k_is))
      (case e15 => (refine' PyE.df_ok (x := "helped_by") (st := K11.top 24) KX G rfl ?a ?l ?c ?k K11.bnd_helped_by K11.scp_helped_by K11.chk_helped_by (by decide)); (case a => k_is); (case l => k_is); (case c => k_is); (case k => k_is))
      (case e16 => (refine' PyE.df_ok (x := "chosen") (st := K11.top 25) KX G rfl ?a ?l ?c ?k K11.bnd_chosen K11.scp_chosen K11.chk_chosen (by decide)); (case a => k_is); (case l => k_is); (case c => k_is); (case k => k_is))
      (case e17 => (refine' PyE.df_ok (x := "gain") (st := K11.top 26) KX G rfl ?a ?l ?c ?k K11.bnd_gain K11.scp_gain K11.chk_gain (by decide)); (case a => k_is); (case l => k_is); (case c => k_is); (case k => k_is))
      (case e18 => (refine' PyE.df_ok (x := "helped") (st := K11.top 27) KX G rfl ?a ?l ?c ?k K11.bnd_helped K11.scp_helped K11.chk_helped (by decide)); (case a => k_is); (case l => k_is); (case c => k_is); (case k => k_is))
      (case e19 => (refine' PyE.df_ok (x := "hurt") (st := K11.top 28) KX G rfl ?a ?l ?c ?k K11.bnd_hurt K11.scp_hurt K11.chk_hurt (by decide)); (case a => k_is); (case l => k_is); (case c => k_is); (case k => k_is))
      (case e20 => (refine' PyE.df_ok (x := "_law_draws") (st := K11.top 30) KX G rfl ?a ?l ?c ?k K11.bnd__law_draws K11.scp__law_draws K11.chk__law_draws (by decide)); (case a => k_is); (case l => k_is); (case c => k_is); (case k => k_is))
      (case e21 => (refine' PyE.df_ok (x := "_law_same") (st := K11.top 31) KX G rfl ?a ?l ?c ?k K11.bnd__law_same K11.scp__law_same K11.chk__law_same (by decide)); (case a => k_is); (case l => k_is); (case c => k_is); (case k => k_is))
      (case e22 => (refine' PyE.df_ok (x := "_law_zeros") (st := K11.top 32) KX G rfl ?a ?l ?c ?k K11.bnd__law_zeros K11.scp__law_zeros K11.chk__law_zeros (by decide)); (case a => k_is); (case l => k_is); (case c => k_is); (case k => k_is))
      (case e23 => (refine' PyE.df_ok (x := "_law_score") (st := K11.top 33) KX G rfl ?a ?l ?c ?k K11.bnd__law_score K11.scp__law_score K11.chk__law_score (by decide)); (case a => k_is); (case l => k_is); (case c => k_is); (case k => k_is))
      (case e24 => (refine' PyE.df_ok (x := "_law_chosen") (st := K11.top 34) KX G rfl ?a ?l ?c ?k K11.bnd__law_chosen K11.scp__law_chosen K11.chk__law_chosen (by decide)); (case a => k_is); (case l => k_is); (case c => k_is); (case k => k_is))
      (case e25 => (refine' PyE.df_ok (x := "_law_every") (st := K11.top 35) KX G rfl ?a ?l ?c ?k K11.bnd__law_every K11.scp__law_every K11.chk__law_every (by decide)); (case a => k_is); (case l => k_is); (case c => k_is); (case k => k_is))
      (case e26 => (refine' PyE.df_ok (x := "_law_table") (st := K11.top 36) KX G rfl ?a ?l ?c ?k K11.bnd__law_table K11.scp__law_table K11.chk__law_table (by decide)); (case a => k_is); (case l => k_is); (case c => k_is); (case k => k_is))
      (case e27 => (refine' PyE.df_ok (x := "_law_ways") (st := K11.top 37) KX G rfl ?a ?l ?c ?k K11.bnd__law_ways K11.scp__law_ways K11.chk__law_ways (by decide)); (case a => k_is); (case l => k_is); (case c => k_is); (case k => k_is))
      (case e28 => (refine' PyE.df_ok (x := "_law_gain") (st := K11.top 38) KX G rfl ?a ?l ?c ?k K11.bnd__law_gain K11.scp__law_gain K11.chk__law_gain (by decide)); (case a => k_is); (case l => k_is); (case c => k_is); (case k => k_is))
      (case e29 => (refine' PyE.df_ok (x := "_law_run") (st := K11.top 39) KX G rfl ?a ?l ?c ?k K11.bnd__law_run K11.scp__law_run K11.chk__law_run (by decide)); (case a => k_is); (case l => k_is); (case c => k_is); (case k => k_is))
      (case e30 => (refine' PyE.df_ok (x := "_law_refused") (st := K11.top 40) KX G rfl ?a ?l ?c ?k K11.bnd__law_refused K11.scp__law_refused K11.chk__law_refused (by decide)); (case a => k_is); (case l => k_is); (case c => k_is); (case k => k_is))
      (case e31 => (refine' PyE.df_ok (x := "law") (st := K11.top 41) KX G rfl ?a ?l ?c ?k K11.bnd_law K11.scp_law K11.chk_law (by decide)); (case a => k_is); (case l => k_is); (case c => k_is); (case k => k_is))
    case t2 =>
      refine' (PyE.all_cons (PySem.W.mg_none_of KX G ?e0) (PyE.all_cons (PySem.W.mg_none_of KX G ?e1) (PyE.all_cons (PySem.W.mg_none_of KX G ?e2) (PyE.all_cons (PySem.W.mg_none_of KX G ?e3) (PyE.all_cons (PySem.W.mg_none_of KX G ?e4) (PyE.all_cons (PySem.W.mg_none_of KX G ?e5) (PyE.all_cons (PySem.W.mg_none_of KX G ?e6) (PyE.all_cons (PySem.W.mg_none_of KX G ?e7) (PyE.all_cons (PySem.W.mg_none_of KX G ?e8) (PyE.all_cons (PySem.W.mg_none_of KX G ?e9) (PyE.all_cons (PySem.W.mg_none_of KX G ?e10) (PyE.all_cons (PySem.W.mg_none_of KX G ?e11) (PyE.all_cons (PySem.W.mg_none_of KX G ?e12) (PyE.all_cons (PySem.W.mg_none_of KX G ?e13) (PyE.all_cons (PySem.W.mg_none_of KX G ?e14) (PyE.all_cons (PySem.W.mg_none_of KX G ?e15) (PyE.all_cons (PySem.W.mg_none_of KX G ?e16) (PyE.all_cons (PySem.W.mg_none_of KX G ?e17) (PyE.all_cons (PySem.W.mg_none_of KX G ?e18) (PyE.all_cons (PySem.W.mg_none_of KX G ?e19) (PyE.all_cons (PySem.W.mg_none_of KX G ?e20) PyE.all_nil)))))))))))))))))))))
      (case e0 => k_is); (case e1 => k_is); (case e2 => k_is); (case e3 => k_is); (case e4 => k_is); (case e5 => k_is); (case e6 => k_is); (case e7 => k_is); (case e8 => k_is); (case e9 => k_is); (case e10 => k_is); (case e11 => k_is); (case e12 => k_is); (case e13 => k_is); (case e14 => k_is); (case e15 => k_is); (case e16 => k_is); (case e17 => k_is); (case e18 => k_is); (case e19 => k_is); (case e20 => k_is)
    case t5 =>
      exact fun f hf => absurd hf (by cases f <;> decide +kernel)
    case t3 =>
      refine' PyE.bad_mk KX G ?aC ?xL ?sa ?ga ?gg ?nb ?a1 ?t1 ?l1 ?c1 ?kC ?eC ?tC ?hC ?iC ?sC
      (case aC => k_is); (case xL => k_is); (case sa => k_is); (case ga => k_is); (case gg => k_is); (case nb => k_is); (case a1 => k_is); (case t1 => k_is); (case l1 => k_is); (case c1 => k_is); (case kC => k_is); (case eC => k_is); (case tC => k_is); (case hC => k_is); (case iC => k_is); (case sC => first | rfl | k_is)
    case t4 =>
      refine' (PyE.con_cons (PyE.con1 (v := (.int 40)) KX G ?c0 ?r0 ?p0) (PyE.con_cons (PyE.con1 (v := (.ref _)) KX G ?c1 ?r1 ?p1) (PyE.con_cons (PyE.con1 (v := (.ref _)) KX G ?c2 ?r2 ?p2) PyE.con_nil)))
      (case c0 => k_is); (case r0 => exact ⟨_, rfl⟩); (case p0 => (refine' (.int _)))
      (case c1 => k_is); (case r1 => exact rfl); (case p1 => (refine' (PyE.con_tup (vs := [(.int 0), (.int 1), (.int 2)]) ?l1 ?z1 ?v1 (.cons (.int _) (.cons (.int _) (.cons (.int _) .nil)))); (case l1 => k_is); (case z1 => decide); (case v1 => exact (.cons ⟨_, rfl⟩ (.cons ⟨_, rfl⟩ (.cons ⟨_, rfl⟩ .nil))))))
      (case c2 => k_is); (case r2 => exact rfl); (case p2 => (refine' (PyE.con_tup (vs := [(.str "first"), (.str "most"), (.str "sum"), (.str "worst"), (.str "veto"), (.str "lead")]) ?l2 ?z2 ?v2 (.cons (.str _) (.cons (.str _) (.cons (.str _) (.cons (.str _) (.cons (.str _) (.cons (.str _) .nil))))))); (case l2 => k_is); (case z2 => decide); (case v2 => exact (.cons ⟨_, rfl⟩ (.cons ⟨_, rfl⟩ (.cons ⟨_, rfl⟩ (.cons ⟨_, rfl⟩ (.cons ⟨_, rfl⟩ (.cons ⟨_, rfl⟩ .nil)))))))))
#print axioms PySem.Challenge.cw_suitday_k11_chosen_and_gained_holds
