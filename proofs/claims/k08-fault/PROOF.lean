import PyProof.Rows.All
import Wide.All
import OpenK.AllK
import Wide.FinOn
import HandS.ForMost
import HandS.ForExc
import HandS.Evl
import HandS.IsInst
import HandS.Style
import HandS.Deep
import HandS.SortInts
import HandS.Comp
import HandS.Iter
import HandS.RevRange
import HandS.TryOnly
import HandS.SortRule
import HandS.Head0
import HandS.Head1
import HandS.Head2
import HandS.HeadEnd
import HandS.HeadHook1
import PyProof.EqAt
import PyProof.EqKinds
import HandS.ExcIs
import HandS.HotCalls
import HandS.Conv
import HandS.Text
import HandS.SetFor
import HandS.Strs
import HandS.Dict
import HandS.More
import PySem.Challenge.RW_leaffold_k08_fault
set_option Elab.async false
set_option linter.all false
set_option maxRecDepth 100000
set_option maxHeartbeats 2000000
/-! BkA: plain data D, what a value stands for (Rep), owned lists (Own), the state's bond (Si), what is left of an expression, a statement. -/
namespace Bk
open PySem L2

inductive D where
  | non | bl (b : Bool) | int (i : Int) | str (x : Str) | lst (xs : List D) | tup (xs : List D) | obj (xs : List D) | dic (ks : List Int) (xs : List D) | fz (xs : List D) | exn (k : Nat)
  deriving Inhabited
/-- how a thing is held: shared, an owned list (of e), a tuple of owned things, an owned dict -/
inductive Ow where
  | sh | li (e : Ow) | tu (e : Ow) | di | io
/-- a value: its data, how it is held; b: it is only looked at, a slot holds it -/
structure Val where
  o : Ow
  b : Bool
  d : D
abbrev Val.sh (d : D) : Val := ⟨.sh, false, d⟩
inductive Res (α : Type) where
  | ok (a : α) | exc (k : Nat) | bad
def Res.bind {α β : Type} (r : Res α) (f : α → Res β) : Res β := match r with
  | .ok a => f a
  | .exc k => .exc k
  | .bad => .bad
instance : Monad Res where
  pure := Res.ok
  bind := Res.bind
abbrev XEnv := List (Option (Ow × D))
/-- behind a statement -/
inductive Out where
  | next (e : XEnv) | ret (v : Val) | brk (e : XEnv) | cont (e : XEnv) | exc (k : Nat) (e : XEnv) | bad | rete (d : D) (e : XEnv)
abbrev XE := XEnv → Res Val
abbrev XB := XEnv → Res Bool
abbrev XA := XEnv → Res (List D)
abbrev XS := XEnv → Out
abbrev XF := List D → Res Val

/-- what the top says: the written part, Pile's class, the errors' classes -/
structure Ct where
  K : PySem.W.Frag
  C : Addr
  ea : Nat → Addr
  px : Addr → Nat → Prop := fun _ _ => False
  ix : Addr → Prop := fun _ => False

def pileFs (vs : List V) : List (Str × V) := (["columns", "rows", "wide", "high", "heaps", "folds", "cuts"] : List Str).zip vs

mutual
inductive Rep (c : Ct) (F : Hp) : V → D → Prop
  | non : Rep c F .non .non
  | bl {b} : Rep c F (.bl b) (.bl b)
  | int {i} : Rep c F (.int i) (.int i)
  | str {x} : Rep c F (.str x) (.str x)
  | lst {a vs xs} : F a = some (.lst vs) → Reps c F vs xs → Rep c F (.ref a) (.lst xs)
  | fz {a vs xs} : SqL c.K F a vs → Reps c F vs xs → Rep c F (.ref a) (.fz xs)
  | tup {a vs xs} : F a = some (.tup vs) → Reps c F vs xs → Rep c F (.ref a) (.tup xs)
  | obj {a dx vs xs} : F a = some (.ins c.C dx (pileFs vs)) → Reps c F vs xs → vs.length = 7 → Rep c F (.ref a) (.obj xs)
  | dic {a kvs ks xs} : F a = some (.dK kvs) → kvs.map (·.1) = ks.map Sum.inl → Reps c F (kvs.map (·.2)) xs → Rep c F (.ref a) (.dic ks xs)
  | exn {a k} : c.px a k → Rep c F (.ref a) (.exn k)
inductive Reps (c : Ct) (F : Hp) : List V → List D → Prop
  | nil : Reps c F [] []
  | cons {v d vs ds} : Rep c F v d → Reps c F vs ds → Reps c F (v :: vs) (d :: ds)
end

abbrev Ex (H H' : Hp) : Prop := Evl.Ex H H'

mutual
theorem Rep.mono {c : Ct} {F F' : Hp} (e : Ex F F') : ∀ {v : V} {d : D}, Rep c F v d → Rep c F' v d
  | _, _, .non => .non
  | _, _, .bl => .bl
  | _, _, .int => .int
  | _, _, .str => .str
  | _, _, .lst h r => .lst (e _ _ h) (Reps.mono e r)
  | _, _, .fz h r => .fz (Evl.ex_l e h) (Reps.mono e r)
  | _, _, .tup h r => .tup (e _ _ h) (Reps.mono e r)
  | _, _, .obj h r l => .obj (e _ _ h) (Reps.mono e r) l
  | _, _, .dic h k r => .dic (e _ _ h) k (Reps.mono e r)
  | _, _, .exn h => .exn h
theorem Reps.mono {c : Ct} {F F' : Hp} (e : Ex F F') : ∀ {vs : List V} {ds : List D}, Reps c F vs ds → Reps c F' vs ds
  | _, _, .nil => .nil
  | _, _, .cons h r => .cons (Rep.mono e h) (Reps.mono e r)
end

section
variable {c : Ct} {F H : Hp}
theorem Reps.length : ∀ {vs : List V} {ds : List D}, Reps c F vs ds → vs.length = ds.length
  | _, _, .nil => rfl
  | _, _, .cons _ r => by rw [List.length_cons, List.length_cons, Reps.length r]
theorem Reps.get : ∀ {vs : List V} {ds : List D} {i : Nat} {v : V}, Reps c F vs ds → vs[i]? = some v → ∃ d, ds[i]? = some d ∧ Rep c F v d
  | _, _, _, _, .nil, e => by simp at e
  | _, _, 0, _, .cons h r, e => by simp at e; subst e; exact ⟨_, rfl, h⟩
  | _, _, i + 1, v, .cons h r, e => by
    obtain ⟨d, h1, h2⟩ := Reps.get (i := i) (v := v) r (by simpa using e)
    exact ⟨d, by simpa using h1, h2⟩
theorem Reps.getD : ∀ {vs : List V} {ds : List D} {i : Nat} {d : D}, Reps c F vs ds → ds[i]? = some d → ∃ v, vs[i]? = some v ∧ Rep c F v d
  | _, _, _, _, .nil, e => by simp at e
  | _, _, 0, _, .cons h r, e => by simp at e; subst e; exact ⟨_, rfl, h⟩
  | _, _, i + 1, v, .cons h r, e => by
    obtain ⟨d, h1, h2⟩ := Reps.getD (i := i) (d := v) r (by simpa using e)
    exact ⟨d, by simpa using h1, h2⟩
theorem Reps.append : ∀ {vs us : List V} {ds es : List D}, Reps c F vs ds → Reps c F us es → Reps c F (vs ++ us) (ds ++ es)
  | _, _, _, _, .nil, s => s
  | _, _, _, _, .cons h r, s => .cons h (Reps.append r s)
theorem Reps.take : ∀ {vs : List V} {ds : List D} (n : Nat), Reps c F vs ds → Reps c F (vs.take n) (ds.take n)
  | _, _, 0, _ => .nil
  | _, _, _ + 1, .nil => .nil
  | _, _, n + 1, .cons h r => .cons h (Reps.take n r)
theorem Reps.drop : ∀ {vs : List V} {ds : List D} (n : Nat), Reps c F vs ds → Reps c F (vs.drop n) (ds.drop n)
  | _, _, 0, r => r
  | _, _, _ + 1, .nil => .nil
  | _, _, n + 1, .cons _ r => Reps.drop n r
theorem Reps.set {v : V} {d : D} (h : Rep c F v d) : ∀ {vs : List V} {ds : List D} (i : Nat), Reps c F vs ds → Reps c F (vs.set i v) (ds.set i d)
  | _, _, _, .nil => .nil
  | _, _, 0, .cons _ r => .cons h r
  | _, _, i + 1, .cons q r => .cons q (Reps.set h i r)
theorem Reps.reverse : ∀ {vs : List V} {ds : List D}, Reps c F vs ds → Reps c F vs.reverse ds.reverse
  | _, _, .nil => .nil
  | _, _, .cons h r => by
    rw [List.reverse_cons, List.reverse_cons]
    exact (Reps.reverse r).append (.cons h .nil)
theorem Reps.all {vs : List V} {ds : List D} (hl : vs.length = ds.length) (h : ∀ (i : Nat) v d, vs[i]? = some v → ds[i]? = some d → Rep c F v d) : Reps c F vs ds := by
  induction vs generalizing ds with
  | nil =>
    cases ds with
    | nil => exact .nil
    | cons d ds => simp at hl
  | cons v vs ih =>
    cases ds with
    | nil => simp at hl
    | cons d ds => exact .cons (h 0 v d rfl rfl) (ih (by simpa using hl) fun i u e hu he => h (i + 1) u e (by simpa using hu) (by simpa using he))
end

/-- an owned thing: S holds its own lists' places -/
def Own (c : Ct) (F H : Hp) : Ow → V → D → (Addr → Prop) → Prop
  | .sh, v, d, _ => Rep c F v d
  | .li e, v, d, S => ∃ a vs xs, v = .ref a ∧ d = .lst xs ∧ S a ∧ H a = some (.lst vs) ∧ vs.length = xs.length ∧
      ∃ T : Nat → Addr → Prop, (∀ k b, T k b → S b ∧ b ≠ a) ∧ (∀ k j b, T k b → T j b → k = j) ∧ ∀ k u x, vs[k]? = some u → xs[k]? = some x → Own c F H e u x (T k)
  | .tu e, v, d, S => ∃ a vs xs, v = .ref a ∧ d = .tup xs ∧ H a = some (.tup vs) ∧ vs.length = xs.length ∧ F a = none ∧ S a ∧
      ∃ T : Nat → Addr → Prop, (∀ k b, T k b → S b ∧ b ≠ a) ∧ (∀ k j b, T k b → T j b → k = j) ∧ ∀ k u x, vs[k]? = some u → xs[k]? = some x → Own c F H e u x (T k)
  | .di, v, d, S => ∃ a kvs ks xs, v = .ref a ∧ d = .dic ks xs ∧ S a ∧ H a = some (.dK kvs) ∧ kvs.map (·.1) = ks.map Sum.inl ∧ Reps c F (kvs.map (·.2)) xs
  | .io, v, d, S => ∃ a vs xs, v = .ref a ∧ d = .lst xs ∧ S a ∧ c.ix a ∧ H a = some (.lst vs) ∧ Reps c F vs xs

theorem Own.frame {c : Ct} {F F' H H' : Hp} (eF : Ex F F') : ∀ {o : Ow} {v : V} {d : D} {S : Addr → Prop}, (∀ a, S a → H' a = H a) → (∀ a, S a → F' a = none) → Own c F H o v d S → Own c F' H' o v d S
  | .sh, _, _, _, _, _, h => Rep.mono eF h
  | .li e, v, d, S, hs, hf, h => by
    obtain ⟨a, vs, xs, e1, e2, sa, ha, hl, T, t1, t2, t3⟩ := h
    exact ⟨a, vs, xs, e1, e2, sa, (hs a sa).trans ha, hl, T, t1, t2, fun k u x hu hx => Own.frame eF (fun b hb => hs b (t1 k b hb).1) (fun b hb => hf b (t1 k b hb).1) (t3 k u x hu hx)⟩
  | .tu e, v, d, S, hs, hf, h => by
    obtain ⟨a, vs, xs, e1, e2, ha, hl, fa, sa, T, t1, t2, t3⟩ := h
    exact ⟨a, vs, xs, e1, e2, (hs a sa).trans ha, hl, hf a sa, sa, T, t1, t2, fun k u x hu hx => Own.frame eF (fun b hb => hs b (t1 k b hb).1) (fun b hb => hf b (t1 k b hb).1) (t3 k u x hu hx)⟩
  | .di, v, d, S, hs, hf, h => by
    obtain ⟨a, kvs, ks, xs, e1, e2, sa, ha, hk, r⟩ := h
    exact ⟨a, kvs, ks, xs, e1, e2, sa, (hs a sa).trans ha, hk, r.mono eF⟩
  | .io, v, d, S, hs, hf, h => by
    obtain ⟨a, vs, xs, e1, e2, sa, hi, ha, r⟩ := h
    exact ⟨a, vs, xs, e1, e2, sa, hi, (hs a sa).trans ha, r.mono eF⟩
/-- what is owned stands for its data in any heap that has F and its places -/
theorem Own.rep {c : Ct} {F H G : Hp} (eF : Ex F G) : ∀ {o : Ow} {v : V} {d : D} {S : Addr → Prop}, (∀ a o, S a → H a = some o → G a = some o) → Own c F H o v d S → Rep c G v d
  | .sh, _, _, _, _, h => Rep.mono eF h
  | .li e, v, d, S, hs, h => by
    obtain ⟨a, vs, xs, e1, e2, sa, ha, hl, T, t1, t2, t3⟩ := h
    subst e1 e2
    exact .lst (hs a _ sa ha) (Reps.all hl fun k u x hu hx => Own.rep eF (fun b o hb => hs b o (t1 k b hb).1) (t3 k u x hu hx))
  | .tu e, v, d, S, hs, h => by
    obtain ⟨a, vs, xs, e1, e2, ha, hl, fa, sa, T, t1, t2, t3⟩ := h
    subst e1 e2
    exact .tup (hs a _ sa ha) (Reps.all hl fun k u x hu hx => Own.rep eF (fun b o hb => hs b o (t1 k b hb).1) (t3 k u x hu hx))
  | .di, v, d, S, hs, h => by
    obtain ⟨a, kvs, ks, xs, e1, e2, sa, ha, hk, r⟩ := h
    subst e1 e2
    exact .dic (hs a _ sa ha) hk (r.mono eF)
  | .io, v, d, S, hs, h => by
    obtain ⟨a, vs, xs, e1, e2, sa, hi, ha, r⟩ := h
    subst e1 e2
    exact .lst (hs a _ sa ha) (r.mono eF)
theorem Own.sub {c : Ct} {F H : Hp} : ∀ {o : Ow} {v : V} {d : D} {S S' : Addr → Prop}, (∀ a, S a → S' a) → Own c F H o v d S → Own c F H o v d S'
  | .sh, _, _, _, _, _, h => h
  | .li e, v, d, S, S', hs, h => by
    obtain ⟨a, vs, xs, e1, e2, sa, ha, hl, T, t1, t2, t3⟩ := h
    exact ⟨a, vs, xs, e1, e2, hs a sa, ha, hl, T, fun k b hb => ⟨hs b (t1 k b hb).1, (t1 k b hb).2⟩, t2, t3⟩
  | .tu e, v, d, S, S', hs, h => by
    obtain ⟨a, vs, xs, e1, e2, ha, hl, fa, sa, T, t1, t2, t3⟩ := h
    exact ⟨a, vs, xs, e1, e2, ha, hl, fa, hs a sa, T, fun k b hb => ⟨hs b (t1 k b hb).1, (t1 k b hb).2⟩, t2, t3⟩
  | .di, v, d, S, S', hs, h => by
    obtain ⟨a, kvs, ks, xs, e1, e2, sa, ha, hk, r⟩ := h
    exact ⟨a, kvs, ks, xs, e1, e2, hs a sa, ha, hk, r⟩
  | .io, v, d, S, S', hs, h => by
    obtain ⟨a, vs, xs, e1, e2, sa, hi, ha, r⟩ := h
    exact ⟨a, vs, xs, e1, e2, hs a sa, hi, ha, r⟩

/-- F, H grow from F0, H0: what was tracked stays, what is newly shared was not there -/
structure Wd (F0 H0 F H : Hp) : Prop where
  f : Ex F0 F
  fh : Ex F H
  h : Ex H0 H
  n : ∀ a, F0 a = none → F a ≠ none → H0 a = none
section
variable {F0 H0 F H F1 H1 : Hp}
theorem Wd.refl (e : Ex F H) : Wd F H F H := ⟨Evl.Ex.refl F, e, Evl.Ex.refl H, fun a h1 h2 => absurd h1 h2⟩
theorem Wd.trans (a : Wd F0 H0 F H) (b : Wd F H F1 H1) : Wd F0 H0 F1 H1 := by
  refine ⟨a.f.trans b.f, b.fh, a.h.trans b.h, fun x h1 h2 => ?_⟩
  cases hf : F x with
  | none => exact Evl.fresh_back a.h (b.n x hf h2)
  | some o => exact a.n x h1 (by rw [hf]; exact fun z => by cases z)
/-- only the heap grows -/
theorem Wd.heap (w : Wd F0 H0 F H) (e : Ex H H1) : Wd F0 H0 F H1 := ⟨w.f, w.fh.trans e, w.h.trans e, w.n⟩
end

/-- a value that has come out of F, H as F', H' -/
def Rv (c : Ct) (H F' H' : Hp) (u : V) (r : Val) : Prop := ∃ S : Addr → Prop, Own c F' H' r.o u r.d S ∧ ∀ a, S a → (r.b = false → H a = none) ∧ F' a = none ∧ H' a ≠ none
section
variable {c : Ct} {F H F' H' F2 H2 H0 : Hp} {u : V} {r : Val} {d : D}
theorem Rv.sh (h : Rep c F' u d) : Rv c H F' H' u (.sh d) := ⟨fun _ => False, h, fun _ z => z.elim⟩
theorem Rv.rep (e : Ex F' H') (h : Rv c H F' H' u r) : Rep c H' u r.d := by
  obtain ⟨S, h1, h2⟩ := h
  exact h1.rep e fun a o _ q => q
theorem Rv.repF {b : Bool} (h : Rv c H F' H' u ⟨.sh, b, d⟩) : Rep c F' u d := by
  obtain ⟨S, h1, h2⟩ := h
  exact h1
theorem Rv.weak (e : Ex H0 H) (h : Rv c H F' H' u r) : Rv c H0 F' H' u r := by
  obtain ⟨S, h1, h2⟩ := h
  exact ⟨S, h1, fun a sa => ⟨fun z => Evl.fresh_back e ((h2 a sa).1 z), (h2 a sa).2⟩⟩
/-- .. as the heap grows further -/
theorem Rv.grow (w : Wd F' H' F2 H2) (h : Rv c H F' H' u r) : Rv c H F2 H2 u r := by
  obtain ⟨S, h1, h2⟩ := h
  have hn : ∀ a, S a → F2 a = none := fun a sa => by
    cases q : F2 a with
    | none => rfl
    | some x => exact absurd (w.n a (h2 a sa).2.1 (by rw [q]; exact fun z => by cases z)) (h2 a sa).2.2
  have hs : ∀ a, S a → H2 a = H' a := fun a sa => by
    cases q : H' a with
    | none => exact absurd q (h2 a sa).2.2
    | some x => exact w.h a x q
  refine ⟨S, h1.frame w.f hs hn, fun a sa => ⟨(h2 a sa).1, hn a sa, ?_⟩⟩
  rw [hs a sa]
  exact (h2 a sa).2.2
open Classical in
/-- F with the places of S shared, as they stand in H -/
noncomputable def shareF (F H : Hp) (S : Addr → Prop) : Hp := fun a => if S a then H a else F a
theorem shareF_ex {S : Addr → Prop} (hs : ∀ a, S a → F a = none) : Ex F (shareF F H S) := fun a o h => by
  unfold shareF
  by_cases q : S a
  · rw [hs a q] at h
    cases h
  · rw [if_neg q]
    exact h
theorem shareF_exH {S : Addr → Prop} (e : Ex F H) : Ex (shareF F H S) H := fun a o h => by
  unfold shareF at h
  by_cases q : S a
  · rw [if_pos q] at h
    exact h
  · rw [if_neg q] at h
    exact e a o h
theorem shareF_out {S : Addr → Prop} {a : Addr} (h : ¬ S a) : shareF F H S a = F a := by
  unfold shareF
  rw [if_neg h]
theorem shareF_in {S : Addr → Prop} {a : Addr} (h : S a) : shareF F H S a = H a := by
  unfold shareF
  rw [if_pos h]
/-- a value is shared -/
theorem Rv.share {o : Ow} (w : Wd F H F' H') (h : Rv c H F' H' u ⟨o, false, d⟩) : ∃ F2, Wd F H F2 H' ∧ Wd F' H F2 H' ∧ Rep c F2 u d := by
  obtain ⟨S, h1, h2⟩ := h
  have e1 : Ex F' (shareF F' H' S) := shareF_ex fun a sa => (h2 a sa).2.1
  have e2 : Ex (shareF F' H' S) H' := shareF_exH w.fh
  refine ⟨shareF F' H' S, ⟨w.f.trans e1, e2, w.h, fun a n1 n2 => ?_⟩, ⟨e1, e2, w.h, fun a n1 n2 => ?_⟩, h1.rep e1 fun a o sa q => by rw [shareF_in sa]; exact q⟩
  · by_cases q : S a
    · exact (h2 a q).1 rfl
    · rw [shareF_out q] at n2
      exact w.n a n1 n2
  · by_cases q : S a
    · exact (h2 a q).1 rfl
    · rw [shareF_out q] at n2
      exact absurd n1 n2
end
end Bk
set_option Elab.async false
set_option linter.all false
set_option maxRecDepth 100000
set_option maxHeartbeats 2000000
/-! BkB: the state's bond, what is left of an expression, a test, arguments, a statement; the judgements. -/
namespace Bk
open PySem L2

abbrev XK := L2.XK
abbrev XVs := XEnv → Res (List Val)
/-- slots sg stand for env: F is shared, each owned thing has its own places -/
structure Si (c : Ct) (F0 H0 F H : Hp) (sg : L2.St) (env : XEnv) : Prop where
  wd : Wd F0 H0 F H
  len : sg.length = env.length
  own : ∃ S : Nat → Addr → Prop, (∀ i j a, S i a → S j a → i = j) ∧ (∀ i a, S i a → H0 a = none ∧ F a = none ∧ H a ≠ none) ∧
    ∀ i o d, env[i]? = some (some (o, d)) → ∃ v, sg[i]? = some (some v) ∧ Own c F H o v d (S i)

section
variable {c : Ct} {F0 H0 F H F' H' : Hp} {sg : L2.St} {env : XEnv}
theorem wd_none (w : Wd F H F' H') {a : Addr} (h1 : F a = none) (h2 : H a ≠ none) : F' a = none := by
  cases q : F' a with
  | none => rfl
  | some x => exact absurd (w.n a h1 (by rw [q]; exact fun z => by cases z)) h2
theorem wd_same (w : Wd F H F' H') {a : Addr} (h2 : H a ≠ none) : H' a = H a := by
  cases q : H a with
  | none => exact absurd q h2
  | some x => exact w.h a x q
theorem Si.grow (s : Si c F0 H0 F H sg env) (w : Wd F H F' H') : Si c F0 H0 F' H' sg env := by
  obtain ⟨S, s1, s2, s3⟩ := s.own
  refine ⟨s.wd.trans w, s.len, S, s1, fun i a sa => ⟨(s2 i a sa).1, wd_none w (s2 i a sa).2.1 (s2 i a sa).2.2, by rw [wd_same w (s2 i a sa).2.2]; exact (s2 i a sa).2.2⟩, fun i o d e => ?_⟩
  obtain ⟨v, h1, h2⟩ := s3 i o d e
  exact ⟨v, h1, h2.frame w.f (fun a sa => wd_same w (s2 i a sa).2.2) (fun a sa => wd_none w (s2 i a sa).2.1 (s2 i a sa).2.2)⟩
/-- a slot's thing, looked at -/
theorem Si.look (s : Si c F0 H0 F H sg env) {i : Nat} {o : Ow} {d : D} (e : env[i]? = some (some (o, d))) : ∃ v, sg[i]? = some (some v) ∧ Rep c H v d := by
  obtain ⟨S, s1, s2, s3⟩ := s.own
  obtain ⟨v, h1, h2⟩ := s3 i o d e
  exact ⟨v, h1, h2.rep s.wd.fh fun a o _ q => q⟩
theorem Si.shared (s : Si c F0 H0 F H sg env) {i : Nat} {d : D} (e : env[i]? = some (some (.sh, d))) : ∃ v, sg[i]? = some (some v) ∧ Rep c F v d := by
  obtain ⟨S, s1, s2, s3⟩ := s.own
  obtain ⟨v, h1, h2⟩ := s3 i .sh d e
  exact ⟨v, h1, h2⟩
/-- a value is stored in a slot -/
theorem Si.store {u : V} {o : Ow} {d : D} (s : Si c F0 H0 F H sg env) (w : Wd F H F' H') (r : Rv c H F' H' u ⟨o, false, d⟩) (i : Nat) : Si c F0 H0 F' H' (sg.set i (some u)) (env.set i (some (o, d))) := by
  have s' := s.grow w
  obtain ⟨S, s1, s2, s3⟩ := s.own
  obtain ⟨T, t1, t2⟩ := r
  have sH : ∀ j a, S j a → ¬ T a := fun j a sa ta => (s2 j a sa).2.2 ((t2 a ta).1 rfl)
  have hw : ∀ j a, S j a → H0 a = none ∧ F' a = none ∧ H' a ≠ none := fun j a sa => ⟨(s2 j a sa).1, wd_none w (s2 j a sa).2.1 (s2 j a sa).2.2, by rw [wd_same w (s2 j a sa).2.2]; exact (s2 j a sa).2.2⟩
  refine ⟨s'.wd, by rw [List.length_set, List.length_set]; exact s.len, fun j a => if j = i then T a else S j a, fun j k a hj hk => ?_, fun j a hj => ?_, fun j o2 d2 e => ?_⟩
  · by_cases q1 : j = i
    · by_cases q2 : k = i
      · rw [q1, q2]
      · simp only [if_pos q1] at hj
        simp only [if_neg q2] at hk
        exact absurd hj (sH k a hk)
    · by_cases q2 : k = i
      · simp only [if_neg q1] at hj
        simp only [if_pos q2] at hk
        exact absurd hk (sH j a hj)
      · simp only [if_neg q1] at hj
        simp only [if_neg q2] at hk
        exact s1 j k a hj hk
  · by_cases q : j = i
    · simp only [if_pos q] at hj
      exact ⟨Evl.fresh_back s.wd.h ((t2 a hj).1 rfl), (t2 a hj).2⟩
    · simp only [if_neg q] at hj
      exact hw j a hj
  · by_cases q : j = i
    · subst q
      have hl : j < env.length := by
        have := (List.getElem?_eq_some_iff.mp e).1
        rw [List.length_set] at this
        exact this
      rw [List.getElem?_set_self hl] at e
      cases e
      refine ⟨u, List.getElem?_set_self (by rw [s.len]; exact hl), ?_⟩
      simp only [if_pos]
      exact t1
    · rw [List.getElem?_set_ne (Ne.symm q)] at e
      obtain ⟨v, h1, h2⟩ := s3 j o2 d2 e
      refine ⟨v, by rw [List.getElem?_set_ne (Ne.symm q)]; exact h1, ?_⟩
      simp only [if_neg q]
      exact h2.frame w.f (fun a sa => wd_same w (s2 j a sa).2.2) (fun a sa => wd_none w (s2 j a sa).2.1 (s2 j a sa).2.2)
/-- a slot is forgotten -/
theorem Si.drop (s : Si c F0 H0 F H sg env) (i : Nat) (x : Option V) : Si c F0 H0 F H (sg.set i x) (env.set i none) := by
  obtain ⟨S, s1, s2, s3⟩ := s.own
  refine ⟨s.wd, by rw [List.length_set, List.length_set]; exact s.len, S, s1, s2, fun j o d e => ?_⟩
  by_cases q : j = i
  · subst q
    by_cases hl : j < env.length
    · rw [List.getElem?_set_self hl] at e
      cases e
    · rw [List.getElem?_eq_none_iff.mpr (by rw [List.length_set]; omega)] at e
      cases e
  · rw [List.getElem?_set_ne (Ne.symm q)] at e
    obtain ⟨v, h1, h2⟩ := s3 j o d e
    exact ⟨v, by rw [List.getElem?_set_ne (Ne.symm q)]; exact h1, h2⟩
/-- an owned slot is shared from here on -/
theorem Si.freeze (s : Si c F0 H0 F H sg env) {i : Nat} {o : Ow} {d : D} (e : env[i]? = some (some (o, d))) : ∃ F', Wd F0 H0 F' H ∧ Ex F F' ∧ Si c F0 H0 F' H sg (env.set i (some (.sh, d))) := by
  obtain ⟨S, s1, s2, s3⟩ := s.own
  obtain ⟨v, h1, h2⟩ := s3 i o d e
  have e1 : Ex F (shareF F H (S i)) := shareF_ex fun a sa => (s2 i a sa).2.1
  have e2 : Ex (shareF F H (S i)) H := shareF_exH s.wd.fh
  have w1 : Wd F0 H0 (shareF F H (S i)) H := ⟨s.wd.f.trans e1, e2, s.wd.h, fun a n1 n2 => by
    by_cases q : S i a
    · exact (s2 i a q).1
    · rw [shareF_out q] at n2
      exact s.wd.n a n1 n2⟩
  refine ⟨_, w1, e1, w1, by rw [List.length_set]; exact s.len, fun j a => if j = i then False else S j a, fun j k a hj hk => ?_, fun j a hj => ?_, fun j o2 d2 e3 => ?_⟩
  · by_cases q1 : j = i
    · simp only [if_pos q1] at hj
    · by_cases q2 : k = i
      · simp only [if_pos q2] at hk
      · simp only [if_neg q1] at hj
        simp only [if_neg q2] at hk
        exact s1 j k a hj hk
  · by_cases q : j = i
    · simp only [if_pos q] at hj
    · simp only [if_neg q] at hj
      refine ⟨(s2 j a hj).1, ?_, (s2 j a hj).2.2⟩
      rw [shareF_out fun z => q (s1 j i a hj z)]
      exact (s2 j a hj).2.1
  · by_cases q : j = i
    · subst q
      have hl : j < env.length := (List.getElem?_eq_some_iff.mp e).1
      rw [List.getElem?_set_self hl] at e3
      cases e3
      exact ⟨v, h1, h2.rep e1 fun a o sa q => by rw [shareF_in sa]; exact q⟩
    · rw [List.getElem?_set_ne (Ne.symm q)] at e3
      obtain ⟨v2, h3, h4⟩ := s3 j o2 d2 e3
      refine ⟨v2, h3, ?_⟩
      simp only [if_neg q]
      refine h4.frame e1 (fun a _ => rfl) fun a sa => ?_
      rw [shareF_out fun z => q (s1 j i a sa z)]
      exact (s2 j a sa).2.1
end

/-- what is known of a value as it stands -/
def Rw (c : Ct) (F H : Hp) (u : V) (r : Val) : Prop := ∃ S : Addr → Prop, Own c F H r.o u r.d S ∧ ∀ a, S a → F a = none ∧ H a ≠ none
section
variable {c : Ct} {F H F1 H1 H0 : Hp} {u : V} {r : Val}
theorem Rv.rw (h : Rv c H0 F H u r) : Rw c F H u r := by
  obtain ⟨S, h1, h2⟩ := h
  exact ⟨S, h1, fun a sa => (h2 a sa).2⟩
theorem Rw.rep (h : Rw c F H u r) (e : Ex F H) : Rep c H u r.d := by
  obtain ⟨S, h1, h2⟩ := h
  exact h1.rep e fun a o _ q => q
theorem Rw.grow (h : Rw c F H u r) (w : Wd F H F1 H1) : Rw c F1 H1 u r := by
  obtain ⟨S, h1, h2⟩ := h
  refine ⟨S, h1.frame w.f (fun a sa => wd_same w (h2 a sa).2) (fun a sa => wd_none w (h2 a sa).1 (h2 a sa).2), fun a sa => ⟨wd_none w (h2 a sa).1 (h2 a sa).2, ?_⟩⟩
  rw [wd_same w (h2 a sa).2]
  exact (h2 a sa).2
/-- the shared items of a list -/
def Val.its (r : Val) : Option (List D) := match r.o, r.d with
  | .sh, .lst xs => some xs
  | .li .sh, .lst xs => some xs
  | _, _ => none
theorem Rw.items (h : Rw c F H u r) (e : Ex F H) {xs : List D} (hx : r.its = some xs) : r.d = .lst xs ∧ ∃ a vs, u = .ref a ∧ H a = some (.lst vs) ∧ Reps c F vs xs := by
  obtain ⟨o, b, d⟩ := r
  obtain ⟨S, h1, h2⟩ := h
  cases o with
  | sh =>
    have h1 : Rep c F u d := h1
    cases h1 with
    | lst ha hr =>
      have e1 := Option.some.inj hx
      subst e1
      exact ⟨rfl, _, _, rfl, e _ _ ha, hr⟩
    | _ => exact nomatch hx
  | li o =>
    cases o with
    | sh =>
      obtain ⟨a, vs, ys, e1, e2, sa, ha, hl, T, t1, t2, t3⟩ := h1
      dsimp only at e1 e2
      subst e1 e2
      have e1 := Option.some.inj hx
      subst e1
      exact ⟨rfl, a, vs, rfl, ha, Reps.all hl fun k u x hu hx => t3 k u x hu hx⟩
    | _ => cases d <;> exact nomatch hx
  | _ => cases d <;> exact nomatch hx
end

/-- values as they stand -/
inductive Rws (c : Ct) (F H : Hp) : List V → List Val → Prop
  | nil : Rws c F H [] []
  | cons {u r us rs} : Rw c F H u r → Rws c F H us rs → Rws c F H (u :: us) (r :: rs)
theorem Rws.grow {c : Ct} {F H F1 H1 : Hp} (w : Wd F H F1 H1) : ∀ {us : List V} {rs : List Val}, Rws c F H us rs → Rws c F1 H1 us rs
  | _, _, .nil => .nil
  | _, _, .cons h r => .cons (h.grow w) (r.grow w)
/-! ### what is left -/
abbrev WX := Value → Option Addr → L2.St → Hp → Prop
section
variable (c : Ct) (W : WX) (sg : L2.St) (F H : Hp)
def Aft (Q : VK) : Res Val → Prop
  | .ok r => ∀ F' H' u, Wd F H F' H' → Rv c H F' H' u r → Q u H'
  | .exc k => ∀ F' H', Wd F H F' H' → W (.ref (c.ea k)) none sg H'
  | .bad => False
def AftB (Q : Bool → Hp → Prop) : Res Bool → Prop
  | .ok b => ∀ F' H', Wd F H F' H' → Q b H'
  | .exc k => ∀ F' H', Wd F H F' H' → W (.ref (c.ea k)) none sg H'
  | .bad => False
/-- arguments that are handed on (shared), that are only looked at -/
def AftA (Q : List V → Hp → Prop) : Res (List D) → Prop
  | .ok ds => ∀ F' H' us, Wd F H F' H' → Reps c F' us ds → Q us H'
  | .exc k => ∀ F' H', Wd F H F' H' → W (.ref (c.ea k)) none sg H'
  | .bad => False
def AftV (Q : List V → Hp → Prop) : Res (List Val) → Prop
  | .ok ds => ∀ F' H' us, Wd F H F' H' → Rws c F' H' us ds → Q us H'
  | .exc k => ∀ F' H', Wd F H F' H' → W (.ref (c.ea k)) none sg H'
  | .bad => False
end
section
variable (c : Ct) (W : WX) (F0 H0 : Hp)
def AftS (F : Hp) (D : Ends) : Out → Prop
  | .next e => ∀ F' H' sg', Ex F F' → Si c F0 H0 F' H' sg' e → D.nx sg' H'
  | .ret r => r.b = false ∧ ∀ F' H' u, Ex F F' → Wd F0 H0 F' H' → Rv c H0 F' H' u r → D.rt u H'
  | .brk e => ∀ F' H' sg', Ex F F' → Si c F0 H0 F' H' sg' e → D.bk sg' H'
  | .cont e => ∀ F' H' sg', Ex F F' → Si c F0 H0 F' H' sg' e → D.ct sg' H'
  | .exc k e => ∀ F' H' sg', Ex F F' → Si c F0 H0 F' H' sg' e → W (.ref (c.ea k)) none sg' H'
  | .bad => False
  | .rete d e => ∀ F' H' sg' u, Ex F F' → Si c F0 H0 F' H' sg' e → Rep c F' u d → D.rt u H'
def tX (f : XE) : TE := fun sg H Q => ∃ F env, Si c F0 H0 F H sg env ∧ Aft c W sg F H Q (f env)
def tXB (f : XB) : TT := fun sg H Q => ∃ F env, Si c F0 H0 F H sg env ∧ AftB c W sg F H Q (f env)
def tXA (f : XA) : TA := fun sg H Q => ∃ F env, Si c F0 H0 F H sg env ∧ AftA c W sg F H Q (f env)
def tXV (f : XVs) : TA := fun sg H Q => ∃ F env, Si c F0 H0 F H sg env ∧ AftV c W sg F H Q (f env)
def tXS (g : XS) : TS := fun D sg H => ∃ F env, Si c F0 H0 F H sg env ∧ AftS c W F0 H0 F D (g env)
end
section
variable {c : Ct} {W : WX} {sg : L2.St} {F H F1 H1 F0 H0 : Hp}
theorem Aft.grow {Q : VK} {r : Res Val} (w : Wd F H F1 H1) (h : Aft c W sg F H Q r) : Aft c W sg F1 H1 Q r := by
  cases r with
  | ok r => exact fun F' H' u w' rv => h F' H' u (w.trans w') (rv.weak w.h)
  | exc k => exact fun F' H' w' => h F' H' (w.trans w')
  | bad => exact h
theorem Aft.mono {Q Q' : VK} {r : Res Val} (h : Aft c W sg F H Q r) (k : ∀ u H', Q u H' → Q' u H') : Aft c W sg F H Q' r := by
  cases r with
  | ok r => exact fun F' H' u w' rv => k u H' (h F' H' u w' rv)
  | exc k => exact h
  | bad => exact h
theorem AftB.grow {Q : Bool → Hp → Prop} {r : Res Bool} (w : Wd F H F1 H1) (h : AftB c W sg F H Q r) : AftB c W sg F1 H1 Q r := by
  cases r with
  | ok r => exact fun F' H' w' => h F' H' (w.trans w')
  | exc k => exact fun F' H' w' => h F' H' (w.trans w')
  | bad => exact h
theorem AftA.grow {Q : List V → Hp → Prop} {r : Res (List D)} (w : Wd F H F1 H1) (h : AftA c W sg F H Q r) : AftA c W sg F1 H1 Q r := by
  cases r with
  | ok r => exact fun F' H' us w' rv => h F' H' us (w.trans w') rv
  | exc k => exact fun F' H' w' => h F' H' (w.trans w')
  | bad => exact h
theorem AftV.grow {Q : List V → Hp → Prop} {r : Res (List Val)} (w : Wd F H F1 H1) (h : AftV c W sg F H Q r) : AftV c W sg F1 H1 Q r := by
  cases r with
  | ok r => exact fun F' H' us w' rv => h F' H' us (w.trans w') rv
  | exc k => exact fun F' H' w' => h F' H' (w.trans w')
  | bad => exact h
/-- one after another -/
theorem aft_bind {Q : VK} {f : Res Val} {g : Val → Res Val} (h : Aft c W sg F H Q (f.bind g)) : Aft c W sg F H (fun x Hx => ∃ F1 a, Wd F H F1 Hx ∧ Rv c H F1 Hx x a ∧ Aft c W sg F1 Hx Q (g a)) f := by
  cases f with
  | ok a => exact fun F1 H1 u w rv => ⟨F1, a, w, rv, Aft.grow w h⟩
  | exc k => exact h
  | bad => exact h
theorem aft_bindB {Q : Bool → Hp → Prop} {f : Res Val} {g : Val → Res Bool} (h : AftB c W sg F H Q (f.bind g)) : Aft c W sg F H (fun x Hx => ∃ F1 a, Wd F H F1 Hx ∧ Rv c H F1 Hx x a ∧ AftB c W sg F1 Hx Q (g a)) f := by
  cases f with
  | ok a => exact fun F1 H1 u w rv => ⟨F1, a, w, rv, AftB.grow w h⟩
  | exc k => exact h
  | bad => exact h
theorem aft_bindBB {Q : Bool → Hp → Prop} {f : Res Bool} {g : Bool → Res Bool} (h : AftB c W sg F H Q (f.bind g)) : AftB c W sg F H (fun b Hx => ∃ F1, Wd F H F1 Hx ∧ AftB c W sg F1 Hx Q (g b)) f := by
  cases f with
  | ok a => exact fun F1 H1 w => ⟨F1, w, AftB.grow w h⟩
  | exc k => exact h
  | bad => exact h
theorem aft_bindBX {Q : VK} {f : Res Bool} {g : Bool → Res Val} (h : Aft c W sg F H Q (f.bind g)) : AftB c W sg F H (fun b Hx => ∃ F1, Wd F H F1 Hx ∧ Aft c W sg F1 Hx Q (g b)) f := by
  cases f with
  | ok a => exact fun F1 H1 w => ⟨F1, w, Aft.grow w h⟩
  | exc k => exact h
  | bad => exact h
theorem aft_bindA {Q : VK} {f : Res (List D)} {g : List D → Res Val} (h : Aft c W sg F H Q (f.bind g)) : AftA c W sg F H (fun us Hx => ∃ F1 ds, Wd F H F1 Hx ∧ Reps c F1 us ds ∧ f = .ok ds ∧ Aft c W sg F1 Hx Q (g ds)) f := by
  cases f with
  | ok a => exact fun F1 H1 us w rv => ⟨F1, a, w, rv, rfl, Aft.grow w h⟩
  | exc k => exact h
  | bad => exact h
theorem aft_bindV {Q : VK} {f : Res (List Val)} {g : List Val → Res Val} (h : Aft c W sg F H Q (f.bind g)) : AftV c W sg F H (fun us Hx => ∃ F1 ds, Wd F H F1 Hx ∧ Rws c F1 Hx us ds ∧ Aft c W sg F1 Hx Q (g ds)) f := by
  cases f with
  | ok a => exact fun F1 H1 us w rv => ⟨F1, a, w, rv, Aft.grow w h⟩
  | exc k => exact h
  | bad => exact h
/-- a value at once -/
theorem Aft.now {Q : VK} {u : V} {d : D} (e : Ex F H) (r : Rep c F u d) (h : Aft c W sg F H Q (.ok (.sh d))) : Q u H := h F H u (Wd.refl e) (Rv.sh r)
/-- a new list -/
theorem Aft.newL {Q : VK} {p : Addr} {vs : List V} {xs : List D} (e : Ex F H) (hp : H p = none) (r : Reps c F vs xs) (h : Aft c W sg F H Q (.ok ⟨.li .sh, false, .lst xs⟩)) : Q (.ref p) (upd H p (.lst vs)) := by
  have fp : F p = none := Evl.fresh_back e hp
  refine h F (upd H p (.lst vs)) (.ref p) ⟨Evl.Ex.refl F, e.trans (Evl.Ex.new hp), Evl.Ex.new hp, fun a h1 h2 => absurd h1 h2⟩ ⟨fun a => a = p, ?_, fun a ea => ?_⟩
  · exact ⟨p, vs, xs, rfl, rfl, rfl, upd_same, r.length, fun _ _ => False, fun _ _ z => z.elim, fun _ _ _ z => z.elim, fun k u x hu hx => by
      obtain ⟨d, h1, h2⟩ := r.get hu
      rw [hx] at h1
      cases h1
      exact h2⟩
  · subst ea
    refine ⟨fun _ => hp, fp, ?_⟩
    rw [upd_same]
    exact fun z => by cases z
/-- a new tuple, shared at once -/
theorem Aft.newT {Q : VK} {p : Addr} {vs : List V} {xs : List D} (e : Ex F H) (hp : H p = none) (r : Reps c F vs xs) (h : Aft c W sg F H Q (.ok (.sh (.tup xs)))) : Q (.ref p) (upd H p (.tup vs)) := by
  have fp : F p = none := Evl.fresh_back e hp
  have eu : Ex (upd F p (.tup vs)) (upd H p (.tup vs)) := fun a o q => by
    by_cases z : a = p
    · subst z
      rw [upd_same] at q ⊢
      exact q
    · rw [upd_ne z] at q ⊢
      exact e a o q
  refine h (upd F p (.tup vs)) (upd H p (.tup vs)) (.ref p) ⟨Evl.Ex.new fp, eu, Evl.Ex.new hp, fun a h1 h2 => ?_⟩ (Rv.sh (.tup upd_same (r.mono (Evl.Ex.new fp))))
  by_cases z : a = p
  · subst z
    exact hp
  · rw [upd_ne z] at h2
    exact absurd h1 h2
end

/-! ### the judgements -/
theorem _root_.L2.PE.imp {X : Cx} {e : Expr} {t t' : TE} (h : PE X e t) (k : ∀ sg H Q, t' sg H Q → t sg H Q) : PE X e t' := ⟨fun pins s sg H Q I q => h.run pins s sg H Q I (k sg H Q q)⟩
theorem _root_.L2.PT.imp {X : Cx} {e : Expr} {t t' : TT} (h : PT X e t) (k : ∀ sg H Q, t' sg H Q → t sg H Q) : PT X e t' := ⟨fun pins s sg H Q I q => h.run pins s sg H Q I (k sg H Q q)⟩
theorem _root_.L2.PA.imp {X : Cx} {es : List Expr} {t t' : TA} (h : PA X es t) (k : ∀ sg H Q, t' sg H Q → t sg H Q) : PA X es t' := ⟨fun pos pins s sg H Q I q => h.run pos pins s sg H Q I (k sg H Q q)⟩
theorem _root_.L2.PW.imp {X : Cx} {e : Expr} {t t' : TT} (h : PW X e t) (k : ∀ sg H Q, t' sg H Q → t sg H Q) : PW X e t' := ⟨fun wh pins s sg H Q I q => h.run wh pins s sg H Q I (k sg H Q q)⟩
theorem _root_.L2.PS.imp {X : Cx} {st : Stmt} {t t' : TS} (h : PS X st t) (k : ∀ D sg H, t' D sg H → t D sg H) : PS X st t' := ⟨fun pins s sg H D I q => h.run pins s sg H D I (k D sg H q)⟩
theorem _root_.L2.PSs.imp {X : Cx} {st : List Stmt} {t t' : TS} (h : PSs X st t) (k : ∀ D sg H, t' D sg H → t D sg H) : PSs X st t' := ⟨fun pins s sg H D I q => h.run pins s sg H D I (k D sg H q)⟩
/-- where one stands -/
structure Jx where
  X : Cx
  c : Ct
  W : WX
  F0 : Hp
  H0 : Hp
abbrev SE (J : Jx) (e : Expr) (f : XE) : Prop := PE J.X e (tX J.c J.W J.F0 J.H0 f)
abbrev SB (J : Jx) (e : Expr) (f : XB) : Prop := PT J.X e (tXB J.c J.W J.F0 J.H0 f)
abbrev SA (J : Jx) (es : List Expr) (f : XA) : Prop := PA J.X es (tXA J.c J.W J.F0 J.H0 f)
abbrev SV (J : Jx) (es : List Expr) (f : XVs) : Prop := PA J.X es (tXV J.c J.W J.F0 J.H0 f)
abbrev SS (J : Jx) (st : Stmt) (g : XS) : Prop := PS J.X st (tXS J.c J.W J.F0 J.H0 g)
abbrev SSs (J : Jx) (st : List Stmt) (g : XS) : Prop := PSs J.X st (tXS J.c J.W J.F0 J.H0 g)
end Bk
set_option Elab.async false
set_option linter.all false
set_option maxRecDepth 100000
set_option maxHeartbeats 2000000
/-! BkC: expressions over plain data: names, constants, operators, comparisons, tests. -/
namespace Bk
open PySem L2

/-! ### names, constants -/
def xV (i : Nat) : XE := fun env => match env[i]? with
  | some (some (.sh, d)) => .ok (.sh d)
  | some (some (o, d)) => .ok ⟨o, true, d⟩
  | _ => .bad
def xC (d : D) : XE := fun _ => .ok (.sh d)
section
variable {J : Jx} {c : Ct} {W : WX} {F0 H0 : Hp} {X : Cx} {x : Str} {pos : Pos}
theorem Si.var {F H : Hp} {sg : L2.St} {env : XEnv} {i : Nat} {o : Ow} {d : D} (s : Si c F0 H0 F H sg env) (e : env[i]? = some (some (o, d))) : ∃ v, sg[i]? = some (some v) ∧ ∀ b, (o = .sh ∨ b = true) → Rv c H F H v ⟨o, b, d⟩ := by
  obtain ⟨S, s1, s2, s3⟩ := s.own
  obtain ⟨v, h1, h2⟩ := s3 i o d e
  refine ⟨v, h1, fun b hb => ?_⟩
  rcases hb with hb | hb
  · subst hb
    exact ⟨fun _ => False, h2, fun _ z => z.elim⟩
  · subst hb
    exact ⟨S i, h2, fun a sa => ⟨fun z => (by cases z), (s2 i a sa).2⟩⟩
theorem tX_var {i : Nat} {sg : L2.St} {H : Hp} {Q : VK} (h : tX c W F0 H0 (xV i) sg H Q) : tVar i sg H Q := by
  obtain ⟨F, env, si, h⟩ := h
  unfold xV at h
  cases he : env[i]? with
  | none =>
    rw [he] at h
    exact h.elim
  | some z =>
    rw [he] at h
    cases z with
    | none => exact h.elim
    | some z =>
      obtain ⟨o, d⟩ := z
      obtain ⟨v, h1, h2⟩ := si.var he
      refine ⟨v, h1, ?_⟩
      cases o with
      | sh => exact h F H v (Wd.refl si.wd.fh) (h2 false (.inl rfl))
      | li o => exact h F H v (Wd.refl si.wd.fh) (h2 true (.inr rfl))
      | tu o => exact h F H v (Wd.refl si.wd.fh) (h2 true (.inr rfl))
      | di => exact h F H v (Wd.refl si.wd.fh) (h2 true (.inr rfl))
      | io => exact h F H v (Wd.refl si.wd.fh) (h2 true (.inr rfl))
theorem se_v (i : Nat) (hN : J.X.N[i]? = some x := by rfl) (hv : Vis J.X.env.scope x := by first | exact Or.inl rfl | exact Or.inr (Or.inl rfl) | exact Or.inr (Or.inr rfl)) (hd : (x == ("__debug__" : Str)) = false := by decide) (hcd : (x == ("__classdict__" : Str)) = false := by decide) :
    SE J (.Name x pos) (xV i) := (pe_var hN hv hd hcd).imp fun _ _ _ h => tX_var h
theorem se_int {i : Int} {j : Nat} : SE J (.Constant (.int i) j pos) (xC (.int i)) := pe_int.imp fun sg H Q ⟨F, env, si, h⟩ => Aft.now si.wd.fh .int h
theorem se_bl {b : Bool} {j : Nat} : SE J (.Constant (.bool b) j pos) (xC (.bl b)) := pe_bl.imp fun sg H Q ⟨F, env, si, h⟩ => Aft.now si.wd.fh .bl h
theorem se_non {j : Nat} : SE J (.Constant .none j pos) (xC .non) := pe_non.imp fun sg H Q ⟨F, env, si, h⟩ => Aft.now si.wd.fh .non h
theorem se_str {z : Str} {j : Nat} : SE J (.Constant (.str z) j pos) (xC (.str z)) := pe_str.imp fun sg H Q ⟨F, env, si, h⟩ => Aft.now si.wd.fh .str h
end

/-! ### operators -/
def V2 (c : Ct) (r : R2) (g : Val → Val → Res Val) : Prop := ∀ (W : WX) sg F H x y a b Q, Ex F H → Rw c F H x a → Rw c F H y b → Aft c W sg F H Q (g a b) → r x y H Q
def xOp2 (g : Val → Val → Res Val) (f h : XE) : XE := fun env => (f env).bind fun a => (h env).bind fun b => g a b
section
variable {J : Jx} {c : Ct} {W : WX} {F0 H0 : Hp} {X : Cx} {pos : Pos} {a b e : Expr} {f h k : XE} {r r' : R2} {g g' : Val → Val → Res Val}
theorem tX_op2 (hg : V2 c r g) {sg : L2.St} {H : Hp} {Q : VK} (hq : tX c W F0 H0 (xOp2 g f h) sg H Q) : tOp r (tX c W F0 H0 f) (tX c W F0 H0 h) sg H Q := by
  obtain ⟨F, env, si, hq⟩ := hq
  refine ⟨F, env, si, (aft_bind hq).mono fun x H1 ⟨F1, va, w1, r1, hq1⟩ => ?_⟩
  refine ⟨F1, env, si.grow w1, (aft_bind hq1).mono fun y H2 ⟨F2, vb, w2, r2, hq2⟩ => ?_⟩
  exact hg W sg F2 H2 x y va vb Q w2.fh (r1.rw.grow w2) r2.rw hq2
theorem se_op {op : Operator} (hg : V2 J.c r g) (ho : OpR J.X (binaryOp op) r) (ha : SE J a f) (hb : SE J b h) : SE J (.BinOp a op b pos) (xOp2 g f h) := (pe_op ho ha hb).imp fun _ _ _ q => tX_op2 hg q
theorem se_cmp {op : CmpOp} (hg : V2 J.c r g) (ho : OpR J.X (compareOp op) r) (ha : SE J a f) (hb : SE J b h) (hm : behindInMarks op b = false := by first | exact nobehind _ (by decide) (by decide) | rfl) : SE J (.Compare a [op] [b] pos) (xOp2 g f h) := (pe_cmpR ho ha hb hm).imp fun _ _ _ q => tX_op2 hg q
theorem se_ix (hg : V2 J.c r g) (ho : IxR J.X r) (ha : SE J a f) (hb : SE J b h) (hs : PlainIx b := by exact fun _ _ => rfl) : SE J (.Subscript a b pos) (xOp2 g f h) := (pe_ix ho ha hb hs).imp fun _ _ _ q => tX_op2 hg q

/-! ### tests -/
def xT (f : XE) : XB := fun env => (f env).bind fun a => match a.d with
  | .bl b => .ok b
  | _ => .bad
theorem aft_T {f : XE} {env : XEnv} {sg : L2.St} {F H : Hp} {Q : Bool → Hp → Prop} (e0 : Ex F H) (hq : AftB c W sg F H Q (xT f env)) : Aft c W sg F H (fun x H1 => ∃ k, x = .bl k ∧ Q k H1) (f env) := by
  refine (aft_bindB hq).mono fun x H1 ⟨F1, va, w1, r1, hq1⟩ => ?_
  obtain ⟨o, bb, d⟩ := va
  have rr := r1.rep w1.fh
  cases rr with
  | bl => exact ⟨_, rfl, hq1 F1 H1 (Wd.refl w1.fh)⟩
  | _ => exact (show False from hq1).elim
theorem sb_val (ha : SE J e f) (he : ∀ whole, isTrue e J.X.env whole = (do let v ← whole; standAt e.pos; holding [v] (truthy v)) := by intro _; rfl) : SB J e (xT f) := (pt_val ha he).imp fun sg H Q ⟨F, env, si, hq⟩ => ⟨F, env, si, aft_T si.wd.fh hq⟩
theorem sb_cmp {op : CmpOp} (hg : V2 J.c r g) (ho : OpR J.X (compareOp op) r) (ha : SE J a f) (hb : SE J b h) (hm : behindInMarks op b = false := by first | exact nobehind _ (by decide) (by decide) | rfl) : SB J (.Compare a [op] [b] pos) (xT (xOp2 g f h)) :=
  (pt_cmpR ho ha hb hm).imp fun sg H Q ⟨F, env, si, hq⟩ => tX_op2 hg ⟨F, env, si, aft_T si.wd.fh hq⟩
def xAnd (t u : XB) : XB := fun env => (t env).bind fun b => if b = true then u env else .ok false
def xOr (t u : XB) : XB := fun env => (t env).bind fun b => if b = true then .ok true else u env
def xNotB (t : XB) : XB := fun env => (t env).bind fun b => .ok (!b)
abbrev SW (J : Jx) (e : Expr) (f : XB) : Prop := PW J.X e (tXB J.c J.W J.F0 J.H0 f)
variable {t u : XB} {rest : List Expr}
theorem sb_w (h : SW J e t) : SB J e t := PW.pt h
theorem sw_and1 (ha : SB J a t) : SW J (.BoolOp .And [a] pos) t := pw_and1 ha
theorem sw_or1 (ha : SB J a t) : SW J (.BoolOp .Or [a] pos) t := pw_or1 ha
theorem sw_and (ha : SB J a t) (hb : SW J (.BoolOp .And (b :: rest) pos) u) : SW J (.BoolOp .And (a :: b :: rest) pos) (xAnd t u) := PW.imp (pw_and ha hb) fun sg H Q ⟨F, env, si, hq⟩ => ⟨F, env, si, by
  have z := aft_bindBB hq
  cases q : t env with
  | ok k =>
    rw [q] at z
    intro F1 H1 w
    obtain ⟨F2, w2, z2⟩ := z F1 H1 w
    cases k with
    | true => exact iteT ⟨F2, env, si.grow w2, z2⟩
    | false => exact iteF (z2 F2 H1 (Wd.refl w2.fh))
  | exc k =>
    rw [q] at z
    exact z
  | bad =>
    rw [q] at z
    exact z⟩
theorem sw_or (ha : SB J a t) (hb : SW J (.BoolOp .Or (b :: rest) pos) u) : SW J (.BoolOp .Or (a :: b :: rest) pos) (xOr t u) := PW.imp (pw_or ha hb) fun sg H Q ⟨F, env, si, hq⟩ => ⟨F, env, si, by
  have z := aft_bindBB hq
  cases q : t env with
  | ok k =>
    rw [q] at z
    intro F1 H1 w
    obtain ⟨F2, w2, z2⟩ := z F1 H1 w
    cases k with
    | true => exact iteT (z2 F2 H1 (Wd.refl w2.fh))
    | false => exact iteF ⟨F2, env, si.grow w2, z2⟩
  | exc k =>
    rw [q] at z
    exact z
  | bad =>
    rw [q] at z
    exact z⟩
theorem sb_not (ha : SB J a t) : SB J (.UnaryOp .Not a pos) (xNotB t) := (pt_not ha).imp fun sg H Q ⟨F, env, si, hq⟩ => ⟨F, env, si, by
  have z := aft_bindBB hq
  cases q : t env with
  | ok k =>
    rw [q] at z
    intro F1 H1 w
    obtain ⟨F2, w2, z2⟩ := z F1 H1 w
    exact z2 F2 H1 (Wd.refl w2.fh)
  | exc k =>
    rw [q] at z
    exact z
  | bad =>
    rw [q] at z
    exact z⟩
/-- a < b < c -/
def xChain (g g' : Val → Val → Res Val) (f h k : XE) : XE := fun env => (f env).bind fun a => (h env).bind fun b => (g a b).bind fun z => match z.d with
  | .bl true => (k env).bind fun e => (g' b e)
  | .bl false => .ok (.sh (.bl false))
  | _ => .bad
theorem tX_chain (hg : V2 c r g) (hg' : V2 c r' g') {sg : L2.St} {H : Hp} {Q : VK} (hq : tX c W F0 H0 (xChain g g' f h k) sg H Q) : tChain r r' (tX c W F0 H0 f) (tX c W F0 H0 h) (tX c W F0 H0 k) sg H Q := by
  obtain ⟨F, env, si, hq⟩ := hq
  refine ⟨F, env, si, (aft_bind hq).mono fun x H1 ⟨F1, va, w1, r1, hq1⟩ => ?_⟩
  refine ⟨F1, env, si.grow w1, (aft_bind hq1).mono fun y H2 ⟨F2, vb, w2, r2, hq2⟩ => ?_⟩
  refine hg W sg F2 H2 x y va vb _ w2.fh (r1.rw.grow w2) r2.rw ((aft_bind hq2).mono fun z H3 ⟨F3, vz, w3, r3, hq3⟩ => ?_)
  obtain ⟨oz, bz, dz⟩ := vz
  have rr := r3.rep w3.fh
  cases rr with
  | @bl kk =>
    refine ⟨kk, rfl, ?_⟩
    cases kk with
    | false => exact iteF (Aft.now w3.fh .bl hq3)
    | true =>
      refine iteT ⟨F3, env, ((si.grow w1).grow w2).grow w3, (aft_bind hq3).mono fun ez H4 ⟨F4, ve, w4, r4, hq4⟩ => ?_⟩
      exact hg' W sg F4 H4 y ez vb ve _ w4.fh ((r2.rw.grow w3).grow w4) r4.rw hq4
  | _ => exact (show False from hq3).elim
end
end Bk
set_option Elab.async false
set_option linter.all false
set_option maxRecDepth 100000
set_option maxHeartbeats 2000000
/-! BkD: chains, and, or, not as values, conditional expressions, arguments, displays, calls, fields. -/
namespace Bk
open PySem L2

theorem AftV.mono {c : Ct} {W : WX} {sg : L2.St} {F H : Hp} {Q Q' : List V → Hp → Prop} {r : Res (List Val)} (h : AftV c W sg F H Q r) (k : ∀ u H', Q u H' → Q' u H') : AftV c W sg F H Q' r := by
  cases r with
  | ok r => exact fun F' H' u w' rv => k u H' (h F' H' u w' rv)
  | exc k => exact h
  | bad => exact h
theorem AftA.mono {c : Ct} {W : WX} {sg : L2.St} {F H : Hp} {Q Q' : List V → Hp → Prop} {r : Res (List D)} (h : AftA c W sg F H Q r) (k : ∀ u H', Q u H' → Q' u H') : AftA c W sg F H Q' r := by
  cases r with
  | ok r => exact fun F' H' u w' rv => k u H' (h F' H' u w' rv)
  | exc k => exact h
  | bad => exact h
theorem AftB.mono {c : Ct} {W : WX} {sg : L2.St} {F H : Hp} {Q Q' : Bool → Hp → Prop} {r : Res Bool} (h : AftB c W sg F H Q r) (k : ∀ u H', Q u H' → Q' u H') : AftB c W sg F H Q' r := by
  cases r with
  | ok r => exact fun F' H' w' => k r H' (h F' H' w')
  | exc k => exact h
  | bad => exact h

section
variable {J : Jx} {c : Ct} {W : WX} {F0 H0 : Hp} {X : Cx} {pos : Pos} {a b e : Expr} {es : List Expr} {f h k : XE} {t u : XB} {r r' : R2} {g g' : Val → Val → Res Val}
theorem se_chain {op op' : CmpOp} {e : Expr} (hg : V2 J.c r g) (hg' : V2 J.c r' g') (ho : OpR J.X (compareOp op) r) (ho' : OpR J.X (compareOp op') r') (ha : SE J a f) (hb : SE J b h) (hc : SE J e k)
    (hm : lastMarks [op, op'] [b, e] = false := by with_unfolding_all rfl) : SE J (.Compare a [op, op'] [b, e] pos) (xChain g g' f h k) := (pe_chain ho ho' ha hb hc hm).imp fun _ _ _ q => tX_chain hg hg' q
theorem sb_chain {op op' : CmpOp} {e : Expr} (hg : V2 J.c r g) (hg' : V2 J.c r' g') (ho : OpR J.X (compareOp op) r) (ho' : OpR J.X (compareOp op') r') (ha : SE J a f) (hb : SE J b h) (hc : SE J e k)
    (hm : lastMarks [op, op'] [b, e] = false := by with_unfolding_all rfl) : SB J (.Compare a [op, op'] [b, e] pos) (xT (xChain g g' f h k)) :=
  (pt_chain ho ho' ha hb hc hm).imp fun sg H Q ⟨F, env, si, hq⟩ => tX_chain hg hg' ⟨F, env, si, aft_T si.wd.fh hq⟩
/-! ### and, or, not as values -/
def xAndV (f h : XE) : XE := fun env => (f env).bind fun a => match a.d with
  | .bl true => h env
  | .bl false => .ok (.sh (.bl false))
  | _ => .bad
def xOrV (f h : XE) : XE := fun env => (f env).bind fun a => match a.d with
  | .bl true => .ok (.sh (.bl true))
  | .bl false => h env
  | _ => .bad
def xNotV (f : XE) : XE := fun env => (f env).bind fun a => match a.d with
  | .bl b => .ok (.sh (.bl (!b)))
  | _ => .bad
variable {rest : List Expr}
theorem se_one {op} (h : SE J a f) : SE J (.BoolOp op [a] pos) f := pe_one h
theorem se_and (ha : SE J a f) (hb : SE J (.BoolOp .And (b :: rest) pos) h) : SE J (.BoolOp .And (a :: b :: rest) pos) (xAndV f h) := (pe_and ha hb).imp fun sg H Q ⟨F, env, si, hq⟩ => ⟨F, env, si, (aft_bind hq).mono fun x H1 ⟨F1, va, w1, r1, hq1⟩ => by
  obtain ⟨o, bb, d⟩ := va
  have rr := r1.rep w1.fh
  cases rr with
  | @bl kk =>
    refine ⟨kk, rfl, ?_⟩
    cases kk with
    | true => exact iteT ⟨F1, env, si.grow w1, hq1⟩
    | false => exact iteF (Aft.now w1.fh .bl hq1)
  | _ => exact (show False from hq1).elim⟩
theorem se_or (ha : SE J a f) (hb : SE J (.BoolOp .Or (b :: rest) pos) h) : SE J (.BoolOp .Or (a :: b :: rest) pos) (xOrV f h) := (pe_or ha hb).imp fun sg H Q ⟨F, env, si, hq⟩ => ⟨F, env, si, (aft_bind hq).mono fun x H1 ⟨F1, va, w1, r1, hq1⟩ => by
  obtain ⟨o, bb, d⟩ := va
  have rr := r1.rep w1.fh
  cases rr with
  | @bl kk =>
    refine ⟨kk, rfl, ?_⟩
    cases kk with
    | true => exact iteT (Aft.now w1.fh .bl hq1)
    | false => exact iteF ⟨F1, env, si.grow w1, hq1⟩
  | _ => exact (show False from hq1).elim⟩
theorem se_not (ha : SE J a f) : SE J (.UnaryOp .Not a pos) (xNotV f) := (pe_not ha).imp fun sg H Q ⟨F, env, si, hq⟩ => ⟨F, env, si, (aft_bind hq).mono fun x H1 ⟨F1, va, w1, r1, hq1⟩ => by
  obtain ⟨o, bb, d⟩ := va
  have rr := r1.rep w1.fh
  cases rr with
  | @bl kk => exact ⟨kk, rfl, Aft.now w1.fh .bl hq1⟩
  | _ => exact (show False from hq1).elim⟩
theorem se_neg {i : Int} {n : Nat} {p : Pos} : SE J (.UnaryOp .USub (.Constant (.int i) n p) pos) (xC (.int (-i))) := (pe_un un_neg pe_int).imp fun sg H Q ⟨F, env, si, hq⟩ => ⟨i, rfl, Aft.now si.wd.fh .int hq⟩
/-- a if t else b -/
def xIf (t : XB) (f h : XE) : XE := fun env => (t env).bind fun b => if b = true then f env else h env
theorem se_if (hc : SB J e t) (ha : SE J a f) (hb : SE J b h) : SE J (.IfExp e a b pos) (xIf t f h) := (pe_ifExp hc ha hb).imp fun sg H Q ⟨F, env, si, hq⟩ => ⟨F, env, si, (aft_bindBX hq).mono fun k H1 ⟨F1, w1, hq1⟩ => by
  cases k with
  | true => exact iteT ⟨F1, env, si.grow w1, hq1⟩
  | false => exact iteF ⟨F1, env, si.grow w1, hq1⟩⟩

/-! ### arguments -/
def xANil : XA := fun _ => .ok []
def xACons (f : XE) (fs : XA) : XA := fun env => (f env).bind fun a => if a.b = true then .bad else (fs env).bind fun ds => .ok (a.d :: ds)
def xVNil : XVs := fun _ => .ok []
def xVCons (f : XE) (fs : XVs) : XVs := fun env => (f env).bind fun a => (fs env).bind fun ds => .ok (a :: ds)
theorem sa_nil : SA J [] xANil := pa_nil.imp fun sg H Q ⟨F, env, si, hq⟩ => hq F H [] (Wd.refl si.wd.fh) .nil
theorem sv_nil : SV J [] xVNil := pa_nil.imp fun sg H Q ⟨F, env, si, hq⟩ => hq F H [] (Wd.refl si.wd.fh) .nil
theorem aft_bindVA {Q : List V → Hp → Prop} {sg : L2.St} {F H : Hp} {f : Res Val} {g : Val → Res (List D)} (h : AftA c W sg F H Q (f.bind g)) : Aft c W sg F H (fun x Hx => ∃ F1 a, Wd F H F1 Hx ∧ Rv c H F1 Hx x a ∧ AftA c W sg F H Q (g a)) f := by
  cases f with
  | ok a => exact fun F1 H1 u w rv => ⟨F1, a, w, rv, h⟩
  | exc k => exact h
  | bad => exact h
theorem aft_bindVV {Q : List V → Hp → Prop} {sg : L2.St} {F H : Hp} {f : Res Val} {g : Val → Res (List Val)} (h : AftV c W sg F H Q (f.bind g)) : Aft c W sg F H (fun x Hx => ∃ F1 a, Wd F H F1 Hx ∧ Rv c H F1 Hx x a ∧ AftV c W sg F1 Hx Q (g a)) f := by
  cases f with
  | ok a => exact fun F1 H1 u w rv => ⟨F1, a, w, rv, AftV.grow w h⟩
  | exc k => exact h
  | bad => exact h
theorem sa_cons {fs : XA} (ha : SE J e f) (hr : SA J es fs) (hs : starEach (e :: es) J.X.env = (false, eval e J.X.env) :: starEach es J.X.env := by rfl) : SA J (e :: es) (xACons f fs) := (pa_cons ha hr hs).imp fun sg H Q ⟨F, env, si, hq⟩ => ⟨F, env, si, (aft_bindVA hq).mono fun x H1 ⟨F1, va, w1, r1, hq1⟩ => by
  obtain ⟨o, bb, d⟩ := va
  cases bb with
  | true => exact (show False from hq1).elim
  | false =>
    obtain ⟨F2, w2, w3, r2⟩ := r1.share w1
    have hq2 : AftA J.c J.W sg F2 H1 Q ((fs env).bind fun ds => .ok (d :: ds)) := AftA.grow w2 hq1
    refine ⟨F2, env, si.grow w2, ?_⟩
    cases q : fs env with
    | ok ds =>
      rw [q] at hq2
      exact fun F3 H3 us w4 r4 => hq2 F3 H3 (x :: us) w4 (.cons (r2.mono w4.f) r4)
    | exc k =>
      rw [q] at hq2
      exact hq2
    | bad =>
      rw [q] at hq2
      exact hq2⟩
theorem sv_cons {fs : XVs} (ha : SE J e f) (hr : SV J es fs) (hs : starEach (e :: es) J.X.env = (false, eval e J.X.env) :: starEach es J.X.env := by rfl) : SV J (e :: es) (xVCons f fs) := (pa_cons ha hr hs).imp fun sg H Q ⟨F, env, si, hq⟩ => ⟨F, env, si, (aft_bindVV hq).mono fun x H1 ⟨F1, va, w1, r1, hq1⟩ => by
  refine ⟨F1, env, si.grow w1, ?_⟩
  cases q : fs env with
  | ok ds =>
    rw [q] at hq1
    exact fun F3 H3 us w4 r4 => hq1 F3 H3 (x :: us) w4 (.cons (r1.rw.grow w4) r4)
  | exc k =>
    rw [q] at hq1
    exact hq1
  | bad =>
    rw [q] at hq1
    exact hq1⟩

/-! ### displays -/
def xTup (fs : XA) : XE := fun env => (fs env).bind fun ds => if ds.length ≤ 100000 then .ok (.sh (.tup ds)) else .bad
def xLst (fs : XA) : XE := fun env => (fs env).bind fun ds => if ds.length ≤ 100000 then .ok ⟨.li .sh, false, .lst ds⟩ else .bad
theorem se_tup {fs : XA} {x1 : Nat} (ha : SA J es fs) : SE J (.Tuple es x1 pos) (xTup fs) := (pe_tup ha).imp fun sg H Q ⟨F, env, si, hq⟩ => ⟨F, env, si, (aft_bindA hq).mono fun us H1 ⟨F1, ds, w1, r1, _, hq1⟩ => by
  by_cases hl : ds.length ≤ 100000
  · rw [if_pos hl] at hq1
    exact ⟨by rw [r1.length]; exact Evl.sz_of hl, fun p hp => Aft.newT w1.fh hp r1 hq1⟩
  · rw [if_neg hl] at hq1
    exact hq1.elim⟩
theorem se_lst {fs : XA} (ha : SA J es fs) : SE J (.List es pos) (xLst fs) := (pe_lst ha).imp fun sg H Q ⟨F, env, si, hq⟩ => ⟨F, env, si, (aft_bindA hq).mono fun us H1 ⟨F1, ds, w1, r1, _, hq1⟩ => by
  by_cases hl : ds.length ≤ 100000
  · rw [if_pos hl] at hq1
    exact ⟨by rw [r1.length]; exact Evl.sz_of hl, fun p hp => Aft.newL w1.fh hp r1 hq1⟩
  · rw [if_neg hl] at hq1
    exact hq1.elim⟩

/-! ### built-in calls, by values -/
def VN (c : Ct) (r : List V → Hp → VK → Prop) (g : List Val → Res Val) : Prop := ∀ (W : WX) sg F H us rs Q, Ex F H → Rws c F H us rs → Aft c W sg F H Q (g rs) → r us H Q
def xBlt (g : List Val → Res Val) (fs : XVs) : XE := fun env => (fs env).bind g
variable {x : Str} {p : Pos} {rl : List V → Hp → VK → Prop} {gl : List Val → Res Val} {fs : XVs} {id T : String}
theorem se_blt (hg : VN J.c rl gl) (hc : CallR J.X (.builtin id) rl) (hx : Gl J.X x) (hm : J.X.mg x = none) (hv : bootBuiltins x = some (.builtin id)) (ha : SV J (e :: es) fs) (hn : x ≠ "__name__" := by decide) (hdb : (x == ("__debug__" : Str)) = false := by decide)
    (he : starEach (e :: es) J.X.env = (false, eval e J.X.env) :: starEach es J.X.env := by rfl) (hpl : (backTo pos (starEach es J.X.env)).any (·.1) = false := by rfl) : SE J (.Call (.Name x p) (e :: es) [] pos) (xBlt gl fs) :=
  (pe_callB hc hx hm hv ha hn hdb he hpl).imp fun sg H Q ⟨F, env, si, hq⟩ => ⟨F, env, si, (aft_bindV hq).mono fun us H1 ⟨F1, ds, w1, r1, hq1⟩ => hg _ sg F1 H1 us ds Q w1.fh r1 hq1⟩
theorem se_bty (hg : VN J.c rl gl) (hc : CallR J.X (.type T) rl) (hx : Gl J.X x) (hm : J.X.mg x = none) (hv : bootBuiltins x = some (.type T)) (ha : SV J (e :: es) fs) (hn : x ≠ "__name__" := by decide) (hdb : (x == ("__debug__" : Str)) = false := by decide)
    (he : starEach (e :: es) J.X.env = (false, eval e J.X.env) :: starEach es J.X.env := by rfl) (hpl : (backTo pos (starEach es J.X.env)).any (·.1) = false := by rfl) : SE J (.Call (.Name x p) (e :: es) [] pos) (xBlt gl fs) :=
  (pe_callTy hc hx hm hv ha hn hdb he hpl).imp fun sg H Q ⟨F, env, si, hq⟩ => ⟨F, env, si, (aft_bindV hq).mono fun us H1 ⟨F1, ds, w1, r1, hq1⟩ => hg _ sg F1 H1 us ds Q w1.fh r1 hq1⟩
/-- isinstance(e, T): the class is no datum -/
def xIs (g : D → Res Bool) (f : XE) : XE := fun env => (f env).bind fun a => (g a.d).bind fun b => .ok (.sh (.bl b))

/-! ### a def's promise, its call -/
def spOf (c : Ct) (F : XF) : Sp := fun vs H Q E => ∃ F0 ds, Ex F0 H ∧ Reps c F0 vs ds ∧ Aft c (fun cls d _ H => E cls d H) [] F0 H Q (F ds)
/-- the def nm of the text keeps what F says -/
structure Gf (P : Program) (w : World) (K : PySem.W.Frag) (mg : Str → Option Value) (base : Heap) (c : Ct) (nm : Str) (k : Nat) (ps : List Str) (F : XF) : Prop where
  ex : ∃ f fd, FnOk P w K mg base (L2.CX P w) k f fd ps (spOf c F) ∧ mg nm = some (.ref f) ∧ PySem.W.keepIn K (.ref f) = true ∧ Binds K fd ps []
def xCall (F : XF) (fs : XA) : XE := fun env => (fs env).bind F
theorem Aft.sg {sg sg' : L2.St} {F H : Hp} {Q : VK} {r : Res Val} {W' : WX} (hw : ∀ cls d H, W cls d sg H → W' cls d sg' H) (h : Aft c W sg F H Q r) : Aft c W' sg' F H Q r := by
  cases r with
  | ok r => exact h
  | exc k => exact fun F' H' w => hw _ _ _ (h F' H' w)
  | bad => exact h
theorem se_call {nm : Str} {k : Nat} {ps : List Str} {F : XF} {fs : XA} (g : Gf J.X.prog J.X.w J.X.K J.X.mg J.X.base J.c nm k ps F) (hr : Room k J.X.A) (tk : Takes J.X J.W) (hx : Gl J.X nm) (ha : SA J (e :: es) fs) (hdb : (nm == ("__debug__" : Str)) = false := by decide)
    (he : starEach (e :: es) J.X.env = (false, eval e J.X.env) :: starEach es J.X.env := by rfl) (hpl : (backTo pos (starEach es J.X.env)).any (·.1) = false := by rfl) : SE J (.Call (.Name nm p) (e :: es) [] pos) (xCall F fs) := by
  obtain ⟨f, fd, G, m, kp, b⟩ := g.ex
  exact (pe_callS G hr hx m kp b (fun s => passAt tk s) ha hdb he hpl).imp fun sg H Q ⟨F1, env, si, hq⟩ => ⟨F1, env, si, (aft_bindA hq).mono fun us H1 ⟨F2, ds, w1, r1, _, hq1⟩ => ⟨F2, ds, w1.fh, r1, hq1.sg fun _ _ _ z => z⟩⟩

/-! ### fields -/
def pileNames : List Str := ["columns", "rows", "wide", "high", "heaps", "folds", "cuts"]
theorem lookup_zip : ∀ {ks : List Str} {vs : List V} {n : Nat} {k : Str}, ks.Nodup → ks[n]? = some k → vs.length = ks.length → (ks.zip vs).lookup k = vs[n]?
  | [], _, _, _, _, h, _ => by simp at h
  | _ :: _, [], _, _, _, _, hl => by simp at hl
  | y :: ks, v :: vs, 0, k, _, h, _ => by
    simp only [List.getElem?_cons_zero, Option.some.injEq] at h
    subst h
    simp [List.lookup]
  | y :: ks, v :: vs, n + 1, k, nd, h, hl => by
    have nd' := List.nodup_cons.mp nd
    have hk : ks[n]? = some k := by simpa using h
    have ne : (k == y) = false := by
      have : k ≠ y := fun z => nd'.1 (z ▸ List.mem_of_getElem? hk)
      simpa using this
    rw [List.zip_cons_cons, List.lookup_cons, ne]
    simpa using lookup_zip nd'.2 hk (by simpa using hl)
/-- what the top says of Pile -/
structure PileOk (K : PySem.W.Frag) (C : Addr) : Prop where
  cl : Cls K C
  no : ∀ f ∈ pileNames, NoAttr K C f
def D.isSc : D → Bool
  | .non => true
  | .bl _ => true
  | .int _ => true
  | .str _ => true
  | _ => false
theorem Rep.isSc {F F' : Hp} {u : V} {d : D} (h : Rep c F u d) (hs : d.isSc = true) : Rep c F' u d := by
  cases h with
  | non => exact .non
  | bl => exact .bl
  | int => exact .int
  | str => exact .str
  | _ => exact nomatch hs
/-- a part of a: shared as a is -/
def Val.part (a : Val) (d : D) : Res Val := match a.o with
  | .sh => .ok (.sh d)
  | .li .sh => .ok (.sh d)
  | _ => if d.isSc = true then .ok (.sh d) else .bad
def pFld (n : Nat) (a : Val) : Res Val := match a.o, a.d with
  | .sh, .obj xs => match xs[n]? with
    | some d => .ok (.sh d)
    | none => .bad
  | _, _ => .bad
def xFld (n : Nat) (f : XE) : XE := fun env => (f env).bind (pFld n)
theorem se_fld (n : Nat) {fn : Str} (hK : J.X.K = J.c.K) (T : PileOk J.c.K J.c.C) (ha : SE J e f) (hn : pileNames[n]? = some fn := by rfl) (hb : attributeBase e fn J.X.env (eval e J.X.env) = eval e J.X.env := by rfl) : SE J (.Attribute e fn pos) (xFld n f) := (pe_fld ha hb).imp fun sg H Q ⟨F, env, si, hq⟩ => ⟨F, env, si, (aft_bind hq).mono fun x H1 ⟨F1, va, w1, r1, hq1⟩ => by
  obtain ⟨o, bb, d⟩ := va
  cases o with
  | sh =>
    have rr : Rep J.c F1 x d := r1.repF
    cases rr with
    | @obj a dx vs xs ha hr hl =>
      have hq2 : Aft J.c J.W sg F1 H1 Q (match xs[n]? with | some d => .ok (.sh d) | none => .bad) := hq1
      cases hx : xs[n]? with
      | none =>
        rw [hx] at hq2
        exact hq2.elim
      | some y =>
        rw [hx] at hq2
        obtain ⟨v, hv, rv⟩ := hr.getD hx
        rw [hK]
        refine ⟨a, J.c.C, dx, _, v, rfl, w1.fh _ _ ha, T.cl, T.no fn (List.mem_of_getElem? hn), ?_, Aft.now w1.fh rv hq2⟩
        exact (lookup_zip (by decide +kernel) hn (by rw [hl]; rfl)).trans hv
    | _ => exact (show False from hq1).elim
  | _ => exact (show False from by cases d <;> exact hq1).elim⟩
end
end Bk
set_option Elab.async false
set_option linter.all false
set_option maxRecDepth 100000
set_option maxHeartbeats 4000000
/-! BkE: the operators and built-ins by plain data. -/
namespace Bk
open PySem L2

section
variable {c : Ct} {W : WX} {sg : L2.St} {F H : Hp} {u : V} {r : Val} {d : D} {Q : VK}
theorem Rw.dint (h : Rw c F H u r) (e : Ex F H) {i : Int} (hd : r.d = .int i) : u = .int i := by
  have q := h.rep e
  rw [hd] at q
  cases q
  rfl
theorem Rw.dstr (h : Rw c F H u r) (e : Ex F H) {x : Str} (hd : r.d = .str x) : u = .str x := by
  have q := h.rep e
  rw [hd] at q
  cases q
  rfl
theorem Rw.dbl (h : Rw c F H u r) (e : Ex F H) {b : Bool} (hd : r.d = .bl b) : u = .bl b := by
  have q := h.rep e
  rw [hd] at q
  cases q
  rfl
/-- a part of a shared thing -/
theorem Rw.sh1 {b : Bool} (h : Rw c F H u ⟨.sh, b, d⟩) : Rep c F u d := by
  obtain ⟨S, h1, h2⟩ := h
  exact h1

/-! ### whole numbers -/
def pI2 (g : Int → Int → Res Val) (a b : Val) : Res Val := match a.d, b.d with
  | .int i, .int j => g i j
  | _, _ => .bad
theorem v2_int {C : Int → Int → Prop} [∀ i j, Decidable (C i j)] {f : Int → Int → V} {g : Int → Int → Res Val} (hf : ∀ i j, C i j → ∃ d, g i j = .ok (.sh d) ∧ ∀ F, Rep c F (f i j) d) (hb : ∀ i j, ¬ C i j → g i j = .bad) : V2 c (rI C f) (pI2 g) := by
  intro W sg F H x y a b Q e ra rb h
  obtain ⟨oa, ba, da⟩ := a
  obtain ⟨ob, bb, db⟩ := b
  have ra' := ra.rep e
  have rb' := rb.rep e
  cases ra' with
  | @int i =>
    cases rb' with
    | @int j =>
      have h1 : Aft c W sg F H Q (g i j) := h
      by_cases hc : C i j
      · obtain ⟨d, e1, r1⟩ := hf i j hc
        rw [e1] at h1
        exact ⟨i, j, rfl, rfl, hc, Aft.now e (r1 F) h1⟩
      · rw [hb i j hc] at h1
        exact h1.elim
    | _ => exact (show False from h).elim
  | _ => exact (show False from by cases db <;> exact h).elim
theorem v2_int0 {f : Int → Int → V} {g : Int → Int → Res Val} (hf : ∀ i j, ∃ d, g i j = .ok (.sh d) ∧ ∀ F, Rep c F (f i j) d) : V2 c (rI0 f) (pI2 g) := by
  intro W sg F H x y a b Q e ra rb h
  obtain ⟨i, j, h1, h2, _, h3⟩ := v2_int (C := fun _ _ => True) (fun i j _ => hf i j) (fun i j z => (z trivial).elim) W sg F H x y a b Q e ra rb h
  exact ⟨i, j, h1, h2, h3⟩
def pSub : Val → Val → Res Val := pI2 fun i j => .ok (.sh (.int (i - j)))
theorem v2_sub : V2 c (rI0 fun i j => .int (i - j)) pSub := v2_int0 fun i j => ⟨_, rfl, fun _ => .int⟩
instance (i j : Int) : Decidable (CMul i j) := by unfold CMul; infer_instance
instance (i j : Int) : Decidable (CDiv i j) := by unfold CDiv; infer_instance
instance (i j : Int) : Decidable (CPow i j) := by unfold CPow; infer_instance
def pMul : Val → Val → Res Val := pI2 fun i j => if CMul i j then .ok (.sh (.int (i * j))) else .bad
theorem v2_mul : V2 c (rI CMul fun i j => .int (i * j)) pMul := v2_int (fun i j h => ⟨_, if_pos h, fun _ => .int⟩) fun i j h => if_neg h
def pDiv : Val → Val → Res Val := pI2 fun i j => if CDiv i j then .ok (.sh (.int (i / j))) else .bad
theorem v2_div : V2 c (rI CDiv fun i j => .int (i / j)) pDiv := v2_int (fun i j h => ⟨_, if_pos h, fun _ => .int⟩) fun i j h => if_neg h
def pMod : Val → Val → Res Val := pI2 fun i j => if 0 < j then .ok (.sh (.int (i % j))) else .bad
theorem v2_mod : V2 c (rI (fun _ j => 0 < j) fun i j => .int (i % j)) pMod := v2_int (fun i j h => ⟨_, if_pos h, fun _ => .int⟩) fun i j h => if_neg h
def pPow : Val → Val → Res Val := pI2 fun i j => if CPow i j then .ok (.sh (.int (i ^ j.toNat))) else .bad
theorem v2_pow : V2 c (rI CPow fun i j => .int (i ^ j.toNat)) pPow := v2_int (fun i j h => ⟨_, if_pos h, fun _ => .int⟩) fun i j h => if_neg h
def pLt : Val → Val → Res Val := pI2 fun i j => .ok (.sh (.bl (decide (i < j))))
theorem v2_lt : V2 c (rI0 fun i j => .bl (decide (i < j))) pLt := v2_int0 fun i j => ⟨_, rfl, fun _ => .bl⟩
def pLe : Val → Val → Res Val := pI2 fun i j => .ok (.sh (.bl (decide (i ≤ j))))
theorem v2_le : V2 c (rI0 fun i j => .bl (decide (i ≤ j))) pLe := v2_int0 fun i j => ⟨_, rfl, fun _ => .bl⟩
def pGt : Val → Val → Res Val := pI2 fun i j => .ok (.sh (.bl (decide (j < i))))
theorem v2_gt : V2 c (rI0 fun i j => .bl (decide (j < i))) pGt := v2_int0 fun i j => ⟨_, rfl, fun _ => .bl⟩
def pGe : Val → Val → Res Val := pI2 fun i j => .ok (.sh (.bl (decide (j ≤ i))))
theorem v2_ge : V2 c (rI0 fun i j => .bl (decide (j ≤ i))) pGe := v2_int0 fun i j => ⟨_, rfl, fun _ => .bl⟩

/-! ### + -/
abbrev rAddA : R2 := fun x y H Q => (rI0 fun i j => .int (i + j)) x y H Q ∨ (∃ i j, x = .str i ∧ y = .str j ∧ i.length + j.length ≤ sizeLine ∧ Q (.str (i ++ j)) H) ∨ rCat x y H Q
theorem op_addA {X : Cx} : OpR X (binaryOp .Add) rAddA := op_add.or (op_add_str.or op_cat)
def pAdd (a b : Val) : Res Val := match a.d, b.d with
  | .int i, .int j => .ok (.sh (.int (i + j)))
  | .str x, .str y => if x.length + y.length ≤ 100000 then .ok (.sh (.str (x ++ y))) else .bad
  | .lst _, .lst _ => match a.its, b.its with
    | some xs, some ys => if xs.length + ys.length ≤ 100000 then .ok ⟨.li .sh, false, .lst (xs ++ ys)⟩ else .bad
    | _, _ => .bad
  | _, _ => .bad
theorem v2_add : V2 c rAddA pAdd := by
  intro W sg F H x y a b Q e ra rb h
  have ra' := ra.rep e
  have rb' := rb.rep e
  unfold pAdd at h
  cases hda : a.d with
  | int i =>
    cases hdb : b.d with
    | int j =>
      rw [hda, hdb] at h
      rw [ra.dint e hda, rb.dint e hdb]
      exact .inl ⟨i, j, rfl, rfl, Aft.now e .int h⟩
    | _ => rw [hda, hdb] at h; exact h.elim
  | str i =>
    cases hdb : b.d with
    | str j =>
      rw [hda, hdb] at h
      rw [ra.dstr e hda, rb.dstr e hdb]
      by_cases hl : i.length + j.length ≤ 100000
      · replace h : Aft c W sg F H Q (if i.length + j.length ≤ 100000 then .ok (.sh (.str (i ++ j))) else .bad) := h
        rw [if_pos hl] at h
        exact .inr (.inl ⟨i, j, rfl, rfl, Evl.sz_of hl, Aft.now e .str h⟩)
      · replace h : Aft c W sg F H Q (if i.length + j.length ≤ 100000 then .ok (.sh (.str (i ++ j))) else .bad) := h
        rw [if_neg hl] at h
        exact h.elim
    | _ => rw [hda, hdb] at h; exact h.elim
  | lst xs =>
    cases hdb : b.d with
    | lst ys =>
      rw [hda, hdb] at h
      replace h : Aft c W sg F H Q (match a.its, b.its with
        | some xs, some ys => if xs.length + ys.length ≤ 100000 then .ok ⟨.li .sh, false, .lst (xs ++ ys)⟩ else .bad
        | _, _ => .bad) := h
      cases hia : a.its with
      | none => rw [hia] at h; exact h.elim
      | some xs' =>
        cases hib : b.its with
        | none => rw [hia, hib] at h; exact h.elim
        | some ys' =>
          rw [hia, hib] at h
          replace h : Aft c W sg F H Q (if xs'.length + ys'.length ≤ 100000 then .ok ⟨.li .sh, false, .lst (xs' ++ ys')⟩ else .bad) := h
          obtain ⟨e1, pa, vs, rfl, ha, r1⟩ := ra.items e hia
          obtain ⟨e2, pb, us, rfl, hb, r2⟩ := rb.items e hib
          by_cases hl : xs'.length + ys'.length ≤ 100000
          · rw [if_pos hl] at h
            refine .inr (.inr ⟨pa, pb, vs, us, rfl, rfl, ha, hb, ?_, fun p hp => Aft.newL e hp (r1.append r2) h⟩)
            rw [r1.length, r2.length]
            exact Evl.sz_of hl
          · rw [if_neg hl] at h
            exact h.elim
    | _ => rw [hda, hdb] at h; exact h.elim
  | _ => rw [hda] at h; exact h.elim

/-! ### == -/
def eqvL (f : D → D → Bool) : List D → List D → Bool
  | [], [] => true
  | x :: xs, y :: ys => f x y && eqvL f xs ys
  | _, _ => false
def D.eqv : Nat → D → D → Bool
  | _, .non, .non => true
  | _, .bl a, .bl b => a == b
  | _, .bl a, .int j => (if a then 1 else 0) == j
  | _, .int i, .bl b => i == (if b then 1 else 0)
  | _, .int i, .int j => i == j
  | _, .str x, .str y => x == y
  | n + 1, .lst xs, .lst ys => eqvL (D.eqv n) xs ys
  | n + 1, .tup xs, .tup ys => eqvL (D.eqv n) xs ys
  | _, _, _ => false
def D.fine : Nat → D → Bool
  | _, .non => true
  | _, .bl _ => true
  | _, .int _ => true
  | _, .str x => PyData.strOk x
  | n + 1, .lst xs => xs.all (D.fine n)
  | n + 1, .tup xs => xs.all (D.fine n)
  | _, _ => false
def D.py : Nat → D → PyData
  | _, .non => .none
  | _, .bl b => .bool b
  | _, .int i => .int i
  | _, .str x => .str x
  | n + 1, .lst xs => .list (xs.map (D.py n))
  | n + 1, .tup xs => .tuple (xs.map (D.py n))
  | _, _ => .dict []
theorem eqvAll_of {f : D → D → Bool} {p q : D → PyData} : ∀ {xs ys : List D}, (∀ x ∈ xs, ∀ y ∈ ys, PyData.eqv (p x) (q y) = f x y) → PyData.eqvAll (xs.map p) (ys.map q) = eqvL f xs ys
  | [], [], _ => by simp only [List.map_nil, PyData.eqvAll, eqvL]
  | [], _ :: _, _ => by simp only [List.map_nil, List.map_cons, PyData.eqvAll, eqvL]
  | _ :: _, [], _ => by simp only [List.map_nil, List.map_cons, PyData.eqvAll, eqvL]
  | x :: xs, y :: ys, h => by
    rw [List.map_cons, List.map_cons, PyData.eqvAll, eqvL, h x List.mem_cons_self y List.mem_cons_self, eqvAll_of fun a ha b hb => h a (List.mem_cons_of_mem _ ha) b (List.mem_cons_of_mem _ hb)]
theorem eqv_py : ∀ (n m : Nat) (a b : D), a.fine n = true → b.fine m = true → PyData.eqv (a.py n) (b.py m) = D.eqv n a b
  | n, m, .non, b, _, hb => by cases b <;> cases m <;> cases n <;> first | rfl | (simp only [D.py, PyData.eqv, D.eqv]; done) | (simp [D.fine] at hb; done)
  | n, m, .bl a, b, _, hb => by cases b <;> cases m <;> cases n <;> first | rfl | (simp only [D.py, PyData.eqv, D.eqv]; done) | (simp [D.fine] at hb; done)
  | n, m, .int a, b, _, hb => by cases b <;> cases m <;> cases n <;> first | rfl | (simp only [D.py, PyData.eqv, D.eqv]; done) | (simp [D.fine] at hb; done)
  | n, m, .str a, b, _, hb => by cases b <;> cases m <;> cases n <;> first | rfl | (simp only [D.py, PyData.eqv, D.eqv]; done) | (simp [D.fine] at hb; done)
  | n + 1, m, .lst xs, b, ha, hb => by
    cases b with
    | lst ys =>
      cases m with
      | zero => simp [D.fine] at hb
      | succ m =>
        simp only [D.py, PyData.eqv, D.eqv]
        refine eqvAll_of fun x hx y hy => eqv_py n m x y ?_ ?_
        · simp only [D.fine, List.all_eq_true] at ha
          exact ha x hx
        · simp only [D.fine, List.all_eq_true] at hb
          exact hb y hy
    | _ => cases m <;> first | rfl | (simp only [D.py, PyData.eqv, D.eqv]; done) | (simp [D.fine] at hb; done)
  | n + 1, m, .tup xs, b, ha, hb => by
    cases b with
    | tup ys =>
      cases m with
      | zero => simp [D.fine] at hb
      | succ m =>
        simp only [D.py, PyData.eqv, D.eqv]
        refine eqvAll_of fun x hx y hy => eqv_py n m x y ?_ ?_
        · simp only [D.fine, List.all_eq_true] at ha
          exact ha x hx
        · simp only [D.fine, List.all_eq_true] at hb
          exact hb y hy
    | _ => cases m <;> first | rfl | (simp only [D.py, PyData.eqv, D.eqv]; done) | (simp [D.fine] at hb; done)
  | n, m, .obj _, b, ha, _ => by cases n <;> simp [D.fine] at ha
  | n, m, .exn _, b, ha, _ => by cases n <;> simp [D.fine] at ha
  | n, m, .dic _ _, b, ha, _ => by cases n <;> simp [D.fine] at ha
  | n, m, .fz _, b, ha, _ => by cases n <;> simp [D.fine] at ha
  | 0, m, .lst _, b, ha, _ => by simp [D.fine] at ha
  | 0, m, .tup _, b, ha, _ => by simp [D.fine] at ha
theorem lay_all {p : D → PyData} : ∀ {xs : List D}, (∀ x ∈ xs, (p x).canLay0 = true) → PyData.canLayAll0 (xs.map p) = true
  | [], _ => by simp only [List.map_nil, PyData.canLayAll0]
  | x :: xs, h => by
    rw [List.map_cons, PyData.canLayAll0, h x List.mem_cons_self, lay_all fun y hy => h y (List.mem_cons_of_mem _ hy)]
    rfl
theorem dep_all {p : D → PyData} {n : Nat} : ∀ {xs : List D}, (∀ x ∈ xs, (p x).depth ≤ n) → PyData.depthAll (xs.map p) ≤ n
  | [], _ => by simp only [List.map_nil, PyData.depthAll]; exact Nat.zero_le _
  | x :: xs, h => by
    rw [List.map_cons, PyData.depthAll]
    exact Nat.max_le.mpr ⟨h x List.mem_cons_self, dep_all fun y hy => h y (List.mem_cons_of_mem _ hy)⟩
theorem fine_lay : ∀ (n : Nat) (a : D), a.fine n = true → (a.py n).canLay0 = true ∧ (a.py n).depth ≤ n + 1
  | n, .non, _ => by cases n <;> simp [D.py, PyData.canLay0, PyData.depth]
  | n, .bl _, _ => by cases n <;> simp [D.py, PyData.canLay0, PyData.depth]
  | n, .int _, _ => by cases n <;> simp [D.py, PyData.canLay0, PyData.depth]
  | n, .str x, h => by
    have hs : PyData.strOk x = true := by cases n <;> exact h
    cases n <;> simp [D.py, PyData.canLay0, PyData.depth, hs]
  | n + 1, .lst xs, h => by
    simp only [D.fine, List.all_eq_true] at h
    simp only [D.py, PyData.canLay0, PyData.depth]
    have h2 := dep_all (p := D.py n) (n := n + 1) (xs := xs) fun x hx => (fine_lay n x (h x hx)).2
    exact ⟨lay_all fun x hx => (fine_lay n x (h x hx)).1, by omega⟩
  | n + 1, .tup xs, h => by
    simp only [D.fine, List.all_eq_true] at h
    simp only [D.py, PyData.canLay0, PyData.depth]
    have h2 := dep_all (p := D.py n) (n := n + 1) (xs := xs) fun x hx => (fine_lay n x (h x hx)).2
    exact ⟨lay_all fun x hx => (fine_lay n x (h x hx)).1, by omega⟩
  | n, .obj _, h => by cases n <;> simp [D.fine] at h
  | n, .exn _, h => by cases n <;> simp [D.fine] at h
  | n, .dic _ _, h => by cases n <;> simp [D.fine] at h
  | n, .fz _, h => by cases n <;> simp [D.fine] at h
  | 0, .lst _, h => by simp [D.fine] at h
  | 0, .tup _, h => by simp [D.fine] at h
theorem fine_shaped {n : Nat} {a : D} (h : a.fine n = true) (hn : n ≤ 60) : SeqAt.shaped (a.py n) = true := by
  obtain ⟨h1, h2⟩ := fine_lay n a h
  unfold SeqAt.shaped
  rw [h1, decide_eq_true (by omega : (a.py n).depth ≤ 64)]
  rfl
theorem dp_all {K : PySem.W.Frag} {p : D → PyData} : ∀ {vs : List V} {xs : List D}, Reps c H vs xs → (∀ v x, x ∈ xs → Rep c H v x → Dp K H v (p x)) → DpAll K H vs (xs.map p)
  | _, _, .nil, _ => .nil
  | _, _, .cons h r, k => .cons (k _ _ List.mem_cons_self h) (dp_all r fun v x hx => k v x (List.mem_cons_of_mem _ hx))
theorem rep_dp {K : PySem.W.Frag} : ∀ (n : Nat) (v : V) (a : D), a.fine n = true → Rep c H v a → Dp K H v (a.py n)
  | n, _, .non, _, h => by cases h; cases n <;> exact .non
  | n, _, .bl _, _, h => by cases h; cases n <;> exact .bl _
  | n, _, .int _, _, h => by cases h; cases n <;> exact .int _
  | n, _, .str _, _, h => by cases h; cases n <;> exact .str _
  | n + 1, _, .lst xs, f, h => by
    simp only [D.fine, List.all_eq_true] at f
    cases h with
    | lst ha hr => exact .lst (.inl (.inl ha)) (dp_all hr fun v x hx hv => rep_dp n v x (f x hx) hv)
  | n + 1, _, .tup xs, f, h => by
    simp only [D.fine, List.all_eq_true] at f
    cases h with
    | tup ha hr => exact .tup (.inl (.inl ha)) (dp_all hr fun v x hx hv => rep_dp n v x (f x hx) hv)
  | n, _, .obj _, h, _ => by cases n <;> simp [D.fine] at h
  | n, _, .exn _, h, _ => by cases n <;> simp [D.fine] at h
  | n, _, .dic _ _, h, _ => by cases n <;> simp [D.fine] at h
  | n, _, .fz _, h, _ => by cases n <;> simp [D.fine] at h
  | 0, _, .lst _, h, _ => by simp [D.fine] at h
  | 0, _, .tup _, h, _ => by simp [D.fine] at h
def pEq (a b : Val) : Res Val := match a.d, b.d with
  | .int i, .int j => .ok (.sh (.bl (decide (i = j))))
  | .str i, .str j => .ok (.sh (.bl (decide (i = j))))
  | d, e => if d.fine 6 && e.fine 6 then .ok (.sh (.bl (D.eqv 6 d e))) else .bad
def pNe (a b : Val) : Res Val := match a.d, b.d with
  | .int i, .int j => .ok (.sh (.bl (!decide (i = j))))
  | .str i, .str j => .ok (.sh (.bl (!decide (i = j))))
  | d, e => if d.fine 6 && e.fine 6 then .ok (.sh (.bl (!D.eqv 6 d e))) else .bad
abbrev rEqA (K : PySem.W.Frag) : R2 := fun x y H Q => rEq x y H Q ∨ rEqD K x y H Q
abbrev rNeA (K : PySem.W.Frag) : R2 := fun x y H Q => rNe x y H Q ∨ rNeD K x y H Q
theorem op_eqA {X : Cx} (hu : X.A.units + 64 < cLine) : OpR X (compareOp .Eq) (rEqA X.K) := op_eq.or (op_eqD hu)
theorem op_neA {X : Cx} (hu : X.A.units + 64 < cLine) : OpR X (compareOp .NotEq) (rNeA X.K) := op_ne.or (op_neD hu)
theorem eq_gen {K : PySem.W.Frag} {x y : V} {d e : D} (e0 : Ex F H) (rx : Rep c H x d) (ry : Rep c H y e) (h : Aft c W sg F H Q (if d.fine 6 && e.fine 6 then .ok (.sh (.bl (D.eqv 6 d e))) else .bad)) : rEqD K x y H Q := by
  by_cases hf : (d.fine 6 && e.fine 6) = true
  · rw [if_pos hf] at h
    rw [Bool.and_eq_true] at hf
    refine ⟨d.py 6, e.py 6, rep_dp 6 x d hf.1 rx, rep_dp 6 y e hf.2 ry, fine_shaped hf.1 (by decide), fine_shaped hf.2 (by decide), ?_⟩
    rw [eqv_py 6 6 d e hf.1 hf.2]
    exact Aft.now e0 .bl h
  · rw [if_neg hf] at h
    exact h.elim
theorem ne_gen {K : PySem.W.Frag} {x y : V} {d e : D} (e0 : Ex F H) (rx : Rep c H x d) (ry : Rep c H y e) (h : Aft c W sg F H Q (if d.fine 6 && e.fine 6 then .ok (.sh (.bl (!D.eqv 6 d e))) else .bad)) : rNeD K x y H Q := by
  by_cases hf : (d.fine 6 && e.fine 6) = true
  · rw [if_pos hf] at h
    rw [Bool.and_eq_true] at hf
    refine ⟨d.py 6, e.py 6, rep_dp 6 x d hf.1 rx, rep_dp 6 y e hf.2 ry, fine_shaped hf.1 (by decide), fine_shaped hf.2 (by decide), ?_⟩
    rw [eqv_py 6 6 d e hf.1 hf.2]
    exact Aft.now e0 .bl h
  · rw [if_neg hf] at h
    exact h.elim
theorem v2_eq {K : PySem.W.Frag} : V2 c (rEqA K) pEq := by
  intro W sg F H x y a b Q e ra rb h
  obtain ⟨oa, ba, da⟩ := a
  obtain ⟨ob, bb, db⟩ := b
  have ra' := ra.rep e
  have rb' := rb.rep e
  dsimp only at ra' rb'
  cases da with
  | int i =>
    cases db with
    | int j =>
      cases ra'
      cases rb'
      refine .inl ⟨rfl, ?_⟩
      have z : decide (V.int i = V.int j) = decide (i = j) := by simp
      rw [z]
      exact Aft.now e .bl h
    | _ => exact .inr (eq_gen e ra' rb' h)
  | str i =>
    cases db with
    | str j =>
      cases ra'
      cases rb'
      refine .inl ⟨rfl, ?_⟩
      have z : decide (V.str i = V.str j) = decide (i = j) := by simp
      rw [z]
      exact Aft.now e .bl h
    | _ => exact .inr (eq_gen e ra' rb' h)
  | _ => exact .inr (eq_gen e ra' rb' h)
theorem v2_ne {K : PySem.W.Frag} : V2 c (rNeA K) pNe := by
  intro W sg F H x y a b Q e ra rb h
  obtain ⟨oa, ba, da⟩ := a
  obtain ⟨ob, bb, db⟩ := b
  have ra' := ra.rep e
  have rb' := rb.rep e
  dsimp only at ra' rb'
  cases da with
  | int i =>
    cases db with
    | int j =>
      cases ra'
      cases rb'
      refine .inl ⟨rfl, ?_⟩
      have z : decide (V.int i = V.int j) = decide (i = j) := by simp
      rw [z]
      exact Aft.now e .bl h
    | _ => exact .inr (ne_gen e ra' rb' h)
  | str i =>
    cases db with
    | str j =>
      cases ra'
      cases rb'
      refine .inl ⟨rfl, ?_⟩
      have z : decide (V.str i = V.str j) = decide (i = j) := by simp
      rw [z]
      exact Aft.now e .bl h
    | _ => exact .inr (ne_gen e ra' rb' h)
  | _ => exact .inr (ne_gen e ra' rb' h)

/-! ### is -/
def D.isNon : D → Bool
  | .non => true
  | _ => false
theorem rep_non {v : V} {d : D} (h : Rep c H v d) : decide (v = .non) = d.isNon := by cases h <;> simp [D.isNon]
def pIs (a b : Val) : Res Val := match b.d with
  | .non => .ok (.sh (.bl a.d.isNon))
  | .bl k => match a.d with
    | .bl j => .ok (.sh (.bl (decide (j = k))))
    | _ => .bad
  | _ => .bad
def pIsNot (a b : Val) : Res Val := match b.d with
  | .non => .ok (.sh (.bl (!a.d.isNon)))
  | .bl k => match a.d with
    | .bl j => .ok (.sh (.bl (!decide (j = k))))
    | _ => .bad
  | _ => .bad
abbrev rIsA : R2 := fun x y H Q => (y = .non ∧ Q (.bl (decide (x = .non))) H) ∨ rIsB x y H Q
abbrev rIsNotA : R2 := fun x y H Q => (y = .non ∧ Q (.bl (!decide (x = .non))) H) ∨ rNotB x y H Q
theorem op_isA {X : Cx} : OpR X (compareOp .Is) rIsA := op_isN.or op_isBl
theorem op_isNotA {X : Cx} : OpR X (compareOp .IsNot) rIsNotA := op_notN.or op_notBl
theorem v2_is : V2 c rIsA pIs := by
  intro W sg F H x y a b Q e ra rb h
  obtain ⟨oa, ba, da⟩ := a
  obtain ⟨ob, bb, db⟩ := b
  have ra' := ra.rep e
  have rb' := rb.rep e
  dsimp only at ra' rb'
  cases db with
  | non =>
    cases rb'
    refine .inl ⟨rfl, ?_⟩
    rw [rep_non ra']
    exact Aft.now e .bl h
  | bl k =>
    cases rb'
    cases da with
    | bl j =>
      cases ra'
      exact .inr ⟨j, k, rfl, rfl, Aft.now e .bl h⟩
    | _ => exact (show False from h).elim
  | _ => exact (show False from h).elim
theorem v2_isNot : V2 c rIsNotA pIsNot := by
  intro W sg F H x y a b Q e ra rb h
  obtain ⟨oa, ba, da⟩ := a
  obtain ⟨ob, bb, db⟩ := b
  have ra' := ra.rep e
  have rb' := rb.rep e
  dsimp only at ra' rb'
  cases db with
  | non =>
    cases rb'
    refine .inl ⟨rfl, ?_⟩
    rw [rep_non ra']
    exact Aft.now e .bl h
  | bl k =>
    cases rb'
    cases da with
    | bl j =>
      cases ra'
      exact .inr ⟨j, k, rfl, rfl, Aft.now e .bl h⟩
    | _ => exact (show False from h).elim
  | _ => exact (show False from h).elim
end
end Bk
set_option Elab.async false
set_option linter.all false
set_option maxRecDepth 100000
set_option maxHeartbeats 4000000
/-! BkF: in, subscripts, slices, built-ins. -/
namespace Bk
open PySem L2

section
variable {c : Ct} {W : WX} {sg : L2.St} {F H : Hp} {u : V} {r : Val} {d : D} {Q : VK}
def D.flat : D → Bool
  | .non => true
  | .bl _ => true
  | .int _ => true
  | .str _ => true
  | _ => false
theorem rep_flat {v : V} {d : D} (h : Rep c F v d) (f : d.flat = true) : flatV v = true := by
  cases h <;> first | rfl | exact nomatch f
theorem reps_flat : ∀ {vs : List V} {ds : List D}, Reps c F vs ds → ds.all D.flat = true → vs.all flatV = true
  | _, _, .nil, _ => rfl
  | _, _, .cons h r, f => by
    rw [List.all_cons, Bool.and_eq_true] at f ⊢
    exact ⟨rep_flat h f.1, reps_flat r f.2⟩
theorem eqV_eqv {x y : V} {d e : D} (hx : Rep c F x d) (hy : Rep c F y e) (fd : d.flat = true) (fe : e.flat = true) : eqV x y = D.eqv 0 d e := by
  cases hx <;> cases hy <;> first | rfl | exact nomatch fd | exact nomatch fe
theorem inV_eq {x : V} {d : D} (hx : Rep c F x d) (fd : d.flat = true) : ∀ {vs : List V} {ds : List D}, Reps c F vs ds → ds.all D.flat = true → inV x vs = ds.any fun y => D.eqv 0 y d
  | _, _, .nil, _ => rfl
  | _, _, .cons h r, f => by
    rw [List.all_cons, Bool.and_eq_true] at f
    unfold inV
    rw [List.any_cons, List.any_cons, eqV_eqv h hx f.1 fd]
    exact congrArg _ (inV_eq hx fd r f.2)
def pIn (neg : Bool) (a b : Val) : Res Val := match b.d with
  | .tup xs => if a.d.flat && xs.all D.flat then .ok (.sh (.bl (if neg then !xs.any fun y => D.eqv 0 y a.d else xs.any fun y => D.eqv 0 y a.d))) else .bad
  | .lst xs => if a.d.flat && xs.all D.flat then .ok (.sh (.bl (if neg then !xs.any fun y => D.eqv 0 y a.d else xs.any fun y => D.eqv 0 y a.d))) else
      if a.d.fine 5 && xs.all (D.fine 5) then .ok (.sh (.bl (if neg then !xs.any fun y => D.eqv 5 y a.d else xs.any fun y => D.eqv 5 y a.d))) else .bad
  | _ => .bad
abbrev rInA (K : PySem.W.Frag) : R2 := fun x y H Q => rIn K false x y H Q ∨ rInD K x y H Q
abbrev rNotInA (K : PySem.W.Frag) : R2 := fun x y H Q => rIn K true x y H Q ∨ rNotInD K x y H Q
theorem op_inA {X : Cx} (hu : X.A.units + 65 < cLine) : OpR X (compareOp .In) (rInA X.K) := op_in_seq.or (op_inD hu)
theorem op_notInA {X : Cx} (hu : X.A.units + 65 < cLine) : OpR X (compareOp .NotIn) (rNotInA X.K) := op_notIn_seq.or (op_notInD hu)
theorem any_py {d : D} (fd : d.fine 5 = true) : ∀ {ds : List D}, ds.all (D.fine 5) = true → ((ds.map (D.py 5)).any fun z => PyData.eqv z (d.py 5)) = ds.any fun y => D.eqv 5 y d
  | [], _ => rfl
  | y :: ds, f => by
    rw [List.all_cons, Bool.and_eq_true] at f
    rw [List.map_cons, List.any_cons, List.any_cons, eqv_py 5 5 y d f.1 fd, any_py fd f.2]
theorem in_flat {K : PySem.W.Frag} {neg : Bool} {x : V} {a : Addr} {d : D} {vs : List V} {xs : List D} (e : Ex F H) (hs : SqL K H a vs ∨ SqT K H a vs) (hr : Reps c H vs xs) (hx : Rep c H x d)
    (hf : d.flat && xs.all D.flat) (h : Aft c W sg F H Q (.ok (.sh (.bl (if neg then !xs.any fun y => D.eqv 0 y d else xs.any fun y => D.eqv 0 y d))))) : rIn K neg x (.ref a) H Q := by
  rw [Bool.and_eq_true] at hf
  refine ⟨a, vs, rfl, hs, rep_flat hx hf.1, reps_flat hr hf.2, ?_⟩
  rw [inV_eq hx hf.1 hr hf.2]
  exact Aft.now e .bl h
theorem dp_lst {K : PySem.W.Frag} {a : Addr} {vs : List V} {xs : List D} (ha : H a = some (.lst vs)) (hr : Reps c H vs xs) (f : xs.all (D.fine 5) = true) : Dp K H (.ref a) (.list (xs.map (D.py 5))) :=
  .lst (.inl (.inl ha)) (dp_all hr fun v x hx hv => rep_dp 5 v x (List.all_eq_true.mp f x hx) hv)
theorem sh_lst {xs : List D} (f : xs.all (D.fine 5) = true) : SeqAt.shaped (.list (xs.map (D.py 5))) = true := fine_shaped (n := 6) (a := .lst xs) f (by decide)
theorem v2_in {K : PySem.W.Frag} : V2 c (rInA K) (pIn false) := by
  intro W sg F H x y a b Q e ra rb h
  obtain ⟨ob, bb, db⟩ := b
  have ra' := ra.rep e
  have rb' := rb.rep e
  dsimp only at rb'
  cases rb' with
  | @tup p vs xs hp hr =>
    replace h : Aft c W sg F H Q (if a.d.flat && xs.all D.flat then _ else .bad) := h
    by_cases hf : (a.d.flat && xs.all D.flat) = true
    · rw [if_pos hf] at h
      exact .inl (in_flat e (.inr (.inl (.inl hp))) hr ra' hf h)
    · rw [if_neg hf] at h
      exact h.elim
  | @lst p vs xs hp hr =>
    replace h : Aft c W sg F H Q (if a.d.flat && xs.all D.flat then _ else if a.d.fine 5 && xs.all (D.fine 5) then .ok (.sh (.bl (xs.any fun y => D.eqv 5 y a.d))) else .bad) := h
    by_cases hf : (a.d.flat && xs.all D.flat) = true
    · rw [if_pos hf] at h
      exact .inl (in_flat e (.inl (.inl (.inl hp))) hr ra' hf h)
    · rw [if_neg hf] at h
      by_cases hg : (a.d.fine 5 && xs.all (D.fine 5)) = true
      · rw [if_pos hg] at h
        rw [Bool.and_eq_true] at hg
        refine .inr ⟨a.d.py 5, xs.map (D.py 5), rep_dp 5 x a.d hg.1 ra', dp_lst hp hr hg.2, fine_shaped hg.1 (by decide), sh_lst hg.2, ?_⟩
        rw [any_py hg.1 hg.2]
        exact Aft.now e .bl h
      · rw [if_neg hg] at h
        exact h.elim
  | _ => exact (show False from h).elim
theorem v2_notIn {K : PySem.W.Frag} : V2 c (rNotInA K) (pIn true) := by
  intro W sg F H x y a b Q e ra rb h
  obtain ⟨ob, bb, db⟩ := b
  have ra' := ra.rep e
  have rb' := rb.rep e
  dsimp only at rb'
  cases rb' with
  | @tup p vs xs hp hr =>
    replace h : Aft c W sg F H Q (if a.d.flat && xs.all D.flat then _ else .bad) := h
    by_cases hf : (a.d.flat && xs.all D.flat) = true
    · rw [if_pos hf] at h
      exact .inl (in_flat e (.inr (.inl (.inl hp))) hr ra' hf h)
    · rw [if_neg hf] at h
      exact h.elim
  | @lst p vs xs hp hr =>
    replace h : Aft c W sg F H Q (if a.d.flat && xs.all D.flat then _ else if a.d.fine 5 && xs.all (D.fine 5) then .ok (.sh (.bl (!xs.any fun y => D.eqv 5 y a.d))) else .bad) := h
    by_cases hf : (a.d.flat && xs.all D.flat) = true
    · rw [if_pos hf] at h
      exact .inl (in_flat e (.inl (.inl (.inl hp))) hr ra' hf h)
    · rw [if_neg hf] at h
      by_cases hg : (a.d.fine 5 && xs.all (D.fine 5)) = true
      · rw [if_pos hg] at h
        rw [Bool.and_eq_true] at hg
        refine .inr ⟨a.d.py 5, xs.map (D.py 5), rep_dp 5 x a.d hg.1 ra', dp_lst hp hr hg.2, fine_shaped hg.1 (by decide), sh_lst hg.2, ?_⟩
        rw [any_py hg.1 hg.2]
        exact Aft.now e .bl h
      · rw [if_neg hg] at h
        exact h.elim
  | _ => exact (show False from h).elim

/-! ### subscripts -/
/-- the item at i: a part of a sequence, a sign of a text -/
def pIx (a b : Val) : Res Val := match b.d with
  | .int i => match a.d with
    | .lst xs => match atI xs i with
      | some d => a.part d
      | none => .bad
    | .tup xs => match atI xs i with
      | some d => a.part d
      | none => .bad
    | .fz xs => match atI xs i with
      | some d => a.part d
      | none => .bad
    | .str z => if z.length ≤ 100000 then match atI z.cps.toList i with
      | some k => .ok (.sh (.str ⟨#[k]⟩))
      | none => .bad
      else .bad
    | _ => .bad
  | _ => .bad
theorem atI_reps {vs : List V} {xs : List D} {i : Int} {d : D} (hr : Reps c F vs xs) (h : atI xs i = some d) : ∃ v, atI vs i = some v ∧ Rep c F v d := by
  unfold atI at h ⊢
  rw [hr.length]
  cases q : ixN xs.length i with
  | none =>
    rw [q] at h
    cases h
  | some j =>
    rw [q] at h
    exact hr.getD (i := j) h
/-- a part's standing: its place in the sequence, shared where it may be -/
theorem Rw.part {o : Ow} {b : Bool} {d : D} (h : Rw c F H u ⟨o, b, d⟩) (e : Ex F H) :
    (∀ xs, d = .lst xs → ∃ p vs, u = .ref p ∧ H p = some (.lst vs) ∧ Reps c H vs xs ∧ ((o = .sh ∨ o = .li .sh) → Reps c F vs xs)) ∧
    (∀ xs, d = .tup xs → ∃ p vs, u = .ref p ∧ H p = some (.tup vs) ∧ Reps c H vs xs ∧ (o = .sh → Reps c F vs xs)) ∧
    (∀ xs, d = .fz xs → ∃ p vs, u = .ref p ∧ SqL c.K H p vs ∧ Reps c H vs xs ∧ (o = .sh → Reps c F vs xs)) := by
  have hr := h.rep e
  refine ⟨fun xs ed => ?_, fun xs ed => ?_, fun xs ed => ?_⟩
  · subst ed
    cases hr with
    | @lst p vs _ hp hv =>
      refine ⟨p, vs, rfl, hp, hv, fun ho => ?_⟩
      have hi : (Val.mk o b (.lst xs)).its = some xs := by
        rcases ho with ho | ho <;> subst ho <;> rfl
      obtain ⟨_, p2, vs2, e1, e2, e3⟩ := h.items e hi
      cases e1
      rw [hp] at e2
      cases e2
      exact e3
  · subst ed
    cases hr with
    | @tup p vs _ hp hv =>
      refine ⟨p, vs, rfl, hp, hv, fun ho => ?_⟩
      subst ho
      cases h.sh1 with
      | tup hp2 hv2 =>
        have e2 := e _ _ hp2
        rw [hp] at e2
        cases e2
        exact hv2
  · subst ed
    cases o with
    | sh =>
      cases h.sh1 with
      | @fz p vs _ hp hv => exact ⟨p, vs, rfl, Evl.ex_l e hp, hv.mono e, fun _ => hv⟩
    | _ =>
      cases hr with
      | @fz p vs _ hp hv => exact ⟨p, vs, rfl, hp, hv, fun z => nomatch z⟩
theorem aft_part {a : Val} {v : V} {d : D} (e : Ex F H) (h1 : Rep c H v d) (h2 : (a.o = .sh ∨ a.o = .li .sh) → Rep c F v d) (h : Aft c W sg F H Q (a.part d)) : Q v H := by
  obtain ⟨o, b, da⟩ := a
  have sc : Aft c W sg F H Q (if d.isSc = true then .ok (.sh d) else .bad) → Q v H := fun h => by
    by_cases hs : d.isSc = true
    · rw [if_pos hs] at h
      exact Aft.now e (h1.isSc hs) h
    · rw [if_neg hs] at h
      exact h.elim
  cases o with
  | sh => exact Aft.now e (h2 (.inl rfl)) h
  | li o =>
    cases o with
    | sh => exact Aft.now e (h2 (.inr rfl)) h
    | _ => exact sc h
  | _ => exact sc h
theorem v2_ix : V2 c (rIx c.K) pIx := by
  intro W sg F H x y a b Q e ra rb h
  obtain ⟨oa, ba, da⟩ := a
  obtain ⟨ob, bb, db⟩ := b
  have ra' := ra.rep e
  have rb' := rb.rep e
  have pt := ra.part e
  dsimp only at ra' rb'
  cases rb' with
  | @int i =>
    cases da with
    | lst xs =>
      replace h : Aft c W sg F H Q (match atI xs i with | some d => Val.part ⟨oa, ba, .lst xs⟩ d | none => .bad) := h
      cases hx : atI xs i with
      | none => rw [hx] at h; exact h.elim
      | some d =>
        rw [hx] at h
        obtain ⟨p, vs, rfl, hp, h1, h2⟩ := pt.1 xs rfl
        obtain ⟨v, hv, rv⟩ := atI_reps h1 hx
        refine .inl ⟨p, vs, i, v, rfl, rfl, .inl (.inl hp), hv, aft_part e rv (fun ho => ?_) h⟩
        obtain ⟨v', hv', rv'⟩ := atI_reps (h2 ho) hx
        rw [hv] at hv'
        cases hv'
        exact rv'
    | tup xs =>
      replace h : Aft c W sg F H Q (match atI xs i with | some d => Val.part ⟨oa, ba, .tup xs⟩ d | none => .bad) := h
      cases hx : atI xs i with
      | none => rw [hx] at h; exact h.elim
      | some d =>
        rw [hx] at h
        obtain ⟨p, vs, rfl, hp, h1, h2⟩ := pt.2.1 xs rfl
        obtain ⟨v, hv, rv⟩ := atI_reps h1 hx
        refine .inr (.inl ⟨p, vs, i, v, rfl, rfl, .inl (.inl hp), hv, ?_⟩)
        cases oa with
        | sh =>
          obtain ⟨v', hv', rv'⟩ := atI_reps (h2 rfl) hx
          rw [hv] at hv'
          cases hv'
          exact Aft.now e rv' h
        | li o =>
          cases o with
          | sh =>
            obtain ⟨S, z, _⟩ := ra
            obtain ⟨_, _, _, _, z, _⟩ := z
            cases z
          | _ => exact aft_part e rv (fun ho => (by rcases ho with ho | ho <;> cases ho)) h
        | _ => exact aft_part e rv (fun ho => (by rcases ho with ho | ho <;> cases ho)) h
    | fz xs =>
      replace h : Aft c W sg F H Q (match atI xs i with | some d => Val.part ⟨oa, ba, .fz xs⟩ d | none => .bad) := h
      cases hx : atI xs i with
      | none => rw [hx] at h; exact h.elim
      | some d =>
        rw [hx] at h
        obtain ⟨p, vs, rfl, hp, h1, h2⟩ := pt.2.2 xs rfl
        obtain ⟨v, hv, rv⟩ := atI_reps h1 hx
        refine .inl ⟨p, vs, i, v, rfl, rfl, hp, hv, ?_⟩
        cases oa with
        | sh =>
          obtain ⟨v', hv', rv'⟩ := atI_reps (h2 rfl) hx
          rw [hv] at hv'
          cases hv'
          exact Aft.now e rv' h
        | li o =>
          cases o with
          | sh =>
            obtain ⟨S, z, _⟩ := ra
            obtain ⟨_, _, _, _, z, _⟩ := z
            cases z
          | _ => exact aft_part e rv (fun ho => (by rcases ho with ho | ho <;> cases ho)) h
        | _ => exact aft_part e rv (fun ho => (by rcases ho with ho | ho <;> cases ho)) h
    | str z =>
      cases ra'
      replace h : Aft c W sg F H Q (if z.length ≤ 100000 then match atI z.cps.toList i with
        | some k => .ok (.sh (.str ⟨#[k]⟩))
        | none => .bad
        else .bad) := h
      by_cases hl : z.length ≤ 100000
      · rw [if_pos hl] at h
        cases hx : atI z.cps.toList i with
        | none => rw [hx] at h; exact h.elim
        | some k =>
          rw [hx] at h
          exact .inr (.inr ⟨z, i, k, rfl, rfl, Evl.sz_of hl, hx, Aft.now e .str h⟩)
      · rw [if_neg hl] at h
        exact h.elim
    | _ => exact (show False from h).elim
  | _ => exact (show False from h).elim

/-! ### built-ins -/
theorem rws1 {us : List V} {r : Val} (h : Rws c F H us [r]) : ∃ u, us = [u] ∧ Rw c F H u r := by
  cases h with
  | cons h1 h2 =>
    cases h2
    exact ⟨_, rfl, h1⟩
theorem rws2 {us : List V} {r r' : Val} (h : Rws c F H us [r, r']) : ∃ u u', us = [u, u'] ∧ Rw c F H u r ∧ Rw c F H u' r' := by
  cases h with
  | cons h1 h2 =>
    cases h2 with
    | cons h2 h3 =>
      cases h3
      exact ⟨_, _, rfl, h1, h2⟩
def pLen (rs : List Val) : Res Val := match rs with
  | [a] => match a.d with
    | .lst xs => .ok (.sh (.int xs.length))
    | .tup xs => .ok (.sh (.int xs.length))
    | .fz xs => .ok (.sh (.int xs.length))
    | .str z => if z.length ≤ 100000 then .ok (.sh (.int z.length)) else .bad
    | _ => .bad
  | _ => .bad
abbrev rLenA (K : PySem.W.Frag) : List V → Hp → VK → Prop := fun xs H Q => (∃ p ys, xs = [.ref p] ∧ (SqL K H p ys ∨ SqT K H p ys) ∧ Q (.int ys.length) H) ∨ ∃ z, xs = [.str z] ∧ z.length ≤ sizeLine ∧ Q (.int z.length) H
theorem call_lenA {X : Cx} : CallR X (.builtin "len") (rLenA X.K) := call_len_seq.or call_len_str
theorem vn_len : VN c (rLenA c.K) pLen := by
  intro W sg F H us rs Q e hr h
  unfold pLen at h
  cases hr with
  | nil => exact h.elim
  | @cons u r us rs h1 h2 =>
    cases h2 with
    | cons _ _ => exact h.elim
    | nil =>
      have q := h1.rep e
      dsimp only at h
      cases hd : r.d with
      | lst xs =>
        rw [hd] at q
        cases q with
        | @lst p vs _ hp hv =>
          rw [hd] at h
          refine .inl ⟨p, vs, rfl, .inl (.inl (.inl hp)), ?_⟩
          rw [hv.length]
          exact Aft.now e .int h
      | tup xs =>
        rw [hd] at q
        cases q with
        | @tup p vs _ hp hv =>
          rw [hd] at h
          refine .inl ⟨p, vs, rfl, .inr (.inl (.inl hp)), ?_⟩
          rw [hv.length]
          exact Aft.now e .int h
      | fz xs =>
        rw [hd] at q
        cases q with
        | @fz p vs _ hp hv =>
          rw [hd] at h
          refine .inl ⟨p, vs, rfl, .inl hp, ?_⟩
          rw [hv.length]
          exact Aft.now e .int h
      | str z =>
        rw [hd] at q
        cases q
        rw [hd] at h
        replace h : Aft c W sg F H Q (if z.length ≤ 100000 then .ok (.sh (.int z.length)) else .bad) := h
        by_cases hl : z.length ≤ 100000
        · rw [if_pos hl] at h
          exact .inr ⟨z, rfl, Evl.sz_of hl, Aft.now e .int h⟩
        · rw [if_neg hl] at h
          exact h.elim
      | _ => rw [hd] at h; exact h.elim
def pInt2 (g : Int → Int → Int) (rs : List Val) : Res Val := match rs with
  | [a, b] => match a.d, b.d with
    | .int i, .int j => .ok (.sh (.int (g i j)))
    | _, _ => .bad
  | _ => .bad
theorem vn_int2 {g : Int → Int → Int} : VN c (fun xs H Q => ∃ i j, xs = [.int i, .int j] ∧ Q (.int (g i j)) H) (pInt2 g) := by
  intro W sg F H us rs Q e hr h
  cases hr with
  | nil => exact (show False from h).elim
  | @cons u r us rs h1 h2 =>
    cases h2 with
    | nil => exact (show False from h).elim
    | @cons u2 r2 us rs h2 h3 =>
      cases h3 with
      | cons _ _ => exact (show False from h).elim
      | nil =>
        unfold pInt2 at h
        dsimp only at h
        cases hd : r.d with
        | int i =>
          cases hd2 : r2.d with
          | int j =>
            rw [hd, hd2] at h
            rw [h1.dint e hd, h2.dint e hd2]
            exact ⟨i, j, rfl, Aft.now e .int h⟩
          | _ => rw [hd, hd2] at h; exact h.elim
        | _ => rw [hd] at h; exact h.elim
def pMax2 : List Val → Res Val := pInt2 fun i j => if j > i then j else i
theorem vn_max2 : VN c (fun xs H Q => ∃ i j, xs = [.int i, .int j] ∧ Q (.int (if j > i then j else i)) H) pMax2 := vn_int2
def pMin2 : List Val → Res Val := pInt2 fun i j => if j < i then j else i
theorem vn_min2 : VN c (fun xs H Q => ∃ i j, xs = [.int i, .int j] ∧ Q (.int (if j < i then j else i)) H) pMin2 := vn_int2
/-- the ints of a list -/
def D.ints : List D → Option (List Int)
  | [] => some []
  | .int i :: r => (D.ints r).map (i :: ·)
  | _ => none
theorem ints_reps : ∀ {vs : List V} {xs : List D} {ns : List Int}, Reps c F vs xs → D.ints xs = some ns → vs = ns.map V.int
  | _, _, ns, .nil, h => by
    cases Option.some.inj h
    rfl
  | _, _, ns, .cons (d := d) h r, e => by
    cases h with
    | @int i =>
      rw [D.ints] at e
      rename_i vs ds
      cases q : D.ints ds with
      | none =>
        rw [q] at e
        cases e
      | some ms =>
        rw [q] at e
        cases Option.some.inj e
        rw [ints_reps r q]
        rfl
    | _ => simp [D.ints] at e
theorem ints_map (ns : List Int) : D.ints (ns.map D.int) = some ns := by
  induction ns with
  | nil => rfl
  | cons n ns ih =>
    rw [List.map_cons, D.ints, ih]
    rfl
theorem reps_ints (ns : List Int) : Reps c F (ns.map V.int) (ns.map D.int) := by
  induction ns with
  | nil => exact .nil
  | cons n ns ih => exact .cons .int ih
/-- the greatest, the least -/
def maxL : List Int → Option Int
  | [] => none
  | x :: xs => some (xs.foldl max x)
def minL : List Int → Option Int
  | [] => none
  | x :: xs => some (xs.foldl min x)
theorem foldl_max : ∀ (xs : List Int) (a : Int), a ≤ xs.foldl max a ∧ (∀ y ∈ xs, y ≤ xs.foldl max a) ∧ (xs.foldl max a = a ∨ xs.foldl max a ∈ xs)
  | [], a => ⟨Int.le_refl _, fun _ h => by simp at h, .inl rfl⟩
  | x :: xs, a => by
    obtain ⟨h1, h2, h3⟩ := foldl_max xs (max a x)
    rw [List.foldl_cons]
    have q1 : a ≤ max a x := Int.le_max_left a x
    have q2 : x ≤ max a x := Int.le_max_right a x
    refine ⟨Int.le_trans q1 h1, fun y hy => ?_, ?_⟩
    · rcases List.mem_cons.mp hy with rfl | hy
      · exact Int.le_trans q2 h1
      · exact h2 y hy
    · rcases h3 with h3 | h3
      · rw [h3]
        rcases Int.le_total a x with q | q
        · rw [Int.max_eq_right q]
          exact .inr List.mem_cons_self
        · rw [Int.max_eq_left q]
          exact .inl rfl
      · exact .inr (List.mem_cons_of_mem _ h3)
theorem foldl_min : ∀ (xs : List Int) (a : Int), xs.foldl min a ≤ a ∧ (∀ y ∈ xs, xs.foldl min a ≤ y) ∧ (xs.foldl min a = a ∨ xs.foldl min a ∈ xs)
  | [], a => ⟨Int.le_refl _, fun _ h => by simp at h, .inl rfl⟩
  | x :: xs, a => by
    obtain ⟨h1, h2, h3⟩ := foldl_min xs (min a x)
    rw [List.foldl_cons]
    have q1 : min a x ≤ a := Int.min_le_left a x
    have q2 : min a x ≤ x := Int.min_le_right a x
    refine ⟨Int.le_trans h1 q1, fun y hy => ?_, ?_⟩
    · rcases List.mem_cons.mp hy with rfl | hy
      · exact Int.le_trans h1 q2
      · exact h2 y hy
    · rcases h3 with h3 | h3
      · rw [h3]
        rcases Int.le_total a x with q | q
        · rw [Int.min_eq_left q]
          exact .inl rfl
        · rw [Int.min_eq_right q]
          exact .inr List.mem_cons_self
      · exact .inr (List.mem_cons_of_mem _ h3)
theorem maxL_is {ns : List Int} {m k : Int} (h : maxL ns = some k) (hm : m ∈ ns) (hle : ∀ y ∈ ns, y ≤ m) : m = k := by
  cases ns with
  | nil => simp at hm
  | cons x xs =>
    cases Option.some.inj h
    obtain ⟨h1, h2, h3⟩ := foldl_max xs x
    have a1 : m ≤ xs.foldl max x := by
      rcases List.mem_cons.mp hm with rfl | hm
      · exact h1
      · exact h2 m hm
    have a2 : xs.foldl max x ≤ m := by
      rcases h3 with h3 | h3
      · rw [h3]
        exact hle x List.mem_cons_self
      · exact hle _ (List.mem_cons_of_mem _ h3)
    exact Int.le_antisymm a1 a2
theorem minL_is {ns : List Int} {m k : Int} (h : minL ns = some k) (hm : m ∈ ns) (hle : ∀ y ∈ ns, m ≤ y) : m = k := by
  cases ns with
  | nil => simp at hm
  | cons x xs =>
    cases Option.some.inj h
    obtain ⟨h1, h2, h3⟩ := foldl_min xs x
    have a1 : xs.foldl min x ≤ m := by
      rcases List.mem_cons.mp hm with rfl | hm
      · exact h1
      · exact h2 m hm
    have a2 : m ≤ xs.foldl min x := by
      rcases h3 with h3 | h3
      · rw [h3]
        exact hle x List.mem_cons_self
      · exact hle _ (List.mem_cons_of_mem _ h3)
    exact Int.le_antisymm a2 a1
def pInts (g : List Int → Res Val) (rs : List Val) : Res Val := match rs with
  | [a] => match a.d with
    | .lst xs => match D.ints xs with
      | some ns => g ns
      | none => .bad
    | _ => .bad
  | _ => .bad
theorem pInts_at {g : List Int → Res Val} {us : List V} {rs : List Val} (e : Ex F H) (hr : Rws c F H us rs) (h : Aft c W sg F H Q (pInts g rs)) : ∃ p ns, us = [.ref p] ∧ H p = some (.lst (ns.map V.int)) ∧ Aft c W sg F H Q (g ns) := by
  unfold pInts at h
  cases hr with
  | nil => exact h.elim
  | @cons u r us rs h1 h2 =>
    cases h2 with
    | cons _ _ => exact h.elim
    | nil =>
      have q := h1.rep e
      dsimp only at h
      cases hd : r.d with
      | lst xs =>
        rw [hd] at q
        cases q with
        | @lst p vs _ hp hv =>
          rw [hd] at h
          replace h : Aft c W sg F H Q (match D.ints xs with | some ns => g ns | none => .bad) := h
          cases hi : D.ints xs with
          | none => rw [hi] at h; exact h.elim
          | some ns =>
            rw [hi] at h
            rw [ints_reps hv hi] at hp
            exact ⟨p, ns, rfl, hp, h⟩
      | _ => rw [hd] at h; exact h.elim
def pMax1 : List Val → Res Val := pInts fun ns => match maxL ns with
  | some m => .ok (.sh (.int m))
  | none => .bad
def pMin1 : List Val → Res Val := pInts fun ns => match minL ns with
  | some m => .ok (.sh (.int m))
  | none => .bad
theorem vn_max1 {K : PySem.W.Frag} : VN c (rMax K) pMax1 := by
  intro W sg F H us rs Q e hr h
  obtain ⟨p, ns, rfl, hp, h⟩ := pInts_at e hr h
  refine ⟨p, ns, rfl, .inl (.inl hp), ?_, fun m hm hle => ?_⟩
  · cases ns with
    | nil => exact h.elim
    | cons _ _ => exact Nat.succ_pos _
  · cases q : maxL ns with
    | none => rw [q] at h; exact h.elim
    | some k =>
      rw [q] at h
      rw [maxL_is q hm hle]
      exact Aft.now e .int h
theorem vn_min1 {K : PySem.W.Frag} : VN c (rMin K) pMin1 := by
  intro W sg F H us rs Q e hr h
  obtain ⟨p, ns, rfl, hp, h⟩ := pInts_at e hr h
  refine ⟨p, ns, rfl, .inl (.inl hp), ?_, fun m hm hle => ?_⟩
  · cases ns with
    | nil => exact h.elim
    | cons _ _ => exact Nat.succ_pos _
  · cases q : minL ns with
    | none => rw [q] at h; exact h.elim
    | some k =>
      rw [q] at h
      rw [minL_is q hm hle]
      exact Aft.now e .int h
/-- sorted, whole numbers -/
def isort (ns : List Int) : List Int := ns.mergeSort fun a b => decide (a ≤ b)
theorem isort_perm (ns : List Int) : (isort ns).Perm ns := List.mergeSort_perm _ _
theorem isort_sorted (ns : List Int) : (isort ns).Pairwise (· ≤ ·) := by
  have h := List.pairwise_mergeSort (le := fun a b : Int => decide (a ≤ b)) (fun a b c h1 h2 => by simp only [decide_eq_true_eq] at h1 h2 ⊢; omega) (fun a b => by simp only [Bool.or_eq_true, decide_eq_true_eq]; omega) ns
  exact h.imp fun q => by simpa using q
theorem isort_uniq {ns ms : List Int} (h1 : ms.Perm ns) (h2 : ms.Pairwise (· ≤ ·)) : ms = isort ns := (h1.trans (isort_perm ns).symm).eq_of_pairwise (le := (· ≤ ·)) (fun a b _ _ x y => Int.le_antisymm x y) h2 (isort_sorted ns)
def pSortI : List Val → Res Val := pInts fun ns => .ok ⟨.li .sh, false, .lst ((isort ns).map .int)⟩
theorem vn_sortI {K : PySem.W.Frag} : VN c (rSortedI K) pSortI := by
  intro W sg F H us rs Q e hr h
  obtain ⟨p, ns, rfl, hp, h⟩ := pInts_at e hr h
  refine ⟨p, ns, rfl, .inl (.inl hp), fun ns' q hperm hsort hq => ?_⟩
  rw [isort_uniq hperm hsort]
  exact Aft.newL e hq (reps_ints _) h
/-- int of a number or a truth value -/
def pInt1 (rs : List Val) : Res Val := match rs with
  | [a] => match a.d with
    | .int i => .ok (.sh (.int i))
    | .bl b => .ok (.sh (.int (if b then 1 else 0)))
    | _ => .bad
  | _ => .bad
theorem vn_int1 : VN c (fun xs H Q => (∃ i, xs = [.int i] ∧ Q (.int i) H) ∨ ∃ k, xs = [.bl k] ∧ Q (.int (if k then 1 else 0)) H) pInt1 := by
  intro W sg F H us rs Q e hr h
  unfold pInt1 at h
  cases hr with
  | nil => exact h.elim
  | @cons u r us rs h1 h2 =>
    cases h2 with
    | cons _ _ => exact h.elim
    | nil =>
      dsimp only at h
      cases hd : r.d with
      | int i =>
        rw [hd] at h
        rw [h1.dint e hd]
        exact .inl ⟨i, rfl, Aft.now e .int h⟩
      | bl k =>
        rw [hd] at h
        rw [h1.dbl e hd]
        exact .inr ⟨k, rfl, Aft.now e .int h⟩
      | _ => rw [hd] at h; exact h.elim
/-- list(xs) -/
def pList (rs : List Val) : Res Val := match rs with
  | [a] => match a.its with
    | some xs => .ok ⟨.li .sh, false, .lst xs⟩
    | none => .bad
  | _ => .bad
theorem vn_list {K : PySem.W.Frag} : VN c (fun xs H Q => ∃ p ys, xs = [.ref p] ∧ (SqL K H p ys ∨ SqT K H p ys) ∧ ∀ l, H l = none → Q (.ref l) (upd H l (.lst ys))) pList := by
  intro W sg F H us rs Q e hr h
  unfold pList at h
  cases hr with
  | nil => exact h.elim
  | @cons u r us rs h1 h2 =>
    cases h2 with
    | cons _ _ => exact h.elim
    | nil =>
      replace h : Aft c W sg F H Q (match r.its with | some xs => .ok ⟨.li .sh, false, .lst xs⟩ | none => .bad) := h
      cases hi : r.its with
      | none => rw [hi] at h; exact h.elim
      | some xs =>
        rw [hi] at h
        obtain ⟨_, p, vs, rfl, hp, rr⟩ := h1.items e hi
        exact ⟨p, vs, rfl, .inl (.inl (.inl hp)), fun l hl => Aft.newL e hl rr h⟩
/-- any of truth values -/
def D.bls : List D → Option (List Bool)
  | [] => some []
  | .bl i :: r => (D.bls r).map (i :: ·)
  | _ => none
theorem bls_reps : ∀ {vs : List V} {xs : List D} {ns : List Bool}, Reps c F vs xs → D.bls xs = some ns → vs = ns.map V.bl
  | _, _, ns, .nil, h => by
    cases Option.some.inj h
    rfl
  | _, _, ns, .cons (d := d) h r, e => by
    cases h with
    | @bl i =>
      rw [D.bls] at e
      rename_i vs ds
      cases q : D.bls ds with
      | none =>
        rw [q] at e
        cases e
      | some ms =>
        rw [q] at e
        cases Option.some.inj e
        rw [bls_reps r q]
        rfl
    | _ => simp [D.bls] at e
theorem bls_map (ns : List Bool) : D.bls (ns.map D.bl) = some ns := by
  induction ns with
  | nil => rfl
  | cons n ns ih =>
    rw [List.map_cons, D.bls, ih]
    rfl
def pAny (rs : List Val) : Res Val := match rs with
  | [a] => match a.d with
    | .lst xs => match D.bls xs with
      | some bs => .ok (.sh (.bl (bs.any id)))
      | none => .bad
    | _ => .bad
  | _ => .bad
theorem vn_any {K : PySem.W.Frag} : VN c (rAny K) pAny := by
  intro W sg F H us rs Q e hr h
  unfold pAny at h
  cases hr with
  | nil => exact h.elim
  | @cons u r us rs h1 h2 =>
    cases h2 with
    | cons _ _ => exact h.elim
    | nil =>
      have q := h1.rep e
      dsimp only at h
      cases hd : r.d with
      | lst xs =>
        rw [hd] at q
        cases q with
        | @lst p vs _ hp hv =>
          rw [hd] at h
          replace h : Aft c W sg F H Q (match D.bls xs with | some bs => .ok (.sh (.bl (bs.any id))) | none => .bad) := h
          cases hi : D.bls xs with
          | none => rw [hi] at h; exact h.elim
          | some ns =>
            rw [hi] at h
            rw [bls_reps hv hi] at hp
            exact ⟨p, ns, rfl, .inl (.inl hp), Aft.now e .bl h⟩
      | _ => rw [hd] at h; exact h.elim
end
end Bk
set_option Elab.async false
set_option linter.all false
set_option maxRecDepth 100000
set_option maxHeartbeats 4000000
/-! BkG: slices, what is walked, targets, comprehensions. -/
namespace Bk
open PySem L2

/-! ### slices -/
abbrev XP := XEnv → Res (Option Int)
def xPNone : XP := fun _ => .ok none
def xPSome (f : XE) : XP := fun env => (f env).bind fun a => match a.d with
  | .int i => .ok (some i)
  | _ => .bad
def cut {α : Type} (xs : List α) (lo hi : Option Int) : List α := (xs.drop (HT.sIx xs.length 0 lo)).take (HT.sIx xs.length xs.length hi - HT.sIx xs.length 0 lo)
theorem cut_reps {c : Ct} {F : Hp} {vs : List V} {xs : List D} (lo hi : Option Int) (h : Reps c F vs xs) : Reps c F (cutV vs lo hi) (cut xs lo hi) := by
  unfold cutV cut
  rw [h.length]
  exact (h.drop _).take _
/-- the items that may be shared -/
def Val.its2 (r : Val) : Option (List D) := match r.o, r.d with
  | .sh, .fz xs => some xs
  | _, _ => r.its
def xSl (f : XE) (lo hi : XP) : XE := fun env => (f env).bind fun a => (lo env).bind fun l => (hi env).bind fun h => match a.its2 with
  | some xs => .ok ⟨.li .sh, false, .lst (cut xs l h)⟩
  | none => .bad
section
variable (c : Ct) (W : WX) (F0 H0 : Hp)
def AftP (sg : L2.St) (F H : Hp) (Q : Option Int → Hp → Prop) : Res (Option Int) → Prop
  | .ok o => ∀ F' H', Wd F H F' H' → Q o H'
  | .exc k => ∀ F' H', Wd F H F' H' → W (.ref (c.ea k)) none sg H'
  | .bad => False
def tXP (f : XP) : TO := fun sg H Q => ∃ F env, Si c F0 H0 F H sg env ∧ AftP c W sg F H Q (f env)
end
section
variable {J : Jx} {c : Ct} {W : WX} {F0 H0 : Hp} {X : Cx} {pos : Pos} {a b e : Expr} {f : XE} {sg : L2.St} {F H F1 H1 : Hp}
theorem AftP.grow {Q : Option Int → Hp → Prop} {r : Res (Option Int)} (w : Wd F H F1 H1) (h : AftP c W sg F H Q r) : AftP c W sg F1 H1 Q r := by
  cases r with
  | ok r => exact fun F' H' w' => h F' H' (w.trans w')
  | exc k => exact fun F' H' w' => h F' H' (w.trans w')
  | bad => exact h
theorem aft_bindP {Q : VK} {f : Res (Option Int)} {g : Option Int → Res Val} (h : Aft c W sg F H Q (f.bind g)) : AftP c W sg F H (fun o Hx => ∃ F1, Wd F H F1 Hx ∧ Aft c W sg F1 Hx Q (g o)) f := by
  cases f with
  | ok a => exact fun F1 H1 w => ⟨F1, w, Aft.grow w h⟩
  | exc k => exact h
  | bad => exact h
theorem AftP.mono {Q Q' : Option Int → Hp → Prop} {r : Res (Option Int)} (h : AftP c W sg F H Q r) (k : ∀ u H', Q u H' → Q' u H') : AftP c W sg F H Q' r := by
  cases r with
  | ok r => exact fun F' H' w' => k r H' (h F' H' w')
  | exc k => exact h
  | bad => exact h
theorem aft_bindVP {Q : Option Int → Hp → Prop} {f : Res Val} {g : Val → Res (Option Int)} (h : AftP c W sg F H Q (f.bind g)) : Aft c W sg F H (fun x Hx => ∃ F1 a, Wd F H F1 Hx ∧ Rv c H F1 Hx x a ∧ AftP c W sg F1 Hx Q (g a)) f := by
  cases f with
  | ok a => exact fun F1 H1 u w rv => ⟨F1, a, w, rv, AftP.grow w h⟩
  | exc k => exact h
  | bad => exact h
theorem _root_.L2.PO.imp {X : Cx} {e : Option Expr} {t t' : TO} (h : PO X e t) (k : ∀ sg H Q, t' sg H Q → t sg H Q) : PO X e t' := ⟨fun pins s sg H Q I q => h.run pins s sg H Q I (k sg H Q q)⟩
abbrev SPo (J : Jx) (e : Option Expr) (f : XP) : Prop := PO J.X e (tXP J.c J.W J.F0 J.H0 f)
theorem spo_none : SPo J none xPNone := po_none.imp fun sg H Q ⟨F, env, si, hq⟩ => hq F H (Wd.refl si.wd.fh)
theorem spo_some (h : SE J e f) : SPo J (some e) (xPSome f) := (po_some h).imp fun sg H Q ⟨F, env, si, hq⟩ => ⟨F, env, si, (aft_bindVP hq).mono fun x H1 ⟨F1, va, w1, r1, hq1⟩ => by
  obtain ⟨o, bb, d⟩ := va
  have rr := r1.rep w1.fh
  cases rr with
  | int => exact ⟨_, rfl, hq1 F1 H1 (Wd.refl w1.fh)⟩
  | _ => exact (show False from hq1).elim⟩
theorem Rw.items2 {u : V} {r : Val} (h : Rw c F H u r) (e : Ex F H) {xs : List D} (hx : r.its2 = some xs) : ∃ a vs, u = .ref a ∧ SqL c.K H a vs ∧ Reps c F vs xs := by
  by_cases hi : r.its = some xs
  · obtain ⟨_, a, vs, e1, e2, e3⟩ := h.items e hi
    exact ⟨a, vs, e1, .inl (.inl e2), e3⟩
  · obtain ⟨o, b, d⟩ := r
    cases o with
    | sh =>
      cases d with
      | fz ys =>
        cases Option.some.inj hx
        cases h.sh1 with
        | fz ha hr => exact ⟨_, _, rfl, Evl.ex_l e ha, hr⟩
      | _ => exact absurd hx hi
    | _ => exact absurd hx hi
theorem se_slice {lo hi : Option Expr} {p2 : Pos} {fl fh : XP} (hK : J.X.K = J.c.K) (ha : SE J a f) (hl : SPo J lo fl) (hh : SPo J hi fh) : SE J (.Subscript a (.Slice lo hi none p2) pos) (xSl f fl fh) := (pe_slice sl_list ha hl hh).imp fun sg H Q ⟨F, env, si, hq⟩ => ⟨F, env, si, (aft_bind hq).mono fun x H1 ⟨F1, va, w1, r1, hq1⟩ => by
  refine ⟨F1, env, si.grow w1, (aft_bindP hq1).mono fun l H2 ⟨F2, w2, hq2⟩ => ?_⟩
  refine ⟨F2, env, (si.grow w1).grow w2, (aft_bindP hq2).mono fun u H3 ⟨F3, w3, hq3⟩ => ?_⟩
  have r3 := (r1.rw.grow w2).grow w3
  cases hx : va.its2 with
  | none => rw [hx] at hq3; exact hq3.elim
  | some xs =>
    rw [hx] at hq3
    obtain ⟨p, vs, rfl, hp, hr⟩ := r3.items2 w3.fh hx
    rw [hK]
    exact ⟨p, vs, rfl, hp, fun q hq => Aft.newL w3.fh hq (cut_reps l u hr) hq3⟩⟩
end

/-! ### what is walked -/
abbrev XI := XEnv → Res (List D)
/-- J walks ds -/
def ItOk (c : Ct) (J : It) (F : Hp) (ds : List D) : Prop := ∀ i H, Ex F H → (∀ d, ds[i]? = some d → J.go i H ∧ ∀ x H', J.yld i H x H' → H' = H ∧ Rep c F x d) ∧ (i = ds.length → J.stop i H)
section
variable (c : Ct) (W : WX) (F0 H0 : Hp)
def AftI (sg : L2.St) (F H : Hp) (R : It → Hp → Prop) : Res (List D) → Prop
  | .ok ds => ∀ F' H' J, Wd F H F' H' → ItOk c J F' ds → R J H'
  | .exc k => ∀ F' H', Wd F H F' H' → W (.ref (c.ea k)) none sg H'
  | .bad => False
def tXI (it : XI) : TI := fun sg H R => ∃ F env, Si c F0 H0 F H sg env ∧ AftI c W sg F H R (it env)
end
abbrev SI (J : Jx) (tg e : Expr) (it : XI) : Prop := PI J.X tg e (tXI J.c J.W J.F0 J.H0 it)
section
variable {J : Jx} {c : Ct} {W : WX} {F0 H0 : Hp} {X : Cx} {pos : Pos} {a b e tg : Expr} {es : List Expr} {f : XE} {sg : L2.St} {F H F1 H1 : Hp}
theorem _root_.L2.PI.imp {X : Cx} {tg e : Expr} {t t' : TI} (h : PI X tg e t) (k : ∀ sg H R, t' sg H R → t sg H R) : PI X tg e t' := ⟨fun pins s sg H R I q => h.run pins s sg H R I (k sg H R q)⟩
theorem aft_bindI {R : It → Hp → Prop} {f : Res Val} {g : Val → Res (List D)} (h : AftI c W sg F H R (f.bind g)) : Aft c W sg F H (fun x Hx => ∃ F1 a, Wd F H F1 Hx ∧ Rv c H F1 Hx x a ∧ AftI c W sg F H R (g a)) f := by
  cases f with
  | ok a => exact fun F1 H1 u w rv => ⟨F1, a, w, rv, h⟩
  | exc k => exact h
  | bad => exact h
theorem aft_bindVI {R : It → Hp → Prop} {f : Res (List Val)} {g : List Val → Res (List D)} (h : AftI c W sg F H R (f.bind g)) : AftV c W sg F H (fun us Hx => ∃ F1 rs, Wd F H F1 Hx ∧ Rws c F1 Hx us rs ∧ AftI c W sg F H R (g rs)) f := by
  cases f with
  | ok a => exact fun F1 H1 us w rv => ⟨F1, a, w, rv, h⟩
  | exc k => exact h
  | bad => exact h
theorem itOk_list {K : PySem.W.Frag} {p : Addr} {vs : List V} {xs : List D} (hp : SqL K F p vs) (hr : Reps c F vs xs) : ItOk c (Itl K p) F xs := fun i H e => by
  refine ⟨fun d hd => ?_, fun hi => ⟨vs, Evl.ex_l e hp, by rw [hr.length, hi]; exact Nat.le_refl _⟩⟩
  obtain ⟨v, hv, rv⟩ := hr.getD hd
  refine ⟨⟨vs, v, Evl.ex_l e hp, hv⟩, fun x H' y => ⟨y.1, ?_⟩⟩
  have q := y.2 vs (Evl.ex_l e hp)
  rw [hv] at q
  cases q
  exact rv
theorem itOk_tup {K : PySem.W.Frag} {p : Addr} {vs : List V} {xs : List D} (hp : SqT K F p vs) (hr : Reps c F vs xs) : ItOk c (Itt K p) F xs := fun i H e => by
  refine ⟨fun d hd => ?_, fun hi => ⟨vs, Evl.ex_t e hp, by rw [hr.length, hi]; exact Nat.le_refl _⟩⟩
  obtain ⟨v, hv, rv⟩ := hr.getD hd
  refine ⟨⟨vs, v, Evl.ex_t e hp, hv⟩, fun x H' y => ⟨y.1, ?_⟩⟩
  have q := y.2 vs (Evl.ex_t e hp)
  rw [hv] at q
  cases q
  exact rv
/-- a list that is shared from here on -/
def xIList (f : XE) : XI := fun env => (f env).bind fun a => if a.b = true then .bad else match a.d with
  | .lst xs => .ok xs
  | .fz xs => .ok xs
  | _ => .bad
theorem si_list (hK : J.X.K = J.c.K) (ha : SE J e f) : SI J tg e (xIList f) := (pi_list ha).imp fun sg H R ⟨F, env, si, hq⟩ => ⟨F, env, si, (aft_bindI hq).mono fun x H1 ⟨F1, va, w1, r1, hq1⟩ => by
  obtain ⟨o, bb, d⟩ := va
  cases bb with
  | true => exact (show False from hq1).elim
  | false =>
    obtain ⟨F2, w2, w3, r2⟩ := r1.share w1
    cases r2 with
    | @lst p vs xs hp hr => exact ⟨p, rfl, ⟨vs, .inl (.inl (w2.fh _ _ hp))⟩, hq1 F2 H1 _ w2 (itOk_list (.inl (.inl hp)) hr)⟩
    | @fz p vs xs hp hr =>
      rw [hK]
      exact ⟨p, rfl, ⟨vs, Evl.ex_l w2.fh hp⟩, hq1 F2 H1 _ w2 (itOk_list hp hr)⟩
    | _ => exact (show False from hq1).elim⟩
def xITup (f : XE) : XI := fun env => (f env).bind fun a => if a.b = true then .bad else match a.d with
  | .tup xs => .ok xs
  | _ => .bad
theorem si_tup (ha : SE J e f) : SI J tg e (xITup f) := (pi_tup ha).imp fun sg H R ⟨F, env, si, hq⟩ => ⟨F, env, si, (aft_bindI hq).mono fun x H1 ⟨F1, va, w1, r1, hq1⟩ => by
  obtain ⟨o, bb, d⟩ := va
  cases bb with
  | true => exact (show False from hq1).elim
  | false =>
    obtain ⟨F2, w2, w3, r2⟩ := r1.share w1
    cases r2 with
    | @tup p vs xs hp hr => exact ⟨p, rfl, ⟨vs, .inl (.inl (w2.fh _ _ hp))⟩, hq1 F2 H1 _ w2 (itOk_tup (.inl (.inl hp)) hr)⟩
    | _ => exact (show False from hq1).elim⟩
/-- 0 .. n - 1 -/
def rangeD (n : Int) : List D := (List.range n.toNat).map fun (k : Nat) => D.int (k : Int)
theorem rangeD_get {n : Int} {i : Nat} {d : D} (h : (rangeD n)[i]? = some d) : i < n.toNat ∧ d = .int (i : Int) := by
  unfold rangeD at h
  rw [List.getElem?_map] at h
  cases q : (List.range n.toNat)[i]? with
  | none =>
    rw [q] at h
    cases h
  | some k =>
    rw [q] at h
    obtain ⟨h1, h2⟩ := List.getElem?_eq_some_iff.mp q
    rw [List.length_range] at h1
    rw [List.getElem_range] at h2
    subst h2
    cases h
    exact ⟨h1, rfl⟩
def xIRange (fs : XVs) : XI := fun env => (fs env).bind fun rs => match rs with
  | [a] => match a.d with
    | .int n => if n ≤ 100000 ∧ -100000 ≤ n then .ok (rangeD n) else .bad
    | _ => .bad
  | _ => .bad
theorem si_range {p : Pos} {fs : XVs} (hg : Gl J.X "range") (hm : J.X.mg "range" = none) (ha : SV J [a] fs) (hs : starEach [a] J.X.env = [(false, eval a J.X.env)] := by rfl) : SI J tg (.Call (.Name "range" p) [a] [] pos) (xIRange fs) := (pi_range1 hg hm ha hs).imp fun sg H R ⟨F, env, si, hq⟩ => ⟨F, env, si, (aft_bindVI hq).mono fun us H1 ⟨F1, rs, w1, r1, hq1⟩ => by
  cases r1 with
  | nil => exact (show False from hq1).elim
  | @cons u r us rs h1 h2 =>
    cases h2 with
    | cons _ _ => exact (show False from hq1).elim
    | nil =>
      obtain ⟨o, bb, d⟩ := r
      have q := h1.rep w1.fh
      cases q with
      | @int n =>
        replace hq1 : AftI J.c J.W sg F H R (if n ≤ 100000 ∧ -100000 ≤ n then .ok (rangeD n) else .bad) := hq1
        by_cases hb : n ≤ 100000 ∧ -100000 ≤ n
        · rw [if_pos hb] at hq1
          refine ⟨n, rfl, by omega, by omega, hq1 F1 H1 _ w1 fun i Hx e => ⟨fun d hd => ?_, fun hi => ?_⟩⟩
          · obtain ⟨h3, rfl⟩ := rangeD_get hd
            refine ⟨h3, fun x H' y => ⟨y.1, ?_⟩⟩
            rw [y.2, Int.zero_add]
            exact .int
          · have : (rangeD n).length = n.toNat := by unfold rangeD; rw [List.length_map, List.length_range]
            show n.toNat ≤ i
            omega
        · rw [if_neg hb] at hq1
          exact hq1.elim
      | _ => exact (show False from hq1).elim⟩
/-- reversed(xs) -/
def xIRev (fs : XA) : XI := fun env => (fs env).bind fun rs => match rs with
  | [d] => match d with
    | .lst xs => .ok xs.reverse
    | _ => .bad
  | _ => .bad
theorem aft_bindAI {R : It → Hp → Prop} {f : Res (List D)} {g : List D → Res (List D)} (h : AftI c W sg F H R (f.bind g)) : AftA c W sg F H (fun us Hx => ∃ F1 ds, Wd F H F1 Hx ∧ Reps c F1 us ds ∧ AftI c W sg F H R (g ds)) f := by
  cases f with
  | ok a => exact fun F1 H1 us w rv => ⟨F1, a, w, rv, h⟩
  | exc k => exact h
  | bad => exact h
theorem si_rev {p : Pos} {fs : XA} (hg : Gl J.X "reversed") (hm : J.X.mg "reversed" = none) (ha : SA J [a] fs) (hs : starEach [a] J.X.env = [(false, eval a J.X.env)] := by rfl) : SI J tg (.Call (.Name "reversed" p) [a] [] pos) (xIRev fs) := (pi_reversed hg hm ha hs).imp fun sg H R ⟨F, env, si, hq⟩ => ⟨F, env, si, (aft_bindAI hq).mono fun us H1 ⟨F1, ds, w1, r1, hq1⟩ => by
  cases r1 with
  | nil => exact (show False from hq1).elim
  | @cons u d us ds h1 h2 =>
    cases h2 with
    | cons _ _ => exact (show False from hq1).elim
    | nil =>
      cases h1 with
      | @lst p vs xs hp hr =>
        have hl := hr.length
        refine ⟨p, vs, rfl, .inl (.inl (w1.fh _ _ hp)), hq1 F1 H1 _ w1 fun i Hx e => ⟨fun d hd => ?_, fun hi => ?_⟩⟩
        · have hi : i < xs.length := by
            have := (List.getElem?_eq_some_iff.mp hd).1
            rw [List.length_reverse] at this
            exact this
          rw [List.getElem?_reverse hi] at hd
          obtain ⟨v, hv, rv⟩ := hr.getD hd
          rw [← hl] at hv
          refine ⟨⟨by rw [hl]; exact hi, vs, v, .inl (.inl (e _ _ hp)), hv⟩, fun x H' y => ⟨y.1, ?_⟩⟩
          have q := y.2 vs (.inl (.inl (e _ _ hp)))
          rw [hv] at q
          cases q
          exact rv
        · show vs.length ≤ i
          rw [hl, hi, List.length_reverse]
          exact Nat.le_refl _
      | _ => exact (show False from hq1).elim⟩
end

/-! ### targets -/
inductive Tg where
  | nm (i : Nat) | tp (is : List Nat)
def putAll : List Nat → List D → XEnv → Option XEnv
  | [], [], env => some env
  | i :: is, d :: ds, env => putAll is ds (env.set i (some (.sh, d)))
  | _, _, _ => none
def Tg.put : Tg → D → XEnv → Option XEnv
  | .nm i, d, env => some (env.set i (some (.sh, d)))
  | .tp is, .tup ds, env => putAll is ds env
  | _, _, _ => none
def Tg.ixs : Tg → List Nat
  | .nm i => [i]
  | .tp is => is
def setAll : List Nat → List V → L2.St → L2.St
  | i :: is, v :: vs, sg => setAll is vs (sg.set i (some v))
  | _, _, sg => sg
def gNames : List Nat → TGs
  | [] => gNil
  | i :: is => gCons (gName i) (gNames is)
def Tg.t (K : PySem.W.Frag) : Tg → TG
  | .nm i => gName i
  | .tp is => gTup K is.length (gNames is)
section
variable {J : Jx} {c : Ct} {W : WX} {F0 H0 : Hp} {X : Cx} {pos : Pos} {sg : L2.St} {F H : Hp} {env : XEnv}
theorem Si.put (s : Si c F0 H0 F H sg env) {v : V} {d : D} (r : Rep c F v d) (i : Nat) : Si c F0 H0 F H (sg.set i (some v)) (env.set i (some (.sh, d))) := s.store (Wd.refl s.wd.fh) (Rv.sh r) i
theorem gNames_ok {Q : L2.St → Hp → Prop} : ∀ {is : List Nat} {vs : List V} {ds : List D} {sg : L2.St} {env env' : XEnv}, Si c F0 H0 F H sg env → Reps c F vs ds → putAll is ds env = some env' → (Si c F0 H0 F H (setAll is vs sg) env' → Q (setAll is vs sg) H) → gNames is vs sg H Q
  | [], _, _, sg, env, env', s, .nil, h, k => by
    cases Option.some.inj h
    exact ⟨rfl, k s⟩
  | [], _, _, sg, env, env', s, .cons _ _, h, k => nomatch h
  | i :: is, _, _, sg, env, env', s, .nil, h, k => nomatch h
  | i :: is, _, _, sg, env, env', s, .cons (v := v) (vs := vs) r rs, h, k => ⟨v, vs, rfl, gNames_ok (s.put r i) rs h k⟩
theorem putAll_len : ∀ {is : List Nat} {ds : List D} {env env' : XEnv}, putAll is ds env = some env' → is.length = ds.length
  | [], [], _, _, _ => rfl
  | [], _ :: _, _, _, h => nomatch h
  | _ :: _, [], _, _, h => nomatch h
  | i :: is, d :: ds, env, env', h => by rw [List.length_cons, List.length_cons, putAll_len (is := is) (ds := ds) h]
theorem Tg.ok {tg : Tg} {v : V} {d : D} {env' : XEnv} {Q : L2.St → Hp → Prop} (K : PySem.W.Frag) (s : Si c F0 H0 F H sg env) (r : Rep c F v d) (h : tg.put d env = some env') (k : ∀ vs, Si c F0 H0 F H (setAll tg.ixs vs sg) env' → Q (setAll tg.ixs vs sg) H) : tg.t K v sg H Q := by
  cases tg with
  | nm i =>
    cases Option.some.inj h
    exact k [v] (s.put r i)
  | tp is =>
    cases r with
    | @tup a vs ds ha hr =>
      have h2 : putAll is ds env = some env' := h
      have hl : is.length = ds.length := putAll_len h2
      exact ⟨a, vs, rfl, .inl (.inl (s.wd.fh _ _ ha)), by rw [hr.length, hl], gNames_ok s hr h2 (k vs)⟩
    | _ => exact nomatch h
theorem pg_nm {x : Str} (i : Nat) (hN : X.N.Nodup) (hi : X.N[i]? = some x := by rfl) (hx : Loc X.env.scope x := by first | exact Or.inl rfl | exact Or.inr rfl) (hf : X.fn x = true ∨ X.env.scope.names.lookup x = some .local := by first | exact .inl rfl | exact .inr rfl) : PG X (.Name x pos) ((Tg.nm i).t X.K) := pg_name hN hi hx hf
theorem pg_tp {es : List Expr} {k : Nat} (is : List Nat) (hc : X.calm = true) (h : PGs X es (gNames is))
    (hn : (assignEach es X.env).length = is.length := by rfl) (hst : (assignEach es X.env).findIdx? (·.1) = none := by rfl) : PG X (.Tuple es k pos) ((Tg.tp is).t X.K) := pg_tup hc h hn hst
theorem pgn_nil : PGs X [] (gNames []) := pgs_nil
theorem pgn_cons {x : Str} {es : List Expr} {is : List Nat} (i : Nat) (hN : X.N.Nodup) (h2 : PGs X es (gNames is)) (hi : X.N[i]? = some x := by rfl) (hx : Loc X.env.scope x := by first | exact Or.inl rfl | exact Or.inr rfl) (hf : X.fn x = true ∨ X.env.scope.names.lookup x = some .local := by first | exact .inl rfl | exact .inr rfl)
    (hs : (assignEach (.Name x pos :: es) X.env).map (·.2) = assign (.Name x pos) X.env :: (assignEach es X.env).map (·.2) := by rfl) : PGs X (.Name x pos :: es) (gNames (i :: is)) := pgs_cons (pg_name hN hi hx hf) h2 hs
end

/-! ### comprehensions -/
def WF : WX := fun _ _ _ _ => False
def wipeX (env : XEnv) : List Nat → XEnv
  | [] => env
  | v :: vs => (wipeX env vs).set v none
def xYes : XB := fun _ => .ok true
def lcGo (step : D → Res (Option D)) : List D → Res (List D)
  | [] => .ok []
  | d :: ds => (step d).bind fun o => (lcGo step ds).bind fun r => .ok (o.toList ++ r)
def lcStep (tg : Tg) (cond : XB) (f : XE) (env : XEnv) (d : D) : Res (Option D) := match tg.put d env with
  | none => .bad
  | some e1 => match cond e1 with
    | .ok true => match f e1 with
      | .ok a => if a.b = true then .bad else .ok (some a.d)
      | _ => .bad
    | .ok false => .ok none
    | _ => .bad
def xLc (vs : List Nat) (it : XI) (tg : Tg) (cond : XB) (f : XE) : XE := fun env => (it env).bind fun ds => if ds.length ≤ 100000 then (match lcGo (lcStep tg cond f (wipeX env vs)) ds with
  | .ok xs => .ok ⟨.li .sh, false, .lst xs⟩
  | _ => .bad) else .bad
section
variable {J : Jx} {c : Ct} {W : WX} {F0 H0 : Hp} {X : Cx} {pos : Pos} {sg : L2.St} {F H : Hp} {env : XEnv}
theorem Si.wipe (s : Si c F0 H0 F H sg env) : ∀ vs : List Nat, Si c F0 H0 F H (L2.wipe sg vs) (wipeX env vs)
  | [] => s
  | v :: vs => (Si.wipe s vs).drop v none
theorem wipe_get (sg : L2.St) : ∀ (vs : List Nat) (j : Nat), (L2.wipe sg vs)[j]? = if j ∈ vs ∧ j < sg.length then some none else sg[j]?
  | [], j => by simp [L2.wipe]
  | v :: vs, j => by
    unfold L2.wipe
    by_cases q : j = v
    · subst q
      by_cases hl : j < sg.length
      · rw [List.getElem?_set_self (by rw [wipe_length]; exact hl), if_pos ⟨List.mem_cons_self, hl⟩]
      · rw [List.getElem?_eq_none_iff.mpr (by rw [List.length_set, wipe_length]; omega), if_neg (fun z => hl z.2), List.getElem?_eq_none_iff.mpr (by omega)]
    · rw [List.getElem?_set_ne (Ne.symm q), wipe_get sg vs j]
      by_cases h : j ∈ vs ∧ j < sg.length
      · rw [if_pos h, if_pos ⟨List.mem_cons_of_mem _ h.1, h.2⟩]
      · rw [if_neg h, if_neg (fun z => h ⟨(List.mem_cons.mp z.1).resolve_left q, z.2⟩)]
theorem setAll_len : ∀ (is : List Nat) (vs : List V) (sg : L2.St), (setAll is vs sg).length = sg.length
  | [], _, _ => rfl
  | _ :: _, [], _ => rfl
  | i :: is, v :: vs, sg => by rw [setAll, setAll_len is vs, List.length_set]
theorem setAll_get : ∀ (is : List Nat) (vs : List V) (sg : L2.St) (j : Nat), j ∉ is → (setAll is vs sg)[j]? = sg[j]?
  | [], _, _, _, _ => rfl
  | _ :: _, [], _, _, _ => rfl
  | i :: is, v :: vs, sg, j, h => by
    have ne : i ≠ j := fun z => h (by rw [z]; exact List.mem_cons_self)
    rw [setAll, setAll_get is vs _ j fun z => h (List.mem_cons_of_mem _ z), List.getElem?_set_ne ne]
theorem wipe_setAll {vs : List Nat} {is : List Nat} (us : List V) (sg : L2.St) (h : ∀ i ∈ is, i ∈ vs) : L2.wipe (setAll is us (L2.wipe sg vs)) vs = L2.wipe sg vs := by
  refine List.ext_getElem? fun j => ?_
  rw [wipe_get, setAll_len, wipe_length]
  by_cases q : j ∈ vs ∧ j < sg.length
  · rw [if_pos q, wipe_get, if_pos q]
  · rw [if_neg q]
    by_cases hj : j ∈ is
    · have hl : ¬ j < sg.length := fun z => q ⟨h j hj, z⟩
      rw [List.getElem?_eq_none_iff.mpr (by rw [setAll_len, wipe_length]; omega), List.getElem?_eq_none_iff.mpr (by rw [wipe_length]; omega)]
    · rw [setAll_get is us _ j hj]
theorem lcGo_cons {step : D → Res (Option D)} {d : D} {ds : List D} {r : List D} (h : lcGo step (d :: ds) = .ok r) : ∃ o r', step d = .ok o ∧ lcGo step ds = .ok r' ∧ r = o.toList ++ r' := by
  rw [lcGo] at h
  cases q : step d with
  | ok o =>
    rw [q] at h
    cases q2 : lcGo step ds with
    | ok r' =>
      rw [q2] at h
      cases h
      exact ⟨o, r', rfl, rfl, rfl⟩
    | _ => rw [q2] at h; cases h
  | _ => rw [q] at h; cases h
theorem tX_lc {K : PySem.W.Frag} {vs : List Nat} {it : XI} {tg : Tg} {cond : XB} {f : XE} {Q : VK} (hv : ∀ i ∈ tg.ixs, i ∈ vs) (h : tX c W F0 H0 (xLc vs it tg cond f) sg H Q) : tLc (tXI c W F0 H0 it) (tg.t K) (tXB c WF F0 H0 cond) (tX c WF F0 H0 f) vs sg H Q := by
  obtain ⟨F, env, si, hq⟩ := h
  refine ⟨F, env, si, ?_⟩
  unfold xLc at hq
  cases hit : it env with
  | exc k => rw [hit] at hq; exact hq
  | bad => rw [hit] at hq; exact hq
  | ok ds =>
    rw [hit] at hq
    intro F1 H1 Ji w1 hJ L hL
    replace hq : Aft c W sg F H Q (if ds.length ≤ 100000 then (match lcGo (lcStep tg cond f (wipeX env vs)) ds with
      | .ok xs => .ok ⟨.li .sh, false, .lst xs⟩
      | _ => .bad) else .bad) := hq
    by_cases hlen : ds.length ≤ 100000
    · rw [if_pos hlen] at hq
      cases htot : lcGo (lcStep tg cond f (wipeX env vs)) ds with
      | exc k => rw [htot] at hq; exact hq.elim
      | bad => rw [htot] at hq; exact hq.elim
      | ok tot =>
        rw [htot] at hq
        replace hq : Aft c W sg F H Q (.ok ⟨.li .sh, false, .lst tot⟩) := hq
        refine ⟨fun i m Hx => m = ds.length - i ∧ i ≤ ds.length ∧ ∃ Fi xs us rest, Hx L = some (.lst us) ∧ Reps c Fi us xs ∧ Wd F1 H1 Fi Hx ∧ Fi L = none ∧ xs.length ≤ i ∧ lcGo (lcStep tg cond f (wipeX env vs)) (ds.drop i) = .ok rest ∧ tot = xs ++ rest,
          ⟨ds.length, by simp, Nat.zero_le _, F1, [], [], tot, upd_same, .nil, ⟨Evl.Ex.refl F1, w1.fh.trans (Evl.Ex.new hL), Evl.Ex.new hL, fun a h1 h2 => absurd h1 h2⟩, Evl.fresh_back w1.fh hL, Nat.le_refl _, htot, rfl⟩, ?_⟩
        rintro i m Hx ⟨rfl, hi, Fi, xs, us, rest, hD, hr, wi, fD, hxl, hrest, htt⟩
        by_cases hlt : i < ds.length
        · refine .inr ?_
          obtain ⟨d, hd⟩ : ∃ d, ds[i]? = some d := ⟨ds[i], by simp [hlt]⟩
          have hdrop : ds.drop i = d :: ds.drop (i + 1) := by
            have e1 := List.getElem?_eq_some_iff.mp hd
            obtain ⟨e1, e2⟩ := e1
            rw [← e2]
            exact List.drop_eq_getElem_cons hlt
          rw [hdrop] at hrest
          obtain ⟨o, r', hs, hr', htt'⟩ := lcGo_cons hrest
          obtain ⟨jg, jy⟩ := (hJ i Hx (wi.f.trans wi.fh)).1 d hd
          refine ⟨jg, fun H' => ∃ m', m' < ds.length - i ∧ (m' = ds.length - (i + 1) ∧ i + 1 ≤ ds.length ∧ ∃ Fi xs us rest, H' L = some (.lst us) ∧ Reps c Fi us xs ∧ Wd F1 H1 Fi H' ∧ Fi L = none ∧ xs.length ≤ i + 1 ∧ lcGo (lcStep tg cond f (wipeX env vs)) (ds.drop (i + 1)) = .ok rest ∧ tot = xs ++ rest), fun H' hn => hn, fun x H' y => ?_⟩
          obtain ⟨eH, rx⟩ := jy x H' y
          subst eH
          unfold lcStep at hs
          cases hp : tg.put d (wipeX env vs) with
          | none => rw [hp] at hs; cases hs
          | some e1 =>
            rw [hp] at hs
            have si1 : Si c F0 H0 Fi H' (L2.wipe sg vs) (wipeX env vs) := (si.grow (w1.trans wi)).wipe vs
            refine Tg.ok K si1 (rx.mono wi.f) hp fun vv si2 => ⟨wipe_setAll vv sg hv, Fi, e1, si2, ?_⟩
            replace hs : (match cond e1 with
              | .ok true => match f e1 with
                | .ok a => if a.b = true then .bad else .ok (some a.d)
                | _ => .bad
              | .ok false => .ok none
              | _ => .bad) = Res.ok o := hs
            cases hc : cond e1 with
            | exc k => rw [hc] at hs; cases hs
            | bad => rw [hc] at hs; cases hs
            | ok b =>
              rw [hc] at hs
              intro F2 H2 w2
              cases b with
              | false =>
                cases hs
                refine iteF ⟨ds.length - (i + 1), by omega, rfl, by omega, F2, xs, us, r', w2.h _ _ hD, hr.mono w2.f, wi.trans w2, wd_none w2 fD (by rw [hD]; exact fun z => by cases z), by omega, hr', by rw [htt, htt']; rfl⟩
              | true =>
                replace hs : (match f e1 with
                  | .ok a => if a.b = true then .bad else .ok (some a.d)
                  | _ => .bad) = Res.ok o := hs
                cases hf : f e1 with
                | exc k => rw [hf] at hs; cases hs
                | bad => rw [hf] at hs; cases hs
                | ok a =>
                  rw [hf] at hs
                  obtain ⟨oa, ba, da⟩ := a
                  cases ba with
                  | true => exact nomatch hs
                  | false =>
                    cases hs
                    refine iteT ⟨F2, e1, si2.grow w2, ?_⟩
                    rw [hf]
                    intro F3 H3 u w3 rv
                    obtain ⟨F4, w4, w5, ru⟩ := rv.share w3
                    have w6 : Wd Fi H' F4 H3 := w2.trans w4
                    have hD3 : H3 L = some (.lst us) := w6.h _ _ hD
                    have fD4 : F4 L = none := wd_none w6 fD (by rw [hD]; exact fun z => by cases z)
                    have w7 : Wd F1 H1 F4 H3 := wi.trans w6
                    refine ⟨us, hD3, Evl.sz_lt (by rw [hr.length]; omega), ds.length - (i + 1), by omega, rfl, by omega, F4, xs ++ [da], us ++ [u], r', upd_same, (hr.mono w6.f).append (.cons ru .nil), ⟨w7.f, ?_, w7.h.mut hL, w7.n⟩, fD4, by rw [List.length_append, List.length_singleton]; omega, hr', ?_⟩
                    · exact w7.fh.mut fD4
                    · rw [htt, htt', List.append_assoc]
                      rfl
        · have e : i = ds.length := by omega
          refine .inl ⟨(hJ i Hx (wi.f.trans wi.fh)).2 e, ?_⟩
          rw [e, List.drop_length] at hrest
          cases hrest
          rw [List.append_nil] at htt
          subst htt
          have wt := w1.trans wi
          refine hq Fi Hx (.ref L) wt ⟨fun a => a = L, ⟨L, us, tot, rfl, rfl, rfl, hD, hr.length, fun _ _ => False, fun _ _ z => z.elim, fun _ _ _ z => z.elim, fun k u x hu hx => ?_⟩, fun a ea => ?_⟩
          · obtain ⟨d, h1, h2⟩ := hr.get hu
            rw [hx] at h1
            cases h1
            exact h2
          · subst ea
            exact ⟨fun _ => Evl.fresh_back w1.h hL, fD, by rw [hD]; exact fun z => by cases z⟩
    · rw [if_neg hlen] at hq
      exact hq.elim
theorem _root_.L2.PTs.imp {X : Cx} {es : List Expr} {t t' : TT} (h : PTs X es t) (k : ∀ sg H Q, t' sg H Q → t sg H Q) : PTs X es t' := ⟨fun pins s sg H Q I q => h.run pins s sg H Q I (k sg H Q q)⟩
abbrev SPt (J : Jx) (es : List Expr) (f : XB) : Prop := PTs J.X es (tXB J.c J.W J.F0 J.H0 f)
theorem spt_nil : SPt J [] xYes := pts_nil.imp fun sg H Q ⟨F, env, si, hq⟩ => hq F H (Wd.refl si.wd.fh)
theorem spt_one {e : Expr} {t : XB} (h : SB J e t) : SPt J [e] t := pts_one h
/-- within a comprehension's block -/
abbrev Jx.blk (J : Jx) (s : Shared) (H : Hp) (scope : Scope) (C : Addr) (cl : List (Str × Addr)) (fp : List Addr) : Jx := ⟨J.X.blk s H scope (compEnvC scope cl C J.X.env) fp, J.c, WF, J.F0, J.H0⟩
theorem takesF {X : Cx} : Takes X WF := takes0
variable {elt tgt iter : Expr} {ifs : List Expr} {scope : Scope} {own : List (Str × Nat)} {it : XI} {tg : Tg} {cond : XB} {f : XE}
theorem se_lc (own : List (Str × Nat)) (hc : J.X.calm = true) (hN : J.X.N.Nodup) (hi : SI J tgt iter it) (ok : BlkOk J.X.N J.X.env.scope scope own)
    (hg : ∀ s H C cl fp, PG (J.blk s H scope C cl fp).X tgt (tg.t J.X.K)) (ht : ∀ s H C cl fp, SPt (J.blk s H scope C cl fp) ifs cond) (he : ∀ s H C cl fp, SE (J.blk s H scope C cl fp) elt f) (hv : ∀ i ∈ tg.ixs, i ∈ own.map (·.2) := by decide)
    (hs : ∀ x, foldedSetIterable iter J.X.env x = pure x := by intro _; rfl) : SE J (.ListComp elt [⟨tgt, iter, ifs, 0⟩] scope pos) (xLc (own.map (·.2)) it tg cond f) :=
  (pe_lc hc hN hi ok hg ht he hs).imp fun sg H Q h => tX_lc hv h
end
end Bk
set_option Elab.async false
set_option linter.all false
set_option maxRecDepth 100000
set_option maxHeartbeats 4000000
/-! BkH: statements over plain data. -/
namespace Bk
open PySem L2

section
variable {J : Jx} {c : Ct} {W : WX} {F0 H0 : Hp} {X : Cx} {pos : Pos} {sg : L2.St} {F H F1 H1 : Hp} {env : XEnv} {st : Stmt} {sts : List Stmt} {g h : XS} {e : Expr} {f : XE} {t : XB} {D : Ends}
theorem AftS.grow {o : Out} (e : Ex F F1) (h : AftS c W F0 H0 F D o) : AftS c W F0 H0 F1 D o := by
  cases o with
  | next x => exact fun F' H' sg' e' s => h F' H' sg' (e.trans e') s
  | ret r => exact ⟨h.1, fun F' H' u e' w rv => h.2 F' H' u (e.trans e') w rv⟩
  | rete d x => exact fun F' H' sg' u e' s r => h F' H' sg' u (e.trans e') s r
  | brk x => exact fun F' H' sg' e' s => h F' H' sg' (e.trans e') s
  | cont x => exact fun F' H' sg' e' s => h F' H' sg' (e.trans e') s
  | exc k x => exact fun F' H' sg' e' s => h F' H' sg' (e.trans e') s
  | bad => exact h
/-! ### blocks -/
def xSkip : XS := fun env => .next env
def xSeq (g h : XS) : XS := fun env => match g env with
  | .next e => h e
  | o => o
theorem sss_nil : SSs J [] xSkip := pss_nil.imp fun D sg H ⟨F, env, si, hq⟩ => hq F H sg (Evl.Ex.refl F) si
theorem sss_one (h1 : SS J st g) : SSs J [st] g := pss_one h1
theorem sss_cons (h1 : SS J st g) (h2 : SSs J sts h) : SSs J (st :: sts) (xSeq g h) := (pss_cons h1 h2).imp fun D sg H ⟨F, env, si, hq⟩ => ⟨F, env, si, by
  unfold xSeq at hq
  cases q : g env with
  | next x =>
    rw [q] at hq
    exact fun F' H' sg' e s => ⟨F', x, s, AftS.grow e hq⟩
  | ret r => rw [q] at hq; exact hq
  | rete d x => rw [q] at hq; exact hq
  | brk x => rw [q] at hq; exact hq
  | cont x => rw [q] at hq; exact hq
  | exc k x => rw [q] at hq; exact hq
  | bad => rw [q] at hq; exact hq⟩
/-- a slot is shared from here on (no statement of the text) -/
def fz (i : Nat) : XEnv → XEnv := fun env => match env[i]? with
  | some (some (_, d)) => env.set i (some (.sh, d))
  | _ => env
def xFz (i : Nat) (g : XS) : XS := fun env => g (fz i env)
theorem sss_fz (i : Nat) (h1 : SSs J sts g) : SSs J sts (xFz i g) := h1.imp fun D sg H ⟨F, env, si, hq⟩ => by
  unfold xFz fz at hq
  cases q : env[i]? with
  | none => rw [q] at hq; exact ⟨F, env, si, hq⟩
  | some z =>
    rw [q] at hq
    cases z with
    | none => exact ⟨F, env, si, hq⟩
    | some z =>
      obtain ⟨o, d⟩ := z
      obtain ⟨F', w, e, si'⟩ := si.freeze q
      exact ⟨F', _, si', AftS.grow e hq⟩
theorem ss_doc {x : Str} {j : Nat} {p p' : Pos} : SS J (.Expr (.Constant (.str x) j p) p') xSkip := ps_doc.imp fun D sg H ⟨F, env, si, hq⟩ => hq F H sg (Evl.Ex.refl F) si
theorem ss_pass : SS J (.Pass pos) xSkip := ps_pass.imp fun D sg H ⟨F, env, si, hq⟩ => hq F H sg (Evl.Ex.refl F) si
/-! ### expressions within statements -/
/-- what is left of an expression, the statement's end behind it -/
theorem aftS_bind {R : Res Val} {k : Val → Out} {Q : VK} (si : Si c F0 H0 F H sg env) (hq : AftS c W F0 H0 F D (match R with | .ok a => k a | .exc n => .exc n env | .bad => .bad))
    (hk : ∀ F1 H1 u a, Wd F H F1 H1 → Rv c H F1 H1 u a → R = .ok a → AftS c W F0 H0 F D (k a) → Q u H1) : Aft c W sg F H Q R := by
  cases R with
  | ok a => exact fun F1 H1 u w rv => hk F1 H1 u a w rv rfl hq
  | exc n => exact fun F1 H1 w => hq F1 H1 sg w.f (si.grow w)
  | bad => exact hq
theorem aftS_bindB {R : Res Bool} {k : Bool → Out} {Q : Bool → Hp → Prop} (si : Si c F0 H0 F H sg env) (hq : AftS c W F0 H0 F D (match R with | .ok a => k a | .exc n => .exc n env | .bad => .bad))
    (hk : ∀ F1 H1 b, Wd F H F1 H1 → AftS c W F0 H0 F D (k b) → Q b H1) : AftB c W sg F H Q R := by
  cases R with
  | ok a => exact fun F1 H1 w => hk F1 H1 a w hq
  | exc n => exact fun F1 H1 w => hq F1 H1 sg w.f (si.grow w)
  | bad => exact hq
def xSet (i : Nat) (f : XE) : XS := fun env => match f env with
  | .ok a => if a.b = true then .bad else .next (env.set i (some (a.o, a.d)))
  | .exc n => .exc n env
  | .bad => .bad
theorem set_tS {i : Nat} {te : TE} (hte : ∀ {sg H Q}, tX c W F0 H0 f sg H Q → te sg H Q) (q : tXS c W F0 H0 (xSet i f) D sg H) : tAsg te (gName i) D sg H := by
  obtain ⟨F, env, si, hq⟩ := q
  refine hte ⟨F, env, si, aftS_bind (k := fun a => if a.b = true then .bad else .next (env.set i (some (a.o, a.d)))) si hq fun F1 H1 u a w rv _ hk => ?_⟩
  obtain ⟨o, b, d⟩ := a
  cases b with
  | true => exact (show False from hk).elim
  | false => exact hk F1 H1 _ w.f (si.store w rv i)
theorem ss_set {x : Str} {pos' : Pos} (i : Nat) (hN : J.X.N.Nodup) (he : SE J e f) (hi : J.X.N[i]? = some x := by rfl) (hx : Loc J.X.env.scope x := by first | exact Or.inl rfl | exact Or.inr rfl) (hs : swapsWith e (some (.Name x pos')) pos.line J.X.env = pure false := by rfl)
    (hf : J.X.fn x = true ∨ J.X.env.scope.names.lookup x = some .local := by first | exact .inl rfl | exact .inr rfl) : SS J (.Assign [.Name x pos'] e pos) (xSet i f) := (ps_set hN hi hx he hs hf).imp fun D sg H q => set_tS id q
theorem ss_setLc {x : Str} {pos' pos2 : Pos} {elt tgt iter : Expr} {ifs : List Expr} {scope : Scope} {it : XI} {tg : Tg} {cond : XB} (i : Nat) (own : List (Str × Nat)) (hc : J.X.calm = true) (hN : J.X.N.Nodup) (hi : SI J tgt iter it) (ok : BlkOk J.X.N J.X.env.scope scope own)
    (hg : ∀ s H C cl fp, PG (J.blk s H scope C cl fp).X tgt (tg.t J.X.K)) (ht : ∀ s H C cl fp, SPt (J.blk s H scope C cl fp) ifs cond) (he : ∀ s H C cl fp, SE (J.blk s H scope C cl fp) elt f) (hy : J.X.N[i]? = some x := by rfl) (hyl : J.X.env.scope.names.lookup x = some .local := by rfl)
    (hsw : swapsWith (.ListComp elt [⟨tgt, iter, ifs, 0⟩] scope pos) (some (.Name x pos')) pos2.line J.X.env = pure true := by exact sw_true rfl rfl rfl (by decide +kernel)) (hv : ∀ i ∈ tg.ixs, i ∈ own.map (·.2) := by decide)
    (hs : ∀ x, foldedSetIterable iter J.X.env x = pure x := by intro _; rfl) : SS J (.Assign [.Name x pos'] (.ListComp elt [⟨tgt, iter, ifs, 0⟩] scope pos) pos2) (xSet i (xLc (own.map (·.2)) it tg cond f)) :=
  (ps_setLc hc hN hy hyl hsw hi ok hg ht he hs).imp fun D sg H q => set_tS (tX_lc hv) q
/-- a, b, .. = a tuple -/
def xUnp (is : List Nat) (f : XE) : XS := fun env => match f env with
  | .ok a => if a.b = true then .bad else match (Tg.tp is).put a.d env with
    | some e => .next e
    | none => .bad
  | .exc n => .exc n env
  | .bad => .bad
theorem ss_unp {tgt : Expr} (is : List Nat) (he : SE J e f) (hg : PG J.X tgt ((Tg.tp is).t J.X.K)) (hs : swapsWithSole [tgt] e pos.line J.X.env = pure false := by rfl) (hw : swappedStores [tgt] e J.X.env = pure none := by rfl)
    (h1 : (assignEach [tgt] J.X.env).map (·.2) = [assign tgt J.X.env] := by rfl) : SS J (.Assign [tgt] e pos) (xUnp is f) := (ps_asg he hg hs hw h1).imp fun D sg H ⟨F, env, si, hq⟩ => ⟨F, env, si, by
  refine aftS_bind (k := fun a => if a.b = true then .bad else match (Tg.tp is).put a.d env with | some e => .next e | none => .bad) si hq fun F1 H1 u a w rv _ hk => ?_
  obtain ⟨o, b, d⟩ := a
  cases b with
  | true => exact (show False from hk).elim
  | false =>
    obtain ⟨F2, w2, w3, r2⟩ := rv.share w
    replace hk : AftS J.c J.W J.F0 J.H0 F D (match (Tg.tp is).put d env with | some e => .next e | none => .bad) := hk
    cases hp : (Tg.tp is).put d env with
    | none => rw [hp] at hk; exact hk.elim
    | some e1 =>
      rw [hp] at hk
      exact Tg.ok J.X.K (si.grow w2) r2 hp fun vs s2 => hk F2 H1 _ w2.f s2⟩
/-- a, b = x, y: two local names -/
def xPar (i j : Nat) (fs : XA) : XS := fun env => match fs env with
  | .ok [d, e] => .next ((env.set i (some (.sh, d))).set j (some (.sh, e)))
  | .ok _ => .bad
  | .exc n => .exc n env
  | .bad => .bad
/-- a value is dropped -/
def xDrop (f : XE) : XS := fun env => match f env with
  | .ok _ => .next env
  | .exc n => .exc n env
  | .bad => .bad
theorem ss_drop (he : SE J e f) (hs : swapsWith e none pos.line J.X.env = pure false := by rfl) : SS J (.Expr e pos) (xDrop f) := (ps_expr he hs).imp fun D sg H ⟨F, env, si, hq⟩ => ⟨F, env, si, aftS_bind (k := fun _ => .next env) si hq fun F1 H1 u a w rv _ hk => hk F1 H1 sg w.f (si.grow w)⟩
/-! ### return -/
def xRet (f : XE) : XS := fun env => match f env with
  | .ok a => if a.b = true then .bad else .ret a
  | .exc n => .exc n env
  | .bad => .bad
theorem ss_ret (he : SE J e f) : SS J (.Return (some e) pos) (xRet f) := (ps_ret he).imp fun D sg H ⟨F, env, si, hq⟩ => ⟨F, env, si, by
  refine aftS_bind (k := fun a => if a.b = true then .bad else .ret a) si hq fun F1 H1 u a w rv _ hk => ?_
  obtain ⟨o, b, d⟩ := a
  cases b with
  | true => exact (show False from hk).elim
  | false => exact hk.2 F1 H1 u w.f (si.wd.trans w) (rv.weak si.wd.h)⟩
/-- return x: what the slot holds goes to the caller -/
def xRetV (i : Nat) : XS := fun env => match env[i]? with
  | some (some (o, d)) => .ret ⟨o, false, d⟩
  | _ => .bad
theorem ss_retV {x : Str} {p : Pos} (i : Nat) (hN : J.X.N[i]? = some x := by rfl) (hv : Vis J.X.env.scope x := by first | exact Or.inl rfl | exact Or.inr (Or.inl rfl) | exact Or.inr (Or.inr rfl)) (hd : (x == ("__debug__" : Str)) = false := by decide) (hcd : (x == ("__classdict__" : Str)) = false := by decide) :
    SS J (.Return (some (.Name x p)) pos) (xRetV i) := (ps_ret (pe_var hN hv hd hcd)).imp fun D sg H ⟨F, env, si, hq⟩ => by
  unfold xRetV at hq
  cases q : env[i]? with
  | none => rw [q] at hq; exact hq.elim
  | some z =>
    rw [q] at hq
    cases z with
    | none => exact hq.elim
    | some z =>
      obtain ⟨o, d⟩ := z
      obtain ⟨S, s1, s2, s3⟩ := si.own
      obtain ⟨v, h1, h2⟩ := s3 i o d q
      exact ⟨v, h1, hq.2 F H v (Evl.Ex.refl F) si.wd ⟨S i, h2, fun a sa => ⟨fun _ => (s2 i a sa).1, (s2 i a sa).2⟩⟩⟩
theorem ss_retN : SS J (.Return none pos) (fun _ => .ret (.sh .non)) := ps_retN.imp fun D sg H ⟨F, env, si, hq⟩ => hq.2 F H .non (Evl.Ex.refl F) si.wd (Rv.sh .non)
/-! ### if -/
def xIfS (t : XB) (g h : XS) : XS := fun env => match t env with
  | .ok b => if b = true then g env else h env
  | .exc n => .exc n env
  | .bad => .bad
theorem ss_if {a b : List Stmt} (hc : SB J e t) (ha : SSs J a g) (hb : SSs J b h) : SS J (.If e a b pos) (xIfS t g h) := (ps_if hc ha hb).imp fun D sg H ⟨F, env, si, hq⟩ => ⟨F, env, si, by
  refine aftS_bindB (k := fun b => if b = true then g env else h env) si hq fun F1 H1 b w hk => ?_
  cases b with
  | true => exact iteT ⟨F1, env, si.grow w, AftS.grow w.f hk⟩
  | false => exact iteF ⟨F1, env, si.grow w, AftS.grow w.f hk⟩⟩
/-! ### for -/
def forGo (tg : Tg) (bd : XS) : List Bk.D → XEnv → Out
  | [], env => .next env
  | d :: ds, env => match tg.put d env with
    | none => .bad
    | some e1 => match bd e1 with
      | .next e2 => forGo tg bd ds e2
      | .cont e2 => forGo tg bd ds e2
      | .brk e2 => .next e2
      | o => o
def xFor (tg : Tg) (it : XI) (bd : XS) : XS := fun env => match it env with
  | .ok ds => forGo tg bd ds env
  | .exc n => .exc n env
  | .bad => .bad
theorem ss_for {tgt iter : Expr} {body : List Stmt} {it : XI} (tg : Tg) (hp : PassesOwn (model J.X.prog J.X.w) J.X.A J.X.env J.X.xe) (hc : J.X.calm = true) (hi : SI J tgt iter it) (hg : PG J.X tgt (tg.t J.X.K)) (hb : SSs J body g)
    (hs : ∀ x, foldedSetIterable iter J.X.env x = pure x := by intro _; rfl) : SS J (.For tgt iter body [] pos) (xFor tg it g) := (ps_for hp hc hi hg hb hs).imp fun D sg H ⟨F, env, si, hq⟩ => ⟨F, env, si, by
  unfold xFor at hq
  cases hit : it env with
  | exc k => rw [hit] at hq; exact fun F1 H1 w => hq F1 H1 sg w.f (si.grow w)
  | bad => rw [hit] at hq; exact hq
  | ok ds =>
    rw [hit] at hq
    intro F1 H1 Ji w1 hJ
    refine ⟨fun i m sg2 Hx => m = ds.length - i ∧ i ≤ ds.length ∧ ∃ Fi ei, Ex F1 Fi ∧ Si J.c J.F0 J.H0 Fi Hx sg2 ei ∧ AftS J.c J.W J.F0 J.H0 Fi D (forGo tg g (ds.drop i) ei),
      ⟨ds.length, by simp, Nat.zero_le _, F1, env, Evl.Ex.refl F1, si.grow w1, AftS.grow w1.f hq⟩, ?_⟩
    rintro i m sg2 Hx ⟨rfl, hi2, Fi, ei, eF, si2, hk⟩
    by_cases hlt : i < ds.length
    · refine .inr ?_
      obtain ⟨d, hd⟩ : ∃ d, ds[i]? = some d := ⟨ds[i], by simp [hlt]⟩
      have hdrop : ds.drop i = d :: ds.drop (i + 1) := by
        obtain ⟨e1, e2⟩ := List.getElem?_eq_some_iff.mp hd
        rw [← e2]
        exact List.drop_eq_getElem_cons hlt
      rw [hdrop, forGo] at hk
      obtain ⟨jg, jy⟩ := (hJ i Hx (eF.trans si2.wd.fh)).1 d hd
      refine ⟨jg, fun sg3 H3 => ∃ Fi ei, Ex F1 Fi ∧ Si J.c J.F0 J.H0 Fi H3 sg3 ei ∧ AftS J.c J.W J.F0 J.H0 Fi D (forGo tg g (ds.drop (i + 1)) ei), fun sg3 H3 hn => ⟨ds.length - (i + 1), by omega, rfl, by omega, hn⟩, fun x H' y => ?_⟩
      obtain ⟨eH, rx⟩ := jy x H' y
      subst eH
      cases hp : tg.put d ei with
      | none => rw [hp] at hk; exact hk.elim
      | some e1 =>
        rw [hp] at hk
        replace hk : AftS J.c J.W J.F0 J.H0 Fi D (match g e1 with
          | .next e2 => forGo tg g (ds.drop (i + 1)) e2
          | .cont e2 => forGo tg g (ds.drop (i + 1)) e2
          | .brk e2 => .next e2
          | o => o) := hk
        refine Tg.ok J.X.K si2 (rx.mono eF) hp fun vs s3 => ⟨Fi, e1, s3, ?_⟩
        cases hb2 : g e1 with
        | next e2 =>
          rw [hb2] at hk
          exact fun F4 H4 sg4 e4 s4 => ⟨F4, e2, eF.trans e4, s4, AftS.grow e4 hk⟩
        | cont e2 =>
          rw [hb2] at hk
          exact fun F4 H4 sg4 e4 s4 => ⟨F4, e2, eF.trans e4, s4, AftS.grow e4 hk⟩
        | brk e2 =>
          rw [hb2] at hk
          exact fun F4 H4 sg4 e4 s4 => hk F4 H4 sg4 e4 s4
        | ret r => rw [hb2] at hk; exact hk
        | rete d x => rw [hb2] at hk; exact hk
        | exc k e2 => rw [hb2] at hk; exact hk
        | bad => rw [hb2] at hk; exact hk
    · have e : i = ds.length := by omega
      refine .inl ⟨(hJ i Hx (eF.trans si2.wd.fh)).2 e, ?_⟩
      rw [e, List.drop_length] at hk
      exact hk Fi Hx sg2 (Evl.Ex.refl Fi) si2⟩
/-! ### while -/
def whileGo (t : XB) (g : XS) : Nat → XEnv → Out
  | 0, _ => .bad
  | n + 1, env => match t env with
    | .ok true => match g env with
      | .next e => whileGo t g n e
      | .cont e => whileGo t g n e
      | .brk e => .next e
      | o => o
    | .ok false => .next env
    | .exc n => .exc n env
    | .bad => .bad
def xWhile (n : Nat) (t : XB) (g : XS) : XS := whileGo t g n
theorem ss_while {body : List Stmt} (n : Nat) (hp : PassesOwn (model J.X.prog J.X.w) J.X.A J.X.env J.X.xe) (ht : SB J e t) (hb : SSs J body g) : SS J (.While e body [] pos) (xWhile n t g) := (ps_while hp ht hb).imp fun D sg H ⟨F, env, si, hq⟩ => by
  refine ⟨fun m sg2 Hx => ∃ Fi ei, Si J.c J.F0 J.H0 Fi Hx sg2 ei ∧ AftS J.c J.W J.F0 J.H0 Fi D (whileGo t g m ei), ⟨n, F, env, si, hq⟩, ?_⟩
  rintro m sg2 Hx ⟨Fi, ei, s2, hk⟩
  refine ⟨Fi, ei, s2, ?_⟩
  cases m with
  | zero => exact (show False from hk).elim
  | succ m =>
    rw [whileGo] at hk
    cases ht2 : t ei with
    | exc k => rw [ht2] at hk; exact fun F1 H1 w => hk F1 H1 sg2 w.f (s2.grow w)
    | bad => rw [ht2] at hk; exact hk.elim
    | ok b =>
      rw [ht2] at hk
      intro F3 H3 w3
      cases b with
      | false => exact iteF (hk F3 H3 sg2 w3.f (s2.grow w3))
      | true =>
        refine iteT ⟨fun sg4 H4 => ∃ Fi ei, Si J.c J.F0 J.H0 Fi H4 sg4 ei ∧ AftS J.c J.W J.F0 J.H0 Fi D (whileGo t g m ei), fun sg4 H4 hn => ⟨m, Nat.lt_succ_self m, hn⟩, F3, ei, s2.grow w3, ?_⟩
        replace hk : AftS J.c J.W J.F0 J.H0 Fi D (match g ei with
          | .next e => whileGo t g m e
          | .cont e => whileGo t g m e
          | .brk e => .next e
          | o => o) := hk
        cases hb2 : g ei with
        | next e2 =>
          rw [hb2] at hk
          exact fun F4 H4 sg4 e4 s4 => ⟨F4, e2, s4, AftS.grow (w3.f.trans e4) hk⟩
        | cont e2 =>
          rw [hb2] at hk
          exact fun F4 H4 sg4 e4 s4 => ⟨F4, e2, s4, AftS.grow (w3.f.trans e4) hk⟩
        | brk e2 =>
          rw [hb2] at hk
          exact fun F4 H4 sg4 e4 s4 => hk F4 H4 sg4 (w3.f.trans e4) s4
        | ret r => rw [hb2] at hk; exact AftS.grow w3.f hk
        | rete d x => rw [hb2] at hk; exact AftS.grow w3.f hk
        | exc k e2 => rw [hb2] at hk; exact AftS.grow w3.f hk
        | bad => rw [hb2] at hk; exact hk
/-! ### owned lists changed -/
/-- the list in slot i is changed -/
theorem Si.mut {i : Nat} {xs ys : List Bk.D} (s : Si c F0 H0 F H sg env) (he : env[i]? = some (some (.li .sh, .lst xs))) : ∃ a vs, sg[i]? = some (some (.ref a)) ∧ H a = some (.lst vs) ∧ Reps c F vs xs ∧
    ∀ us ys, Reps c F us ys → Si c F0 H0 F (upd H a (.lst us)) sg (env.set i (some (.li .sh, .lst ys))) := by
  obtain ⟨S, s1, s2, s3⟩ := s.own
  obtain ⟨v, h1, a, vs, zs, e1, e2, sa, ha, hl, T, t1, t2, t3⟩ := s3 i _ _ he
  subst e1
  cases e2
  refine ⟨a, vs, h1, ha, Reps.all hl fun k u x hu hx => t3 k u x hu hx, fun us ys hr => ?_⟩
  have fa := (s2 i a sa)
  have eF : Ex F (upd H a (.lst us)) := s.wd.fh.mut fa.2.1
  refine ⟨⟨s.wd.f, eF, s.wd.h.mut fa.1, s.wd.n⟩, by rw [List.length_set]; exact s.len, fun j b => if j = i then b = a else S j b, fun j k b hj hk => ?_, fun j b hj => ?_, fun j o d hjd => ?_⟩
  · by_cases q1 : j = i
    · by_cases q2 : k = i
      · rw [q1, q2]
      · simp only [if_pos q1] at hj
        simp only [if_neg q2] at hk
        subst hj
        exact absurd (s1 k i _ hk sa) q2
    · by_cases q2 : k = i
      · simp only [if_neg q1] at hj
        simp only [if_pos q2] at hk
        subst hk
        exact absurd (s1 j i _ hj sa) q1
      · simp only [if_neg q1] at hj
        simp only [if_neg q2] at hk
        exact s1 j k b hj hk
  · by_cases q : j = i
    · simp only [if_pos q] at hj
      subst hj
      refine ⟨fa.1, fa.2.1, ?_⟩
      rw [upd_same]
      exact fun z => by cases z
    · simp only [if_neg q] at hj
      have nb : b ≠ a := fun z => q (s1 j i b hj (by rw [z]; exact sa))
      rw [upd_ne nb]
      exact s2 j b hj
  · by_cases q : j = i
    · subst q
      have hlj : j < env.length := (List.getElem?_eq_some_iff.mp he).1
      rw [List.getElem?_set_self hlj] at hjd
      cases hjd
      refine ⟨.ref a, h1, ?_⟩
      simp only [if_pos]
      refine ⟨a, us, ys, rfl, rfl, rfl, upd_same, hr.length, fun _ _ => False, fun _ _ z => z.elim, fun _ _ _ z => z.elim, fun k u x hu hx => ?_⟩
      obtain ⟨d2, h2, h3⟩ := hr.get hu
      rw [hx] at h2
      cases h2
      exact h3
    · rw [List.getElem?_set_ne (Ne.symm q)] at hjd
      obtain ⟨v, h4, h5⟩ := s3 j o d hjd
      refine ⟨v, h4, ?_⟩
      simp only [if_neg q]
      refine h5.frame (Evl.Ex.refl F) (fun b hb => ?_) fun b hb => (s2 j b hb).2.1
      exact upd_ne fun z => q (s1 j i b hb (by rw [z]; exact sa))
theorem ownL {o : Option (Option (Ow × Bk.D))} {P : Prop} {k : List Bk.D → Out} (h : AftS c W F0 H0 F D (match o with
    | some (some (.li .sh, .lst xs)) => k xs
    | _ => .bad)) (hk : ∀ xs, o = some (some (.li .sh, .lst xs)) → AftS c W F0 H0 F D (k xs) → P) : P := by
  match o, h with
  | some (some (.li .sh, .lst xs)), h => exact hk xs rfl h
  | none, h => exact h.elim
  | some none, h => exact h.elim
  | some (some (.sh, _)), h => exact h.elim
  | some (some (.tu _, _)), h => exact h.elim
  | some (some (.di, _)), h => exact h.elim
  | some (some (.io, _)), h => exact h.elim
  | some (some (.li (.li _), _)), h => exact h.elim
  | some (some (.li (.tu _), _)), h => exact h.elim
  | some (some (.li .di, _)), h => exact h.elim
  | some (some (.li .io, _)), h => exact h.elim
  | some (some (.li .sh, .non)), h => exact h.elim
  | some (some (.li .sh, .bl _)), h => exact h.elim
  | some (some (.li .sh, .int _)), h => exact h.elim
  | some (some (.li .sh, .str _)), h => exact h.elim
  | some (some (.li .sh, .tup _)), h => exact h.elim
  | some (some (.li .sh, .obj _)), h => exact h.elim
  | some (some (.li .sh, .exn _)), h => exact h.elim
  | some (some (.li .sh, .dic _ _)), h => exact h.elim
  | some (some (.li .sh, .fz _)), h => exact h.elim
/-- xs.append(e), xs the list that slot i owns -/
def xApp (i : Nat) (f : XE) : XS := fun env => match env[i]? with
  | some (some (.li .sh, .lst xs)) => match f env with
    | .ok a => if a.b = true then .bad else if xs.length < 100000 then .next (env.set i (some (.li .sh, .lst (xs ++ [a.d])))) else .bad
    | .exc n => .exc n env
    | .bad => .bad
  | _ => .bad
theorem ss_app {K : PySem.W.Frag} {i : Nat} (h : PS J.X st (tDrop (tBM K "list" rAppend (tVar i) (tCons (tX J.c J.W J.F0 J.H0 f) tNil)))) : SS J st (xApp i f) := h.imp fun D sg H ⟨F, env, si, hq⟩ => by
  refine ownL hq fun xs hx hq => ?_
  obtain ⟨a, vs, h1, ha, hr, _⟩ := Si.mut (ys := []) si hx
  refine ⟨_, h1, .inl ⟨rfl, _, .inl (.inl ha)⟩, F, env, si, ?_⟩
  refine aftS_bind (k := fun a => if a.b = true then .bad else if xs.length < 100000 then .next (env.set i (some (.li .sh, .lst (xs ++ [a.d])))) else .bad) si hq fun F1 H1 u b w rv _ hk => ?_
  obtain ⟨o, bb, d⟩ := b
  cases bb with
  | true => exact (show False from hk).elim
  | false =>
    obtain ⟨F2, w2, w3, r2⟩ := rv.share w
    replace hk : AftS J.c J.W J.F0 J.H0 F D (if xs.length < 100000 then .next (env.set i (some (.li .sh, .lst (xs ++ [d])))) else .bad) := hk
    by_cases hl : xs.length < 100000
    · rw [if_pos hl] at hk
      obtain ⟨a2, vs2, h2, ha2, hr2, hm⟩ := Si.mut (ys := []) (si.grow w2) hx
      rw [h1] at h2
      cases h2
      exact ⟨a, vs2, u, rfl, rfl, ha2, Evl.sz_lt (by rw [hr2.length]; exact hl), hk F2 _ sg w2.f (hm _ _ (hr2.append (.cons r2 .nil)))⟩
    · rw [if_neg hl] at hk
      exact hk.elim
/-- xs[k] = e, xs the list that slot i owns -/
def xSetI (i : Nat) (fk f : XE) : XS := fun env => match env[i]? with
  | some (some (.li .sh, .lst xs)) => match f env with
    | .ok a => if a.b = true then .bad else match fk env with
      | .ok k => match k.d with
        | .int n => match ixN xs.length n with
          | some j => .next (env.set i (some (.li .sh, .lst (xs.set j a.d))))
          | none => .bad
        | _ => .bad
      | .exc n => .exc n env
      | .bad => .bad
    | .exc n => .exc n env
    | .bad => .bad
  | _ => .bad
theorem ss_setI {i : Nat} {fk : XE} (h : PS J.X st (tAsg (tX J.c J.W J.F0 J.H0 f) (gSub (tVar i) (tX J.c J.W J.F0 J.H0 fk) rSetL))) : SS J st (xSetI i fk f) := h.imp fun D sg H ⟨F, env, si, hq⟩ => by
  refine ownL hq fun xs hx hq => ?_
  refine ⟨F, env, si, aftS_bind (k := fun a => if a.b = true then .bad else match fk env with
    | .ok k => match k.d with
      | .int n => match ixN xs.length n with
        | some j => .next (env.set i (some (.li .sh, .lst (xs.set j a.d))))
        | none => .bad
      | _ => .bad
    | .exc n => .exc n env
    | .bad => .bad) si hq fun F1 H1 u b w rv _ hk => ?_⟩
  obtain ⟨o, bb, d⟩ := b
  cases bb with
  | true => exact (show False from hk).elim
  | false =>
    obtain ⟨F2, w2, w3, r2⟩ := rv.share w
    replace hk : AftS J.c J.W J.F0 J.H0 F D (match fk env with
      | .ok k => match k.d with
        | .int n => match ixN xs.length n with
          | some j => .next (env.set i (some (.li .sh, .lst (xs.set j d))))
          | none => .bad
        | _ => .bad
      | .exc n => .exc n env
      | .bad => .bad) := hk
    have si2 := si.grow w2
    obtain ⟨a2, vs2, h2, ha2, hr2, hm⟩ := Si.mut (ys := []) si2 hx
    refine ⟨_, h2, F2, env, si2, ?_⟩
    refine aftS_bind (D := D) (k := fun k => match k.d with
      | .int n => match ixN xs.length n with
        | some j => .next (env.set i (some (.li .sh, .lst (xs.set j d))))
        | none => .bad
      | _ => .bad) si2 (AftS.grow w2.f hk) fun F3 H3 v k w4 rk hfk hk2 => ?_
    obtain ⟨ok, bk, dk⟩ := k
    have rkk := rk.rep w4.fh
    cases rkk with
    | @int n =>
      replace hk2 : AftS J.c J.W J.F0 J.H0 F2 D (match ixN xs.length n with
        | some j => .next (env.set i (some (.li .sh, .lst (xs.set j d))))
        | none => .bad) := hk2
      obtain ⟨a3, vs3, h3, ha3, hr3, hm3⟩ := Si.mut (ys := []) (si2.grow w4) hx
      rw [h2] at h3
      cases h3
      cases hj : ixN xs.length n with
      | none => rw [hj] at hk2; exact hk2.elim
      | some j =>
        rw [hj] at hk2
        exact ⟨a2, vs3, n, j, rfl, rfl, ha3, by rw [hr3.length]; exact hj, hk2 F3 _ sg w4.f (hm3 _ _ (Reps.set (r2.mono w4.f) j hr3))⟩
    | _ => exact (show False from hk2).elim
end
end Bk
set_option Elab.async false
set_option linter.all false
set_option maxRecDepth 100000
set_option maxHeartbeats 4000000
/-! BkI: defs, methods, Pile made, raise, try. -/
namespace Bk
open PySem L2 PySem.Spec PyProof.Rows

/-- a def by its body: n parameters, N names -/
def xFun (n N : Nat) (body : XS) : XF := fun ds => if ds.length = n then (match body (ds.map (fun d => some (.sh, d)) ++ List.replicate (N - n) none) with
  | .ret r => if r.b = true then .bad else .ok r
  | .next _ => .ok (.sh .non)
  | .exc k _ => .exc k
  | _ => .bad) else .bad
section
variable {P : Program} {w : World} {K : PySem.W.Frag} {mg : Str → Option Value} {base : Heap} {c : Ct}
theorem si_start {F H : Hp} {N ps : List Str} {vs : List V} {ds : List D} (e : Ex F H) (hr : Reps c F vs ds) (hn : ds.length = ps.length) (hp : ps.length ≤ N.length) :
    Si c F H F H (L2.start N vs) (ds.map (fun d => some (Ow.sh, d)) ++ List.replicate (N.length - ps.length) none) := by
  have hl := hr.length
  refine ⟨Wd.refl e, ?_, fun _ _ => False, fun _ _ _ z => z.elim, fun _ _ z => z.elim, fun i o d hi => ?_⟩
  · unfold L2.start
    rw [List.length_append, List.length_append, List.length_map, List.length_map, List.length_replicate, List.length_replicate, hl, hn]
  · have hil : i < ds.length := by
      refine Decidable.byContradiction fun q => ?_
      rw [List.getElem?_append_right (by rw [List.length_map]; omega), List.getElem?_replicate] at hi
      split at hi <;> cases hi
    rw [List.getElem?_append_left (by rw [List.length_map]; exact hil), List.getElem?_map] at hi
    cases q : ds[i]? with
    | none => rw [q] at hi; cases hi
    | some d' =>
      rw [q] at hi
      cases hi
      obtain ⟨v, hv, rv⟩ := hr.getD q
      refine ⟨v, ?_, rv⟩
      unfold L2.start
      rw [List.getElem?_append_left (by rw [List.length_map, hl]; exact hil), List.getElem?_map, hv]
      rfl
/-- where a def's body stands -/
abbrev jOf (P : Program) (w : World) (K : PySem.W.Frag) (mg : Str → Option Value) (base : Heap) (c : Ct) (N : List Str) (qual : Str) (sc : Scope) (f : Addr) (cdv : Value) (A : Around) (outer : List Env) (s : Shared) (H : Hp) (E : XK) (F : Hp) : Jx :=
  ⟨cxOf (L2.CX P w) P w K mg base N qual sc f cdv A outer s H E, c, fun cls d _ H => E cls d H, F, H⟩
theorem fn_ok {x qual : Str} {st : Stmt} {f : Addr} {fd : FuncData} {N ps : List Str} {k : Nat} {body : XS} (Fn : Fun K x qual st f fd) (S : FnScope N ps (defScope st)) (hp : ps.length ≤ N.length)
    (hb : ∀ (cdv : Value) (A : Around) (outer : List Env) (s : Shared) (H : Hp) (E : XK) (F : Hp), Room k (A.deeper (envOfC qual (defScope st) s.heap.objs.size f cdv)) → SSs (jOf P w K mg base c N qual (defScope st) f cdv A outer s H E F) (defBody st) body) :
    FnOk P w K mg base (L2.CX P w) (k + 1) f fd ps (spOf c (xFun ps.length N.length body)) := by
  refine Fn.okX S (fun vs H Q E h => ?_) (fun cdv A outer s H vs Q E hr h => ?_)
  · obtain ⟨F0, ds, e, r, h⟩ := h
    unfold xFun at h
    by_cases q : ds.length = ps.length
    · rw [r.length, q]
    · rw [if_neg q] at h
      exact h.elim
  · obtain ⟨F0, ds, e, r, h⟩ := h
    unfold xFun at h
    by_cases q : ds.length = ps.length
    · rw [if_pos q] at h
      refine ⟨_, hb cdv A outer s H E F0 hr, F0, _, si_start e r q hp, ?_⟩
      cases hbo : body (ds.map (fun d => some (Ow.sh, d)) ++ List.replicate (N.length - ps.length) none) with
      | next x =>
        rw [hbo] at h
        exact fun F' H' sg' e' s' => h F' H' .non s'.wd (Rv.sh .non)
      | ret a =>
        rw [hbo] at h
        replace h : Aft c (fun cls d _ H => E cls d H) [] F0 H Q (if a.b = true then .bad else .ok a) := h
        by_cases hbb : a.b = true
        · rw [if_pos hbb] at h
          exact h.elim
        · rw [if_neg hbb] at h
          exact ⟨by simpa using hbb, fun F' H' u e' w rv => h F' H' u w rv⟩
      | exc k x =>
        rw [hbo] at h
        exact fun F' H' sg' e' s' => h F' H' s'.wd
      | brk x => rw [hbo] at h; exact h.elim
      | rete d x => rw [hbo] at h; exact h.elim
      | cont x => rw [hbo] at h; exact h.elim
      | bad => rw [hbo] at h; exact h.elim
    · rw [if_neg q] at h
      exact h.elim
/-- a def of the text is known by its function -/
theorem gf_mk {x qual nm : Str} {st : Stmt} {f : Addr} {fd : FuncData} {ps : List Str} {k : Nat} {F : XF} (Fn : Fun K x qual st f fd) (G : FnOk P w K mg base (L2.CX P w) k f fd ps (spOf c F)) (hm : mg nm = some (.ref f)) (b : Binds K fd ps []) : Gf P w K mg base c nm k ps F := ⟨f, fd, G, hm, Fn.kp, b⟩
end

section
variable {J : Jx} {c : Ct} {W : WX} {F0 H0 : Hp} {X : Cx} {pos p apos : Pos} {a b e o : Expr} {es : List Expr} {f : XE} {fs : XA}
/-! ### methods -/
/-- the method m of the class at C -/
structure Gm (P : Program) (w : World) (K : PySem.W.Frag) (mg : Str → Option Value) (base : Heap) (c : Ct) (m : Str) (k : Nat) (ps : List Str) (F : XF) : Prop where
  ex : ∃ f fd, FnOk P w K mg base (L2.CX P w) k f fd ps (spOf c F) ∧ Meth K c.C m f ∧ Binds K fd ps []
def xMeth (F : XF) (f : XE) (fs : XA) : XE := fun env => (f env).bind fun o => match o.o, o.d with
  | .sh, .obj xs => (fs env).bind fun ds => F (.obj xs :: ds)
  | _, _ => .bad
def tMethS (C : Addr) (m : Str) (sp : Sp) (E : L2.St → XK) (ta : TE) (t : TA) : TE := fun sg H Q => ta sg H fun x H1 => ∃ a dx fs, x = .ref a ∧ H1 a = some (.ins C dx fs) ∧ fs.lookup m = none ∧ t sg H1 fun vs H2 => sp (x :: vs) H2 Q (E sg)
theorem pe_methS {CX : CXT} {k : Nat} {f C : Addr} {fd : FuncData} {ps : List Str} {sp : Sp} {E : L2.St → XK} {m : Str} {ta : TE} {t : TA} {pl : Sem Bool} (he : PE X o ta) (cl : Cls X.K C) (hm : Meth X.K C m f) (F : FnOk X.prog X.w X.K X.mg X.base CX k f fd ps sp) (hr : Room k X.A) (hb : Binds X.K fd ps []) (hx : ∀ s, PassesAt CX X s (E s)) (ha : PA X (e :: es) t)
    (hst : starEach (e :: es) X.env = (false, eval e X.env) :: starEach es X.env := by rfl) (hpl : (backTo pos (starEach es X.env)).any (·.1) = false := by rfl)
    (ht : eval (.Call (.Attribute o m apos) (e :: es) [] pos) X.env = (do
      let ov ← eval o X.env
      standAt apos.atName
      let (f, first) ← holding [ov] (getMethod ov m pl)
      callWith pos f first (backTo pos (starEach (e :: es) X.env)) (backToKw pos (keywordEach [] X.env))) := by rfl) :
    PE X (.Call (.Attribute o m apos) (e :: es) [] pos) (tMethS C m sp E ta t) := by
  refine ⟨fun pins s sg H Q I h => ?_⟩
  refine PySem.W.methodCall_KW (pl := pl) (thn (he.run pins s sg H _ I h) fun u s1 ⟨x, H1, I1, rx, a, dx, fs, ex, ea, l, q⟩ => ?_) ht
  subst ex
  obtain rfl : u = Value.ref a := rx
  refine getmeth_ok I1 ea cl hm l ?_
  refine PySem.W.callWith_K (first := [.ref a]) (h₀ := X.base) I.ok.mod.kin hm.kp (thn (ha.run pos pins s1 sg H1 _ I1 q) fun us s2 ⟨vs, H2, I2, r, q2⟩ => ⟨I2.kIn, ?_⟩) hst hpl
  exact run_fnS (us := .ref a :: us) (vs := .ref a :: vs) F hr hb (hx sg) I2 (.cons rfl r) q2
theorem pe_methS0 {CX : CXT} {k : Nat} {f C : Addr} {fd : FuncData} {ps : List Str} {sp : Sp} {E : L2.St → XK} {m : Str} {ta : TE} {pl : Sem Bool} (he : PE X o ta) (cl : Cls X.K C) (hm : Meth X.K C m f) (F : FnOk X.prog X.w X.K X.mg X.base CX k f fd ps sp) (hr : Room k X.A) (hb : Binds X.K fd ps []) (hx : ∀ s, PassesAt CX X s (E s))
    (ht : eval (.Call (.Attribute o m apos) [] [] pos) X.env = (do
      let ov ← eval o X.env
      standAt apos.atName
      let (f, first) ← holding [ov] (getMethod ov m pl)
      callWith pos f first (backTo pos (starEach [] X.env)) (backToKw pos (keywordEach [] X.env))) := by rfl) :
    PE X (.Call (.Attribute o m apos) [] [] pos) (tMethS C m sp E ta tNil) := by
  refine ⟨fun pins s sg H Q I h => ?_⟩
  refine PySem.W.methodCall_KW (pl := pl) (thn (he.run pins s sg H _ I h) fun u s1 ⟨x, H1, I1, rx, a, dx, fs, ex, ea, l, q⟩ => ?_) ht
  subst ex
  obtain rfl : u = Value.ref a := rx
  refine getmeth_ok I1 ea cl hm l ?_
  exact PySem.W.callWith_K0 (first := [.ref a]) I1.kIn hm.kp (run_fnS (us := [.ref a]) (vs := [.ref a]) F hr hb (hx sg) I1 (.cons rfl .nil) q)
theorem tX_meth {F : XF} {C : Addr} {m : Str} {E : L2.St → XK} {sg : L2.St} {H : Hp} {Q : VK} (hC : C = c.C) (hm : m ∉ pileNames) (hE : ∀ cls d H, W cls d sg H → E sg cls d H) (q : tX c W F0 H0 (xMeth F f fs) sg H Q) : tMethS C m (spOf c F) E (tX c W F0 H0 f) (tXA c W F0 H0 fs) sg H Q := by
  obtain ⟨F1, env, si, hq⟩ := q
  subst hC
  refine ⟨F1, env, si, (aft_bind hq).mono fun x H1 ⟨F2, va, w1, r1, hq1⟩ => ?_⟩
  obtain ⟨ow, bb, d⟩ := va
  cases ow with
  | sh =>
    have rr : Rep c F2 x d := r1.repF
    cases rr with
    | @obj a dx vs xs ha hr hl =>
      replace hq1 : Aft c W sg F2 H1 Q ((fs env).bind fun ds => F (.obj xs :: ds)) := hq1
      refine ⟨a, dx, _, rfl, w1.fh _ _ ha, ?_, F2, env, si.grow w1, (aft_bindA hq1).mono fun us H2 ⟨F3, ds, w2, r2, _, hq2⟩ => ⟨F3, .obj xs :: ds, w2.fh, .cons (.obj (w2.f _ _ ha) (hr.mono w2.f) hl) r2, hq2.sg hE⟩⟩
      have : ∀ (ks : List Str) (vs : List V), m ∉ ks → (ks.zip vs).lookup m = none := fun ks => by
        induction ks with
        | nil => intro vs _; rfl
        | cons k ks ih =>
          intro vs hn
          cases vs with
          | nil => rfl
          | cons v vs =>
            have ne : (m == k) = false := by
              have : m ≠ k := fun z => hn (z ▸ List.mem_cons_self)
              simpa using this
            rw [List.zip_cons_cons, List.lookup_cons, ne]
            exact ih vs fun z => hn (List.mem_cons_of_mem _ z)
      exact this _ _ hm
    | _ => exact (show False from hq1).elim
  | _ => exact (show False from by cases d <;> exact hq1).elim
theorem se_meth {m : Str} {k : Nat} {ps : List Str} {F : XF} {pl : Sem Bool} (g : Gm J.X.prog J.X.w J.X.K J.X.mg J.X.base J.c m k ps F) (T : PileOk J.X.K J.c.C) (hr : Room k J.X.A) (tk : Takes J.X J.W) (he : SE J o f) (ha : SA J (e :: es) fs) (hm : m ∉ pileNames := by decide +kernel)
    (hst : starEach (e :: es) J.X.env = (false, eval e J.X.env) :: starEach es J.X.env := by rfl) (hpl : (backTo pos (starEach es J.X.env)).any (·.1) = false := by rfl)
    (ht : eval (.Call (.Attribute o m apos) (e :: es) [] pos) J.X.env = (do
      let ov ← eval o J.X.env
      standAt apos.atName
      let (f, first) ← holding [ov] (getMethod ov m pl)
      callWith pos f first (backTo pos (starEach (e :: es) J.X.env)) (backToKw pos (keywordEach [] J.X.env))) := by rfl) : SE J (.Call (.Attribute o m apos) (e :: es) [] pos) (xMeth F f fs) := by
  obtain ⟨fa, fd, G, hM, b⟩ := g.ex
  exact (pe_methS he T.cl hM G hr b (fun s => passAt tk s) ha hst hpl ht).imp fun sg H Q q => tX_meth rfl hm (fun _ _ _ z => z) q
theorem se_meth0 {m : Str} {k : Nat} {ps : List Str} {F : XF} {pl : Sem Bool} (g : Gm J.X.prog J.X.w J.X.K J.X.mg J.X.base J.c m k ps F) (T : PileOk J.X.K J.c.C) (hr : Room k J.X.A) (tk : Takes J.X J.W) (he : SE J o f) (hm : m ∉ pileNames := by decide +kernel)
    (ht : eval (.Call (.Attribute o m apos) [] [] pos) J.X.env = (do
      let ov ← eval o J.X.env
      standAt apos.atName
      let (f, first) ← holding [ov] (getMethod ov m pl)
      callWith pos f first (backTo pos (starEach [] J.X.env)) (backToKw pos (keywordEach [] J.X.env))) := by rfl) : SE J (.Call (.Attribute o m apos) [] [] pos) (xMeth F f xANil) := by
  obtain ⟨fa, fd, G, hM, b⟩ := g.ex
  refine (pe_methS0 he T.cl hM G hr b (fun s => passAt tk s) ht).imp fun sg H Q q => ?_
  obtain ⟨F1, env, si, q⟩ := tX_meth (E := WE J.W) rfl hm (fun _ _ _ z => z) q
  refine ⟨F1, env, si, q.mono fun x H1 ⟨a, dx, fs, h1, h2, h3, F2, env2, si2, h4⟩ => ⟨a, dx, fs, h1, h2, h3, h4 F2 H1 [] (Wd.refl si2.wd.fh) .nil⟩⟩
/-! ### Pile(..) -/
def spInit (C : Addr) : Sp := fun vs H Q _ => ∃ (x dx : Addr) (us : List V), vs = .ref x :: us ∧ us.length = 7 ∧ H x = some (.ins C dx []) ∧ ∀ H' : Hp, (∀ b, b ≠ x → H' b = H b) → H' x = some (.ins C dx (pileFs us)) → Q .non H'
structure Gp (P : Program) (w : World) (K : PySem.W.Frag) (mg : Str → Option Value) (base : Heap) (c : Ct) (k : Nat) (ps : List Str) : Prop where
  ex : ∃ f fd, FnOk P w K mg base (L2.CX P w) k f fd ps (spInit c.C) ∧ Mk K c.C f ∧ mg "Pile" = some (.ref c.C) ∧ Binds K fd ps []
def xPile (fs : XA) : XE := fun env => (fs env).bind fun ds => if ds.length = 7 then .ok (.sh (.obj ds)) else .bad
theorem se_pile {k : Nat} {ps : List Str} (g : Gp J.X.prog J.X.w J.X.K J.X.mg J.X.base J.c k ps) (hr : Room (k + 1) J.X.A) (hx : Gl J.X "Pile") (ha : SA J (e :: es) fs)
    (he : starEach (e :: es) J.X.env = (false, eval e J.X.env) :: starEach es J.X.env := by rfl) (hpl : (backTo pos (starEach es J.X.env)).any (·.1) = false := by rfl) : SE J (.Call (.Name "Pile" p) (e :: es) [] pos) (xPile fs) := by
  obtain ⟨f, fd, G, M, m, b⟩ := g.ex
  refine (pe_make M G hr hx m b .nil passL ha (by decide) he hpl).imp fun sg H Q ⟨F1, env, si, hq⟩ => ⟨F1, env, si, (aft_bindA hq).mono fun us H1 ⟨F2, ds, w1, r1, _, hq1⟩ => ?_⟩
  intro x dx hx hdx hne
  by_cases hl : ds.length = 7
  · rw [if_pos hl] at hq1
    refine ⟨x, dx, us, by rw [List.append_nil], by rw [r1.length, hl], upd_same, fun H' h1 h2 => ⟨rfl, ?_⟩⟩
    have fx : F2 x = none := Evl.fresh_back w1.fh hx
    have e0 : Ex H1 H' := fun a o ha => by
      have na : a ≠ x := ne_of_none ha hx
      have nb : a ≠ dx := ne_of_none ha hdx
      rw [h1 a na, upd_ne na, upd_ne nb]
      exact ha
    have eu : Ex (upd F2 x (.ins J.c.C dx (pileFs us))) H' := fun a o ha => by
      by_cases z : a = x
      · subst z
        rw [upd_same] at ha
        rw [h2]
        exact ha
      · rw [upd_ne z] at ha
        exact e0 a o (w1.fh a o ha)
    refine hq1 (upd F2 x (.ins J.c.C dx (pileFs us))) H' (.ref x) ⟨Evl.Ex.new fx, eu, e0, fun a n1 n2 => ?_⟩ (Rv.sh (.obj upd_same (r1.mono (Evl.Ex.new fx)) (by rw [r1.length, hl])))
    by_cases z : a = x
    · subst z
      exact hx
    · rw [upd_ne z] at n2
      exact absurd n1 n2
  · rw [if_neg hl] at hq1
    exact hq1.elim
/-! ### raise -/
/-- the error class that x names is the k-th -/
structure ExcOk (K : PySem.W.Frag) (mg : Str → Option Value) (c : Ct) (k : Nat) (x : Str) : Prop where
  g : mg x = some (.ref (c.ea k))
  xP : PySem.W.excIn K (c.ea k) [.type "ValueError", .type "Exception", .type "BaseException", .type "object"] "ValueError.__new__" = true
  kp : PySem.W.keepIn K (.ref (c.ea k)) = true
  b : PySem.W.subIn K (.ref (c.ea k)) (.type "BaseException") = some true
  t : PySem.W.typeIn K (.ref (c.ea k)) = some (.type "type")
def xRaise (k : Nat) : XS := fun env => .exc k env
theorem ss_raise {x m : Str} {j : Nat} {p2 pos' : Pos} (k : Nat) (T : ExcOk J.X.K J.X.mg J.c k x) (hc : J.X.calm = true) (tk : Takes J.X J.W) (hg : Gl J.X x) (hdb : (x == ("__debug__" : Str)) = false := by decide) : SS J (.Raise (some (.Call (.Name x p) [.Constant (.str m) j p2] [] pos)) none pos') (xRaise k) :=
  (ps_raise hc tk (pmk_own PySem.F.excBase_ValueError T.xP T.g T.kp (raises_own T.b T.t) hg hdb)).imp fun D sg H ⟨F, env, si, hq⟩ => hq F H sg (Evl.Ex.refl F) si
/-! ### try .. except X: -/
def noExc : Out → Out
  | .exc _ _ => .bad
  | o => o
theorem aft_noExc {F : Hp} {D : Ends} {o : Out} (h : AftS c W F0 H0 F D (noExc o)) : AftS c WF F0 H0 F D o := by
  cases o with
  | exc k e => exact (show False from h).elim
  | next x => exact h
  | ret r => exact h
  | rete d x => exact h
  | brk x => exact h
  | cont x => exact h
  | bad => exact h
def xTry (pk : Nat → Option Bool) (bd hd : XS) : XS := fun env => match bd env with
  | .exc k e => match pk k with
    | some true => noExc (hd e)
    | some false => .exc k e
    | none => .bad
  | o => o
theorem ss_try {x : Str} {cv : Value} {body suite : List Stmt} {b0 : Stmt} {np pos' : Pos} {bd hd : XS} (pk : Nat → Option Bool) (hs : J.X.stack = J.X.env :: J.X.outer) (hf : J.X.env.frame = some J.X.env.locals) (hc : Names J.X x cv) (tk : Takes J.X J.W)
    (hk : ∀ k b, pk k = some b → PySem.W.exmOne J.X.K (.ref (J.c.ea k)) cv = some b)
    (hb : ∀ (W : WX) (pn : List (Addr × Obj)) (xe : Value → Shared → Prop), Takes (J.X.tr pn xe) W → PassesOwn (model J.X.prog J.X.w) J.X.A J.X.env xe → SSs ⟨J.X.tr pn xe, J.c, W, J.F0, J.H0⟩ body bd)
    (hsu : ∀ (a : Addr) (oe : Obj) (pn : List (Addr × Obj)), SSs ⟨J.X.suite a ((a, oe) :: pn), J.c, WF, J.F0, J.H0⟩ (b0 :: suite) hd) :
    SS J (.Try body [.ExceptHandler (some (.Name x np)) none (b0 :: suite) pos'] [] [] pos) (xTry pk bd hd) :=
  (ps_try_only (tb := fun W => tXS J.c W J.F0 J.H0 bd) (ts := fun _ _ _ => tXS J.c WF J.F0 J.H0 hd) hs hf hc tk (fun W pn xe t1 t2 => hb W pn xe t1 t2) (fun a oe cls d pn _ _ => hsu a oe pn)).imp fun D sg H ⟨F, env, si, hq⟩ => ⟨F, env, si, by
  unfold xTry at hq
  cases q : bd env with
  | next e => rw [q] at hq; exact hq
  | ret r => rw [q] at hq; exact hq
  | rete d x => rw [q] at hq; exact hq
  | brk e => rw [q] at hq; exact hq
  | cont e => rw [q] at hq; exact hq
  | bad => rw [q] at hq; exact hq
  | exc k e1 =>
    rw [q] at hq
    replace hq : AftS J.c J.W J.F0 J.H0 F D (match pk k with
      | some true => noExc (hd e1)
      | some false => .exc k e1
      | none => .bad) := hq
    intro F' H' sg' e s'
    cases hp : pk k with
    | none => rw [hp] at hq; exact hq.elim
    | some b =>
      rw [hp] at hq
      refine ⟨b, hk k b hp, fun hbt a ha => ?_, fun hbf => ?_⟩
      · subst hbt
        exact ⟨F', e1, s', AftS.grow e (aft_noExc hq)⟩
      · subst hbf
        have hq2 : AftS J.c J.W J.F0 J.H0 F D (.exc k e1) := hq
        exact hq2 F' H' sg' e s'⟩
/-! ### a call that is lent its arguments: it gives back a number, a truth value, a text, None -/
def Rws.d : List Val → List D := List.map Val.d
theorem rws_reps {F H : Hp} (e : Ex F H) : ∀ {us : List V} {rs : List Val}, Rws c F H us rs → Reps c H us (rs.map Val.d)
  | _, _, .nil => .nil
  | _, _, .cons h r => .cons (h.rep e) (rws_reps e r)
def onlySc : Res Val → Res Val
  | .ok r => if r.d.isSc = true then .ok (.sh r.d) else .bad
  | .exc k => .exc k
  | .bad => .bad
def xCallB (F : XF) (fs : XVs) : XE := fun env => (fs env).bind fun rs => onlySc (F (rs.map Val.d))
theorem aft_lend {Q : VK} {sg : L2.St} {F H : Hp} {r : Res Val} (e : Ex F H) (h : Aft c W sg F H Q (onlySc r)) : Aft c (fun cls d _ H => W cls d sg H) [] H H Q r := by
  have w0 : ∀ {F' H' : Hp}, Wd H H F' H' → Wd F H F H' := fun w => ⟨Evl.Ex.refl F, e.trans w.h, w.h, fun a h1 h2 => absurd h1 h2⟩
  cases r with
  | bad => exact h
  | exc k => exact fun F' H' w => h F H' (w0 w)
  | ok r =>
    intro F' H' u w rv
    replace h : Aft c W sg F H Q (if r.d.isSc = true then .ok (.sh r.d) else .bad) := h
    by_cases hs : r.d.isSc = true
    · rw [if_pos hs] at h
      exact h F H' u (w0 w) (Rv.sh ((rv.rep w.fh).isSc hs))
    · rw [if_neg hs] at h
      exact h.elim
theorem se_callB {nm : Str} {k : Nat} {ps : List Str} {F : XF} {fs : XVs} (g : Gf J.X.prog J.X.w J.X.K J.X.mg J.X.base J.c nm k ps F) (hr : Room k J.X.A) (tk : Takes J.X J.W) (hx : Gl J.X nm) (ha : SV J (e :: es) fs) (hdb : (nm == ("__debug__" : Str)) = false := by decide)
    (he : starEach (e :: es) J.X.env = (false, eval e J.X.env) :: starEach es J.X.env := by rfl) (hpl : (backTo pos (starEach es J.X.env)).any (·.1) = false := by rfl) : SE J (.Call (.Name nm p) (e :: es) [] pos) (xCallB F fs) := by
  obtain ⟨f, fd, G, m, kp, b⟩ := g.ex
  exact (pe_callS G hr hx m kp b (fun s => passAt tk s) ha hdb he hpl).imp fun sg H Q ⟨F1, env, si, hq⟩ => ⟨F1, env, si, (aft_bindV hq).mono fun us H1 ⟨F2, rs, w1, r1, hq1⟩ => ⟨H1, rs.map Val.d, Evl.Ex.refl H1, rws_reps w1.fh r1, aft_lend w1.fh hq1⟩⟩
/-- a constant of the module -/
theorem se_globI {x : Str} {i : Int} (h : ∃ t, J.X.mg x = some (.int i t)) (hg : Gl J.X x) (hd : (x == ("__debug__" : Str)) = false := by decide) : SE J (.Name x pos) (xC (.int i)) := by
  obtain ⟨t, h⟩ := h
  exact (pe_glob (v := .int i) hg h ⟨_, rfl⟩ hd).imp fun sg H Q ⟨F, env, si, hq⟩ => Aft.now si.wd.fh .int hq
theorem se_globS {x z : Str} (h : ∃ t, J.X.mg x = some (.str z t)) (hg : Gl J.X x) (hd : (x == ("__debug__" : Str)) = false := by decide) : SE J (.Name x pos) (xC (.str z)) := by
  obtain ⟨t, h⟩ := h
  exact (pe_glob (v := .str z) hg h ⟨_, rfl⟩ hd).imp fun sg H Q ⟨F, env, si, hq⟩ => Aft.now si.wd.fh .str hq
/-- isinstance(e, T), T a built-in class -/
def D.ty : D → Option String
  | .non => some "NoneType"
  | .bl _ => some "bool"
  | .int _ => some "int"
  | .str _ => some "str"
  | .lst _ => some "list"
  | .fz _ => some "list"
  | .tup _ => some "tuple"
  | .dic _ _ => some "dict"
  | .obj _ => none
  | .exn _ => none
def isD (T : String) (d : D) : Res Bool := match d with
  | .bl _ => .ok (T == "bool" || T == "int")
  | .int _ => .ok (T == "int")
  | .str _ => .ok (T == "str")
  | .lst _ => .ok (T == "list")
  | .fz _ => .ok (T == "list")
  | .tup _ => .ok (T == "tuple")
  | .non => .ok false
  | _ => .bad
theorem rep_ty {H : Hp} {u : V} {d : D} {t : String} (h : Rep c H u d) (ht : d.ty = some t) : TyX c.K H u (.type t) := by
  cases h with
  | non => cases ht; exact .base .non
  | bl => cases ht; exact .base (.bl _)
  | int => cases ht; exact .base (.int _)
  | str => cases ht; exact .base (.str _)
  | lst ha _ => cases ht; exact .base (.lst ha)
  | tup ha _ => cases ht; exact .base (.tup ha)
  | dic ha _ _ => cases ht; exact .base (.dK ha)
  | fz ha _ =>
    cases ht
    rcases ha with (ha | ⟨o, ha⟩) | ⟨o, its, n, h1, h2, _⟩
    · exact .base (.lst ha)
    · exact .base (.frz ha)
    · exact .kList h1 h2
  | obj _ _ _ => cases ht
  | exn _ => cases ht
theorem kitB_all : ∀ T ∈ ["int", "bool", "str", "list", "tuple"], kitB "NoneType" T = some false ∧ kitB "bool" T = some (T == "bool" || T == "int") ∧ kitB "int" T = some (T == "int") ∧ kitB "str" T = some (T == "str") ∧ kitB "list" T = some (T == "list") ∧ kitB "tuple" T = some (T == "tuple") := by decide +kernel
def xIsi (T : String) (f : XE) : XE := fun env => (f env).bind fun a => (isD T a.d).bind fun b => .ok (.sh (.bl b))
theorem se_isi {x : Str} {T : String} {p2 : Pos} (hK : J.X.K = J.c.K) (hm : J.X.mg "isinstance" = none) (hm2 : J.X.mg x = none) (hT : T ∈ ["int", "bool", "str", "list", "tuple"]) (he : SE J e f) (hx : Gl J.X "isinstance") (hx2 : Gl J.X x) (hv : bootBuiltins x = some (.type T)) (hn : x ≠ "__name__" := by decide) (hdb : (x == ("__debug__" : Str)) = false := by decide)
    (hs : starEach (e :: [.Name x p2]) J.X.env = (false, eval e J.X.env) :: starEach [.Name x p2] J.X.env := by rfl) (hs2 : starEach [.Name x p2] J.X.env = (false, eval (.Name x p2) J.X.env) :: starEach [] J.X.env := by rfl)
    (hpl : (backTo pos (starEach [.Name x p2] J.X.env)).any (·.1) = false := by rfl) : SE J (.Call (.Name "isinstance" p) [e, .Name x p2] [] pos) (xIsi T f) :=
  (pe_callB call_isi hx hm (by decide +kernel) (pa_cons he (pa_cons (pe_bltn (v := .ty T) hx2 hm2 hv rfl hn hdb) pa_nil hs2) hs) (by decide) (by decide) hs hpl).imp fun sg H Q ⟨F, env, si, hq⟩ => ⟨F, env, si, (aft_bind hq).mono fun u H1 ⟨F1, va, w1, r1, hq1⟩ => by
  have rr := r1.rep w1.fh
  obtain ⟨k0, k1, k2, k3, k4, k5⟩ := kitB_all T hT
  have fin : ∀ (t : String) (b : Bool), va.d.ty = some t → kitB t T = some b → isD T va.d = .ok b → rIsi J.X.K [u, .ty T] H1 Q := fun t b h1 h2 h3 => by
    rw [h3] at hq1
    rw [hK]
    exact ⟨u, .ty T, .type t, .type T, b, rfl, .ty T, rep_ty rr h1, kit_ty h2, Aft.now w1.fh .bl hq1⟩
  show rIsi J.X.K [u, .ty T] H1 Q
  cases hd : va.d with
  | non => rw [hd] at fin; exact fin _ _ rfl k0 rfl
  | bl b => rw [hd] at fin; exact fin _ _ rfl k1 rfl
  | int b => rw [hd] at fin; exact fin _ _ rfl k2 rfl
  | str b => rw [hd] at fin; exact fin _ _ rfl k3 rfl
  | lst b => rw [hd] at fin; exact fin _ _ rfl k4 rfl
  | fz b => rw [hd] at fin; exact fin _ _ rfl k4 rfl
  | tup b => rw [hd] at fin; exact fin _ _ rfl k5 rfl
  | obj b => rw [hd] at hq1; exact (show False from hq1).elim
  | exn b => rw [hd] at hq1; exact (show False from hq1).elim
  | dic b b2 => rw [hd] at hq1; exact (show False from hq1).elim⟩
end
theorem hu65 {A : Around} {k : Nat} (hr : Room k A) : A.units + 65 < cLine := by have := hr.un; omega
end Bk
set_option Elab.async false
set_option linter.all false
set_option maxRecDepth 100000
set_option maxHeartbeats 4000000
/-! BkJ: further built-ins: sorted pairs, lists popped, two names stored at once. -/
namespace Bk
open PySem L2
section
variable {c : Ct} {W : WX} {sg : L2.St} {F H : Hp} {u : V} {r : Val} {d : D} {Q : VK}
/-! ### sorted, pairs of whole numbers -/
def lexLe (p q : Int × Int) : Bool := !SrtO.lexB q p
def psort (ps : List (Int × Int)) : List (Int × Int) := ps.mergeSort lexLe
theorem lexLe_iff {p q : Int × Int} : lexLe p q = true ↔ p.1 < q.1 ∨ (p.1 = q.1 ∧ p.2 ≤ q.2) := by
  unfold lexLe
  rw [Bool.not_eq_true']
  have h : SrtO.lexB q p = false ↔ ¬ SrtO.lexB q p = true := by simp
  rw [h, SrtO.lexB_iff]
  omega
theorem psort_perm (ps : List (Int × Int)) : (psort ps).Perm ps := List.mergeSort_perm _ _
theorem psort_sorted (ps : List (Int × Int)) : (psort ps).Pairwise fun p q => lexLe p q = true := List.pairwise_mergeSort (fun a b e h1 h2 => by rw [lexLe_iff] at h1 h2 ⊢; omega) (fun a b => by
  rw [Bool.or_eq_true, lexLe_iff, lexLe_iff]
  omega) ps
theorem psort_uniq {ps qs : List (Int × Int)} (h1 : qs.Perm ps) (h2 : qs.Pairwise fun p q => lexLe p q = true) : qs = psort ps := (h1.trans (psort_perm ps).symm).eq_of_pairwise (le := fun p q => lexLe p q = true) (fun a b _ _ x y => by
  rw [lexLe_iff] at x y
  exact Prod.ext (by omega) (by omega)) h2 (psort_sorted ps)
def pairD (p : Int × Int) : D := .tup [.int p.1, .int p.2]
def D.pairs : List D → Option (List (Int × Int))
  | [] => some []
  | .tup [.int i, .int j] :: r => (D.pairs r).map ((i, j) :: ·)
  | _ => none
theorem pairs_map (ps : List (Int × Int)) : D.pairs (ps.map pairD) = some ps := by
  induction ps with
  | nil => rfl
  | cons p ps ih =>
    rw [List.map_cons, pairD, D.pairs, ih]
    rfl
theorem pairs_eq : ∀ {xs : List D} {ps : List (Int × Int)}, D.pairs xs = some ps → xs = ps.map pairD
  | [], ps, h => by
    cases Option.some.inj h
    rfl
  | x :: xs, ps, h => by
    unfold D.pairs at h
    split at h
    · rename_i e
      cases e
    · rename_i i j r e
      cases e
      cases q : D.pairs xs with
      | none =>
        rw [q] at h
        cases h
      | some qs =>
        rw [q] at h
        cases Option.some.inj h
        rw [List.map_cons, pairs_eq q]
        rfl
    · cases h
def pk (H : Hp) (v : V) : Int × Int := match v with
  | .ref t => match H t with
    | some (.tup [.int i, .int j]) => (i, j)
    | _ => (0, 0)
  | _ => (0, 0)
theorem rep_pair {v : V} {p : Int × Int} (h : Rep c F v (pairD p)) : ∃ t, v = .ref t ∧ F t = some (.tup [.int p.1, .int p.2]) := by
  cases h with
  | tup ha hr =>
    cases hr with
    | cons h1 hr =>
      cases hr with
      | cons h2 hr =>
        cases hr
        cases h1
        cases h2
        exact ⟨_, rfl, ha⟩
theorem reps_pk (e : Ex F H) : ∀ {vs : List V} {ps : List (Int × Int)}, Reps c F vs (ps.map pairD) → vs.map (pk H) = ps ∧ ∀ v ∈ vs, Rep c F v (pairD (pk H v)) ∧ ∃ t, v = .ref t ∧ H t = some (.tup [.int (pk H v).1, .int (pk H v).2])
  | [], [], _ => ⟨rfl, fun _ h => by simp at h⟩
  | v :: vs, p :: ps, .cons h r => by
    obtain ⟨i1, i2⟩ := reps_pk e r
    obtain ⟨t, e1, e2⟩ := rep_pair h
    have e3 : pk H v = p := by
      subst e1
      unfold pk
      dsimp only
      rw [e _ _ e2]
    refine ⟨by rw [List.map_cons, e3, i1], fun w hw => ?_⟩
    rcases List.mem_cons.mp hw with rfl | hw
    · rw [e3]
      exact ⟨h, t, e1, e _ _ e2⟩
    · exact i2 w hw
def pSortP (rs : List Val) : Res Val := match rs with
  | [a] => match a.its with
    | some xs => match D.pairs xs with
      | some ps => .ok ⟨.li .sh, false, .lst ((psort ps).map pairD)⟩
      | none => .bad
    | none => .bad
  | _ => .bad
theorem reps_of_mem {k : V → Int × Int} : ∀ {ys : List V}, (∀ y ∈ ys, Rep c F y (pairD (k y))) → Reps c F ys ((ys.map k).map pairD)
  | [], _ => .nil
  | y :: ys, h => .cons (h y List.mem_cons_self) (reps_of_mem fun z hz => h z (List.mem_cons_of_mem _ hz))
theorem vn_sortP {K : PySem.W.Frag} : VN c (rSortedPO K) pSortP := by
  intro W sg F H us rs Q e hr h
  unfold pSortP at h
  cases hr with
  | nil => exact h.elim
  | @cons u r us rs h1 h2 =>
    cases h2 with
    | cons _ _ => exact h.elim
    | nil =>
      dsimp only at h
      cases hi : r.its with
      | none => rw [hi] at h; exact h.elim
      | some xs =>
        rw [hi] at h
        dsimp only at h
        cases hp : D.pairs xs with
        | none => rw [hp] at h; exact h.elim
        | some ps =>
          rw [hp] at h
          obtain ⟨_, p, vs, rfl, ha, rr⟩ := h1.items e hi
          rw [pairs_eq hp] at rr
          obtain ⟨q1, q2⟩ := reps_pk e rr
          refine ⟨p, vs, pk H, rfl, .inl (.inl ha), fun x hx => (q2 x hx).2, fun ys l hs hb hl => ?_⟩
          have hperm : ys.Perm vs := hb.perm
          have e2 : ys.map (pk H) = psort ps := by
            refine psort_uniq ?_ ?_
            · rw [← q1]
              exact hperm.map _
            · refine List.pairwise_map.mpr (List.Pairwise.imp (fun {a b} hab => ?_) hs)
              unfold lexLe
              have : SrtO.lexB (pk H b) (pk H a) = false := hab
              rw [this]
              rfl
          have r3 : Reps c F ys ((psort ps).map pairD) := by
            rw [← e2]
            exact reps_of_mem fun y hy => (q2 y (hperm.mem_iff.mp hy)).1
          exact Aft.newL e hl r3 h
end
section
variable {J : Jx} {c : Ct} {W : WX} {F0 H0 : Hp} {X : Cx} {pos : Pos} {sg : L2.St} {F H F1 H1 : Hp} {env : XEnv} {st : Stmt} {sts : List Stmt} {g h : XS} {e : Expr} {f : XE} {t : XB} {D : Ends}
/-- xs.pop(), the value dropped -/
def xPop (i : Nat) : XS := fun env => match env[i]? with
  | some (some (.li .sh, .lst xs)) => if xs = [] then .bad else .next (env.set i (some (.li .sh, .lst xs.dropLast)))
  | _ => .bad
end
end Bk
set_option Elab.async false
set_option linter.all false
set_option maxRecDepth 100000
set_option maxHeartbeats 4000000
/-! BkK: what the end wants. -/
namespace Bk
open PySem L2 PySem.Spec PyProof.Rows
section
variable {P : Program} {w : World} {K : PySem.W.Frag} {mg : Str → Option Value} {base : Heap} {c : Ct} {h : Heap}
/-- what leaves with no error leaves so in any sense -/
theorem fn_cx0 {k : Nat} {f : Addr} {fd : FuncData} {ps : List Str} {sp : Sp} (G : FnOk P w K mg base (L2.CX P w) k f fd ps sp) : FnOk P w K mg base CX0 k f fd ps (fun vs H Q _ => sp vs H Q E0) :=
  ⟨fun vs H Q E q => G.len _ _ _ _ q, fun A outer s H args us vs Q E hr he hb hv hs => codeAny_mono (G.run A outer s H args us vs Q E0 hr he hb hv hs) fun r s' hq => by
    cases r with
    | error e =>
      obtain ⟨_, _, _, _, _, _, _, _, _, _, _, _, z⟩ := (show L2.CX P w outer H s E0 e s' from hq)
      exact z.elim
    | ok fl => cases fl <;> exact hq⟩
/-- a def read off the head -/
theorem fun_of {fa : List He.Fa} {fn : List He.FnD} (cc : He.SaysE fa fn K) (i : Nat) {st : Stmt} {at_ : Str × Option Str} {x qual : Str} (hd : fn[i]? = some ⟨at_, x, qual, defArgs st, defBody st, defScope st⟩) (hk : PySem.W.keepIn K (.ref (He.fAd K at_)) = true) : ∃ fd, Fun K x qual st (He.fAd K at_) fd := by
  obtain ⟨oc, od, osl, kV, doc, pm, an, cdv, ct, l, q⟩ := cc.def_ i hd
  exact ⟨_, ⟨oc, od, kV, doc, pm, an, cdv, ct, osl, rfl, l, q⟩, hk⟩
theorem excOk_of (X : K.In h) (G : h.Ns mainGlobals mg) {k : Nat} {x : Str} (he : c.ea k = He.ga K x) (c1 : (He.Fa.glo x).ok K = true) (c2 : (He.Fa.exc x).ok K = true) : ExcOk K mg c k x := by
  obtain ⟨q1, q2, q3, q4⟩ := He.exc_ok c2
  exact ⟨by rw [he]; exact He.glo_ok X G c1, by rw [he]; exact q1, by rw [he]; exact q2, by rw [he]; exact q3, by rw [he]; exact q4⟩
theorem pileOk_of {C : Addr} (hC : C = He.ga K "Pile") (c0 : (He.Fa.cls "Pile").ok K = true) (c1 : (He.Fa.noat "Pile" "columns").ok K = true) (c2 : (He.Fa.noat "Pile" "rows").ok K = true) (c3 : (He.Fa.noat "Pile" "wide").ok K = true) (c4 : (He.Fa.noat "Pile" "high").ok K = true) (c5 : (He.Fa.noat "Pile" "heaps").ok K = true) (c6 : (He.Fa.noat "Pile" "folds").ok K = true) (c7 : (He.Fa.noat "Pile" "cuts").ok K = true) : PileOk K C := by
  subst hC
  refine ⟨He.cls_ok c0, fun f hf => ?_⟩
  simp only [pileNames, List.mem_cons, List.not_mem_nil, or_false] at hf
  rcases hf with rfl | rfl | rfl | rfl | rfl | rfl | rfl
  · exact He.noat_ok c1
  · exact He.noat_ok c2
  · exact He.noat_ok c3
  · exact He.noat_ok c4
  · exact He.noat_ok c5
  · exact He.noat_ok c6
  · exact He.noat_ok c7
theorem ints_fz {F : Hp} {a : Addr} {ns : List Int} (h : SqL c.K F a (ns.map V.int)) : Rep c F (.ref a) (.fz (ns.map .int)) := .fz h (reps_ints ns)
/-- the law's end: it gives True -/
theorem law_sp {F : XF} {a : Addr} {ns : List Int} {H : Hp} (hS : SqL c.K H a (ns.map V.int)) (hF : F [.fz (ns.map .int)] = .ok (.sh (.bl true))) : spOf c F [.ref a] H (fun v _ => v = .bl true) E0 := by
  refine ⟨H, [.fz (ns.map .int)], Evl.Ex.refl H, .cons (ints_fz hS) .nil, ?_⟩
  rw [hF]
  intro F' H' u w rv
  have q := rv.repF
  cases q
  rfl
theorem putF_new {f : Str} {v : V} : ∀ {fs : List (Str × V)}, (∀ p ∈ fs, p.1 ≠ f) → putF f v fs = fs ++ [(f, v)]
  | [], _ => rfl
  | (g, x) :: r, hn => by
    have ne : ¬ g = f := hn (g, x) List.mem_cons_self
    rw [putF, if_neg ne, putF_new fun p hp => hn p (List.mem_cons_of_mem _ hp)]
    rfl
theorem pileFs_eq (a b e d x f g : V) : putF "cuts" g (putF "folds" f (putF "heaps" x (putF "high" d (putF "wide" e (putF "rows" b (putF "columns" a [])))))) = pileFs [a, b, e, d, x, f, g] := by
  have key : ∀ (fs : List (Str × V)) (n : Str) (v : V), ((fs.map (·.1)).contains n) = false → putF n v fs = fs ++ [(n, v)] := fun fs n v hc => putF_new fun p hp z => by
    have : (fs.map (·.1)).contains n = true := List.contains_iff_mem.mpr (List.mem_map.mpr ⟨p, hp, z⟩)
    rw [hc] at this
    cases this
  rw [key [] _ a rfl, key _ "rows" b (by simp only [List.map_append, List.map_cons, List.map_nil, List.nil_append]; decide +kernel), key _ "wide" e (by simp only [List.map_append, List.map_cons, List.map_nil, List.nil_append]; decide +kernel), key _ "high" d (by simp only [List.map_append, List.map_cons, List.map_nil, List.nil_append]; decide +kernel),
    key _ "heaps" x (by simp only [List.map_append, List.map_cons, List.map_nil, List.nil_append]; decide +kernel), key _ "folds" f (by simp only [List.map_append, List.map_cons, List.map_nil, List.nil_append]; decide +kernel), key _ "cuts" g (by simp only [List.map_append, List.map_cons, List.map_nil, List.nil_append]; decide +kernel)]
  rfl
theorem binds_law {x qual : Str} {st : Stmt} {f : Addr} {fd : FuncData} (Fn : Fun K x qual st f fd) (hb : ∀ (kV doc pm : Value) (an : Option Addr) (cdv ct v : Value), bindArgs (PySem.W.fnOf x qual (defArgs st) (defBody st) (defScope st) .none kV doc pm an cdv ct) ⟨[v], []⟩ = pure [(("script" : Str), v)]) (s : Shared) (v : Value) : BindsTo s fd ⟨[v], []⟩ [("script", v)] := by
  obtain ⟨oc, od, kV, doc, pm, an, cdv, ct, osl, rfl, _, _⟩ := Fn.ex
  exact .of_eq (hb kV doc pm an cdv ct v)
end
end Bk
set_option Elab.async false
set_option linter.all false
set_option maxRecDepth 100000
set_option maxHeartbeats 4000000
/-! BkL: the combinators as equations, for simp; loops and comprehensions over plain lists. -/
namespace Bk
open PySem L2
/-! ### what goes on behind a value (named, so that simp does not look into it too early) -/
def Out.andThen (o : Out) (t : XS) : Out := match o with
  | .next e => t e
  | o => o
def kSet (i : Nat) (env : XEnv) : Res Val → Out
  | .ok a => if a.b = true then .bad else .next (env.set i (some (a.o, a.d)))
  | .exc n => .exc n env
  | .bad => .bad
def kPut (is : List Nat) (env : XEnv) (d : D) : Out := match (Tg.tp is).put d env with
  | some e => .next e
  | none => .bad
def kUnp (is : List Nat) (env : XEnv) : Res Val → Out
  | .ok a => if a.b = true then .bad else kPut is env a.d
  | .exc n => .exc n env
  | .bad => .bad
def kDrop (env : XEnv) : Res Val → Out
  | .ok _ => .next env
  | .exc n => .exc n env
  | .bad => .bad
def kRet (env : XEnv) : Res Val → Out
  | .ok a => if a.b = true then .bad else .ret a
  | .exc n => .exc n env
  | .bad => .bad
def kIfS (s t : XS) (env : XEnv) : Res Bool → Out
  | .ok b => if b = true then s env else t env
  | .exc n => .exc n env
  | .bad => .bad
def kIf (f h : XE) (env : XEnv) (b : Bool) : Res Val := if b = true then f env else h env
def kFor (tg : Tg) (s : XS) (env : XEnv) : Res (List D) → Out
  | .ok ds => forGo tg s ds env
  | .exc n => .exc n env
  | .bad => .bad
def kApp (i : Nat) (env : XEnv) (xs : List D) : Res Val → Out
  | .ok a => if a.b = true then .bad else if xs.length < 100000 then .next (env.set i (some (.li .sh, .lst (xs ++ [a.d])))) else .bad
  | .exc n => .exc n env
  | .bad => .bad
def kFun : Out → Res Val
  | .ret r => if r.b = true then .bad else .ok r
  | .next _ => .ok (.sh .non)
  | .exc k _ => .exc k
  | _ => .bad
def kLc : Res (List D) → Res Val
  | .ok xs => .ok ⟨.li .sh, false, .lst xs⟩
  | _ => .bad
def kMeth (F : XF) (r : Res (List D)) (v : Val) : Res Val := match v.o, v.d with
  | .sh, .obj xs => r.bind fun ds => F (.obj xs :: ds)
  | _, _ => .bad
section
variable (env : XEnv) (f g h k : XE) (s t : XS) (a b : XB) (fs : XA) (vs : XVs)
@[simp] theorem rbind_ok {α β : Type} (x : α) (f : α → Res β) : (Res.ok x).bind f = f x := rfl
@[simp] theorem rbind_exc {α β : Type} (n : Nat) (f : α → Res β) : (Res.exc n : Res α).bind f = .exc n := rfl
@[simp] theorem rbind_bad {α β : Type} (f : α → Res β) : (Res.bad : Res α).bind f = .bad := rfl
@[simp] theorem e_V (i : Nat) : xV i env = match env[i]? with
  | some (some (.sh, d)) => .ok (.sh d)
  | some (some (o, d)) => .ok ⟨o, true, d⟩
  | _ => .bad := rfl
@[simp] theorem e_C (d : D) : xC d env = .ok (.sh d) := rfl
@[simp] theorem e_Op2 (p : Val → Val → Res Val) : xOp2 p f h env = (f env).bind fun a => (h env).bind fun b => p a b := rfl
@[simp] theorem e_T : xT f env = (f env).bind fun a => match a.d with
  | .bl b => .ok b
  | _ => .bad := rfl
@[simp] theorem e_And : xAnd a b env = (a env).bind fun c => if c = true then b env else .ok false := rfl
@[simp] theorem e_Or : xOr a b env = (a env).bind fun c => if c = true then .ok true else b env := rfl
@[simp] theorem e_NotB : xNotB a env = (a env).bind fun b => .ok (!b) := rfl
@[simp] theorem e_Chain (p q : Val → Val → Res Val) : xChain p q f h k env = (f env).bind fun a => (h env).bind fun b => (p a b).bind fun z => match z.d with
  | .bl r => if r = true then (k env).bind fun e => (q b e) else .ok (.sh (.bl false))
  | _ => .bad := by
  unfold xChain
  congr 1
  funext a
  congr 1
  funext b
  congr 1
  funext z
  cases z.d with
  | bl p => cases p <;> rfl
  | _ => rfl
@[simp] theorem e_AndV : xAndV f h env = (f env).bind fun a => match a.d with
  | .bl p => if p = true then h env else .ok (.sh (.bl false))
  | _ => .bad := by
  unfold xAndV
  congr 1
  funext a
  cases a.d with
  | bl p => cases p <;> rfl
  | _ => rfl
@[simp] theorem e_OrV : xOrV f h env = (f env).bind fun a => match a.d with
  | .bl p => if p = true then .ok (.sh (.bl true)) else h env
  | _ => .bad := by
  unfold xOrV
  congr 1
  funext a
  cases a.d with
  | bl p => cases p <;> rfl
  | _ => rfl
@[simp] theorem e_NotV : xNotV f env = (f env).bind fun a => match a.d with
  | .bl b => .ok (.sh (.bl (!b)))
  | _ => .bad := rfl
@[simp] theorem e_If : xIf a f h env = (a env).bind (kIf f h env) := rfl
@[simp] theorem e_ANil : xANil env = .ok [] := rfl
@[simp] theorem e_ACons : xACons f fs env = (f env).bind fun a => if a.b = true then .bad else (fs env).bind fun ds => .ok (a.d :: ds) := rfl
@[simp] theorem e_VNil : xVNil env = .ok [] := rfl
@[simp] theorem e_VCons : xVCons f vs env = (f env).bind fun a => (vs env).bind fun ds => .ok (a :: ds) := rfl
@[simp] theorem e_Tup : xTup fs env = (fs env).bind fun ds => if ds.length ≤ 100000 then .ok (.sh (.tup ds)) else .bad := rfl
@[simp] theorem e_Lst : xLst fs env = (fs env).bind fun ds => if ds.length ≤ 100000 then .ok ⟨.li .sh, false, .lst ds⟩ else .bad := rfl
@[simp] theorem e_Blt (p : List Val → Res Val) : xBlt p vs env = (vs env).bind p := rfl
@[simp] theorem e_Call (F : XF) : xCall F fs env = (fs env).bind F := rfl
@[simp] theorem e_CallB (F : XF) : xCallB F vs env = (vs env).bind fun rs => onlySc (F (rs.map Val.d)) := rfl
@[simp] theorem e_Fld (n : Nat) : xFld n f env = (f env).bind (pFld n) := rfl
@[simp] theorem e_Isi (T : String) : xIsi T f env = (f env).bind fun a => (isD T a.d).bind fun b => .ok (.sh (.bl b)) := rfl
@[simp] theorem e_PNone : xPNone env = .ok none := rfl
@[simp] theorem e_PSome : xPSome f env = (f env).bind fun a => match a.d with
  | .int i => .ok (some i)
  | _ => .bad := rfl
@[simp] theorem e_Sl (lo hi : XP) : xSl f lo hi env = (f env).bind fun a => (lo env).bind fun l => (hi env).bind fun h => match a.its2 with
  | some xs => .ok ⟨.li .sh, false, .lst (cut xs l h)⟩
  | none => .bad := rfl
@[simp] theorem e_IList : xIList f env = (f env).bind fun a => if a.b = true then .bad else match a.d with
  | .lst xs => .ok xs
  | .fz xs => .ok xs
  | _ => .bad := rfl
@[simp] theorem e_ITup : xITup f env = (f env).bind fun a => if a.b = true then .bad else match a.d with
  | .tup xs => .ok xs
  | _ => .bad := rfl
@[simp] theorem e_IRange : xIRange vs env = (vs env).bind fun rs => match rs with
  | [a] => match a.d with
    | .int n => if n ≤ 100000 ∧ -100000 ≤ n then .ok (rangeD n) else .bad
    | _ => .bad
  | _ => .bad := rfl
@[simp] theorem e_IRev : xIRev fs env = (fs env).bind fun rs => match rs with
  | [d] => match d with
    | .lst xs => .ok xs.reverse
    | _ => .bad
  | _ => .bad := rfl
@[simp] theorem e_Yes : xYes env = .ok true := rfl
@[simp] theorem e_Lc (ws : List Nat) (it : XI) (tg : Tg) : xLc ws it tg a f env = (it env).bind fun ds => if ds.length ≤ 100000 then kLc (lcGo (lcStep tg a f (wipeX env ws)) ds) else .bad := rfl
@[simp] theorem kLc_ok (xs : List D) : kLc (.ok xs) = .ok ⟨.li .sh, false, .lst xs⟩ := rfl
@[simp] theorem e_Meth (F : XF) : xMeth F f fs env = (f env).bind (kMeth F (fs env)) := rfl
@[simp] theorem e_Pile : xPile fs env = (fs env).bind fun ds => if ds.length = 7 then .ok (.sh (.obj ds)) else .bad := rfl
@[simp] theorem e_Skip : xSkip env = .next env := rfl
@[simp] theorem e_Seq : xSeq s t env = (s env).andThen t := rfl
@[simp] theorem then_next : (Out.next env).andThen t = t env := rfl
@[simp] theorem then_ret (r : Val) : (Out.ret r).andThen t = .ret r := rfl
@[simp] theorem then_exc (n : Nat) : (Out.exc n env).andThen t = .exc n env := rfl
@[simp] theorem then_bad : Out.bad.andThen t = .bad := rfl
@[simp] theorem e_fz (i : Nat) : fz i env = match env[i]? with
  | some (some (_, d)) => env.set i (some (.sh, d))
  | _ => env := rfl
@[simp] theorem e_Fz (i : Nat) : xFz i s env = s (fz i env) := rfl
@[simp] theorem e_Set (i : Nat) : xSet i f env = kSet i env (f env) := rfl
@[simp] theorem kSet_ok (i : Nat) (o : Ow) (d : D) : kSet i env (.ok ⟨o, false, d⟩) = .next (env.set i (some (o, d))) := rfl
@[simp] theorem kSet_exc (i n : Nat) : kSet i env (.exc n) = .exc n env := rfl
@[simp] theorem e_Unp (is : List Nat) : xUnp is f env = kUnp is env (f env) := rfl
@[simp] theorem kUnp_ok (is : List Nat) (o : Ow) (d : D) : kUnp is env (.ok ⟨o, false, d⟩) = kPut is env d := rfl
@[simp] theorem kUnp_exc (is : List Nat) (n : Nat) : kUnp is env (.exc n) = .exc n env := rfl
@[simp] theorem kPut_nil : kPut [] env (.tup []) = .next env := rfl
@[simp] theorem kPut_cons (i : Nat) (is : List Nat) (d : D) (ds : List D) : kPut (i :: is) env (.tup (d :: ds)) = kPut is (env.set i (some (.sh, d))) (.tup ds) := rfl
@[simp] theorem e_Drop : xDrop f env = kDrop env (f env) := rfl
@[simp] theorem kDrop_ok (v : Val) : kDrop env (.ok v) = .next env := rfl
@[simp] theorem kDrop_exc (n : Nat) : kDrop env (.exc n) = .exc n env := rfl
@[simp] theorem e_Ret : xRet f env = kRet env (f env) := rfl
@[simp] theorem kRet_ok (o : Ow) (d : D) : kRet env (.ok ⟨o, false, d⟩) = .ret ⟨o, false, d⟩ := rfl
@[simp] theorem kRet_exc (n : Nat) : kRet env (.exc n) = .exc n env := rfl
@[simp] theorem e_RetV (i : Nat) : xRetV i env = match env[i]? with
  | some (some (o, d)) => .ret ⟨o, false, d⟩
  | _ => .bad := rfl
@[simp] theorem e_IfS : xIfS a s t env = kIfS s t env (a env) := rfl
@[simp] theorem kIfS_t : kIfS s t env (.ok true) = s env := rfl
@[simp] theorem kIfS_f : kIfS s t env (.ok false) = t env := rfl
@[simp] theorem kIf_t : kIf f h env true = f env := rfl
@[simp] theorem kIf_f : kIf f h env false = h env := rfl
@[simp] theorem e_For (tg : Tg) (it : XI) : xFor tg it s env = kFor tg s env (it env) := rfl
@[simp] theorem kFor_ok (tg : Tg) (ds : List D) : kFor tg s env (.ok ds) = forGo tg s ds env := rfl
@[simp] theorem kFor_exc (tg : Tg) (n : Nat) : kFor tg s env (.exc n) = .exc n env := rfl
@[simp] theorem e_App (i : Nat) : xApp i f env = match env[i]? with
  | some (some (.li .sh, .lst xs)) => kApp i env xs (f env)
  | _ => .bad := rfl
@[simp] theorem kApp_ok (i : Nat) (xs : List D) (o : Ow) (d : D) : kApp i env xs (.ok ⟨o, false, d⟩) = if xs.length < 100000 then .next (env.set i (some (.li .sh, .lst (xs ++ [d])))) else .bad := rfl
@[simp] theorem e_SetI (i : Nat) : xSetI i k f env = match env[i]? with
  | some (some (.li .sh, .lst xs)) => match f env with
    | .ok a => if a.b = true then .bad else match k env with
      | .ok k => match k.d with
        | .int n => match ixN xs.length n with
          | some j => .next (env.set i (some (.li .sh, .lst (xs.set j a.d))))
          | none => .bad
        | _ => .bad
      | .exc n => .exc n env
      | .bad => .bad
    | .exc n => .exc n env
    | .bad => .bad
  | _ => .bad := rfl
@[simp] theorem e_Raise (n : Nat) : xRaise n env = .exc n env := rfl
@[simp] theorem e_Fun (n N : Nat) (ds : List D) : xFun n N s ds = if ds.length = n then kFun (s (ds.map (fun d => some (.sh, d)) ++ List.replicate (N - n) none)) else .bad := rfl
@[simp] theorem kFun_ret (o : Ow) (d : D) : kFun (.ret ⟨o, false, d⟩) = .ok ⟨o, false, d⟩ := rfl
@[simp] theorem kFun_next : kFun (.next env) = .ok (.sh .non) := rfl
@[simp] theorem kFun_exc (n : Nat) : kFun (.exc n env) = .exc n := rfl
@[simp] theorem ite_andR (P : Prop) [Decidable P] (q : Bool) : (if P then Res.ok q else .ok false) = .ok (decide P && q) := by by_cases h : P <;> simp [h]
@[simp] theorem ite_orR (P : Prop) [Decidable P] (q : Bool) : (if P then Res.ok true else .ok q) = .ok (decide P || q) := by by_cases h : P <;> simp [h]
@[simp] theorem ite_andV (P : Prop) [Decidable P] (q : Bool) : (if P then Res.ok (Val.sh (.bl q)) else .ok (.sh (.bl false))) = .ok (.sh (.bl (decide P && q))) := by by_cases h : P <;> simp [h]
@[simp] theorem ite_orV (P : Prop) [Decidable P] (q : Bool) : (if P then Res.ok (Val.sh (.bl true)) else .ok (.sh (.bl q))) = .ok (.sh (.bl (decide P || q))) := by by_cases h : P <;> simp [h]
end
section
variable (a b : Val) (i j : Int) (x y : Str) (o o2 : Ow) (c d : Bool)
@[simp] theorem p_I2 (g : Int → Int → Res Val) : pI2 g ⟨o, c, .int i⟩ ⟨o2, d, .int j⟩ = g i j := rfl
@[simp] theorem p_Sub : pSub ⟨o, c, .int i⟩ ⟨o2, d, .int j⟩ = .ok (.sh (.int (i - j))) := rfl
@[simp] theorem p_Mul : pMul ⟨o, c, .int i⟩ ⟨o2, d, .int j⟩ = if CMul i j then .ok (.sh (.int (i * j))) else .bad := rfl
@[simp] theorem p_Div : pDiv ⟨o, c, .int i⟩ ⟨o2, d, .int j⟩ = if CDiv i j then .ok (.sh (.int (i / j))) else .bad := rfl
@[simp] theorem p_Mod : pMod ⟨o, c, .int i⟩ ⟨o2, d, .int j⟩ = if 0 < j then .ok (.sh (.int (i % j))) else .bad := rfl
@[simp] theorem p_Pow : pPow ⟨o, c, .int i⟩ ⟨o2, d, .int j⟩ = if CPow i j then .ok (.sh (.int (i ^ j.toNat))) else .bad := rfl
@[simp] theorem p_Lt : pLt ⟨o, c, .int i⟩ ⟨o2, d, .int j⟩ = .ok (.sh (.bl (decide (i < j)))) := rfl
@[simp] theorem p_Le : pLe ⟨o, c, .int i⟩ ⟨o2, d, .int j⟩ = .ok (.sh (.bl (decide (i ≤ j)))) := rfl
@[simp] theorem p_Gt : pGt ⟨o, c, .int i⟩ ⟨o2, d, .int j⟩ = .ok (.sh (.bl (decide (j < i)))) := rfl
@[simp] theorem p_Ge : pGe ⟨o, c, .int i⟩ ⟨o2, d, .int j⟩ = .ok (.sh (.bl (decide (j ≤ i)))) := rfl
@[simp] theorem p_AddI : pAdd ⟨o, c, .int i⟩ ⟨o2, d, .int j⟩ = .ok (.sh (.int (i + j))) := rfl
@[simp] theorem p_AddS : pAdd ⟨o, c, .str x⟩ ⟨o2, d, .str y⟩ = if x.length + y.length ≤ 100000 then .ok (.sh (.str (x ++ y))) else .bad := rfl
@[simp] theorem p_AddL1 (xs ys : List D) : pAdd ⟨.sh, c, .lst xs⟩ ⟨.sh, d, .lst ys⟩ = if xs.length + ys.length ≤ 100000 then .ok ⟨.li .sh, false, .lst (xs ++ ys)⟩ else .bad := rfl
@[simp] theorem p_AddL2 (xs ys : List D) : pAdd ⟨.li .sh, c, .lst xs⟩ ⟨.sh, d, .lst ys⟩ = if xs.length + ys.length ≤ 100000 then .ok ⟨.li .sh, false, .lst (xs ++ ys)⟩ else .bad := rfl
@[simp] theorem p_AddL3 (xs ys : List D) : pAdd ⟨.sh, c, .lst xs⟩ ⟨.li .sh, d, .lst ys⟩ = if xs.length + ys.length ≤ 100000 then .ok ⟨.li .sh, false, .lst (xs ++ ys)⟩ else .bad := rfl
@[simp] theorem p_AddL4 (xs ys : List D) : pAdd ⟨.li .sh, c, .lst xs⟩ ⟨.li .sh, d, .lst ys⟩ = if xs.length + ys.length ≤ 100000 then .ok ⟨.li .sh, false, .lst (xs ++ ys)⟩ else .bad := rfl
@[simp] theorem p_EqI : pEq ⟨o, c, .int i⟩ ⟨o2, d, .int j⟩ = .ok (.sh (.bl (decide (i = j)))) := rfl
@[simp] theorem p_EqS : pEq ⟨o, c, .str x⟩ ⟨o2, d, .str y⟩ = .ok (.sh (.bl (decide (x = y)))) := rfl
@[simp] theorem p_NeI : pNe ⟨o, c, .int i⟩ ⟨o2, d, .int j⟩ = .ok (.sh (.bl (!decide (i = j)))) := rfl
@[simp] theorem p_NeS : pNe ⟨o, c, .str x⟩ ⟨o2, d, .str y⟩ = .ok (.sh (.bl (!decide (x = y)))) := rfl
@[simp] theorem p_EqB (p q : Bool) : pEq ⟨o, c, .bl p⟩ ⟨o2, d, .bl q⟩ = .ok (.sh (.bl (p == q))) := rfl
@[simp] theorem p_NeB (p q : Bool) : pNe ⟨o, c, .bl p⟩ ⟨o2, d, .bl q⟩ = .ok (.sh (.bl (!(p == q)))) := rfl
@[simp] theorem p_IsN (e : D) : pIs ⟨o, c, e⟩ ⟨o2, d, .non⟩ = .ok (.sh (.bl e.isNon)) := rfl
@[simp] theorem p_IsB (p q : Bool) : pIs ⟨o, c, .bl p⟩ ⟨o2, d, .bl q⟩ = .ok (.sh (.bl (decide (p = q)))) := rfl
@[simp] theorem p_IsNotN (e : D) : pIsNot ⟨o, c, e⟩ ⟨o2, d, .non⟩ = .ok (.sh (.bl (!e.isNon))) := rfl
@[simp] theorem p_IsNotB (p q : Bool) : pIsNot ⟨o, c, .bl p⟩ ⟨o2, d, .bl q⟩ = .ok (.sh (.bl (!decide (p = q)))) := rfl
@[simp] theorem isNon_non : D.isNon .non = true := rfl
@[simp] theorem isNon_int : D.isNon (.int i) = false := rfl
@[simp] theorem isNon_tup (xs : List D) : D.isNon (.tup xs) = false := rfl
@[simp] theorem isNon_lst (xs : List D) : D.isNon (.lst xs) = false := rfl
@[simp] theorem p_LenL (xs : List D) : pLen [⟨o, c, .lst xs⟩] = .ok (.sh (.int xs.length)) := rfl
@[simp] theorem p_LenT (xs : List D) : pLen [⟨o, c, .tup xs⟩] = .ok (.sh (.int xs.length)) := rfl
@[simp] theorem p_LenF (xs : List D) : pLen [⟨o, c, .fz xs⟩] = .ok (.sh (.int xs.length)) := rfl
@[simp] theorem p_LenS : pLen [⟨o, c, .str x⟩] = if x.length ≤ 100000 then .ok (.sh (.int x.length)) else .bad := rfl
@[simp] theorem p_Max2 : pMax2 [⟨o, c, .int i⟩, ⟨o2, d, .int j⟩] = .ok (.sh (.int (if j > i then j else i))) := rfl
@[simp] theorem p_Min2 : pMin2 [⟨o, c, .int i⟩, ⟨o2, d, .int j⟩] = .ok (.sh (.int (if j < i then j else i))) := rfl
@[simp] theorem p_Int1 : pInt1 [⟨o, c, .int i⟩] = .ok (.sh (.int i)) := rfl
@[simp] theorem p_Int1b (p : Bool) : pInt1 [⟨o, c, .bl p⟩] = .ok (.sh (.int (if p then 1 else 0))) := rfl
@[simp] theorem p_ListS (xs : List D) : pList [⟨.sh, c, .lst xs⟩] = .ok ⟨.li .sh, false, .lst xs⟩ := rfl
@[simp] theorem p_ListO (xs : List D) : pList [⟨.li .sh, c, .lst xs⟩] = .ok ⟨.li .sh, false, .lst xs⟩ := rfl
@[simp] theorem p_its1 (xs : List D) : Val.its2 ⟨.sh, c, .fz xs⟩ = some xs := rfl
@[simp] theorem p_its2 (xs : List D) : Val.its2 ⟨.sh, c, .lst xs⟩ = some xs := rfl
@[simp] theorem p_its3 (xs : List D) : Val.its2 ⟨.li .sh, c, .lst xs⟩ = some xs := rfl
@[simp] theorem p_Fld (n : Nat) (xs : List D) : pFld n ⟨.sh, c, .obj xs⟩ = match xs[n]? with
    | some d => .ok (.sh d)
    | none => .bad := rfl
@[simp] theorem p_IxL (xs : List D) : pIx ⟨o, c, .lst xs⟩ ⟨o2, d, .int i⟩ = match atI xs i with
      | some e => (Val.mk o c (.lst xs)).part e
      | none => .bad := rfl
@[simp] theorem p_IxT (xs : List D) : pIx ⟨o, c, .tup xs⟩ ⟨o2, d, .int i⟩ = match atI xs i with
      | some e => (Val.mk o c (.tup xs)).part e
      | none => .bad := rfl
@[simp] theorem p_IxF (xs : List D) : pIx ⟨o, c, .fz xs⟩ ⟨o2, d, .int i⟩ = match atI xs i with
      | some e => (Val.mk o c (.fz xs)).part e
      | none => .bad := rfl
@[simp] theorem part_sh (e f : D) : (Val.mk .sh c e).part f = .ok (.sh f) := rfl
@[simp] theorem part_li (e f : D) : (Val.mk (.li .sh) c e).part f = .ok (.sh f) := rfl
@[simp] theorem isD_bl (T : String) (p : Bool) : isD T (.bl p) = .ok (T == "bool" || T == "int") := rfl
@[simp] theorem isD_int (T : String) : isD T (.int i) = .ok (T == "int") := rfl
@[simp] theorem isD_str (T : String) : isD T (.str x) = .ok (T == "str") := rfl
@[simp] theorem isD_lst (T : String) (xs : List D) : isD T (.lst xs) = .ok (T == "list") := rfl
@[simp] theorem isD_tup (T : String) (xs : List D) : isD T (.tup xs) = .ok (T == "tuple") := rfl
@[simp] theorem isD_non (T : String) : isD T .non = .ok false := rfl
@[simp] theorem onlySc_bl (p : Bool) : onlySc (.ok ⟨o, c, .bl p⟩) = .ok (.sh (.bl p)) := rfl
@[simp] theorem onlySc_int : onlySc (.ok ⟨o, c, .int i⟩) = .ok (.sh (.int i)) := rfl
@[simp] theorem onlySc_str : onlySc (.ok ⟨o, c, .str x⟩) = .ok (.sh (.str x)) := rfl
@[simp] theorem onlySc_non : onlySc (.ok ⟨o, c, .non⟩) = .ok (.sh .non) := rfl
@[simp] theorem onlySc_exc (n : Nat) : onlySc (.exc n) = .exc n := rfl
end
@[simp] theorem put_nm (i : Nat) (d : D) (env : XEnv) : (Tg.nm i).put d env = some (env.set i (some (.sh, d))) := rfl
@[simp] theorem put_tp (is : List Nat) (ds : List D) (env : XEnv) : (Tg.tp is).put (.tup ds) env = putAll is ds env := rfl
@[simp] theorem putAll_nil (env : XEnv) : putAll [] [] env = some env := rfl
@[simp] theorem putAll_cons (i : Nat) (is : List Nat) (d : D) (ds : List D) (env : XEnv) : putAll (i :: is) (d :: ds) env = putAll is ds (env.set i (some (.sh, d))) := rfl
@[simp] theorem wipeX_nil (env : XEnv) : wipeX env [] = env := rfl
@[simp] theorem wipeX_cons (env : XEnv) (v : Nat) (vs : List Nat) : wipeX env (v :: vs) = (wipeX env vs).set v none := rfl
@[simp] theorem forGo_nil (tg : Tg) (bd : XS) (env : XEnv) : forGo tg bd [] env = .next env := rfl
@[simp] theorem lcGo_nil (step : D → Res (Option D)) : lcGo step [] = .ok [] := rfl
theorem lcGo_map {step : D → Res (Option D)} {α : Type} {enc : α → D} {g : α → D} : ∀ {xs : List α}, (∀ x ∈ xs, step (enc x) = .ok (some (g x))) → lcGo step (xs.map enc) = .ok (xs.map g)
  | [], _ => rfl
  | x :: xs, h => by
    rw [List.map_cons, lcGo, h x List.mem_cons_self, rbind_ok, lcGo_map fun y hy => h y (List.mem_cons_of_mem _ hy)]
    rfl
theorem lcGo_filter {step : D → Res (Option D)} {α : Type} {enc : α → D} {p : α → Bool} {g : α → D} : ∀ {xs : List α}, (∀ x ∈ xs, step (enc x) = .ok (if p x then some (g x) else none)) → lcGo step (xs.map enc) = .ok ((xs.filter p).map g)
  | [], _ => rfl
  | x :: xs, h => by
    rw [List.map_cons, lcGo, h x List.mem_cons_self, rbind_ok, lcGo_filter fun y hy => h y (List.mem_cons_of_mem _ hy)]
    cases q : p x with
    | true => rw [if_pos rfl, List.filter_cons, q]; rfl
    | false => rw [if_neg Bool.false_ne_true, List.filter_cons, q]; rfl
theorem forGo_cons {tg : Tg} {bd : XS} {d : D} {ds : List D} {env e1 e2 : XEnv} (h1 : tg.put d env = some e1) (h2 : bd e1 = .next e2 ∨ bd e1 = .cont e2) : forGo tg bd (d :: ds) env = forGo tg bd ds e2 := by
  rw [forGo, h1]
  dsimp only
  rcases h2 with h2 | h2 <;> rw [h2]
theorem forGo_from {tg : Tg} {bd : XS} {α : Type} {enc : α → D} (P : Nat → XEnv → Prop) : ∀ (xs : List α) (n : Nat) (env : XEnv), P n env →
    (∀ i x env, xs[i]? = some x → P (n + i) env → ∃ e1, tg.put (enc x) env = some e1 ∧ ∃ e2, (bd e1 = .next e2 ∨ bd e1 = .cont e2) ∧ P (n + i + 1) e2) → ∃ e2, forGo tg bd (xs.map enc) env = .next e2 ∧ P (n + xs.length) e2
  | [], n, env, h, _ => ⟨env, rfl, h⟩
  | x :: xs, n, env, h, k => by
    obtain ⟨e1, h1, e2, h2, h3⟩ := k 0 x env rfl h
    obtain ⟨e3, h4, h5⟩ := forGo_from P xs (n + 1) e2 h3 fun i y env hy hp => by
      have e : n + 1 + i = n + (i + 1) := by omega
      rw [e] at hp ⊢
      exact k (i + 1) y env (by simpa using hy) hp
    refine ⟨e3, ?_, by rw [List.length_cons, show n + (xs.length + 1) = n + 1 + xs.length from by omega]; exact h5⟩
    rw [List.map_cons, forGo_cons h1 h2]
    exact h4
/-- a loop that is walked to its end, by what holds ahead of turn i -/
theorem forGo_all {tg : Tg} {bd : XS} {α : Type} {enc : α → D} {xs : List α} {env : XEnv} (P : Nat → XEnv → Prop) (h0 : P 0 env)
    (hs : ∀ i x env, xs[i]? = some x → P i env → ∃ e1, tg.put (enc x) env = some e1 ∧ ∃ e2, (bd e1 = .next e2 ∨ bd e1 = .cont e2) ∧ P (i + 1) e2) : ∃ e2, forGo tg bd (xs.map enc) env = .next e2 ∧ P xs.length e2 := by
  obtain ⟨e2, h1, h2⟩ := forGo_from P xs 0 env h0 fun i x env hx hp => by
    rw [Nat.zero_add] at hp ⊢
    exact hs i x env hx hp
  exact ⟨e2, h1, by rw [Nat.zero_add] at h2; exact h2⟩
/-- over 0 .. n - 1 -/
theorem forGo_range {tg : Tg} {bd : XS} {n : Int} {env : XEnv} (P : Nat → XEnv → Prop) (h0 : P 0 env)
    (hs : ∀ (i : Nat) env, (i : Int) < n → P i env → ∃ e1, tg.put (.int (i : Int)) env = some e1 ∧ ∃ e2, (bd e1 = .next e2 ∨ bd e1 = .cont e2) ∧ P (i + 1) e2) : ∃ e2, forGo tg bd (rangeD n) env = .next e2 ∧ P n.toNat e2 := by
  obtain ⟨e2, h1, h2⟩ := forGo_all (tg := tg) (bd := bd) (enc := fun k : Nat => D.int (k : Int)) (xs := List.range n.toNat) P h0 fun i x env hx hp => by
    obtain ⟨q1, q2⟩ := List.getElem?_eq_some_iff.mp hx
    rw [List.length_range] at q1
    rw [List.getElem_range] at q2
    subst q2
    exact hs i env (by omega) hp
  rw [List.length_range] at h2
  exact ⟨e2, h1, h2⟩
/-- one turn of a loop -/
def stepP (bd : XS) : Option XEnv → Out
  | some e => bd e
  | none => .bad
def stepO (tg : Tg) (bd : XS) (d : D) (env : XEnv) : Out := stepP bd (tg.put d env)
@[simp] theorem stepO_nm (i : Nat) (bd : XS) (d : D) (env : XEnv) : stepO (.nm i) bd d env = bd (env.set i (some (.sh, d))) := rfl
@[simp] theorem stepO_tp (is : List Nat) (bd : XS) (ds : List D) (env : XEnv) : stepO (.tp is) bd (.tup ds) env = stepP bd (putAll is ds env) := rfl
@[simp] theorem stepP_some (bd : XS) (env : XEnv) : stepP bd (some env) = bd env := rfl
theorem for_nx {tg : Tg} {bd : XS} {α : Type} {ds : List D} {env : XEnv} {enc : α → D} (xs : List α) (P : Nat → XEnv → Prop) (hd : ds = xs.map enc) (h0 : P 0 env)
    (hs : ∀ i x env, xs[i]? = some x → P i env → ∃ e2, stepO tg bd (enc x) env = .next e2 ∧ P (i + 1) e2) : ∃ e2, forGo tg bd ds env = .next e2 ∧ P xs.length e2 := by
  subst hd
  refine forGo_all P h0 fun i x env hx hp => ?_
  obtain ⟨e2, h1, h2⟩ := hs i x env hx hp
  unfold stepO at h1
  cases q : tg.put (enc x) env with
  | none =>
    rw [q] at h1
    cases h1
  | some e1 =>
    rw [q] at h1
    exact ⟨e1, rfl, e2, .inl h1, h2⟩
theorem rng_nx {tg : Tg} {bd : XS} {n : Int} {env : XEnv} (P : Nat → XEnv → Prop) (h0 : P 0 env)
    (hs : ∀ (i : Nat) env, (i : Int) < n → P i env → ∃ e2, stepO tg bd (.int (i : Int)) env = .next e2 ∧ P (i + 1) e2) : ∃ e2, forGo tg bd (rangeD n) env = .next e2 ∧ P n.toNat e2 := by
  obtain ⟨e2, h1, h2⟩ := for_nx (tg := tg) (bd := bd) (ds := rangeD n) (enc := fun k : Nat => D.int (k : Int)) (List.range n.toNat) P rfl h0 fun i x env hx hp => by
    obtain ⟨q1, q2⟩ := List.getElem?_eq_some_iff.mp hx
    rw [List.length_range] at q1
    rw [List.getElem_range] at q2
    subst q2
    exact hs i env (by omega) hp
  rw [List.length_range] at h2
  exact ⟨e2, h1, h2⟩
/-- a loop, then the rest -/
theorem for_then {tg : Tg} {bd t : XS} {α : Type} {ds : List D} {env : XEnv} {enc : α → D} {R : Out} (xs : List α) (P : Nat → XEnv → Prop) (hd : ds = xs.map enc) (h0 : P 0 env)
    (hs : ∀ i x env, xs[i]? = some x → P i env → ∃ e2, stepO tg bd (enc x) env = .next e2 ∧ P (i + 1) e2) (ht : ∀ e2, P xs.length e2 → t e2 = R) : (forGo tg bd ds env).andThen t = R := by
  obtain ⟨e2, h1, h2⟩ := for_nx xs P hd h0 hs
  rw [h1]
  exact ht e2 h2
theorem rng_then {tg : Tg} {bd t : XS} {n : Int} {env : XEnv} {R : Out} (P : Nat → XEnv → Prop) (h0 : P 0 env)
    (hs : ∀ (i : Nat) env, (i : Int) < n → P i env → ∃ e2, stepO tg bd (.int (i : Int)) env = .next e2 ∧ P (i + 1) e2) (ht : ∀ e2, P n.toNat e2 → t e2 = R) : (forGo tg bd (rangeD n) env).andThen t = R := by
  obtain ⟨e2, h1, h2⟩ := rng_nx P h0 hs
  rw [h1]
  exact ht e2 h2
theorem for_fun {tg : Tg} {bd t : XS} {α : Type} {ds : List D} {env : XEnv} {enc : α → D} {R : Res Val} (xs : List α) (P : Nat → XEnv → Prop) (hd : ds = xs.map enc) (h0 : P 0 env)
    (hs : ∀ i x env, xs[i]? = some x → P i env → ∃ e2, stepO tg bd (enc x) env = .next e2 ∧ P (i + 1) e2) (ht : ∀ e2, P xs.length e2 → kFun (t e2) = R) : kFun ((forGo tg bd ds env).andThen t) = R := by
  obtain ⟨e2, h1, h2⟩ := for_nx xs P hd h0 hs
  rw [h1]
  exact ht e2 h2
theorem rng_fun {tg : Tg} {bd t : XS} {n : Int} {env : XEnv} {R : Res Val} (P : Nat → XEnv → Prop) (h0 : P 0 env)
    (hs : ∀ (i : Nat) env, (i : Int) < n → P i env → ∃ e2, stepO tg bd (.int (i : Int)) env = .next e2 ∧ P (i + 1) e2) (ht : ∀ e2, P n.toNat e2 → kFun (t e2) = R) : kFun ((forGo tg bd (rangeD n) env).andThen t) = R := by
  obtain ⟨e2, h1, h2⟩ := rng_nx P h0 hs
  rw [h1]
  exact ht e2 h2
@[simp] theorem CMul_small {i j : Int} : CMul i j ↔ (-18446744073709551616 < i ∧ i < 18446744073709551616) ∨ (-18446744073709551616 < j ∧ j < 18446744073709551616) := Iff.rfl
@[simp] theorem CDiv_small {i j : Int} : CDiv i j ↔ 0 < j ∧ j < 1073741824 := Iff.rfl
@[simp] theorem CPow_small {i j : Int} : CPow i j ↔ 0 ≤ j ∧ j ≤ 1000000 ∧ i.natAbs < 18446744073709551616 := Iff.rfl
theorem rangeD_map (n : Int) : rangeD n = (List.range n.toNat).map fun k : Nat => D.int (k : Int) := rfl
theorem lc_range {step : D → Res (Option D)} {n : Int} {g : Nat → D} (h : ∀ k : Nat, (k : Int) < n → step (.int (k : Int)) = .ok (some (g k))) : lcGo step (rangeD n) = .ok ((List.range n.toNat).map g) :=
  lcGo_map (enc := fun k : Nat => D.int (k : Int)) fun k hk => h k (by rw [List.mem_range] at hk; omega)
theorem atI_nat {α : Type} {xs : List α} {i : Int} (h : 0 ≤ i) : atI xs i = xs[i.toNat]? := by
  unfold atI ixN
  rw [if_pos h]
  by_cases q : i < xs.length
  · rw [if_pos q]
    rfl
  · rw [if_neg q, List.getElem?_eq_none (by omega)]
    rfl
@[simp] theorem atI_cast {α : Type} {xs : List α} {i : Nat} : atI xs (i : Int) = xs[i]? := by
  rw [atI_nat (by omega), Int.toNat_natCast]
@[simp] theorem atI_0 {α : Type} {xs : List α} : atI xs 0 = xs[0]? := atI_nat (by omega)
@[simp] theorem atI_2 {α : Type} {xs : List α} : atI xs 2 = xs[2]? := atI_nat (by omega)
@[simp] theorem atI_3 {α : Type} {xs : List α} : atI xs 3 = xs[3]? := atI_nat (by omega)
@[simp] theorem atI_4 {α : Type} {xs : List α} : atI xs 4 = xs[4]? := atI_nat (by omega)
@[simp] theorem atI_5 {α : Type} {xs : List α} : atI xs 5 = xs[5]? := atI_nat (by omega)
@[simp] theorem atI_6 {α : Type} {xs : List α} : atI xs 6 = xs[6]? := atI_nat (by omega)
@[simp] theorem atI_7 {α : Type} {xs : List α} : atI xs 7 = xs[7]? := atI_nat (by omega)
@[simp] theorem atI_8 {α : Type} {xs : List α} : atI xs 8 = xs[8]? := atI_nat (by omega)
@[simp] theorem atI_1 {α : Type} {xs : List α} : atI xs 1 = xs[1]? := atI_nat (by omega)
theorem atI_last {α : Type} {xs : List α} {x : α} : atI (xs ++ [x]) (-1) = some x := by
  unfold atI ixN
  rw [if_neg (by omega), if_pos (by rw [List.length_append, List.length_singleton]; omega)]
  have e : ((-1 : Int) + ((xs ++ [x]).length : Nat)).toNat = xs.length := by
    rw [List.length_append, List.length_singleton]
    omega
  rw [e]
  simp
section
variable (n : Nat) (i j : Int) (x y : Str) (p q : Bool) (xs ys : List D) (d : D) (o o2 : Ow) (b1 b2 neg : Bool)
@[simp] theorem eqv_ss : D.eqv n (.str x) (.str y) = decide (x = y) := by cases n <;> rfl
@[simp] theorem eqv_ii : D.eqv n (.int i) (.int j) = decide (i = j) := by cases n <;> rfl
@[simp] theorem eqv_bb : D.eqv n (.bl p) (.bl q) = (p == q) := by cases n <;> rfl
@[simp] theorem eqv_nn : D.eqv n .non .non = true := by cases n <;> rfl
@[simp] theorem eqv_tt : D.eqv (n + 1) (.tup xs) (.tup ys) = eqvL (D.eqv n) xs ys := rfl
@[simp] theorem eqv_ll : D.eqv (n + 1) (.lst xs) (.lst ys) = eqvL (D.eqv n) xs ys := rfl
@[simp] theorem eqvL_nil (f : D → D → Bool) : eqvL f [] [] = true := rfl
@[simp] theorem eqvL_cons (f : D → D → Bool) (d e : D) : eqvL f (d :: xs) (e :: ys) = (f d e && eqvL f xs ys) := rfl
@[simp] theorem flat_s : D.flat (.str x) = true := rfl
@[simp] theorem flat_i : D.flat (.int i) = true := rfl
@[simp] theorem flat_b : D.flat (.bl p) = true := rfl
@[simp] theorem flat_n : D.flat .non = true := rfl
@[simp] theorem flat_t : D.flat (.tup xs) = false := rfl
@[simp] theorem fine_i : D.fine n (.int i) = true := by cases n <;> rfl
@[simp] theorem fine_b : D.fine n (.bl p) = true := by cases n <;> rfl
@[simp] theorem fine_n : D.fine n .non = true := by cases n <;> rfl
@[simp] theorem fine_s : D.fine n (.str x) = PyData.strOk x := by cases n <;> rfl
@[simp] theorem fine_t : D.fine (n + 1) (.tup xs) = xs.all (D.fine n) := rfl
@[simp] theorem fine_l : D.fine (n + 1) (.lst xs) = xs.all (D.fine n) := rfl
@[simp] theorem p_InST : pIn neg ⟨o, b1, .str x⟩ ⟨o2, b2, .tup xs⟩ = if xs.all D.flat = true then .ok (.sh (.bl (if neg then !xs.any fun y => D.eqv 0 y (.str x) else xs.any fun y => D.eqv 0 y (.str x)))) else .bad := by
  unfold pIn
  simp
@[simp] theorem p_EqTT : pEq ⟨o, b1, .tup xs⟩ ⟨o2, b2, .tup ys⟩ = if (D.fine 6 (.tup xs) && D.fine 6 (.tup ys)) = true then .ok (.sh (.bl (D.eqv 6 (.tup xs) (.tup ys)))) else .bad := rfl
@[simp] theorem p_EqLL : pEq ⟨o, b1, .lst xs⟩ ⟨o2, b2, .lst ys⟩ = if (D.fine 6 (.lst xs) && D.fine 6 (.lst ys)) = true then .ok (.sh (.bl (D.eqv 6 (.lst xs) (.lst ys)))) else .bad := rfl
@[simp] theorem p_NeTT : pNe ⟨o, b1, .tup xs⟩ ⟨o2, b2, .tup ys⟩ = if (D.fine 6 (.tup xs) && D.fine 6 (.tup ys)) = true then .ok (.sh (.bl (!D.eqv 6 (.tup xs) (.tup ys)))) else .bad := rfl
@[simp] theorem p_NeLL : pNe ⟨o, b1, .lst xs⟩ ⟨o2, b2, .lst ys⟩ = if (D.fine 6 (.lst xs) && D.fine 6 (.lst ys)) = true then .ok (.sh (.bl (!D.eqv 6 (.lst xs) (.lst ys)))) else .bad := rfl
end
end Bk
set_option Elab.async false
set_option linter.all false
set_option maxRecDepth 100000
set_option maxHeartbeats 4000000
/-! BkW: count, index of a list of truth values; a caught error, told to a def. -/
namespace Bk
open PySem L2 PySem.Spec PyProof.Rows
theorem vals_bl : ∀ {bs : List Bool} {its : List Value}, Vals (bs.map V.bl) its → its = bs.map Value.bool
  | [], its, h => by
    cases h
    rfl
  | b :: bs, its, h => by
    cases h with
    | cons r rr =>
      rw [List.map_cons, vals_bl rr]
      cases (show _ = Value.bool b from r)
      rfl
def isTr (v : Value) : Bool := match v with
  | .bool b => b
  | _ => false
theorem eq_tr {A : Around} {s : Shared} {bs : List Bool} : ∀ y, y ∈ (bs.map Value.bool).toArray → PySem.SeqAt.EqAt A s y (.bool true) (isTr y) := by
  intro y hy
  rw [List.mem_toArray, List.mem_map] at hy
  obtain ⟨b, _, rfl⟩ := hy
  have h := PySem.SeqAt.EqAt.bool_bool (A := A) (s := s) b true
  have e : (b == true) = isTr (.bool b) := by cases b <;> rfl
  rw [e] at h
  exact h
def tCnt (to : TE) : TE := fun sg H Q => to sg H fun x H1 => ∃ (l : Addr) (bs : List Bool), x = .ref l ∧ H1 l = some (.lst (bs.map V.bl)) ∧ Q (.int (bs.count true : Nat)) H1
def tIdx (to : TE) : TE := fun sg H Q => to sg H fun x H1 => ∃ (l : Addr) (bs : List Bool), x = .ref l ∧ H1 l = some (.lst (bs.map V.bl)) ∧ true ∈ bs ∧ Q (.int (bs.idxOf true : Nat)) H1
section
variable {X : Cx} {o : Expr} {to : TE} {apos cpos p2 : Pos} {j : Nat}
theorem lstIs {pins : List (Addr × Obj)} {sg : L2.St} {H : Hp} {s : Shared} {l : Addr} {xs : List V} (I : Inv X pins sg H s) (h : H l = some (.lst xs)) : s.TypeIs (.ref l) "list" ∧ (∀ b, Value.ref l = .ref b → ∃ ob, s.heap.get? b = some ob ∧ ob.dict = none) := by
  obtain ⟨z, its, n, r, hl, e0⟩ := I.lstM h
  exact ⟨⟨_, e0, rfl⟩, fun b q => by cases q; exact ⟨_, e0, rfl⟩⟩
theorem count_tr {bs : List Bool} : (bs.map Value.bool).countP isTr = bs.count true := by
  induction bs with
  | nil => rfl
  | cons b bs ih =>
    rw [List.map_cons, List.countP_cons, List.count_cons, ih]
    cases b <;> rfl
theorem pe_cnt (ho : PE X o to) (hbase : attributeBase o "count" X.env (eval o X.env) = eval o X.env := by rfl)
    (hfew : ((backTo cpos (starEach [.Constant (.bool true) j p2] X.env)).all (fun x => !x.1) && (backToKw cpos (keywordEach [] X.env)).all (fun x => x.1.isSome)
      && decide (([.Constant (.bool true) j p2] : List Expr).length + ([] : List Keyword).length + (if ([] : List Keyword).isEmpty then 0 else 1) < 30)) = true := by rfl)
    (hline : (apos.endLine == cpos.line) = true := by rfl) (hs : starEach [.Constant (.bool true) j p2] X.env = (false, eval (.Constant (.bool true) j p2) X.env) :: starEach [] X.env := by rfl) (hplain : (backTo cpos (starEach [] X.env)).any (·.1) = false := by rfl) :
    PE X (.Call (.Attribute o "count" apos) [.Constant (.bool true) j p2] [] cpos) (tCnt to) := by
  refine ⟨fun pins s σ H Q I h => ?_⟩
  refine wpAny_Call_method hbase hfew hline PySem.F.plainAttrs_list PySem.F.slot_list_count PySem.F.type_list_count (thn (ho.run pins s σ H _ I h) fun v s1 ⟨x, H1, I1, r1, l, bs, ex, hH, q1⟩ => ?_)
  subst ex
  cases (show v = Value.ref l from r1)
  obtain ⟨t1, t2⟩ := lstIs I1 hH
  refine ⟨t1, t2, ?_⟩
  rw [hs]
  refine Calls.callWith_builtin (by show (false || (backTo cpos (starEach [] X.env)).any (·.1)) = false; rw [hplain] <;> rfl) (Calls.evalArgs_plain ?_)
  show wpAny _ _ (spliced ((false, eval (.Constant (.bool true) j p2) X.env) :: backTo cpos (starEach [] X.env))) _ _ s1
  refine Calls.spliced_cons (thn (pe_bl.run pins s1 σ H1 (fun y H2 => y = .bl true ∧ H2 = H1) I1 ⟨rfl, rfl⟩) fun u s2 ⟨y, H2, I2, ry, ey, eh⟩ => ?_)
  refine Calls.spliced_nil ?_
  subst ey eh
  cases (show u = Value.bool true from ry)
  obtain ⟨z, its, n, r, hl, e0⟩ := I2.lstM hH
  have ei := vals_bl r
  subst ei
  refine call_meets PySem.F.slot_list_count ⟨_, e0, rfl⟩ PySem.F.entry_list_count (PySem.F.args_list_count_2 _ _) (PySem.SeqAt.list_countAt l _ n _ _ (.bool true) isTr) ⟨e0, eq_tr, ?_⟩
  refine ⟨.int (bs.count true : Nat), H2, I2.tok _, ⟨s2.toks, ?_⟩, q1⟩
  rw [List.toList_toArray, count_tr]
theorem pe_idx (ho : PE X o to) (hbase : attributeBase o "index" X.env (eval o X.env) = eval o X.env := by rfl)
    (hfew : ((backTo cpos (starEach [.Constant (.bool true) j p2] X.env)).all (fun x => !x.1) && (backToKw cpos (keywordEach [] X.env)).all (fun x => x.1.isSome)
      && decide (([.Constant (.bool true) j p2] : List Expr).length + ([] : List Keyword).length + (if ([] : List Keyword).isEmpty then 0 else 1) < 30)) = true := by rfl)
    (hline : (apos.endLine == cpos.line) = true := by rfl) (hs : starEach [.Constant (.bool true) j p2] X.env = (false, eval (.Constant (.bool true) j p2) X.env) :: starEach [] X.env := by rfl) (hplain : (backTo cpos (starEach [] X.env)).any (·.1) = false := by rfl) :
    PE X (.Call (.Attribute o "index" apos) [.Constant (.bool true) j p2] [] cpos) (tIdx to) := by
  refine ⟨fun pins s σ H Q I h => ?_⟩
  refine wpAny_Call_method hbase hfew hline PySem.F.plainAttrs_list PySem.F.slot_list_index PySem.F.type_list_index (thn (ho.run pins s σ H _ I h) fun v s1 ⟨x, H1, I1, r1, l, bs, ex, hH, hm, q1⟩ => ?_)
  subst ex
  cases (show v = Value.ref l from r1)
  obtain ⟨t1, t2⟩ := lstIs I1 hH
  refine ⟨t1, t2, ?_⟩
  rw [hs]
  refine Calls.callWith_builtin (by show (false || (backTo cpos (starEach [] X.env)).any (·.1)) = false; rw [hplain] <;> rfl) (Calls.evalArgs_plain ?_)
  show wpAny _ _ (spliced ((false, eval (.Constant (.bool true) j p2) X.env) :: backTo cpos (starEach [] X.env))) _ _ s1
  refine Calls.spliced_cons (thn (pe_bl.run pins s1 σ H1 (fun y H2 => y = .bl true ∧ H2 = H1) I1 ⟨rfl, rfl⟩) fun u s2 ⟨y, H2, I2, ry, ey, eh⟩ => ?_)
  refine Calls.spliced_nil ?_
  subst ey eh
  cases (show u = Value.bool true from ry)
  obtain ⟨z, its, n, r, hl, e0⟩ := I2.lstM hH
  have ei := vals_bl r
  subst ei
  have hj : bs.idxOf true < bs.length := List.idxOf_lt_length_of_mem hm
  have hz : bs.length ≤ sizeLine := by rw [List.length_map] at z; exact z
  refine call_meets PySem.F.slot_list_index ⟨_, e0, rfl⟩ PySem.F.entry_list_index (PySem.F.args_list_index_2 _ _) (PySem.SeqAt.list_indexAt l _ n _ _ (.bool true) isTr (bs.idxOf true) (by simpa using hj) (by rw [sizeLine_eq] at hz; omega) ?_ ?_) ⟨e0, eq_tr, ?_⟩
  · simp [isTr]
  · intro m hm2 hlt
    have hm3 : m < bs.length := by simpa using hm2
    have hq := List.not_of_lt_findIdx (p := (· == true)) (xs := bs) hlt
    have e : (bs.map Value.bool).toArray[m] = .bool bs[m] := by simp
    rw [e]
    cases z : bs[m] with
    | false => rfl
    | true =>
      rw [z] at hq
      exact absurd hq (by decide)
  · exact ⟨.int (bs.idxOf true : Nat), H2, I2.tok _, ⟨s2.toks, rfl⟩, q1⟩
end

def xCnt (f : XE) : XE := fun env => (f env).bind fun a => match a.d with
  | .lst xs => match D.bls xs with
    | some bs => .ok (.sh (.int (bs.count true : Nat)))
    | none => .bad
  | _ => .bad
def xIdx (f : XE) : XE := fun env => (f env).bind fun a => match a.d with
  | .lst xs => match D.bls xs with
    | some bs => if true ∈ bs then .ok (.sh (.int (bs.idxOf true : Nat))) else .bad
    | none => .bad
  | _ => .bad
section
variable {J : Jx} {o : Expr} {f : XE} {apos cpos p2 : Pos} {j : Nat}
theorem bls_at {c : Ct} {H : Hp} {u : V} {xs : List D} {bs : List Bool} (h : Rep c H u (.lst xs)) (hb : D.bls xs = some bs) : ∃ l, u = .ref l ∧ H l = some (.lst (bs.map V.bl)) := by
  cases h with
  | lst ha hr => exact ⟨_, rfl, by rw [ha, bls_reps hr hb]⟩
theorem se_cnt (he : SE J o f) (hbase : attributeBase o "count" J.X.env (eval o J.X.env) = eval o J.X.env := by rfl)
    (hfew : ((backTo cpos (starEach [.Constant (.bool true) j p2] J.X.env)).all (fun x => !x.1) && (backToKw cpos (keywordEach [] J.X.env)).all (fun x => x.1.isSome)
      && decide (([.Constant (.bool true) j p2] : List Expr).length + ([] : List Keyword).length + (if ([] : List Keyword).isEmpty then 0 else 1) < 30)) = true := by rfl)
    (hline : (apos.endLine == cpos.line) = true := by rfl) (hs : starEach [.Constant (.bool true) j p2] J.X.env = (false, eval (.Constant (.bool true) j p2) J.X.env) :: starEach [] J.X.env := by rfl) (hplain : (backTo cpos (starEach [] J.X.env)).any (·.1) = false := by rfl) :
    SE J (.Call (.Attribute o "count" apos) [.Constant (.bool true) j p2] [] cpos) (xCnt f) :=
  (pe_cnt he hbase hfew hline hs hplain).imp fun sg H Q ⟨F, env, si, hq⟩ => ⟨F, env, si, (aft_bind hq).mono fun u H1 ⟨F1, va, w1, r1, hq1⟩ => by
    have rr := r1.rep w1.fh
    obtain ⟨oa, ba, da⟩ := va
    cases da with
    | lst xs =>
      replace hq1 : Aft J.c J.W sg F1 H1 Q (match D.bls xs with
        | some bs => .ok (.sh (.int (bs.count true : Nat)))
        | none => .bad) := hq1
      cases hb : D.bls xs with
      | none => rw [hb] at hq1; exact (show False from hq1).elim
      | some bs =>
        rw [hb] at hq1
        obtain ⟨l, e1, e2⟩ := bls_at rr hb
        exact ⟨l, bs, e1, e2, Aft.now w1.fh .int hq1⟩
    | _ => exact (show False from hq1).elim⟩
theorem se_idx (he : SE J o f) (hbase : attributeBase o "index" J.X.env (eval o J.X.env) = eval o J.X.env := by rfl)
    (hfew : ((backTo cpos (starEach [.Constant (.bool true) j p2] J.X.env)).all (fun x => !x.1) && (backToKw cpos (keywordEach [] J.X.env)).all (fun x => x.1.isSome)
      && decide (([.Constant (.bool true) j p2] : List Expr).length + ([] : List Keyword).length + (if ([] : List Keyword).isEmpty then 0 else 1) < 30)) = true := by rfl)
    (hline : (apos.endLine == cpos.line) = true := by rfl) (hs : starEach [.Constant (.bool true) j p2] J.X.env = (false, eval (.Constant (.bool true) j p2) J.X.env) :: starEach [] J.X.env := by rfl) (hplain : (backTo cpos (starEach [] J.X.env)).any (·.1) = false := by rfl) :
    SE J (.Call (.Attribute o "index" apos) [.Constant (.bool true) j p2] [] cpos) (xIdx f) :=
  (pe_idx he hbase hfew hline hs hplain).imp fun sg H Q ⟨F, env, si, hq⟩ => ⟨F, env, si, (aft_bind hq).mono fun u H1 ⟨F1, va, w1, r1, hq1⟩ => by
    have rr := r1.rep w1.fh
    obtain ⟨oa, ba, da⟩ := va
    cases da with
    | lst xs =>
      replace hq1 : Aft J.c J.W sg F1 H1 Q (match D.bls xs with
        | some bs => if true ∈ bs then .ok (.sh (.int (bs.idxOf true : Nat))) else .bad
        | none => .bad) := hq1
      cases hb : D.bls xs with
      | none => rw [hb] at hq1; exact (show False from hq1).elim
      | some bs =>
        rw [hb] at hq1
        replace hq1 : Aft J.c J.W sg F1 H1 Q (if true ∈ bs then .ok (.sh (.int (bs.idxOf true : Nat))) else .bad) := hq1
        by_cases hm : true ∈ bs
        · rw [if_pos hm] at hq1
          obtain ⟨l, e1, e2⟩ := bls_at rr hb
          exact ⟨l, bs, e1, e2, hm, Aft.now w1.fh .int hq1⟩
        · rw [if_neg hm] at hq1
          exact (show False from hq1).elim
    | _ => exact (show False from hq1).elim⟩
/-! ### isinstance(e, X), e a caught error -/
/-- what is known of the classes: isinstance(x, m-th class) of an error of the k-th class; isinstance(x, ValueError) -/
structure ExcIsOk (K : PySem.W.Frag) (c : Ct) (n : Nat) : Prop where
  C : ∀ k, k < n → ExcC K (c.ea k)
  one : ∀ k m, k < n → m < n → PySem.W.kitOne K (.ref (c.ea k)) (.ref (c.ea m)) = some (k == m)
  val : ∀ k, k < n → PySem.W.kitOne K (.ref (c.ea k)) (.type "ValueError") = some true
/-- the pinned error -/
def PxOk (X : Cx) (c : Ct) (n : Nat) : Prop := ∀ a k, c.px a k → k < n ∧ ∃ oe, (a, oe) ∈ X.pn ∧ Zc (.ref (c.ea k)) none oe ∧ ∃ vs, oe.data = .fields vs
theorem call_isP {X : Cx} {a D : Addr} {oe : Obj} (C : ExcC X.K D) (hp : (a, oe) ∈ X.pn) (hz : Zc (.ref D) none oe) (hf : ∃ vs, oe.data = .fields vs) : CallR X (.builtin "isinstance") (rIsE X.K D a) := by
  intro pins s σ H xs us Q I r h
  obtain ⟨c, cv, b, rfl, hcv, e, q⟩ := h
  cases r with
  | cons rx rr =>
    cases rr with
    | cons rt rr =>
      cases rr
      cases rx
      have ec := hcv _ rt
      subst ec
      obtain ⟨hget, _⟩ := I.pin (a, oe) (List.mem_append.mpr (.inl hp))
      obtain ⟨vs, hv⟩ := hf
      have J : PySem.W.InstAt s.heap a oe D none := by
        obtain ⟨oc, od, oda, osl⟩ := oe
        obtain ⟨h1, h2⟩ := hz
        dsimp only at h1 h2 hv
        subst h1 h2 hv
        exact ⟨hget, rfl, rfl, trivial⟩
      exact PySem.W.kia_one (PySem.W.handS_kitx_exc C.hg C.hk C.hs C.hd C.ha C.hn C.ht C.hm) I.kIn J e (fun z => nomatch z) fun tk => ⟨.bl b, H, I.kept (t' := tk) fun _ _ z => z, rfl, q⟩
def xIsE (m : Nat) (f : XE) : XE := fun env => (f env).bind fun a => match a.d with
  | .exn k => .ok (.sh (.bl (k == m)))
  | _ => .bad
def xIsVE (f : XE) : XE := fun env => (f env).bind fun a => match a.d with
  | .exn _ => .ok (.sh (.bl true))
  | _ => .bad
def rIsX (K : PySem.W.Frag) (c : Ct) : List V → Hp → VK → Prop := fun xs H Q => ∃ a k, c.px a k ∧ rIsE K (c.ea k) a xs H Q
theorem call_isX {X : Cx} {c : Ct} {n : Nat} (T : ExcIsOk X.K c n) (hp : PxOk X c n) : CallR X (.builtin "isinstance") (rIsX X.K c) := by
  intro pins s σ H xs us Q I r h
  obtain ⟨a, k, hpx, h⟩ := h
  obtain ⟨hk, oe, h1, h2, h3⟩ := hp a k hpx
  exact call_isP (T.C k hk) h1 h2 h3 pins s σ H xs us Q I r h
variable {e : Expr} {x : Str} {p pos : Pos}
theorem se_isE {m n : Nat} (T : ExcIsOk J.X.K J.c n) (hp : PxOk J.X J.c n) (hmn : m < n) (hm : J.X.mg "isinstance" = none) (hm2 : J.X.mg x = some (.ref (J.c.ea m))) (he : SE J e f) (hx : Gl J.X "isinstance") (hx2 : Gl J.X x) (hdb : (x == ("__debug__" : Str)) = false := by decide)
    (hs : starEach (e :: [.Name x p2]) J.X.env = (false, eval e J.X.env) :: starEach [.Name x p2] J.X.env := by rfl) (hs2 : starEach [.Name x p2] J.X.env = (false, eval (.Name x p2) J.X.env) :: starEach [] J.X.env := by rfl)
    (hpl : (backTo pos (starEach [.Name x p2] J.X.env)).any (·.1) = false := by rfl) : SE J (.Call (.Name "isinstance" p) [e, .Name x p2] [] pos) (xIsE m f) :=
  (pe_callB (call_isX T hp) hx hm (by decide +kernel) (pa_cons he (pa_cons (pe_glob (v := .ref (J.c.ea m)) hx2 hm2 rfl hdb) pa_nil hs2) hs) (by decide) (by decide) hs hpl).imp fun sg H Q ⟨F, env, si, hq⟩ => ⟨F, env, si, (aft_bind hq).mono fun u H1 ⟨F1, va, w1, r1, hq1⟩ => by
    have rr := r1.rep w1.fh
    obtain ⟨oa, ba, da⟩ := va
    cases da with
    | exn k =>
      replace hq1 : Aft J.c J.W sg F1 H1 Q (.ok (.sh (.bl (k == m)))) := hq1
      cases rr with
      | exn h => exact ⟨_, k, h, .ref (J.c.ea m), .ref (J.c.ea m), (k == m), rfl, fun u hu => hu, T.one k m (hp _ _ h).1 hmn, Aft.now w1.fh .bl hq1⟩
    | _ => exact (show False from hq1).elim⟩
theorem se_isVE {n : Nat} (T : ExcIsOk J.X.K J.c n) (hp : PxOk J.X J.c n) (hm : J.X.mg "isinstance" = none) (hm2 : J.X.mg "ValueError" = none) (he : SE J e f) (hx : Gl J.X "isinstance") (hx2 : Gl J.X "ValueError")
    (hs : starEach (e :: [.Name "ValueError" p2]) J.X.env = (false, eval e J.X.env) :: starEach [.Name "ValueError" p2] J.X.env := by rfl) (hs2 : starEach [.Name "ValueError" p2] J.X.env = (false, eval (.Name "ValueError" p2) J.X.env) :: starEach [] J.X.env := by rfl)
    (hpl : (backTo pos (starEach [.Name "ValueError" p2] J.X.env)).any (·.1) = false := by rfl) : SE J (.Call (.Name "isinstance" p) [e, .Name "ValueError" p2] [] pos) (xIsVE f) :=
  (pe_callB (call_isX T hp) hx hm (by decide +kernel) (pa_cons he (pa_cons (pe_bltn (v := .ty "ValueError") hx2 hm2 (by decide +kernel) rfl (by decide) (by decide)) pa_nil hs2) hs) (by decide) (by decide) hs hpl).imp fun sg H Q ⟨F, env, si, hq⟩ => ⟨F, env, si, (aft_bind hq).mono fun u H1 ⟨F1, va, w1, r1, hq1⟩ => by
    have rr := r1.rep w1.fh
    obtain ⟨oa, ba, da⟩ := va
    cases da with
    | exn k =>
      replace hq1 : Aft J.c J.W sg F1 H1 Q (.ok (.sh (.bl true))) := hq1
      cases rr with
      | exn h => exact ⟨_, k, h, .ty "ValueError", .type "ValueError", true, rfl, fun u hu => hu, T.val k (hp _ _ h).1, Aft.now w1.fh .bl hq1⟩
    | _ => exact (show False from hq1).elim⟩
end
/-! ### a def that is told a caught error -/
structure FnX (P : Program) (w : World) (K : PySem.W.Frag) (mg : Str → Option Value) (base : Heap) (c : Ct) (n k : Nat) (f : Addr) (fd : FuncData) (ps : List Str) (F : XF) : Prop where
  run : ∀ (A : Around) (outer : List Env) (s : Shared) (H : Hp) (args : Args) (Q : VK) (p : Addr × Obj) (m : Nat) (z : Str), L2H.RoomH k A → L2H.PinOk outer H s p → m < n → Zc (.ref (c.ea m)) none p.2 → (∃ vs, p.2.data = .fields vs) →
    Env0 P w K mg base A outer s H → BindsTo s fd args (ps.zip [.ref p.1]) → F [.exn m] = .ok (.sh (.str z)) → (∀ H', Ex H H' → Q (.str z) H') →
    codeAny (model P w) A (.call (.ref f) args) (CR (L2.CX P w) outer P w H s Q (fun _ _ _ => False)) s
abbrev ctX (c : Ct) (a : Addr) (m : Nat) : Ct := { c with px := fun b j => b = a ∧ j = m }
abbrev jX (P : Program) (w : World) (K : PySem.W.Frag) (mg : Str → Option Value) (base : Heap) (c : Ct) (N : List Str) (qual : Str) (sc : Scope) (f : Addr) (cdv : Value) (A : Around) (outer : List Env) (s : Shared) (H : Hp) (p : Addr × Obj) (m : Nat) : Jx :=
  ⟨L2H.cxH (L2.CX P w) P w K mg base N qual sc f cdv A outer s H (fun _ _ _ => False) p, ctX c p.1 m, WF, fun _ => none, H⟩
theorem pxOk_of {P : Program} {w : World} {K : PySem.W.Frag} {mg : Str → Option Value} {base : Heap} {c : Ct} {N : List Str} {qual : Str} {sc : Scope} {f : Addr} {cdv : Value} {A : Around} {outer : List Env} {s : Shared} {H : Hp} {p : Addr × Obj} {m n : Nat}
    (h1 : m < n) (h2 : Zc (.ref (c.ea m)) none p.2) (h3 : ∃ vs, p.2.data = .fields vs) : PxOk (jX P w K mg base c N qual sc f cdv A outer s H p m).X (jX P w K mg base c N qual sc f cdv A outer s H p m).c n := by
  rintro a j ⟨rfl, rfl⟩
  exact ⟨h1, p.2, List.mem_singleton.mpr rfl, h2, h3⟩
theorem fnX_ok {P : Program} {w : World} {K : PySem.W.Frag} {mg : Str → Option Value} {base : Heap} {c : Ct} {x qual : Str} {st : Stmt} {f : Addr} {fd : FuncData} {N ps : List Str} {k n : Nat} {body : XS} (Fn : Fun K x qual st f fd) (S : FnScope N ps (defScope st)) (hp : ps.length ≤ N.length) (h1 : ps.length = 1)
    (hb : ∀ (cdv : Value) (A : Around) (outer : List Env) (s : Shared) (H : Hp) (p : Addr × Obj) (m : Nat), L2H.RoomH k (A.deeper (envOfC qual (defScope st) s.heap.objs.size f cdv)) → m < n → Zc (.ref (c.ea m)) none p.2 → (∃ vs, p.2.data = .fields vs) →
      SSs (jX P w K mg base c N qual (defScope st) f cdv A outer s H p m) (defBody st) body) :
    FnX P w K mg base c n (k + 1) f fd ps (xFun ps.length N.length body) := by
  obtain ⟨oc, od, kV, doc, pm, an, cdv, ct, osl, rfl, lk, hcd⟩ := Fn.ex
  refine ⟨fun A outer s H args Q p m z hr hpin hm hz hf e0 hbt hF hQ => ?_⟩
  have KX : K.In s.heap := e0.mod.kin.keeps fun b o e => (e0.bs b o e).1
  have lim : s.heap.NoLimit := e0.mod.nolimit.keeps fun b o e => (e0.bs b o e).1
  have hkind : ∀ y ∈ ps.zip [Value.ref p.1], (defScope st).names.lookup y.1 = some .local ∨ ((defScope st).names.lookup y.1 = some .cell ∧ ((cellsFrom (s.heap.objs.size + 1) (defScope st).names []).lookup y.1).isSome = true) := fun ⟨n, v⟩ hy => by
    rcases S.par n (List.of_mem_zip hy).1 with q | q
    · exact .inl q
    · exact .inr ⟨q, PySem.W.cellsFrom_some _ _ _ (.inl q)⟩
  refine codeAny_call_function hr.depth (KX _ _ lk) rfl S.co S.gen rfl (PySem.W.codeRec_of KX hcd) (hbt _ _ _ _ ?_)
  refine wpAny_newFunctionEnv_cells S.kind hkind fun env he s1 x => ?_
  subst he
  refine ⟨lim.keeps x.toInCall.keep, codeAny_func ?_⟩
  have ht := hb cdv A outer s H p m (hr.deeper _) hm hz hf
  have I := L2H.inv_startH (CX := L2.CX P w) (E := fun _ _ _ => False) (vs := [.ref p.1]) S hpin e0 (by rw [h1] <;> rfl) (.cons rfl .nil) x
  have start : tXS (ctX c p.1 m) WF (fun _ => none) H body { nx := fun _ H' => Q .non H', rt := Q } (L2.start N [.ref p.1]) H := by
    refine ⟨fun _ => none, _, si_start (ds := [.exn m]) (ps := ps) (fun a o h => by cases h) (.cons (.exn ⟨rfl, rfl⟩) .nil) (by rw [h1] <;> rfl) hp, ?_⟩
    unfold xFun at hF
    rw [if_pos (by rw [h1] <;> rfl)] at hF
    cases hbo : body (([.exn m] : List D).map (fun d => some (Ow.sh, d)) ++ List.replicate (N.length - ps.length) none) with
    | ret a =>
      rw [hbo] at hF
      replace hF : (if a.b = true then Res.bad else .ok a) = .ok (.sh (.str z)) := hF
      by_cases hbb : a.b = true
      · rw [if_pos hbb] at hF
        cases hF
      · rw [if_neg hbb] at hF
        cases hF
        refine ⟨rfl, fun F' H' u e' w rv => ?_⟩
        cases rv.repF with
        | str => exact hQ H' w.h
    | _ => rw [hbo] at hF; cases hF
  refine wpAny_mono (ht.run [] s1 _ H _ I start) (fun fl s' hs => ?_) fun e s' hs => hs
  have fin : ∀ {σ' : L2.St} {H' : Hp} {v : V} {u : Value}, Inv (L2H.cxH (L2.CX P w) P w K mg base N qual (defScope st) f cdv A outer s H (fun _ _ _ => False) p) [] σ' H' s' → RelV v u → Q v H' → CE outer P w H s Q u s' :=
    fun {σ' H' v u} J rv q => ⟨v, H', J.os, J.bare, J.base, J.hok, rv, q⟩
  cases fl with
  | ret u =>
    obtain ⟨v, σ', H', J, rv, q⟩ := hs
    exact fin J rv q
  | next =>
    obtain ⟨σ', H', J, q⟩ := hs
    exact fin (v := V.non) (u := Value.none) J rfl q
  | brk =>
    obtain ⟨_, _, _, q⟩ := hs
    exact False.elim q
  | cont =>
    obtain ⟨_, _, _, q⟩ := hs
    exact False.elim q
structure GfX (P : Program) (w : World) (K : PySem.W.Frag) (mg : Str → Option Value) (base : Heap) (c : Ct) (n : Nat) (nm : Str) (k : Nat) (ps : List Str) (F : XF) : Prop where
  ex : ∃ f fd, FnX P w K mg base c n k f fd ps F ∧ mg nm = some (.ref f) ∧ PySem.W.keepIn K (.ref f) = true ∧ Binds K fd ps []
  h1 : ps.length = 1
def xCallX (n : Nat) (F : XF) (f : XE) : XE := fun env => (f env).bind fun a => match a.d with
  | .exn m => if m < n then (match F [.exn m] with
    | .ok ⟨.sh, false, .str z⟩ => .ok (.sh (.str z))
    | _ => .bad) else .bad
  | _ => .bad
section
variable {J : Jx} {e : Expr} {f : XE} {x : Str} {q pos : Pos}
theorem se_callX {c0 : Ct} {n k : Nat} {nm : Str} {ps : List Str} {F : XF} (g : GfX J.X.prog J.X.w J.X.K J.X.mg J.X.base c0 n nm k ps F) (hea : J.c.ea = c0.ea) (hp : PxOk J.X J.c n) (hr : L2H.RoomH k J.X.A) (tk : Takes J.X WF) (he : SE J e f) (hx : Gl J.X nm) (hdb : (nm == ("__debug__" : Str)) = false := by decide)
    (hs : starEach [e] J.X.env = (false, eval e J.X.env) :: starEach [] J.X.env := by rfl) (hpl : (backTo pos (starEach [] J.X.env)).any (·.1) = false := by rfl) :
    SE J (.Call (.Name nm q) [e] [] pos) (xCallX n F f) := by
  obtain ⟨fa, fd, G, hm, hk, hb⟩ := g.ex
  have he2 : PE J.X e (tX J.c J.W J.F0 J.H0 f) := he
  refine ⟨fun pins s σ H Q I ⟨F1, env, si, hq⟩ => ?_⟩
  refine wpAny_Call_Name_kw (ld_glob I hx hm ?_ hdb)
  refine PySem.W.callWith_K (h₀ := J.X.base) I.ok.mod.kin hk (thn ((pa_cons he2 pa_nil hs).run pos pins s σ H (fun us H1 => ∃ u F2 va, us = [u] ∧ Wd F1 H F2 H1 ∧ Rv J.c H F2 H1 u va ∧ Aft J.c J.W σ F2 H1 Q (match va.d with
    | .exn m => if m < n then (match F [.exn m] with
      | .ok ⟨.sh, false, .str z⟩ => .ok (.sh (.str z))
      | _ => .bad) else .bad
    | _ => .bad)) I ?_) fun us s1 ⟨vs, H1, I1, r1, u, F2, va, ev, w1, rv, hq1⟩ => ⟨I1.kIn, ?_⟩) hs hpl
  · exact ⟨F1, env, si, (aft_bind hq).mono fun u H1 ⟨F2, va, w1, rv, hq1⟩ => ⟨u, F2, va, rfl, w1, rv, hq1⟩⟩
  · subst ev
    have rr := rv.rep w1.fh
    obtain ⟨oa, ba, da⟩ := va
    cases da with
    | exn m =>
      cases rr with
      | @exn a _ hpx =>
        by_cases hm2 : m < n
        · obtain ⟨_, oe, h1, h2, h3⟩ := hp a m hpx
          rw [hea] at h2
          have P1 := I1.pin (a, oe) (List.mem_append_left _ h1)
          have hpin : L2H.PinOk J.X.stack H1 s1 (a, oe) := ⟨P1.1, P1.2.1, fun hm => (List.mem_cons.mp (I1.stkSub a hm)).elim P1.2.2.1 P1.2.2.2.1, P1.2.2.2.2⟩
          replace hq1 : Aft J.c J.W σ F2 H1 Q (if m < n then (match F [.exn m] with
            | .ok ⟨.sh, false, .str z⟩ => .ok (.sh (.str z))
            | _ => .bad) else .bad) := hq1
          rw [if_pos hm2] at hq1
          cases r1 with
          | cons ru rr2 =>
            cases rr2
            cases (show _ = Value.ref a from ru)
            have hl : [Value.ref a].length = ps.length := by rw [g.h1] <;> rfl
            have b := hb s1 [.ref a] I1.kIn (by rw [List.append_nil]; exact hl)
            rw [List.append_nil] at b
            have go : ∀ z, F [.exn m] = .ok (.sh (.str z)) → Aft J.c J.W σ F2 H1 Q (.ok (.sh (.str z))) → wpAny (model J.X.prog J.X.w) J.X.A (call (.ref fa) [.ref a]) (EP J.X pins σ Q) J.X.xe s1 := by
              intro z hz hq2
              refine wpAny_call (codeAny_mono (G.run J.X.A J.X.stack s1 H1 ⟨[.ref a], []⟩ Q (a, oe) m z hr hpin hm2 h2 h3 I1.env0 b hz (fun H' e => ?_)) fun r s' hq => ?_)
              · have e1 : Ex F2 H1 := w1.fh
                exact hq2 F2 H' (.str z) ⟨Evl.Ex.refl F2, e1.trans e, e, fun a n1 n2 => absurd n1 n2⟩ (Rv.sh .str)
              · cases r with
                | error er => exact passAt tk σ pins H1 s1 er s' I1 hq
                | ok fl =>
                  cases fl with
                  | ret u => exact I1.after hq
                  | next => exact False.elim hq
                  | brk => exact False.elim hq
                  | cont => exact False.elim hq
            cases hF : F [.exn m] with
            | ok r =>
              obtain ⟨ro, rb, rd⟩ := r
              rw [hF] at hq1
              cases ro with
              | sh =>
                cases rb with
                | false =>
                  cases rd with
                  | str z => exact go z hF hq1
                  | _ => exact (show False from hq1).elim
                | true => exact (show False from hq1).elim
              | _ => exact (show False from hq1).elim
            | exc k => rw [hF] at hq1; exact (show False from hq1).elim
            | bad => rw [hF] at hq1; exact (show False from hq1).elim
        · replace hq1 : Aft J.c J.W σ F2 H1 Q (if m < n then (match F [.exn m] with
            | .ok ⟨.sh, false, .str z⟩ => .ok (.sh (.str z))
            | _ => .bad) else .bad) := hq1
          rw [if_neg hm2] at hq1
          exact (show False from hq1).elim
    | _ => exact (show False from hq1).elim
end
/-! ### try .. except X as n: return .. -/
mutual
theorem Rep.px {c c' : Ct} {F : Hp} (hK : c'.K = c.K) (hC : c'.C = c.C) (h : ∀ a k, c.px a k → c'.px a k) : ∀ {v : V} {d : D}, Rep c F v d → Rep c' F v d
  | _, _, .non => .non
  | _, _, .bl => .bl
  | _, _, .int => .int
  | _, _, .str => .str
  | _, _, .lst e r => .lst e (Reps.px hK hC h r)
  | _, _, .fz e r => .fz (by rw [hK]; exact e) (Reps.px hK hC h r)
  | _, _, .tup e r => .tup e (Reps.px hK hC h r)
  | _, _, .obj e r l => .obj (by rw [hC]; exact e) (Reps.px hK hC h r) l
  | _, _, .dic e k r => .dic e k (Reps.px hK hC h r)
  | _, _, .exn e => .exn (h _ _ e)
theorem Reps.px {c c' : Ct} {F : Hp} (hK : c'.K = c.K) (hC : c'.C = c.C) (h : ∀ a k, c.px a k → c'.px a k) : ∀ {vs : List V} {ds : List D}, Reps c F vs ds → Reps c' F vs ds
  | _, _, .nil => .nil
  | _, _, .cons e r => .cons (Rep.px hK hC h e) (Reps.px hK hC h r)
end
theorem Own.px {c c' : Ct} {F H : Hp} (hK : c'.K = c.K) (hC : c'.C = c.C) (hx : ∀ a k, c.px a k → c'.px a k) (hi2 : ∀ a, c.ix a → c'.ix a) : ∀ {o : Ow} {v : V} {d : D} {S : Addr → Prop}, Own c F H o v d S → Own c' F H o v d S
  | .sh, _, _, _, h => Rep.px hK hC hx h
  | .li e, v, d, S, h => by
    obtain ⟨a, vs, xs, e1, e2, sa, ha, hl, T, t1, t2, t3⟩ := h
    exact ⟨a, vs, xs, e1, e2, sa, ha, hl, T, t1, t2, fun k u x hu hx2 => Own.px hK hC hx hi2 (t3 k u x hu hx2)⟩
  | .tu e, v, d, S, h => by
    obtain ⟨a, vs, xs, e1, e2, ha, hl, fa, sa, T, t1, t2, t3⟩ := h
    exact ⟨a, vs, xs, e1, e2, ha, hl, fa, sa, T, t1, t2, fun k u x hu hx2 => Own.px hK hC hx hi2 (t3 k u x hu hx2)⟩
  | .di, v, d, S, h => by
    obtain ⟨a, kvs, ks, xs, e1, e2, sa, ha, hk, r⟩ := h
    exact ⟨a, kvs, ks, xs, e1, e2, sa, ha, hk, Reps.px hK hC hx r⟩
  | .io, v, d, S, h => by
    obtain ⟨a, vs, xs, e1, e2, sa, hi, ha, r⟩ := h
    exact ⟨a, vs, xs, e1, e2, sa, hi2 a hi, ha, Reps.px hK hC hx r⟩
theorem Si.px {c c' : Ct} {F0 H0 F H : Hp} {sg : L2.St} {env : XEnv} (hK : c'.K = c.K) (hC : c'.C = c.C) (hx : ∀ a k, c.px a k → c'.px a k) (hi2 : ∀ a, c.ix a → c'.ix a) (s : Si c F0 H0 F H sg env) : Si c' F0 H0 F H sg env := by
  obtain ⟨S, s1, s2, s3⟩ := s.own
  exact ⟨s.wd, s.len, S, s1, s2, fun i o d e => by
    obtain ⟨v, h1, h2⟩ := s3 i o d e
    exact ⟨v, h1, Own.px hK hC hx hi2 h2⟩⟩
def Ow.isSh : Ow → Bool
  | .sh => true
  | _ => false
/-- no caught error within -/
def D.noX : Nat → D → Bool
  | _, .non => true
  | _, .bl _ => true
  | _, .int _ => true
  | _, .str _ => true
  | n + 1, .lst xs => xs.all (D.noX n)
  | n + 1, .tup xs => xs.all (D.noX n)
  | _, _ => false
mutual
theorem Rep.noX {c c' : Ct} {F : Hp} : ∀ (n : Nat) {v : V} {d : D}, d.noX n = true → Rep c' F v d → Rep c F v d
  | _, _, _, _, .non => .non
  | _, _, _, _, .bl => .bl
  | _, _, _, _, .int => .int
  | _, _, _, _, .str => .str
  | 0, _, _, h, .lst _ _ => nomatch h
  | n + 1, _, _, h, .lst a r => .lst a (Reps.noX n h r)
  | 0, _, _, h, .tup _ _ => nomatch h
  | n + 1, _, _, h, .tup a r => .tup a (Reps.noX n h r)
  | 0, _, _, h, .fz _ _ => nomatch h
  | _ + 1, _, _, h, .fz _ _ => nomatch h
  | 0, _, _, h, .obj _ _ _ => nomatch h
  | _ + 1, _, _, h, .obj _ _ _ => nomatch h
  | 0, _, _, h, .dic _ _ _ => nomatch h
  | _ + 1, _, _, h, .dic _ _ _ => nomatch h
  | 0, _, _, h, .exn _ => nomatch h
  | _ + 1, _, _, h, .exn _ => nomatch h
theorem Reps.noX {c c' : Ct} {F : Hp} : ∀ (n : Nat) {vs : List V} {ds : List D}, ds.all (D.noX n) = true → Reps c' F vs ds → Reps c F vs ds
  | _, _, _, _, .nil => .nil
  | n, _, _, h, .cons a r => by
    rw [List.all_cons, Bool.and_eq_true] at h
    exact .cons (Rep.noX n h.1 a) (Reps.noX n h.2 r)
end
def scRet : Out → Out
  | .ret r => if r.d.noX 3 = true ∧ r.b = false ∧ r.o.isSh = true then .ret r else .bad
  | _ => .bad
def xTryE (pk : Nat → Option Bool) (i : Nat) (bd hd : XS) : XS := fun env => match bd env with
  | .exc k e => match pk k with
    | some true => scRet (hd (e.set i (some (.sh, .exn k))))
    | some false => .exc k e
    | none => .bad
  | o => o
theorem aft_sc {c c' : Ct} {W : WX} {F0 H0 F : Hp} {D D' : Ends} {o : Out} (hr : D'.rt = D.rt) (h : AftS c W F0 H0 F D (scRet o)) : AftS c' WF F0 H0 F D' o := by
  cases o with
  | ret r =>
    obtain ⟨ro, rb, rd⟩ := r
    replace h : AftS c W F0 H0 F D (if rd.noX 3 = true ∧ rb = false ∧ ro.isSh = true then .ret ⟨ro, rb, rd⟩ else .bad) := h
    by_cases q : rd.noX 3 = true ∧ rb = false ∧ ro.isSh = true
    · rw [if_pos q] at h
      obtain ⟨q1, q2, q3⟩ := q
      subst q2
      cases ro with
      | sh =>
        refine ⟨rfl, fun F' H' u e w rv => ?_⟩
        rw [hr]
        exact h.2 F' H' u e w (Rv.sh (Rep.noX 3 q1 rv.repF))
      | _ => exact nomatch q3
    · rw [if_neg q] at h
      exact (show False from h).elim
  | _ => exact (show False from h).elim
section
variable {J : Jx}
theorem ss_tryE {x en : Str} {cv : Value} {body suite : List Stmt} {b0 : Stmt} {np pos' pos : Pos} {bd hd : XS} (i n : Nat) (pk : Nat → Option Bool) (hs : J.X.stack = J.X.env :: J.X.outer) (hf : J.X.env.frame = some J.X.env.locals) (hN : J.X.N.Nodup) (hi : J.X.N[i]? = some en) (hln : J.X.env.kindOf en = some .local)
    (hc : Names J.X x cv) (tk : Takes J.X J.W) (hpx : ∀ a k, ¬ J.c.px a k)
    (hk : ∀ k b, pk k = some b → PySem.W.exmOne J.X.K (.ref (J.c.ea k)) cv = some b) (hkn : ∀ k, pk k = some true → k < n)
    (hb : ∀ (W : WX) (pn : List (Addr × Obj)) (xe : Value → Shared → Prop), Takes (J.X.tr pn xe) W → PassesOwn (model J.X.prog J.X.w) J.X.A J.X.env xe → SSs ⟨J.X.tr pn xe, J.c, W, J.F0, J.H0⟩ body bd)
    (hsu : ∀ (a : Addr) (oe : Obj) (pn : List (Addr × Obj)) (m : Nat), m < n → Zc (.ref (J.c.ea m)) none oe → (∃ vs, oe.data = .fields vs) → SSs ⟨J.X.suite a ((a, oe) :: pn), ctX J.c a m, WF, J.F0, J.H0⟩ (b0 :: suite) hd) :
    SS J (.Try body [.ExceptHandler (some (.Name x np)) (some en) (b0 :: suite) pos'] [] [] pos) (xTryE pk i bd hd) :=
  (ps_try_as (tb := fun W => tXS J.c W J.F0 J.H0 bd) (ts := fun a cls d => fun D σ H => ∃ m, m < n ∧ cls = .ref (J.c.ea m) ∧ d = none ∧ tXS (ctX J.c a m) WF J.F0 J.H0 hd D σ H) hs hf hN hi hln hc tk (fun W pn xe t1 t2 => hb W pn xe t1 t2)
    (fun a oe cls d pn hz hfv => ⟨fun pins s σ H D I ⟨m, hm, e1, e2, h⟩ => by
      subst e1 e2
      exact (hsu a oe pn m hm hz hfv).run pins s σ H D I h⟩)).imp fun D sg H ⟨F, env, si, hq⟩ => ⟨F, env, si, by
  unfold xTryE at hq
  cases q : bd env with
  | next e => rw [q] at hq; exact hq
  | ret r => rw [q] at hq; exact hq
  | rete d x => rw [q] at hq; exact hq
  | brk e => rw [q] at hq; exact hq
  | cont e => rw [q] at hq; exact hq
  | bad => rw [q] at hq; exact hq
  | exc k e1 =>
    rw [q] at hq
    replace hq : AftS J.c J.W J.F0 J.H0 F D (match pk k with
      | some true => scRet (hd (e1.set i (some (.sh, .exn k))))
      | some false => .exc k e1
      | none => .bad) := hq
    intro F' H' sg' e s'
    cases hp : pk k with
    | none => rw [hp] at hq; exact hq.elim
    | some b =>
      rw [hp] at hq
      refine ⟨b, hk k b hp, fun hbt a ha => ?_, fun hbf => ?_⟩
      · subst hbt
        refine ⟨k, hkn k hp, rfl, rfl, F', e1.set i (some (.sh, .exn k)), ?_, AftS.grow e (aft_sc (D := D) rfl hq)⟩
        have s2 : Si (ctX J.c a k) J.F0 J.H0 F' H' sg' e1 := Si.px (c := J.c) (c' := ctX J.c a k) rfl rfl (fun b j h => absurd h (hpx b j)) (fun _ h => h) s'
        exact s2.store (Wd.refl s2.wd.fh) (Rv.sh (.exn ⟨rfl, rfl⟩)) i
      · subst hbf
        have hq2 : AftS J.c J.W J.F0 J.H0 F D (.exc k e1) := hq
        exact hq2 F' H' sg' e s'⟩
theorem pxOk_suite {X : Cx} {c : Ct} {a : Addr} {oe : Obj} {pn : List (Addr × Obj)} {m n : Nat} (h1 : m < n) (h2 : Zc (.ref (c.ea m)) none oe) (h3 : ∃ vs, oe.data = .fields vs) : PxOk (X.suite a ((a, oe) :: pn)) (ctX c a m) n := by
  rintro b j ⟨rfl, rfl⟩
  exact ⟨h1, oe, List.mem_cons_self, h2, h3⟩
theorem roomH_suite {X : Cx} {k : Nat} {a : Addr} {pn : List (Addr × Obj)} (h : Room k X.A) : L2H.RoomH k (X.suite a pn).A := ⟨h.dp, h.un⟩
end
/-! ### a, b = x, y -/
section
variable {J : Jx}
theorem ss_par {x y : Str} {a b : Expr} {fs : XA} {px py pt pos pt2 : Pos} {kt k2 : Nat} (i j : Nat) (hN : J.X.N.Nodup) (ha : SA J [a, b] fs) (hc : J.X.calm = true := by rfl) (hi : J.X.N[i]? = some x := by rfl) (hj : J.X.N[j]? = some y := by rfl) (hij : i ≠ j := by decide)
    (hx : J.X.env.scope.names.lookup x = some .local := by rfl) (hy : J.X.env.scope.names.lookup y = some .local := by rfl)
    (hw : swappedStores [.Tuple [.Name x px, .Name y py] kt pt] (.Tuple [a, b] k2 pt2) J.X.env = pure (some [x, y]) := by rfl)
    (hs : swapsWithSole [.Tuple [.Name x px, .Name y py] kt pt] (.Tuple [a, b] k2 pt2) pos.line J.X.env = pure false := by rfl) :
    SS J (.Assign [.Tuple [.Name x px, .Name y py] kt pt] (.Tuple [a, b] k2 pt2) pos) (xPar i j fs) :=
  (ps_par hc hN hi hj hij hx hy ha hw hs).imp fun D sg H ⟨F, env, si, hq⟩ => ⟨F, env, si, by
    unfold xPar at hq
    cases q : fs env with
    | bad => rw [q] at hq; exact (show False from hq).elim
    | exc n => rw [q] at hq; exact fun F' H' w => hq F' H' sg w.f (si.grow w)
    | ok ds =>
      rw [q] at hq
      intro F' H' us w r
      match ds, r, hq with
      | [d, e], .cons h1 (.cons h2 .nil), hq =>
        have hq : AftS J.c J.W J.F0 J.H0 F D (.next ((env.set i (some (.sh, d))).set j (some (.sh, e)))) := hq
        have s1 := si.store w (Rv.sh h1) i
        have s2 := s1.store (Wd.refl s1.wd.fh) (Rv.sh h2) j
        exact ⟨_, _, rfl, hq F' H' _ w.f s2⟩
      | [], _, hq => exact (show False from hq).elim
      | [_], _, hq => exact (show False from hq).elim
      | _ :: _ :: _ :: _, _, hq => exact (show False from hq).elim⟩
end
theorem ExcIsOk.px {K : PySem.W.Frag} {c : Ct} {n : Nat} {a : Addr} {m : Nat} (h : ExcIsOk K c n) : ExcIsOk K (ctX c a m) n := ⟨h.C, h.one, h.val⟩
end Bk
theorem L2H.RoomH.units {k : Nat} {A : PySem.Around} (r : L2H.RoomH k A) : A.units + 64 < PySem.cLine := by have := r.un; omega
set_option Elab.async false
set_option linter.all false
set_option maxRecDepth 100000
set_option maxHeartbeats 4000000
/-! BkV: reversed(range(n)), list(range(n)). -/
namespace Bk
open PySem L2 PySem.Spec PyProof.Rows
section
variable {J : Jx} {a tg : Expr} {f : XE} {p p2 pos pos2 : Pos}
def xIRevR (f : XE) : XI := fun env => (f env).bind fun a => match a.d with
  | .int n => if n ≤ 100000 ∧ -100000 ≤ n then .ok (rangeD n).reverse else .bad
  | _ => .bad
theorem rangeD_length (n : Int) : (rangeD n).length = n.toNat := by unfold rangeD; rw [List.length_map, List.length_range]
theorem si_revR (hg : Gl J.X "reversed") (hm : J.X.mg "reversed" = none) (hg2 : Gl J.X "range") (hm2 : J.X.mg "range" = none) (ha : SE J a f) (na : starEach [a] J.X.env = (false, eval a J.X.env) :: starEach [] J.X.env := by rfl)
    (hs : starEach [.Call (.Name "range" p2) [a] [] pos2] J.X.env = (false, eval (.Call (.Name "range" p2) [a] [] pos2) J.X.env) :: starEach [] J.X.env := by rfl) :
    SI J tg (.Call (.Name "reversed" p) [.Call (.Name "range" p2) [a] [] pos2] [] pos) (xIRevR f) :=
  (pi_revR hg hm (prg_1 hg2 hm2 ha na) hs).imp fun sg H R ⟨F, env, si, hq⟩ => ⟨F, env, si, (aft_bindI hq).mono fun u H1 ⟨F1, va, w1, r1, hq1⟩ => by
    have rr := r1.rep w1.fh
    obtain ⟨o, bb, d⟩ := va
    cases d with
    | int n =>
      cases rr
      replace hq1 : AftI J.c J.W sg F H R (if n ≤ 100000 ∧ -100000 ≤ n then .ok (rangeD n).reverse else .bad) := hq1
      by_cases hb : n ≤ 100000 ∧ -100000 ≤ n
      · rw [if_pos hb] at hq1
        refine ⟨n, rfl, by omega, by omega, by omega, by omega, hq1 F1 H1 _ w1 fun i Hx e => ⟨fun d hd => ?_, fun hi => ?_⟩⟩
        · have hi : i < (rangeD n).length := by
            have := (List.getElem?_eq_some_iff.mp hd).1
            rw [List.length_reverse] at this
            exact this
          rw [List.getElem?_reverse hi] at hd
          obtain ⟨h3, rfl⟩ := rangeD_get hd
          rw [rangeD_length] at hi h3 ⊢
          refine ⟨by show i < (n - 0).toNat; rw [Int.sub_zero]; exact hi, fun x H' y => ⟨y.1, ?_⟩⟩
          rw [y.2]
          have e1 : 0 + (((n - 0).toNat : Nat) : Int) - 1 + ((i : Nat) : Int) * (-1) = ((n.toNat - 1 - i : Nat) : Int) := by rw [Int.sub_zero]; omega
          rw [e1]
          exact .int
        · show (n - 0).toNat ≤ i
          rw [List.length_reverse, rangeD_length] at hi
          rw [Int.sub_zero]
          omega
      · rw [if_neg hb] at hq1
        exact hq1.elim
    | _ => exact (show False from hq1).elim⟩
def xListR (f : XE) : XE := fun env => (f env).bind fun a => match a.d with
  | .int n => if n ≤ 100000 ∧ -100000 ≤ n then .ok ⟨.li .sh, false, .lst (rangeD n)⟩ else .bad
  | _ => .bad
theorem reps_rg {c : Ct} {F : Hp} (n : Int) : Reps c F (rgV 0 n) (rangeD n) := by
  refine Reps.all (by rw [rgV_length, rangeD_length, Int.sub_zero]) fun i v d hv hd => ?_
  obtain ⟨h1, rfl⟩ := rangeD_get hd
  unfold rgV at hv
  rw [List.getElem?_map] at hv
  cases q : (List.range (n - 0).toNat)[i]? with
  | none => rw [q] at hv; cases hv
  | some k =>
    rw [q] at hv
    obtain ⟨h2, h3⟩ := List.getElem?_eq_some_iff.mp q
    rw [List.getElem_range] at h3
    subst h3
    cases hv
    show Rep c F (V.int (0 + (i : Nat))) (.int (i : Int))
    rw [Int.zero_add]
    exact .int
theorem se_listR (hc : J.X.calm = true) (hg : Gl J.X "list") (hm : J.X.mg "list" = none) (hg2 : Gl J.X "range") (hm2 : J.X.mg "range" = none) (ha : SE J a f) (na : starEach [a] J.X.env = (false, eval a J.X.env) :: starEach [] J.X.env := by rfl)
    (hs : starEach [.Call (.Name "range" p2) [a] [] pos2] J.X.env = (false, eval (.Call (.Name "range" p2) [a] [] pos2) J.X.env) :: starEach [] J.X.env := by rfl) :
    SE J (.Call (.Name "list" p) [.Call (.Name "range" p2) [a] [] pos2] [] pos) (xListR f) :=
  (pe_listRg hc hg hm (prg_1 hg2 hm2 ha na) hs).imp fun sg H Q ⟨F, env, si, hq⟩ => ⟨F, env, si, (aft_bind hq).mono fun u H1 ⟨F1, va, w1, r1, hq1⟩ => by
    have rr := r1.rep w1.fh
    obtain ⟨o, bb, d⟩ := va
    cases d with
    | int n =>
      cases rr
      replace hq1 : Aft J.c J.W sg F1 H1 Q (if n ≤ 100000 ∧ -100000 ≤ n then .ok ⟨.li .sh, false, .lst (rangeD n)⟩ else .bad) := hq1
      by_cases hb : n ≤ 100000 ∧ -100000 ≤ n
      · rw [if_pos hb] at hq1
        exact ⟨n, rfl, ⟨by omega, by omega, by omega, by omega, by omega⟩, fun q hq => Aft.newL w1.fh hq (reps_rg n) hq1⟩
      · rw [if_neg hb] at hq1
        exact hq1.elim
    | _ => exact (show False from hq1).elim⟩
theorem Reps.dropLast {c : Ct} {F : Hp} {vs : List V} {xs : List D} (h : Reps c F vs xs) : Reps c F vs.dropLast xs.dropLast := by
  rw [List.dropLast_eq_take, List.dropLast_eq_take, h.length]
  exact h.take _
theorem ss_pop {K : PySem.W.Frag} {i : Nat} {st : Stmt} (h : PS J.X st (tDrop (tBM0 K "list" rPop (tVar i)))) : SS J st (xPop i) := h.imp fun D sg H ⟨F, env, si, hq⟩ => by
  refine ownL (k := fun xs => if xs = [] then .bad else .next (env.set i (some (.li .sh, .lst xs.dropLast)))) hq fun xs hx hq => ?_
  obtain ⟨a, vs, h1, ha, hr, hm⟩ := Si.mut (ys := []) si hx
  by_cases hn : xs = []
  · rw [if_pos hn] at hq
    exact (show False from hq).elim
  · rw [if_neg hn] at hq
    have hl : 0 < vs.length := by rw [hr.length]; exact List.length_pos_iff.mpr hn
    have hy : vs[vs.length - 1]? = some (vs[vs.length - 1]'(by omega)) := List.getElem?_eq_getElem (by omega)
    exact ⟨_, h1, .inl ⟨rfl, _, .inl (.inl ha)⟩, a, vs, _, rfl, rfl, ha, hy, hq F _ sg (Evl.Ex.refl F) (hm _ _ hr.dropLast)⟩
end
end Bk
set_option Elab.async false
set_option linter.all false
set_option maxRecDepth 100000
set_option maxHeartbeats 4000000
/-! BkO: a def that writes into a list that it is handed. -/
namespace Bk
open PySem L2 PySem.Spec PyProof.Rows
section
variable {J : Jx} {c : Ct} {W : WX} {F0 H0 : Hp} {X : Cx} {pos : Pos} {sg : L2.St} {F H F1 H1 : Hp} {env : XEnv} {st : Stmt} {sts : List Stmt} {g h : XS} {e : Expr} {f : XE} {t : XB} {D : Ends}
/-- return e, e a scalar: what the slots hold is told too -/
def xRetE (f : XE) : XS := fun env => match f env with
  | .ok a => if a.d.isSc = true then .rete a.d env else .bad
  | .exc n => .exc n env
  | .bad => .bad
theorem ss_rete (he : SE J e f) : SS J (.Return (some e) pos) (xRetE f) := (ps_ret he).imp fun D sg H ⟨F, env, si, hq⟩ => ⟨F, env, si, by
  refine aftS_bind (k := fun a => if a.d.isSc = true then .rete a.d env else .bad) si hq fun F1 H1 u a w rv _ hk => ?_
  by_cases q : a.d.isSc = true
  · rw [if_pos q] at hk
    exact hk F1 H1 sg u w.f (si.grow w) ((rv.rep w.fh).isSc q)
  · rw [if_neg q] at hk
    exact (show False from hk).elim⟩
theorem Si.mutIO {i : Nat} {xs : List Bk.D} (s : Si c F0 H0 F H sg env) (he : env[i]? = some (some (.io, .lst xs))) : ∃ a vs, sg[i]? = some (some (.ref a)) ∧ H a = some (.lst vs) ∧ Reps c F vs xs ∧
    ∀ us ys, Reps c F us ys → Si c F0 H0 F (upd H a (.lst us)) sg (env.set i (some (.io, .lst ys))) := by
  obtain ⟨S, s1, s2, s3⟩ := s.own
  obtain ⟨v, h1, a, vs, zs, e1, e2, sa, hi, ha, hr0⟩ := s3 i _ _ he
  subst e1
  cases e2
  refine ⟨a, vs, h1, ha, hr0, fun us ys hr => ?_⟩
  have fa := (s2 i a sa)
  have eF : Ex F (upd H a (.lst us)) := s.wd.fh.mut fa.2.1
  refine ⟨⟨s.wd.f, eF, s.wd.h.mut fa.1, s.wd.n⟩, by rw [List.length_set]; exact s.len, fun j b => if j = i then b = a else S j b, fun j k b hj hk => ?_, fun j b hj => ?_, fun j o d hjd => ?_⟩
  · by_cases q1 : j = i
    · by_cases q2 : k = i
      · rw [q1, q2]
      · simp only [if_pos q1] at hj
        simp only [if_neg q2] at hk
        subst hj
        exact absurd (s1 k i _ hk sa) q2
    · by_cases q2 : k = i
      · simp only [if_neg q1] at hj
        simp only [if_pos q2] at hk
        subst hk
        exact absurd (s1 j i _ hj sa) q1
      · simp only [if_neg q1] at hj
        simp only [if_neg q2] at hk
        exact s1 j k b hj hk
  · by_cases q : j = i
    · simp only [if_pos q] at hj
      subst hj
      refine ⟨fa.1, fa.2.1, ?_⟩
      rw [upd_same]
      exact fun z => by cases z
    · simp only [if_neg q] at hj
      have nb : b ≠ a := fun z => q (s1 j i b hj (by rw [z]; exact sa))
      rw [upd_ne nb]
      exact s2 j b hj
  · by_cases q : j = i
    · subst q
      have hlj : j < env.length := (List.getElem?_eq_some_iff.mp he).1
      rw [List.getElem?_set_self hlj] at hjd
      cases hjd
      refine ⟨.ref a, h1, ?_⟩
      simp only [if_pos]
      exact ⟨a, us, ys, rfl, rfl, rfl, hi, upd_same, hr⟩
    · rw [List.getElem?_set_ne (Ne.symm q)] at hjd
      obtain ⟨v, h4, h5⟩ := s3 j o d hjd
      refine ⟨v, h4, ?_⟩
      simp only [if_neg q]
      refine h5.frame (Evl.Ex.refl F) (fun b hb => ?_) fun b hb => (s2 j b hb).2.1
      exact upd_ne fun z => q (s1 j i b hb (by rw [z]; exact sa))
def xSetIO (i : Nat) (fk f : XE) : XS := fun env => match env[i]? with
  | some (some (.io, .lst xs)) => match f env with
    | .ok a => if a.b = true then .bad else match fk env with
      | .ok k => match k.d with
        | .int n => match ixN xs.length n with
          | some j => .next (env.set i (some (.io, .lst (xs.set j a.d))))
          | none => .bad
        | _ => .bad
      | .exc n => .exc n env
      | .bad => .bad
    | .exc n => .exc n env
    | .bad => .bad
  | _ => .bad
theorem ownIO {o : Option (Option (Ow × Bk.D))} {P : Prop} {k : List Bk.D → Out} (h : AftS c W F0 H0 F D (match o with
    | some (some (.io, .lst xs)) => k xs
    | _ => .bad)) (hk : ∀ xs, o = some (some (.io, .lst xs)) → AftS c W F0 H0 F D (k xs) → P) : P := by
  match o, h with
  | none, h => exact (show False from h).elim
  | some none, h => exact (show False from h).elim
  | some (some (o, d)), h =>
    cases o with
    | io =>
      cases d with
      | lst xs => exact hk xs rfl h
      | _ => exact (show False from h).elim
    | _ => exact (show False from by cases d <;> exact h).elim
theorem ss_setIO {i : Nat} {fk : XE} (h : PS J.X st (tAsg (tX J.c J.W J.F0 J.H0 f) (gSub (tVar i) (tX J.c J.W J.F0 J.H0 fk) rSetL))) : SS J st (xSetIO i fk f) := h.imp fun D sg H ⟨F, env, si, hq⟩ => by
  refine ownIO hq fun xs hx hq => ?_
  refine ⟨F, env, si, aftS_bind (k := fun a => if a.b = true then .bad else match fk env with
    | .ok k => match k.d with
      | .int n => match ixN xs.length n with
        | some j => .next (env.set i (some (.io, .lst (xs.set j a.d))))
        | none => .bad
      | _ => .bad
    | .exc n => .exc n env
    | .bad => .bad) si hq fun F1 H1 u b w rv _ hk => ?_⟩
  obtain ⟨o, bb, d⟩ := b
  cases bb with
  | true => exact (show False from hk).elim
  | false =>
    obtain ⟨F2, w2, w3, r2⟩ := rv.share w
    replace hk : AftS J.c J.W J.F0 J.H0 F D (match fk env with
      | .ok k => match k.d with
        | .int n => match ixN xs.length n with
          | some j => .next (env.set i (some (.io, .lst (xs.set j d))))
          | none => .bad
        | _ => .bad
      | .exc n => .exc n env
      | .bad => .bad) := hk
    have si2 := si.grow w2
    obtain ⟨a2, vs2, h2, ha2, hr2, hm⟩ := Si.mutIO si2 hx
    refine ⟨_, h2, F2, env, si2, ?_⟩
    refine aftS_bind (D := D) (k := fun k => match k.d with
      | .int n => match ixN xs.length n with
        | some j => .next (env.set i (some (.io, .lst (xs.set j d))))
        | none => .bad
      | _ => .bad) si2 (AftS.grow w2.f hk) fun F3 H3 v k w4 rk hfk hk2 => ?_
    obtain ⟨ok, bk, dk⟩ := k
    have rkk := rk.rep w4.fh
    cases rkk with
    | @int n =>
      replace hk2 : AftS J.c J.W J.F0 J.H0 F2 D (match ixN xs.length n with
        | some j => .next (env.set i (some (.io, .lst (xs.set j d))))
        | none => .bad) := hk2
      obtain ⟨a3, vs3, h3, ha3, hr3, hm3⟩ := Si.mutIO (si2.grow w4) hx
      rw [h2] at h3
      cases h3
      cases hj : ixN xs.length n with
      | none => rw [hj] at hk2; exact hk2.elim
      | some j =>
        rw [hj] at hk2
        exact ⟨a2, vs3, n, j, rfl, rfl, ha3, by rw [hr3.length]; exact hj, hk2 F3 _ sg w4.f (hm3 _ _ (Reps.set (r2.mono w4.f) j hr3))⟩
    | _ => exact (show False from hk2).elim
end
/-! ### the def -/
abbrev XIO := List D → List D → Res (D × List D)
def ioRes (d : D) (o : Option (Option (Ow × D))) : Res (D × List D) := match o with
  | some (some (.io, .lst ys)) => .ok (d, ys)
  | _ => .bad
theorem ioRes_ok {d d2 : D} {o : Option (Option (Ow × D))} {ys : List D} (h : ioRes d o = .ok (d2, ys)) : o = some (some (.io, .lst ys)) ∧ d = d2 := by
  unfold ioRes at h
  split at h
  · cases h
    exact ⟨rfl, rfl⟩
  · cases h
def xFunIO (n N : Nat) (body : XS) : XIO := fun xs ds => if ds.length = n then (match body (some (.io, .lst xs) :: (ds.map (fun d => some (Ow.sh, d)) ++ List.replicate (N - (n + 1)) none)) with
  | .rete d env => ioRes d (env[0]?)
  | _ => .bad) else .bad
def erase (H : Hp) (a : Addr) : Hp := fun b => if b = a then none else H b
def spIO (c : Ct) (F : XIO) : Sp := fun vs H Q _ => ∃ (F0 : Hp) (a : Addr) (vs0 : List V) (xs0 : List D) (us : List V) (ds : List D) (d : D) (ys : List D), vs = .ref a :: us ∧ Ex F0 H ∧ F0 a = none ∧ H a = some (.lst vs0) ∧ Reps c F0 vs0 xs0 ∧ Reps c F0 us ds ∧ F xs0 ds = .ok (d, ys) ∧
  ∀ (F' H' : Hp) (vs1 : List V) (u : V), Wd F0 (erase H a) F' H' → F' a = none → H' a = some (.lst vs1) → Reps c F' vs1 ys → Rep c F' u d → Q u H'
abbrev cIX (c : Ct) (a : Addr) : Ct := { c with ix := fun b => b = a }
abbrev jIO (P : Program) (w : World) (K : PySem.W.Frag) (mg : Str → Option Value) (base : Heap) (c : Ct) (N : List Str) (qual : Str) (sc : Scope) (f : Addr) (cdv : Value) (A : Around) (outer : List Env) (s : Shared) (H : Hp) (E : XK) (F : Hp) (a : Addr) : Jx :=
  ⟨cxOf (L2.CX P w) P w K mg base N qual sc f cdv A outer s H E, cIX c a, fun cls d _ H => E cls d H, F, erase H a⟩
theorem reps_ix {c : Ct} {a : Addr} {F : Hp} {vs : List V} {ds : List D} (h : Reps c F vs ds) : Reps (cIX c a) F vs ds := Reps.px (c := c) (c' := cIX c a) rfl rfl (fun _ _ h => h) h
theorem reps_ix' {c : Ct} {a : Addr} {F : Hp} {vs : List V} {ds : List D} (h : Reps (cIX c a) F vs ds) : Reps c F vs ds := Reps.px (c := cIX c a) (c' := c) rfl rfl (fun _ _ h => h) h
theorem rep_ix' {c : Ct} {a : Addr} {F : Hp} {v : V} {d : D} (h : Rep (cIX c a) F v d) : Rep c F v d := Rep.px (c := cIX c a) (c' := c) rfl rfl (fun _ _ h => h) h
theorem si_startIO {c : Ct} {F H : Hp} {N : List Str} {n : Nat} {a : Addr} {vs0 us : List V} {xs0 ds : List D} (e : Ex F H) (fa : F a = none) (ha : H a = some (.lst vs0)) (h0 : Reps c F vs0 xs0) (hr : Reps c F us ds) (hn : ds.length = n) (hp : n + 1 ≤ N.length) :
    Si (cIX c a) F (erase H a) F H (L2.start N (.ref a :: us)) (some (.io, .lst xs0) :: (ds.map (fun d => some (Ow.sh, d)) ++ List.replicate (N.length - (n + 1)) none)) := by
  have hl := hr.length
  have er : Ex (erase H a) H := fun b o hb => by
    unfold erase at hb
    by_cases q : b = a
    · rw [if_pos q] at hb
      cases hb
    · rw [if_neg q] at hb
      exact hb
  refine ⟨⟨Evl.Ex.refl F, e, er, fun b h1 h2 => absurd h1 h2⟩, ?_, fun i b => i = 0 ∧ b = a, fun i j b h1 h2 => h1.1.trans h2.1.symm, fun i b hb => ?_, fun i o d hi => ?_⟩
  · unfold L2.start
    rw [List.length_append, List.length_map, List.length_replicate, List.length_cons, List.length_cons, List.length_append, List.length_map, List.length_replicate]
    omega
  · obtain ⟨_, rfl⟩ := hb
    refine ⟨by unfold erase; rw [if_pos rfl], fa, by rw [ha]; exact fun z => by cases z⟩
  · cases i with
    | zero =>
      cases hi
      exact ⟨.ref a, rfl, a, vs0, xs0, rfl, rfl, ⟨rfl, rfl⟩, rfl, ha, reps_ix h0⟩
    | succ i =>
      rw [List.getElem?_cons_succ] at hi
      have hil : i < ds.length := by
        refine Decidable.byContradiction fun q => ?_
        rw [List.getElem?_append_right (by rw [List.length_map]; omega), List.getElem?_replicate] at hi
        split at hi <;> cases hi
      rw [List.getElem?_append_left (by rw [List.length_map]; exact hil), List.getElem?_map] at hi
      cases q : ds[i]? with
      | none => rw [q] at hi; cases hi
      | some d' =>
        rw [q] at hi
        cases hi
        obtain ⟨v, hv, rv⟩ := hr.getD q
        refine ⟨v, ?_, Rep.px (c := c) (c' := cIX c a) rfl rfl (fun _ _ h => h) rv⟩
        unfold L2.start
        rw [List.map_cons, List.cons_append, List.getElem?_cons_succ, List.getElem?_append_left (by rw [List.length_map, hl]; exact hil), List.getElem?_map, hv]
        rfl
theorem fnIO_ok {P : Program} {w : World} {K : PySem.W.Frag} {mg : Str → Option Value} {base : Heap} {c : Ct} {x qual : Str} {st : Stmt} {f : Addr} {fd : FuncData} {N ps : List Str} {k n : Nat} {body : XS} (Fn : Fun K x qual st f fd) (S : FnScope N ps (defScope st)) (hp : ps.length ≤ N.length) (hn : ps.length = n + 1)
    (hb : ∀ (cdv : Value) (A : Around) (outer : List Env) (s : Shared) (H : Hp) (E : XK) (F : Hp) (a : Addr), Room k (A.deeper (envOfC qual (defScope st) s.heap.objs.size f cdv)) → SSs (jIO P w K mg base c N qual (defScope st) f cdv A outer s H E F a) (defBody st) body) :
    FnOk P w K mg base (L2.CX P w) (k + 1) f fd ps (spIO c (xFunIO n N.length body)) := by
  refine Fn.okX S (fun vs H Q E h => ?_) (fun cdv A outer s H vs Q E hr h => ?_)
  · obtain ⟨F0, a, vs0, xs0, us, ds, d, ys, rfl, e, fa, ha, r0, r1, hF, hQ⟩ := h
    unfold xFunIO at hF
    by_cases q : ds.length = n
    · rw [List.length_cons, r1.length, q, hn]
    · rw [if_neg q] at hF
      cases hF
  · obtain ⟨F0, a, vs0, xs0, us, ds, d, ys, rfl, e, fa, ha, r0, r1, hF, hQ⟩ := h
    unfold xFunIO at hF
    by_cases q : ds.length = n
    · rw [if_pos q] at hF
      refine ⟨_, hb cdv A outer s H E F0 a hr, F0, _, si_startIO e fa ha r0 r1 q (by omega), ?_⟩
      cases hbo : body (some (.io, .lst xs0) :: (ds.map (fun d => some (Ow.sh, d)) ++ List.replicate (N.length - (n + 1)) none)) with
      | rete d' env' =>
        rw [hbo] at hF
        have key := ioRes_ok (show ioRes d' (env'[0]?) = .ok (d, ys) from hF)
        intro F' H' sg' u e' s' ru
        obtain ⟨h0, rfl⟩ := key
        obtain ⟨S2, s1, s2, s3⟩ := s'.own
        obtain ⟨v, h1, a2, vs1, ys', e1, e2, sa, hi, ha2, rr⟩ := s3 0 _ _ h0
        cases e2
        have ea : a2 = a := hi
        subst ea
        exact hQ F' H' vs1 u s'.wd (s2 0 _ sa).2.1 ha2 (reps_ix' rr) (rep_ix' ru)
      | _ => rw [hbo] at hF; cases hF
    · rw [if_neg q] at hF
      cases hF
structure GfIO (P : Program) (w : World) (K : PySem.W.Frag) (mg : Str → Option Value) (base : Heap) (c : Ct) (nm : Str) (k : Nat) (ps : List Str) (F : XIO) : Prop where
  ex : ∃ f fd, FnOk P w K mg base (L2.CX P w) k f fd ps (spIO c F) ∧ mg nm = some (.ref f) ∧ PySem.W.keepIn K (.ref f) = true ∧ Binds K fd ps []
/-- another def, called by such a def -/
theorem Gf.ix {P : Program} {w : World} {K : PySem.W.Frag} {mg : Str → Option Value} {base : Heap} {c : Ct} {nm : Str} {k : Nat} {ps : List Str} {F : XF} {a : Addr} (hix : ∀ b, ¬ c.ix b) (g : Gf P w K mg base c nm k ps F) : Gf P w K mg base (cIX c a) nm k ps F := by
  obtain ⟨f, fd, G, m, kp, b⟩ := g.ex
  have sp : ∀ vs H Q E, spOf (cIX c a) F vs H Q E → spOf c F vs H Q E := fun vs H Q E ⟨F0, ds, e, r, h⟩ => ⟨F0, ds, e, reps_ix' r, by
    cases hF : F ds with
    | ok v =>
      rw [hF] at h
      intro F' H' u w rv
      obtain ⟨S, o, k⟩ := rv
      exact h F' H' u w ⟨S, Own.px (c := c) (c' := cIX c a) rfl rfl (fun _ _ h => h) (fun b hb => absurd hb (hix b)) o, k⟩
    | exc n => rw [hF] at h; exact h
    | bad => rw [hF] at h; exact h⟩
  exact ⟨f, fd, ⟨fun vs H Q E h => G.len vs H Q E (sp vs H Q E h), fun A outer s H args us vs Q E r0 e0 hb r h => G.run A outer s H args us vs Q E r0 e0 hb r (sp vs H Q E h)⟩, m, kp, b⟩
/-! ### if t or not f(xs, ..): .. -/
theorem Si.io {c : Ct} {F0 H0 F H F' H' : Hp} {sg : L2.St} {env : XEnv} {i : Nat} {a : Addr} {xs ys : List D} {vs1 : List V} (s : Si c F0 H0 F H sg env) (he : env[i]? = some (some (.li .sh, .lst xs))) (hs : sg[i]? = some (some (.ref a)))
    (wd : Wd F (erase H a) F' H') (fa' : F' a = none) (ha' : H' a = some (.lst vs1)) (hr : Reps c F' vs1 ys) : Si c F0 H0 F' H' sg (env.set i (some (.li .sh, .lst ys))) := by
  obtain ⟨S, s1, s2, s3⟩ := s.own
  obtain ⟨v, h1, a2, vs, zs, e1, e2, sa, ha, hl, T, t1, t2, t3⟩ := s3 i _ _ he
  subst e1
  cases e2
  rw [hs] at h1
  cases h1
  have fa := s2 i a sa
  have keep : ∀ b o, b ≠ a → H b = some o → H' b = some o := fun b o nb hb => wd.h b o (by unfold erase; rw [if_neg nb]; exact hb)
  have fresh : ∀ b, F b = none → F' b ≠ none → b = a ∨ H b = none := fun b h1 h2 => by
    have := wd.n b h1 h2
    unfold erase at this
    by_cases q : b = a
    · exact .inl q
    · rw [if_neg q] at this
      exact .inr this
  refine ⟨⟨s.wd.f.trans wd.f, wd.fh, fun b o hb => ?_, fun b h1 h2 => ?_⟩, by rw [List.length_set]; exact s.len, fun j b => if j = i then b = a else S j b, fun j k b hj hk => ?_, fun j b hj => ?_, fun j o d hjd => ?_⟩
  · have nb : b ≠ a := fun z => by rw [z, fa.1] at hb; cases hb
    exact keep b o nb (s.wd.h b o hb)
  · cases q : F b with
    | some o => exact s.wd.n b h1 (by rw [q]; exact fun z => by cases z)
    | none =>
      rcases fresh b q h2 with rfl | hn
      · exact fa.1
      · exact Evl.fresh_back s.wd.h hn
  · by_cases q1 : j = i
    · by_cases q2 : k = i
      · rw [q1, q2]
      · simp only [if_pos q1] at hj
        simp only [if_neg q2] at hk
        subst hj
        exact absurd (s1 k i _ hk sa) q2
    · by_cases q2 : k = i
      · simp only [if_neg q1] at hj
        simp only [if_pos q2] at hk
        subst hk
        exact absurd (s1 j i _ hj sa) q1
      · simp only [if_neg q1] at hj
        simp only [if_neg q2] at hk
        exact s1 j k b hj hk
  · by_cases q : j = i
    · simp only [if_pos q] at hj
      subst hj
      exact ⟨fa.1, fa', by rw [ha']; exact fun z => by cases z⟩
    · simp only [if_neg q] at hj
      have nb : b ≠ a := fun z => q (s1 j i b hj (by rw [z]; exact sa))
      have k := s2 j b hj
      refine ⟨k.1, ?_, ?_⟩
      · cases z : F' b with
        | none => rfl
        | some o =>
          rcases fresh b k.2.1 (by rw [z]; exact fun y => by cases y) with y | y
          · exact absurd y nb
          · exact absurd y k.2.2
      · cases z : H b with
        | none => exact absurd z k.2.2
        | some o => rw [keep b o nb z]; exact fun y => by cases y
  · by_cases q : j = i
    · subst q
      have hlj : j < env.length := (List.getElem?_eq_some_iff.mp he).1
      rw [List.getElem?_set_self hlj] at hjd
      cases hjd
      refine ⟨.ref a, hs, ?_⟩
      simp only [if_pos]
      exact ⟨a, vs1, ys, rfl, rfl, rfl, ha', hr.length, fun _ _ => False, fun _ _ z => z.elim, fun _ _ _ z => z.elim, fun k u x hu hx => by
        obtain ⟨d2, h2, h3⟩ := hr.get hu
        rw [hx] at h2
        cases h2
        exact h3⟩
    · rw [List.getElem?_set_ne (Ne.symm q)] at hjd
      obtain ⟨v, h4, h5⟩ := s3 j o d hjd
      refine ⟨v, h4, ?_⟩
      simp only [if_neg q]
      refine h5.frame wd.f (fun b hb => ?_) fun b hb => ?_
      · have nb : b ≠ a := fun z => q (s1 j i b hb (by rw [z]; exact sa))
        cases z : H b with
        | none => exact absurd z (s2 j b hb).2.2
        | some o => exact keep b o nb z
      · have nb : b ≠ a := fun z => q (s1 j i b hb (by rw [z]; exact sa))
        cases z : F' b with
        | none => rfl
        | some o =>
          rcases fresh b (s2 j b hb).2.1 (by rw [z]; exact fun y => by cases y) with y | y
          · exact absurd y nb
          · exact absurd y (s2 j b hb).2.2
def xIfIO (ta : XB) (i : Nat) (F : XIO) (fs : XA) (th : XS) : XS := fun env => match ta env with
  | .ok b => if b = true then th env else match env[i]? with
    | some (some (.li .sh, .lst xs)) => match fs env with
      | .ok ds => match F xs ds with
        | .ok (.bl r, ys) => if r = true then .next (env.set i (some (.li .sh, .lst ys))) else th (env.set i (some (.li .sh, .lst ys)))
        | _ => .bad
      | _ => .bad
    | _ => .bad
  | .exc n => .exc n env
  | .bad => .bad
section
variable {J : Jx}
theorem ss_ifIO {a : Expr} {es : List Expr} {ta : XB} {fs : XA} {F : XIO} {th : List Stmt} {gth : XS} {nm x : Str} {k : Nat} {ps : List Str} {p p2 bp np cpos pos : Pos} (i : Nat) (g : GfIO J.X.prog J.X.w J.X.K J.X.mg J.X.base J.c nm k ps F) (hr : Room k J.X.A) (tk : Takes J.X J.W) (hx : Gl J.X nm)
    (ha : SB J a ta) (has : SA J es fs) (hth : SSs J th gth) (hN : J.X.N[i]? = some x := by rfl) (hv : Vis J.X.env.scope x := by first | exact Or.inl rfl | exact Or.inr (Or.inl rfl) | exact Or.inr (Or.inr rfl)) (hd : (x == ("__debug__" : Str)) = false := by decide) (hcd : (x == ("__classdict__" : Str)) = false := by decide)
    (hdb : (nm == ("__debug__" : Str)) = false := by decide) (he : starEach (.Name x p2 :: es) J.X.env = (false, eval (.Name x p2) J.X.env) :: starEach es J.X.env := by rfl) (hpl : (backTo cpos (starEach es J.X.env)).any (·.1) = false := by rfl)
    (hT : ∀ whole, isTrue (.Call (.Name nm p) (.Name x p2 :: es) [] cpos) J.X.env whole = (do let v ← whole; standAt (Expr.Call (.Name nm p) (.Name x p2 :: es) [] cpos).pos; holding [v] (truthy v)) := by intro _; rfl) :
    SS J (.If (.BoolOp .Or [a, .UnaryOp .Not (.Call (.Name nm p) (.Name x p2 :: es) [] cpos) np] bp) th [] pos) (xIfIO ta i F fs gth) := by
  obtain ⟨f, fd, G, m, kp, b⟩ := g.ex
  have call := pe_callS (p := p) G hr hx m kp b (fun s => passAt tk s) (pa_cons (pe_var hN hv hd hcd) has he) hdb he hpl
  refine (ps_if (PW.pt (pw_or ha (pw_or1 (pt_not (pt_val call hT))))) hth pss_nil).imp fun D sg H ⟨F1, env, si, hq⟩ => ?_
  refine ⟨F1, env, si, ?_⟩
  refine aftS_bindB (k := fun b => if b = true then gth env else match env[i]? with
    | some (some (.li .sh, .lst xs)) => match fs env with
      | .ok ds => match F xs ds with
        | .ok (.bl r, ys) => if r = true then .next (env.set i (some (.li .sh, .lst ys))) else gth (env.set i (some (.li .sh, .lst ys)))
        | _ => .bad
      | _ => .bad
    | _ => .bad) si hq fun F2 H2 b w hk => ?_
  have si2 := si.grow w
  cases b with
  | true => exact iteT (iteT ⟨F2, env, si2, AftS.grow w.f hk⟩)
  | false =>
    refine iteF ?_
    replace hk : AftS J.c J.W J.F0 J.H0 F1 D (match env[i]? with
      | some (some (.li .sh, .lst xs)) => match fs env with
        | .ok ds => match F xs ds with
          | .ok (.bl r, ys) => if r = true then .next (env.set i (some (.li .sh, .lst ys))) else gth (env.set i (some (.li .sh, .lst ys)))
          | _ => .bad
        | _ => .bad
      | _ => .bad) := hk
    refine ownL hk fun xs hxs hk => ?_
    obtain ⟨a2, vs2, h2, ha2, hr2, _⟩ := Si.mut (ys := []) si2 hxs
    refine ⟨.ref a2, h2, F2, env, si2, ?_⟩
    cases hfs : fs env with
    | bad => rw [hfs] at hk; exact (show False from hk).elim
    | exc n => rw [hfs] at hk; exact (show False from hk).elim
    | ok ds =>
      rw [hfs] at hk
      replace hk : AftS J.c J.W J.F0 J.H0 F1 D (match F xs ds with
        | .ok (.bl r, ys) => if r = true then .next (env.set i (some (.li .sh, .lst ys))) else gth (env.set i (some (.li .sh, .lst ys)))
        | _ => .bad) := hk
      intro F3 H3 us w3 r3
      have si3 := si2.grow w3
      obtain ⟨a3, vs3, h3, ha3, hr3, _⟩ := Si.mut (ys := []) si3 hxs
      rw [h2] at h3
      cases h3
      have fa3 : F3 a2 = none := by
        obtain ⟨S, s1, s2, s3⟩ := si3.own
        obtain ⟨v, q1, a4, vs4, zs, e1, e2, sa, _⟩ := s3 i _ _ hxs
        rw [h2] at q1
        cases q1
        cases e1
        exact (s2 i _ sa).2.1
      cases hF : F xs ds with
      | bad => rw [hF] at hk; exact (show False from hk).elim
      | exc n => rw [hF] at hk; exact (show False from hk).elim
      | ok r =>
        obtain ⟨d, ys⟩ := r
        rw [hF] at hk
        cases d with
        | bl r =>
          refine ⟨F3, a2, vs3, xs, us, ds, .bl r, ys, rfl, w3.fh, fa3, ha3, hr3, r3, hF, fun F' H' vs1 u wd fa' ha' hr' ru => ?_⟩
          cases ru
          have si4 := si3.io hxs h2 wd fa' ha' hr'
          refine ⟨r, rfl, ?_⟩
          replace hk : AftS J.c J.W J.F0 J.H0 F1 D (if r = true then .next (env.set i (some (.li .sh, .lst ys))) else gth (env.set i (some (.li .sh, .lst ys)))) := hk
          have eF : Ex F1 F' := w.f.trans (w3.f.trans wd.f)
          cases r with
          | true =>
            refine iteF ?_
            have hk : AftS J.c J.W J.F0 J.H0 F1 D (.next (env.set i (some (.li .sh, .lst ys)))) := hk
            exact hk F' H' sg eF si4
          | false =>
            refine iteT ?_
            exact ⟨F', _, si4, AftS.grow eF hk⟩
        | _ => exact (show False from hk).elim
end
end Bk
set_option Elab.async false
set_option linter.all false
set_option maxRecDepth 100000
set_option maxHeartbeats 4000000
/-! BkY: the head's facts with a check of one's own. -/
namespace Bk
open PySem L2 PySem.Spec PyProof.Rows
abbrev AlX : Type := Bool × He.Al
def obsX (n : Nat) (fa : List He.Fa) (fn : List He.FnD) (ex : PySem.W.Frag → Bool) (g : Addr → Option Obj) : AlX := (ex (He.frG g (He.asG g n)), He.obsE fa fn (He.frG g (He.asG g n)))
def hookX (n : Nat) (fa : List He.Fa) (fn : List He.FnD) (ex : PySem.W.Frag → Bool) : PySem.W.Hook where
  α := AlX
  obs := fun s => obsX n fa fn ex s.heap.get?
  val := fun _ => (true, He.valE fn)
  says := fun _ h => ∃ K : PySem.W.Frag, K.In h ∧ He.SaysE fa fn K ∧ ex K = true
  of := fun _ _ e => ⟨_, He.frG_in, congrArg (fun z : AlX => z.2) e, congrArg (fun z : AlX => z.1) e⟩
  keeps := fun _ _ _ ⟨K, hK, c⟩ k => ⟨K, PySem.W.Frag.In.keeps hK k, c⟩
theorem obsX_eq {n : Nat} {fa : List He.Fa} {fn : List He.FnD} {ex : PySem.W.Frag → Bool} {g : Addr → Option Obj} {s : Shared} (h : ∀ a, g a = s.heap.get? a) : obsX n fa fn ex g = (hookX n fa fn ex).obs s := by
  have e : g = s.heap.get? := funext h
  rw [e] <;> rfl
/-- what isinstance of the first n error classes answers -/
def excChk (n : Nat) (ea : PySem.W.Frag → Nat → Addr) (K : PySem.W.Frag) : Bool := (List.range n).all fun k =>
  He.eqO (PySem.W.findIn K (.ref (ea K k)) "__getattribute__") (some (some (.builtin "BaseException.__getattribute__"))) && (He.eqO (PySem.W.findIn K (.ref (ea K k)) "__getattr__") (some none) && (
  decide (PySem.W.subIn K (.ref (ea K k)) (.type "BaseException") = some true) && (PySem.W.hasDictIn K (ea K k) && (He.eqO (PySem.W.findIn K (.ref (ea K k)) "__class__") (some (some (.builtin "object.__class__"))) && (
  He.eqO (PySem.W.specialIn K (.builtin "object.__class__") "__get__") (some (some (.builtin "getset_descriptor.__get__"))) && (decide (PySem.W.takesIn K (.builtin "object.__class__") = some true) && (decide (PySem.W.mroIn K (ea K k) (.type "object") = some true) && (
  decide (PySem.W.kitOne K (.ref (ea K k)) (.type "ValueError") = some true) && (List.range n).all fun m => decide (PySem.W.kitOne K (.ref (ea K k)) (.ref (ea K m)) = some (k == m))))))))))
theorem excIs_of {n : Nat} {ea : PySem.W.Frag → Nat → Addr} {K : PySem.W.Frag} {c : Ct} (he : c.ea = ea K) (h : excChk n ea K = true) : ExcIsOk K c n := by
  have all : ∀ k, k < n → _ := fun k hk => List.all_eq_true.mp h k (List.mem_range.mpr hk)
  refine ⟨fun k hk => ?_, fun k m hk hm => ?_, fun k hk => ?_⟩
  all_goals
    have q := all k hk
    obtain ⟨q1, q⟩ := He.ba q
    obtain ⟨q2, q⟩ := He.ba q
    obtain ⟨q3, q⟩ := He.ba q
    obtain ⟨q4, q⟩ := He.ba q
    obtain ⟨q5, q⟩ := He.ba q
    obtain ⟨q6, q⟩ := He.ba q
    obtain ⟨q7, q⟩ := He.ba q
    obtain ⟨q8, q⟩ := He.ba q
    obtain ⟨q9, q10⟩ := He.ba q
    rw [he]
  · exact ⟨He.eqO_ok q1, He.eqO_ok q2, of_decide_eq_true q3, q4, He.eqO_ok q5, He.eqO_ok q6, of_decide_eq_true q7, of_decide_eq_true q8⟩
  · exact of_decide_eq_true (List.all_eq_true.mp q10 m (List.mem_range.mpr hm))
  · exact of_decide_eq_true q9
end Bk
set_option Elab.async false
set_option linter.all false
set_option maxRecDepth 100000
set_option maxHeartbeats 4000000
/-! BkZ: BkW's combinators as equations. -/
namespace Bk
open PySem L2
def kTryE (pk : Nat → Option Bool) (i : Nat) (hd : XS) : Out → Out
  | .exc k e => match pk k with
    | some true => scRet (hd (e.set i (some (.sh, .exn k))))
    | some false => .exc k e
    | none => .bad
  | o => o
def kWord : Res Val → Res Val
  | .ok ⟨.sh, false, .str z⟩ => .ok (.sh (.str z))
  | _ => .bad
def kCallX (n : Nat) (F : XF) (a : Val) : Res Val := match a.d with
  | .exn m => if m < n then kWord (F [.exn m]) else .bad
  | _ => .bad
section
variable (pk : Nat → Option Bool) (i n k : Nat) (bd hd : XS) (env : XEnv) (F : XF) (f : XE) (o : Ow) (b : Bool) (z : Str) (fs : XA) (d e : D)
@[simp] theorem e_TryE : xTryE pk i bd hd env = kTryE pk i hd (bd env) := by
  unfold xTryE
  cases bd env <;> rfl
@[simp] theorem kTryE_next : kTryE pk i hd (.next env) = .next env := rfl
@[simp] theorem kTryE_ret (r : Val) : kTryE pk i hd (.ret r) = .ret r := rfl
theorem kTryE_exc (h : pk k = some true) : kTryE pk i hd (.exc k env) = scRet (hd (env.set i (some (.sh, .exn k)))) := by
  show (match pk k with
    | some true => scRet (hd (env.set i (some (.sh, .exn k))))
    | some false => .exc k env
    | none => .bad) = _
  rw [h]
@[simp] theorem scRet_str : scRet (.ret ⟨.sh, false, .str z⟩) = .ret ⟨.sh, false, .str z⟩ := rfl
@[simp] theorem scRet_wl : scRet (.ret ⟨.sh, false, .tup [.str z, .lst []]⟩) = .ret ⟨.sh, false, .tup [.str z, .lst []]⟩ := rfl
@[simp] theorem scRet_bl (q : Bool) : scRet (.ret ⟨.sh, false, .bl q⟩) = .ret ⟨.sh, false, .bl q⟩ := rfl
@[simp] theorem e_CallX : xCallX n F f env = (f env).bind (kCallX n F) := by
  unfold xCallX
  cases f env with
  | ok a =>
    obtain ⟨o, b, d⟩ := a
    cases d <;> rfl
  | _ => rfl
@[simp] theorem kCallX_exn : kCallX n F ⟨o, b, .exn k⟩ = if k < n then kWord (F [.exn k]) else .bad := rfl
@[simp] theorem kWord_str : kWord (.ok ⟨.sh, false, .str z⟩) = .ok (.sh (.str z)) := rfl
def kPar (i j : Nat) (env : XEnv) : Res (List D) → Out
  | .ok [d, e] => .next ((env.set i (some (.sh, d))).set j (some (.sh, e)))
  | .ok _ => .bad
  | .exc n => .exc n env
  | .bad => .bad
@[simp] theorem e_Par (j : Nat) : xPar i j fs env = kPar i j env (fs env) := rfl
@[simp] theorem kPar_ok (j : Nat) : kPar i j env (.ok [d, e]) = .next ((env.set i (some (.sh, d))).set j (some (.sh, e))) := rfl
end
theorem p_EqNil {xs : List D} {o o2 : Ow} {b b2 : Bool} (h : xs.all (D.fine 5) = true) : pEq ⟨o, b, .lst xs⟩ ⟨o2, b2, .lst []⟩ = .ok (.sh (.bl xs.isEmpty)) := by
  rw [p_EqLL, fine_l, fine_l, h]
  cases xs <;> rfl
theorem p_NeNil {xs : List D} {o o2 : Ow} {b b2 : Bool} (h : xs.all (D.fine 5) = true) : pNe ⟨o, b, .lst xs⟩ ⟨o2, b2, .lst []⟩ = .ok (.sh (.bl (!xs.isEmpty))) := by
  rw [p_NeLL, fine_l, fine_l, h]
  cases xs <;> rfl
@[simp] theorem e_IRevR (f : XE) (env : XEnv) : xIRevR f env = (f env).bind fun a => match a.d with
  | .int n => if n ≤ 100000 ∧ -100000 ≤ n then .ok (rangeD n).reverse else .bad
  | _ => .bad := rfl
@[simp] theorem e_ListR (f : XE) (env : XEnv) : xListR f env = (f env).bind fun a => match a.d with
  | .int n => if n ≤ 100000 ∧ -100000 ≤ n then .ok ⟨.li .sh, false, .lst (rangeD n)⟩ else .bad
  | _ => .bad := rfl
def kTry (pk : Nat → Option Bool) (hd : XS) : Out → Out
  | .exc k e => match pk k with
    | some true => noExc (hd e)
    | some false => .exc k e
    | none => .bad
  | o => o
@[simp] theorem e_Try (pk : Nat → Option Bool) (bd hd : XS) (env : XEnv) : xTry pk bd hd env = kTry pk hd (bd env) := by
  unfold xTry
  cases bd env <;> rfl
@[simp] theorem kTry_next (pk : Nat → Option Bool) (hd : XS) (env : XEnv) : kTry pk hd (.next env) = .next env := rfl
theorem kTry_exc (pk : Nat → Option Bool) (hd : XS) (k : Nat) (env : XEnv) (h : pk k = some true) : kTry pk hd (.exc k env) = noExc (hd env) := by
  show (match pk k with
    | some true => noExc (hd env)
    | some false => .exc k env
    | none => .bad) = _
  rw [h]
@[simp] theorem noExc_ret (r : Val) : noExc (.ret r) = .ret r := rfl
@[simp] theorem noExc_next (env : XEnv) : noExc (.next env) = .next env := rfl
mutual
theorem eqvL_refl (n : Nat) : ∀ xs : List D, xs.all (D.fine n) = true → eqvL (D.eqv n) xs xs = true
  | [], _ => rfl
  | x :: xs, h => by
    rw [List.all_cons, Bool.and_eq_true] at h
    rw [eqvL_cons, eqv_refl n x h.1, eqvL_refl n xs h.2]
    rfl
theorem eqv_refl : ∀ (n : Nat) (d : D), d.fine n = true → D.eqv n d d = true
  | n, .non, _ => by simp
  | n, .bl b, _ => by simp
  | n, .int i, _ => by simp
  | n, .str x, _ => by simp
  | n + 1, .lst xs, h => eqvL_refl n xs h
  | n + 1, .tup xs, h => eqvL_refl n xs h
  | 0, .lst xs, h => by simp [D.fine] at h
  | 0, .tup xs, h => by simp [D.fine] at h
  | n, .obj xs, h => by cases n <;> simp [D.fine] at h
  | n, .dic ks xs, h => by cases n <;> simp [D.fine] at h
  | n, .fz xs, h => by cases n <;> simp [D.fine] at h
  | n, .exn k, h => by cases n <;> simp [D.fine] at h
end
theorem p_NeSelf {xs : List D} {o o2 : Ow} {b b2 : Bool} (h : xs.all (D.fine 5) = true) : pNe ⟨o, b, .lst xs⟩ ⟨o2, b2, .lst xs⟩ = .ok (.sh (.bl false)) := by
  rw [p_NeLL, fine_l, h, eqv_ll, eqvL_refl 5 xs h]
  rfl
theorem p_EqSelf {xs : List D} {o o2 : Ow} {b b2 : Bool} (h : xs.all (D.fine 5) = true) : pEq ⟨o, b, .lst xs⟩ ⟨o2, b2, .lst xs⟩ = .ok (.sh (.bl true)) := by
  rw [p_EqLL, fine_l, h, eqv_ll, eqvL_refl 5 xs h]
  rfl
theorem cut_nat {α : Type} (xs : List α) (k : Nat) : cut xs none (some (k : Int)) = xs.take k := by
  unfold cut
  have e1 : HT.sIx xs.length 0 none = 0 := rfl
  rw [e1, HT.sIx_nat, List.drop_zero, Nat.sub_zero]
  rcases Nat.le_total k xs.length with h | h
  · rw [Nat.min_eq_left h]
  · rw [Nat.min_eq_right h, List.take_of_length_le h, List.take_of_length_le (Nat.le_refl _)]
@[simp] theorem e_Pop (i : Nat) (env : XEnv) : xPop i env = match env[i]? with
  | some (some (.li .sh, .lst xs)) => if xs = [] then .bad else .next (env.set i (some (.li .sh, .lst xs.dropLast)))
  | _ => .bad := rfl
/-! ### a list written into by a def -/
def kRetE (env : XEnv) : Res Val → Out
  | .ok a => if a.d.isSc = true then .rete a.d env else .bad
  | .exc n => .exc n env
  | .bad => .bad
@[simp] theorem e_RetE (f : XE) (env : XEnv) : xRetE f env = kRetE env (f env) := rfl
@[simp] theorem kRetE_bl (env : XEnv) (o : Ow) (b p : Bool) : kRetE env (.ok ⟨o, b, .bl p⟩) = .rete (.bl p) env := rfl
@[simp] theorem then_rete (d : D) (env : XEnv) (t : XS) : (Out.rete d env).andThen t = .rete d env := rfl
@[simp] theorem e_SetIO (i : Nat) (k f : XE) (env : XEnv) : xSetIO i k f env = match env[i]? with
  | some (some (.io, .lst xs)) => match f env with
    | .ok a => if a.b = true then .bad else match k env with
      | .ok k => match k.d with
        | .int n => match ixN xs.length n with
          | some j => .next (env.set i (some (.io, .lst (xs.set j a.d))))
          | none => .bad
        | _ => .bad
      | .exc n => .exc n env
      | .bad => .bad
    | .exc n => .exc n env
    | .bad => .bad
  | _ => .bad := rfl
def kFunIO : Out → Res (D × List D)
  | .rete d env => ioRes d (env[0]?)
  | _ => .bad
@[simp] theorem e_FunIO (n N : Nat) (body : XS) (xs ds : List D) : xFunIO n N body xs ds = if ds.length = n then kFunIO (body (some (.io, .lst xs) :: (ds.map (fun d => some (Ow.sh, d)) ++ List.replicate (N - (n + 1)) none))) else .bad := rfl
@[simp] theorem kFunIO_rete (d : D) (ys : List D) (r : XEnv) : kFunIO (.rete d (some (.io, .lst ys) :: r)) = .ok (d, ys) := rfl
def kIfIO (i : Nat) (F : XIO) (fs : XA) (th : XS) (env : XEnv) : Res Bool → Out
  | .ok b => if b = true then th env else match env[i]? with
    | some (some (.li .sh, .lst xs)) => match fs env with
      | .ok ds => match F xs ds with
        | .ok (.bl r, ys) => if r = true then .next (env.set i (some (.li .sh, .lst ys))) else th (env.set i (some (.li .sh, .lst ys)))
        | _ => .bad
      | _ => .bad
    | _ => .bad
  | .exc n => .exc n env
  | .bad => .bad
@[simp] theorem e_IfIO (ta : XB) (i : Nat) (F : XIO) (fs : XA) (th : XS) (env : XEnv) : xIfIO ta i F fs th env = kIfIO i F fs th env (ta env) := rfl
@[simp] theorem kIfIO_f (i : Nat) (F : XIO) (fs : XA) (th : XS) (env : XEnv) : kIfIO i F fs th env (.ok false) = match env[i]? with
    | some (some (.li .sh, .lst xs)) => match fs env with
      | .ok ds => match F xs ds with
        | .ok (.bl r, ys) => if r = true then .next (env.set i (some (.li .sh, .lst ys))) else th (env.set i (some (.li .sh, .lst ys)))
        | _ => .bad
      | _ => .bad
    | _ => .bad := rfl
theorem for_io {tg : Tg} {bd t : XS} {α : Type} {ds : List D} {env : XEnv} {enc : α → D} {R : Res (D × List D)} (xs : List α) (P : Nat → XEnv → Prop) (hd : ds = xs.map enc) (h0 : P 0 env)
    (hs : ∀ i x env, xs[i]? = some x → P i env → ∃ e2, stepO tg bd (enc x) env = .next e2 ∧ P (i + 1) e2) (ht : ∀ e2, P xs.length e2 → kFunIO (t e2) = R) : kFunIO ((forGo tg bd ds env).andThen t) = R := by
  obtain ⟨e2, h1, h2⟩ := for_nx xs P hd h0 hs
  rw [h1]
  exact ht e2 h2
end Bk
set_option Elab.async false
set_option linter.all false
set_option maxRecDepth 100000
set_option maxHeartbeats 4000000
/-! BkS: texts: split, join, signs, str(n), int(text). -/
namespace Bk
open PySem L2 PySem.Spec PyProof.Rows
def xM1 (g : Str → Val → Res Val) (f h : XE) : XE := fun env => (f env).bind fun a => match a.d with
  | .str x => (h env).bind (g x)
  | _ => .bad
def M1 (c : Ct) (r : V → List V → Hp → VK → Prop) (g : Str → Val → Res Val) : Prop := ∀ (W : WX) sg F H x y b Q, Ex F H → Rw c F H y b → Aft c W sg F H Q (g x b) → r (.str x) [y] H Q
section
variable {J : Jx} {c : Ct} {W : WX} {F0 H0 : Hp} {X : Cx} {pos : Pos} {a b e o tg : Expr} {f h : XE} {g : Str → Val → Res Val} {r : V → List V → Hp → VK → Prop}
theorem tX_m1 (hg : M1 c r g) {sg : L2.St} {H : Hp} {Q : VK} (hq : tX c W F0 H0 (xM1 g f h) sg H Q) : tM1 r (tX c W F0 H0 f) (tX c W F0 H0 h) sg H Q := by
  obtain ⟨F, env, si, hq⟩ := hq
  refine ⟨F, env, si, (aft_bind hq).mono fun x H1 ⟨F1, va, w1, r1, hq1⟩ => ?_⟩
  have rr := r1.rep w1.fh
  obtain ⟨oa, ba, da⟩ := va
  cases da with
  | str z =>
    cases rr
    refine ⟨⟨_, rfl⟩, F1, env, si.grow w1, (aft_bind (show Aft c W sg F1 H1 Q ((h env).bind (g z)) from hq1)).mono fun y H2 ⟨F2, vb, w2, r2, hq2⟩ => ?_⟩
    exact hg W sg F2 H2 z y vb Q w2.fh r2.rw hq2
  | _ => exact (show False from hq1).elim
def gSplit (x : Str) (b : Val) : Res Val := match b.d with
  | .str y => if (y.length == 0) = false ∧ x.length ≤ 99998 then .ok ⟨.li .sh, false, .lst ((Txt.split x y).map .str)⟩ else .bad
  | _ => .bad
theorem reps_strs {c : Ct} {F : Hp} : ∀ ys : List Str, Reps c F (ys.map V.str) (ys.map D.str)
  | [] => .nil
  | y :: ys => .cons .str (reps_strs ys)
theorem m1_split : M1 c (fun x xs H Q => ∃ a b, x = .str a ∧ xs = [.str b] ∧ (b.length == 0) = false ∧ a.length + 2 ≤ sizeLine ∧ rNewStrs (Txt.split a b) H Q) gSplit := by
  intro W sg F H x y b Q e rb h
  obtain ⟨ob, bb, db⟩ := b
  have rr := rb.rep e
  cases db with
  | str z =>
    cases rr
    replace h : Aft c W sg F H Q (if (z.length == 0) = false ∧ x.length ≤ 99998 then .ok ⟨.li .sh, false, .lst ((Txt.split x z).map .str)⟩ else .bad) := h
    by_cases q : (z.length == 0) = false ∧ x.length ≤ 99998
    · rw [if_pos q] at h
      refine ⟨x, z, rfl, rfl, q.1, ?_, fun p hp => Aft.newL e hp (reps_strs _) h⟩
      have := q.2
      have hz : 100000 ≤ sizeLine := by decide
      omega
    · rw [if_neg q] at h
      exact h.elim
  | _ => exact (show False from h).elim
theorem se_split {apos : Pos} (ho : SE J o f) (he : SE J e h) (hs : starEach [e] J.X.env = [(false, eval e J.X.env)] := by rfl) (hbase : attributeBase o "split" J.X.env (eval o J.X.env) = eval o J.X.env := by rfl) (hline : (apos.endLine == pos.line) = true := by rfl) :
    SE J (.Call (.Attribute o "split" apos) [e] [] pos) (xM1 gSplit f h) := (pe_split ho he hs hbase hline).imp fun _ _ _ q => tX_m1 m1_split q
def D.strs : List D → Option (List Str)
  | [] => some []
  | .str i :: r => (D.strs r).map (i :: ·)
  | _ => none
theorem strs_reps {c : Ct} {F : Hp} : ∀ {vs : List V} {xs : List D} {ns : List Str}, Reps c F vs xs → D.strs xs = some ns → vs = ns.map V.str
  | _, _, ns, .nil, h => by
    cases Option.some.inj h
    rfl
  | _, _, ns, .cons (d := d) h r, e => by
    cases h with
    | @str i =>
      rw [D.strs] at e
      rename_i vs ds
      cases q : D.strs ds with
      | none =>
        rw [q] at e
        cases e
      | some ms =>
        rw [q] at e
        cases Option.some.inj e
        rw [strs_reps r q]
        rfl
    | _ => cases e
theorem strs_map (ys : List Str) : D.strs (ys.map .str) = some ys := by
  induction ys with
  | nil => rfl
  | cons y ys ih =>
    rw [List.map_cons, D.strs, ih]
    rfl
def gJoin (x : Str) (b : Val) : Res Val := match b.its with
  | some xs => match D.strs xs with
    | some ys => if (ys.map (·.length)).sum + ys.length * x.length ≤ 100000 then .ok (.sh (.str (Txt.join x ys))) else .bad
    | none => .bad
  | none => .bad
theorem m1_join {K : PySem.W.Frag} : M1 c (fun x xs H Q => ∃ a p, ∃ ys : List Str, x = .str a ∧ xs = [.ref p] ∧ (SqL K H p (ys.map V.str) ∨ SqT K H p (ys.map V.str)) ∧
      (ys.map (·.length)).sum + ys.length * a.length ≤ 16777216 ∧ Q (.str (Txt.join a ys)) H) gJoin := by
  intro W sg F H x y b Q e rb h
  unfold gJoin at h
  cases hi : b.its with
  | none => rw [hi] at h; exact h.elim
  | some xs =>
    rw [hi] at h
    replace h : Aft c W sg F H Q (match D.strs xs with
      | some ys => if (ys.map (·.length)).sum + ys.length * x.length ≤ 100000 then .ok (.sh (.str (Txt.join x ys))) else .bad
      | none => .bad) := h
    cases hs : D.strs xs with
    | none => rw [hs] at h; exact h.elim
    | some ys =>
      rw [hs] at h
      replace h : Aft c W sg F H Q (if (ys.map (·.length)).sum + ys.length * x.length ≤ 100000 then .ok (.sh (.str (Txt.join x ys))) else .bad) := h
      by_cases q : (ys.map (·.length)).sum + ys.length * x.length ≤ 100000
      · rw [if_pos q] at h
        obtain ⟨_, p, vs, rfl, hp, rr⟩ := rb.items e hi
        rw [strs_reps rr hs] at hp
        exact ⟨x, p, ys, rfl, rfl, .inl (.inl (.inl hp)), by omega, Aft.now e .str h⟩
      · rw [if_neg q] at h
        exact h.elim
theorem se_join {apos : Pos} (ho : SE J o f) (he : SE J e h) (hs : starEach [e] J.X.env = [(false, eval e J.X.env)] := by rfl) (hbase : attributeBase o "join" J.X.env (eval o J.X.env) = eval o J.X.env := by rfl) (hline : (apos.endLine == pos.line) = true := by rfl) :
    SE J (.Call (.Attribute o "join" apos) [e] [] pos) (xM1 gJoin f h) := (pe_join ho he hs hbase hline).imp fun _ _ _ q => tX_m1 m1_join q
/-- the signs of a text -/
def signsD (x : Str) : List D := x.cps.toList.map fun k => D.str ⟨#[k]⟩
def xIStr (f : XE) : XI := fun env => (f env).bind fun a => match a.d with
  | .str x => .ok (signsD x)
  | _ => .bad
theorem itOk_str (x : Str) {F : Hp} : ItOk c (Its x) F (signsD x) := fun i H e => by
  refine ⟨fun d hd => ?_, fun hi => ?_⟩
  · unfold signsD at hd
    rw [List.getElem?_map] at hd
    cases q : x.cps.toList[i]? with
    | none => rw [q] at hd; cases hd
    | some k =>
      rw [q] at hd
      cases hd
      have hi : i < x.cps.size := by
        have := (List.getElem?_eq_some_iff.mp q).1
        rw [Array.length_toList] at this
        exact this
      refine ⟨hi, fun y H' z => ⟨z.1, ?_⟩⟩
      obtain ⟨k2, h1, h2⟩ := z.2
      rw [Array.getElem?_toList, h1] at q
      cases q
      rw [h2]
      exact .str
  · show x.cps.size ≤ i
    rw [hi]
    unfold signsD
    rw [List.length_map, Array.length_toList]
    exact Nat.le_refl _
theorem si_str (ha : SE J e f) : SI J tg e (xIStr f) := (pi_str ha).imp fun sg H R ⟨F, env, si, hq⟩ => ⟨F, env, si, (aft_bindI hq).mono fun x H1 ⟨F1, va, w1, r1, hq1⟩ => by
  have rr := r1.rep w1.fh
  obtain ⟨o, bb, d⟩ := va
  cases d with
  | str z =>
    cases rr
    exact ⟨z, rfl, hq1 F1 H1 _ w1 (itOk_str z)⟩
  | _ => exact (show False from hq1).elim⟩
def pInS (neg : Bool) (a b : Val) : Res Val := match a.d, b.d with
  | .str x, .str z => match x.cps.toList with
    | [k] => .ok (.sh (.bl (if neg = true then !decide (k ∈ z.cps.toList) else decide (k ∈ z.cps.toList))))
    | _ => .bad
  | _, _ => .bad
theorem v2_notInS : V2 c (fun x y H Q => ∃ (k : Nat) (z : Str), x = .str ⟨#[k]⟩ ∧ y = .str z ∧ Q (.bl (!decide (k ∈ z.cps.toList))) H) (pInS true) := by
  intro W sg F H x y a b Q e ra rb h
  obtain ⟨oa, ba, da⟩ := a
  obtain ⟨ob, bb, db⟩ := b
  have ra' := ra.rep e
  have rb' := rb.rep e
  cases da with
  | str x =>
    cases db with
    | str z =>
      cases ra'
      cases rb'
      obtain ⟨⟨l⟩⟩ := x
      match l, h with
      | [k], h => exact ⟨k, z, rfl, rfl, Aft.now e .bl h⟩
    | _ => exact (show False from h).elim
  | _ => exact (show False from h).elim
/-- str(n) -/
def pStr (rs : List Val) : Res Val := match rs with
  | [a] => match a.d with
    | .int i => if i.natAbs.log2 < 1920 then .ok (.sh (.str (toString i))) else .bad
    | _ => .bad
  | _ => .bad
theorem vn_str : VN c (fun xs H Q => ∃ i, xs = [.int i] ∧ i.natAbs.log2 < 1920 ∧ Q (.str (toString i)) H) pStr := by
  intro W sg F H us rs Q e hr h
  unfold pStr at h
  cases hr with
  | nil => exact h.elim
  | @cons u r us rs h1 h2 =>
    cases h2 with
    | cons _ _ => exact h.elim
    | nil =>
      dsimp only at h
      cases hd : r.d with
      | int i =>
        rw [hd] at h
        rw [h1.dint e hd]
        replace h : Aft c W sg F H Q (if i.natAbs.log2 < 1920 then .ok (.sh (.str (toString i))) else .bad) := h
        by_cases q : i.natAbs.log2 < 1920
        · rw [if_pos q] at h
          exact ⟨i, rfl, q, Aft.now e .str h⟩
        · rw [if_neg q] at h
          exact h.elim
      | _ => rw [hd] at h; exact h.elim
/-- int(text) -/
def pIntS (rs : List Val) : Res Val := match rs with
  | [a] => match a.d with
    | .str x => if x.length ≤ 640 then match PySem.intText? x with
        | some n => .ok (.sh (.int n))
        | none => .bad
      else .bad
    | _ => .bad
  | _ => .bad
theorem vn_intS : VN c (fun xs H Q => ∃ a n, xs = [.str a] ∧ PySem.intText? a = some n ∧ a.length ≤ 640 ∧ Q (.int n) H) pIntS := by
  intro W sg F H us rs Q e hr h
  unfold pIntS at h
  cases hr with
  | nil => exact h.elim
  | @cons u r us rs h1 h2 =>
    cases h2 with
    | cons _ _ => exact h.elim
    | nil =>
      dsimp only at h
      cases hd : r.d with
      | str x =>
        rw [hd] at h
        rw [h1.dstr e hd]
        replace h : Aft c W sg F H Q (if x.length ≤ 640 then match PySem.intText? x with
          | some n => .ok (.sh (.int n))
          | none => .bad
          else .bad) := h
        by_cases q : x.length ≤ 640
        · rw [if_pos q] at h
          cases hi : PySem.intText? x with
          | none => rw [hi] at h; exact h.elim
          | some n =>
            rw [hi] at h
            exact ⟨x, n, rfl, hi, q, Aft.now e .int h⟩
        · rw [if_neg q] at h
          exact h.elim
      | _ => rw [hd] at h; exact h.elim
end
end Bk
set_option Elab.async false
set_option linter.all false
set_option maxRecDepth 100000
set_option maxHeartbeats 4000000
/-! BkU: sorted(set(xs)) of ints, however many. -/
namespace Bk
open PySem L2 PySem.Spec PyProof.Rows
section
variable {P : Program} {w : World} {A : Around} {E : Value → Shared → Prop} {s : Shared}
/-- an empty set, as it is made -/
abbrev set0 (w : World) : Obj := { cls := .type "set", dict := none, data := .set #[] 0 (.fresh 0 0 (!w.params.followText "set-order")) }
/-- what stands behind set(xs) -/
def SetMade (w : World) (h0 h' : Heap) (ns : List Int) (c : Nat) : Prop := SetR w h' h0.objs.size (fun j => decide (j ∈ ns)) c ∧ c ≤ ns.length ∧ ∀ b o, h0.get? b = some o → h'.get? b = some o
theorem set_init {l : Addr} {xs : Array Value} {ns : List Int} (quiet : A.handled = none) (isl : s.heap.IsList l xs) (are : IntsAre xs.toList ns) (few : ns.length + 1 < scanBound) :
    codeAny (model P w) A (.call (.builtin "set.__init__") ⟨[.ref s.heap.objs.size, .ref l], []⟩) (wants (fun r z => r = .none ∧ ∃ h' tk c, z = { s with heap := h', toks := tk } ∧ SetMade w s.heap h' ns c) E) { s with heap := s.heap.push (set0 w) } := by
  have size_eq : xs.size = ns.length := by
    rw [← Array.length_toList]
    exact are.length
  have at0 : (s.heap.push (set0 w)).get? s.heap.objs.size = some (set0 w) := Heap.get?_push_size _ rfl
  have ty0 : Shared.TypeIs { s with heap := s.heap.push (set0 w) } (.ref s.heap.objs.size) "set" := ⟨_, at0, rfl⟩
  refine codeAny_call_builtin F.called_set.init.plain F.entry_set_init (check_set_init_1 ty0 ?_)
  obtain ⟨⟨oc, od, oda, os⟩, got, rfl, nl, rfl⟩ := isl
  have got1 : (s.heap.push (set0 w)).get? l = some ⟨.type "list", od, .seq xs nl, os⟩ := Heap.get?_push_of_some _ got
  have f1 := F.sub_list_set
  have f2 := F.sub_list_frozenset
  have f3 : (Value.type "list" == Value.type "dict") = false := by decide
  have isl1 : (s.heap.push (set0 w)).IsList l xs := ⟨_, got1, rfl, nl, rfl⟩
  unfold Builtin.«set.__init__» noKeywords Builtin.Frozenset.updateFrom
  generalize nm : pyIter = PI
  wp_walk
  subst nm
  refine wpAny_pyIter_list isl1 (wpAny_bind (wpAny_runValue ?_))
  have lt : l < s.heap.objs.size := Heap.lt_size got
  have sz : (s.heap.push (set0 w)).objs.size = s.heap.objs.size + 1 := Heap.size_push ..
  have ne1 : l ≠ (s.heap.push (set0 w)).objs.size := by
    rw [sz]
    exact Nat.ne_of_lt (Nat.lt_succ_of_lt lt)
  have nin : s.heap.objs.size ∉ [(s.heap.push (set0 w)).objs.size, l] := by
    intro z
    rw [sz] at z
    rcases List.mem_cons.mp z with e | e
    · exact absurd e (Nat.ne_of_lt (Nat.lt_succ_self _))
    · exact absurd (List.mem_singleton.mp e).symm (Nat.ne_of_lt lt)
  have vals : ∀ (i : Nat) (v : Value), xs[i]? = some v → ∃ k t, ns[i]? = some k ∧ v = .int k t := fun i v hv => by
    have lti : i < ns.length := size_eq ▸ (Array.getElem?_eq_some_iff.mp hv).1
    obtain ⟨t, e⟩ := are.int_at i v ((Array.getElem?_toList).trans hv)
    exact ⟨ns[i], t, List.getElem?_eq_getElem lti, by rw [e, List.getD_eq_getElem?_getD, List.getElem?_eq_getElem lti]; rfl⟩
  have q3 : A.in1.in1.handled = none := by simp [quiet]
  refine set_update_ints ((Walks.list q3 _ l ne1 xs).toS) s.heap.objs.size nin ns size_eq few vals (xs.size - 0) 0 _ (by omega) (Nat.zero_le _) ⟨⟨_, Heap.get?_push_size _ rfl, rfl, rfl⟩, isl1.push _⟩ ?first ?rest
  case first => exact ⟨0, Nat.le_refl 0, setR_new_at (Heap.get?_push_of_some _ at0)⟩
  case rest =>
    rintro ⟨h', g2, d', tk', os'⟩ c' mv small made
    obtain rfl : g2 = s.gens := mv.gens
    obtain rfl : d' = s.drawn := mv.drawn
    obtain rfl : os' = s.os := mv.os
    refine wpAny_pure ?_
    refine wpAny_pure ⟨rfl, h', tk', c', rfl, made, size_eq ▸ small, fun b o e => ?_⟩
    have ltb : b < s.heap.objs.size := Heap.lt_size e
    refine mv.heap b o (fun z => ?_) (Heap.get?_push_of_some _ (Heap.get?_push_of_some _ e))
    rcases List.mem_cons.mp z with e2 | e2
    · exact absurd e2 (Nat.ne_of_lt ltb)
    · have e3 := List.mem_singleton.mp e2
      rw [sz] at e3
      exact absurd e3 (Nat.ne_of_lt (Nat.lt_succ_of_lt ltb))
/-- set(xs) -/
theorem set_call {l : Addr} {xs : Array Value} {ns : List Int} {Q : Value → Shared → Prop} (quiet : A.handled = none) (isl : s.heap.IsList l xs) (are : IntsAre xs.toList ns) (few : ns.length + 1 < scanBound)
    (go : ∀ (h' : Heap) (tk c : Nat), SetMade w s.heap h' ns c → Q (.ref s.heap.objs.size) { s with heap := h', toks := tk }) : wpAny (model P w) A (call (.type "set") [.ref l]) Q E s := by
  obtain ⟨mc, mt, mro⟩ := F.called_set.mro
  have made := F.called_set.made
  have subs := F.called_set.sub
  refine wpAny_call (codeAny_of_tree ?_)
  show wpAny _ _ (callAny (.type "set") _) _ _ _
  refine wpAny_pure ⟨Code.quiet_builtin _ (by decide +kernel), codeAny_builtin F.entry_type_call ?_⟩
  rw [Around.under_plain (weight_type_call_type "set" [.ref l] []) rfl]
  have k1 := F.called_set.notType
  have k2 := F.called_set.canCreate
  have k3 := F.typeCall_set_1 (.ref l)
  repeat (any_goals (first | assumption | wp_step))
  refine codeAny_mono (code_set_led1 (.ref l) (E := E) (Q₁ := fun o z => o = .ref s.heap.objs.size ∧ z = { s with heap := s.heap.push (set0 w) }) ⟨rfl, rfl⟩) fun r z hr => ?_
  cases r with
  | error e => exact hr
  | ok fl =>
    cases fl with
    | ret o =>
      obtain ⟨rfl, rfl⟩ := hr
      have ty0 : Shared.TypeIs { s with heap := s.heap.push (set0 w) } (.ref s.heap.objs.size) "set" := ⟨_, Heap.get?_push_size _ rfl, rfl⟩
      have k4 := F.called_set.init.lookup
      have k5 := F.called_set.init.bind (.ref s.heap.objs.size)
      repeat (any_goals (first | assumption | wp_step))
      refine codeAny_mono (set_init (E := E) (by simp [quiet]) isl are few) fun r2 z2 hr2 => ?_
      cases r2 with
      | error e => exact hr2
      | ok fl2 =>
        cases fl2 with
        | ret r =>
          obtain ⟨rfl, h', tk, c, rfl, hm⟩ := hr2
          repeat (any_goals (first | assumption | wp_step))
          exact go _ _ _ hm
        | _ => exact hr2.elim
    | _ => exact hr.elim
/-- sorted(a set), however large -/
theorem set_sort {a : Addr} {S : Int → Bool} {n : Nat} {Q : Value → Shared → Prop} (R : SetR w s.heap a S n) (quiet : A.handled = none)
    (go : ∀ (z : Shared) (p : Addr) (out : Array Value) (c : Nat) (ns : List Int), (∀ b o, s.heap.get? b = some o → z.heap.get? b = some o) → z.gens = s.gens → z.os = s.os → s.heap.objs.size ≤ p → z.heap.get? p = some (seqObj "list" out c) →
      IntsAre out.toList ns → ns.Pairwise (· < ·) → (∀ k, k ∈ ns ↔ S k = true) → ns.length ≤ n → Q (.ref p) z) : wpAny (model P w) A (call (.builtin "sorted") [.ref a]) Q E s := by
  obtain ⟨o, es, ep, t, got, exact_, dat, good, nd, mem, few, fits, hn, ris, led⟩ := R
  refine Calls.call_function_entry kind_sorted plain_sorted entry_sorted (args_sorted1 _) ?_
  unfold Builtin.«sorted»
  refine wpAny_bind (m := checkCount "sorted" 1 1 _) (wpAny_pure (wpAny_bind (collect_set (A := A.in1) quiet ⟨o, got, exact_.1, dat⟩ fits few ris led fun z1 vs keep big g1 o1 perm => ?_)))
  have len : vs.length = es.size := by rw [perm.length_eq, List.length_map, Array.length_toList]
  have allI : ∀ v ∈ vs, ∃ k tk, v = Value.int k tk := fun v hv => by
    obtain ⟨e, he, q⟩ := List.mem_map.mp (perm.mem_iff.mp hv)
    obtain ⟨k, tk, h1, _⟩ := good e he
    exact ⟨k, tk, q.symm.trans h1⟩
  have are := SrtO.ints_iv allI
  have keys : (vs.map SrtO.iv).Perm (es.toList.map keyOf) := by
    have q := perm.map SrtO.iv
    rw [List.map_map] at q
    exact q
  have fit : vs.length ≤ sizeLine := by
    rw [len]
    exact fits_of_scanBound few
  refine wpAny_bind (wpAny_newList ?_ fit)
  have at1 : (z1.heap.push (seqObj "list" vs.toArray 0)).get? z1.heap.objs.size = some (seqObj "list" vs.toArray 0) := Heap.get?_push_size _ rfl
  refine wpAny_bind (wpAny_holding (wpAny_call_entry slot_list_sort ⟨_, at1, rfl⟩ entry_list_sort (SrtO.list_sort_ord SrtO.swo_int at1 fit (fun h2 => SrtO.ints_sortable are h2) fun out h1 h2 => ⟨_, rfl, ?_⟩) (args_list_sort _)))
  obtain ⟨k1, k2, k3⟩ := SrtO.ints_out are h1 h2
  obtain ⟨c, at2⟩ := sortedHeap_at (vs := vs) (out := out.toArray) at1
  have k4 := k2.trans keys
  refine wpAny_pure ⟨_, rfl, go _ z1.heap.objs.size out.toArray c (out.map SrtO.iv) (fun b u e => ?_) g1 o1 big at2 k1 (lt_of_le_nodup _ k3 (k4.nodup_iff.mpr nd)) (fun k => by rw [k4.mem_iff, ← mem k]) ?_⟩
  · have q := keep b u e
    have lt := Heap.lt_size q
    refine (sortedHeap_old (Nat.ne_of_lt lt) ?_).trans (Heap.get?_push_of_some _ q)
    rw [size_push']
    exact Nat.lt_succ_of_lt lt
  · rw [k4.length_eq, List.length_map, Array.length_toList]
    exact Nat.le_of_eq hn
end
section
variable {X : Cx}
/-- set(xs) of ints -/
def rSetOfI (K : PySem.W.Frag) (w : World) : List V → Hp → VK → Prop := fun vs H Q => ∃ (a : Addr) (ns : List Int), vs = [.ref a] ∧ SqL K H a (ns.map V.int) ∧ ns.length ≤ 4000 ∧ ∀ p c, H p = none → c ≤ ns.length → Q (.ref p) (upd H p (SetO w p (fun j => decide (j ∈ ns)) c))
theorem cr_setOfI (hc : X.calm = true) : CallR X (.type "set") (rSetOfI X.K X.w) := by
  intro pins s σ H vs us Q I r h
  obtain ⟨a, ns, rfl, hs, hl, q⟩ := h
  obtain ⟨its, rv, il, hz⟩ := I.list hs
  rw [Vals.ref1 r]
  refine set_call (I.ok.hd hc) il.isList rv.ints (by unfold scanBound; omega) fun h' tk c hm => ?_
  have fresh : H s.heap.objs.size = none := I.hok.fresh (Nat.le_refl _)
  exact ⟨.ref _, upd H s.heap.objs.size (SetO X.w s.heap.objs.size (fun j => decide (j ∈ ns)) c), I.laid (t' := tk) hm.2.2 (Nat.le_refl _) (setO_new hm.1), rfl, q _ c fresh hm.2.1⟩
/-- sorted(a set) -/
def rSortedSetA (w : World) : List V → Hp → VK → Prop := fun vs H Q => ∃ (a : Addr) (S : Int → Bool) (n : Nat), vs = [V.ref a] ∧ H a = some (SetO w a S n) ∧ n ≤ 4000 ∧
  ∀ (ns : List Int) (p : Addr), ns.Pairwise (· < ·) → (∀ k : Int, k ∈ ns ↔ S k = true) → H p = none → Q (.ref p) (upd H p (.lst (ns.map V.int)))
theorem cr_sortedSetA (hc : X.calm = true) : CallR X (.builtin "sorted") (rSortedSetA X.w) := by
  intro pins s σ H vs us Q I r h
  obtain ⟨a, S, n, rfl, ha, hn, q⟩ := h
  rw [Vals.ref1 r]
  refine set_sort (setO_get I ha) (I.ok.hd hc) fun z p out c ns keep g o hp at_ are lt mem len => ?_
  have fit : (ns.map V.int).length ≤ sizeLine := by
    rw [List.length_map, sizeLine_eq]
    omega
  have none_ : H p = none := I.hok.fresh hp
  have J : Inv X pins σ (upd H p (.lst (ns.map V.int))) { s with heap := z.heap, gens := z.gens, drawn := z.drawn, toks := z.toks } :=
    I.call (ch := []) (Un.laid keep hp none_) (I.hok.laid keep hp ⟨fit, out.toList, c, vals_of_ints are, at_⟩) (g ▸ I.bare) (fun _ q => nomatch q)
  have e : z = { s with heap := z.heap, gens := z.gens, drawn := z.drawn, toks := z.toks } := by
    cases z
    cases o
    rfl
  rw [e]
  exact ⟨.ref p, _, J, rfl, q ns p lt mem none_⟩
end
end Bk
set_option Elab.async false
set_option linter.all false
set_option maxRecDepth 100000
set_option maxHeartbeats 4000000
/-! BkX: sorted(set(xs)) over plain data; dicts by whole numbers. -/
namespace Bk
open PySem L2 PySem.Spec PyProof.Rows
/-- each once -/
def once : List Int → List Int
  | [] => []
  | x :: xs => if x ∈ xs then once xs else x :: once xs
theorem mem_once {x : Int} : ∀ {xs : List Int}, x ∈ once xs ↔ x ∈ xs
  | [] => Iff.rfl
  | y :: xs => by
    unfold once
    have ih := mem_once (x := x) (xs := xs)
    split
    · rename_i h
      rw [ih, List.mem_cons]
      exact ⟨.inr, fun z => z.elim (fun e => e ▸ h) id⟩
    · rw [List.mem_cons, List.mem_cons, ih]
theorem once_nodup : ∀ xs : List Int, (once xs).Nodup
  | [] => .nil
  | y :: xs => by
    unfold once
    split
    · exact once_nodup xs
    · rename_i h
      exact List.nodup_cons.mpr ⟨fun z => h (mem_once.mp z), once_nodup xs⟩
/-- the members, rising -/
def sortU (ns : List Int) : List Int := isort (once ns)
theorem sortU_uniq {ns ms : List Int} (h1 : ms.Pairwise (· < ·)) (h2 : ∀ k, k ∈ ms ↔ k ∈ ns) : ms = sortU ns := by
  refine isort_uniq ?_ (h1.imp fun h => Int.le_of_lt h)
  refine (List.perm_ext_iff_of_nodup (h1.imp fun h e => by omega) (once_nodup ns)).mpr fun k => ?_
  rw [h2, mem_once]
def xSortSet (f : XE) : XE := fun env => (f env).bind fun a => match a.its with
  | some xs => match D.ints xs with
    | some ns => if ns.length ≤ 4000 then .ok ⟨.li .sh, false, .lst ((sortU ns).map .int)⟩ else .bad
    | none => .bad
  | none => .bad
section
variable {J : Jx} {a e i : Expr} {f h k : XE} {p p2 pos pos2 : Pos}
theorem se_sortSet (hc : J.X.calm = true) (hg : Gl J.X "sorted") (hm : J.X.mg "sorted" = none) (hg2 : Gl J.X "set") (hm2 : J.X.mg "set" = none) (ha : SE J a f) (na : starEach [a] J.X.env = (false, eval a J.X.env) :: starEach [] J.X.env := by rfl)
    (hs : starEach [.Call (.Name "set" p2) [a] [] pos2] J.X.env = (false, eval (.Call (.Name "set" p2) [a] [] pos2) J.X.env) :: starEach [] J.X.env := by rfl) (h1 : (backTo pos2 (starEach [] J.X.env)).any (·.1) = false := by rfl) (h2 : (backTo pos (starEach [] J.X.env)).any (·.1) = false := by rfl) :
    SE J (.Call (.Name "sorted" p) [.Call (.Name "set" p2) [a] [] pos2] [] pos) (xSortSet f) :=
  (pe_callB (cr_sortedSetA hc) hg hm (by decide +kernel) (pa_cons (pe_callTy (cr_setOfI hc) hg2 hm2 boot_set (pa_cons ha pa_nil na) (by decide) (by decide) na h1) pa_nil hs) (by decide) (by decide) hs h2).imp fun sg H Q ⟨F, env, si, hq⟩ => ⟨F, env, si, (aft_bind hq).mono fun u H1 ⟨F1, va, w1, r1, hq1⟩ => by
    cases hi : va.its with
    | none => rw [hi] at hq1; exact (show False from hq1).elim
    | some xs =>
      rw [hi] at hq1
      obtain ⟨_, l, vs, rfl, hl, hr⟩ := r1.rw.items w1.fh hi
      replace hq1 : Aft J.c J.W sg F1 H1 Q (match D.ints xs with
        | some ns => if ns.length ≤ 4000 then .ok ⟨.li .sh, false, .lst ((sortU ns).map .int)⟩ else .bad
        | none => .bad) := hq1
      cases hn : D.ints xs with
      | none => rw [hn] at hq1; exact (show False from hq1).elim
      | some ns =>
        rw [hn] at hq1
        replace hq1 : Aft J.c J.W sg F1 H1 Q (if ns.length ≤ 4000 then .ok ⟨.li .sh, false, .lst ((sortU ns).map .int)⟩ else .bad) := hq1
        by_cases hz : ns.length ≤ 4000
        · rw [if_pos hz] at hq1
          rw [ints_reps hr hn] at hl
          refine ⟨l, ns, rfl, .inl (.inl hl), hz, fun q c hq hcn => ?_⟩
          refine ⟨q, _, c, rfl, upd_same, by omega, fun ms r lt mem hr2 => ?_⟩
          have e := sortU_uniq lt (ns := ns) fun k => by rw [mem k, decide_eq_true_eq]
          rw [e]
          exact Aft.newL (w1.fh.trans (Evl.Ex.new hq)) hr2 (reps_ints _) (hq1.grow ((Wd.refl w1.fh).heap (Evl.Ex.new hq)))
        · rw [if_neg hz] at hq1
          exact (show False from hq1).elim⟩
/-! ### dicts -/
def dGet : List Int → List D → Int → Option D
  | k :: ks, x :: xs, n => if k = n then some x else dGet ks xs n
  | _, _, _ => none
def dSet : List Int → List D → Int → D → List D
  | k :: ks, x :: xs, n, d => (if k = n then d else x) :: dSet ks xs n d
  | _, xs, _, _ => xs
def dKeys (ks : List Int) (n : Int) : List Int := if n ∈ ks then ks else ks ++ [n]
def dVals (ks : List Int) (xs : List D) (n : Int) (d : D) : List D := if n ∈ ks then dSet ks xs n d else xs ++ [d]
theorem dGet_put {n m : Int} {d : D} : ∀ {ks : List Int} {xs : List D}, ks.length = xs.length → dGet (dKeys ks n) (dVals ks xs n d) m = if m = n then some d else dGet ks xs m := by
  intro ks xs hl
  unfold dKeys dVals
  by_cases q : n ∈ ks
  · rw [if_pos q, if_pos q]
    induction ks generalizing xs with
    | nil => simp at q
    | cons k ks ih =>
      cases xs with
      | nil => simp at hl
      | cons x xs =>
        have hl2 : ks.length = xs.length := by simpa using hl
        unfold dSet dGet
        by_cases e : k = n
        · subst e
          rw [if_pos rfl]
          by_cases e2 : k = m
          · rw [if_pos e2, if_pos e2.symm]
          · rw [if_neg e2, if_neg (fun z => e2 z.symm)]
            by_cases q2 : k ∈ ks
            · rw [ih hl2 q2, if_neg fun z => e2 z.symm, if_neg e2]
            · rw [if_neg e2]
              clear ih q hl
              induction ks generalizing xs with
              | nil =>
                cases xs with
                | nil => rfl
                | cons _ _ => simp at hl2
              | cons j ks ih2 =>
                cases xs with
                | nil => simp at hl2
                | cons y xs =>
                  unfold dSet dGet
                  have nj : ¬ j = k := fun z => q2 (z ▸ List.mem_cons_self)
                  rw [if_neg nj, ih2 xs (by simpa using hl2) fun z => q2 (List.mem_cons_of_mem _ z)]
        · rw [if_neg e]
          have q2 : n ∈ ks := (List.mem_cons.mp q).resolve_left fun z => e z.symm
          by_cases e2 : k = m
          · subst e2
            rw [if_pos rfl, if_neg e, if_pos rfl]
          · rw [if_neg e2, if_neg e2, ih hl2 q2]
  · rw [if_neg q, if_neg q]
    induction ks generalizing xs with
    | nil =>
      cases xs with
      | nil =>
        show (if n = m then some d else none) = if m = n then some d else none
        by_cases e : m = n
        · rw [if_pos e, if_pos e.symm]
        · rw [if_neg e, if_neg fun z => e z.symm]
      | cons _ _ => simp at hl
    | cons k ks ih =>
      cases xs with
      | nil => simp at hl
      | cons x xs =>
        have q2 : n ∉ ks := fun z => q (List.mem_cons_of_mem _ z)
        have nk : ¬ n = k := fun z => q (z ▸ List.mem_cons_self)
        show (if k = m then some x else dGet (ks ++ [n]) (xs ++ [d]) m) = if m = n then some d else if k = m then some x else dGet ks xs m
        rw [ih (by simpa using hl) q2]
        by_cases e : k = m
        · subst e
          rw [if_pos rfl, if_neg fun z => nk z.symm, if_pos rfl]
        · rw [if_neg e, if_neg e]
theorem dSet_len {n : Int} {d : D} : ∀ {ks : List Int} {xs : List D}, (dSet ks xs n d).length = xs.length
  | [], _ => rfl
  | _ :: _, [] => rfl
  | _ :: ks, _ :: xs => congrArg (· + 1) (dSet_len (ks := ks) (xs := xs))
theorem dPut_len {n : Int} {d : D} {ks : List Int} {xs : List D} (hl : ks.length = xs.length) : (dKeys ks n).length = (dVals ks xs n d).length ∧ (dKeys ks n).length ≤ ks.length + 1 := by
  unfold dKeys dVals
  split
  · rw [dSet_len]
    exact ⟨hl, by omega⟩
  · rw [List.length_append, List.length_append, List.length_singleton, List.length_singleton]
    omega
section
variable {c : Ct} {F H : Hp}
theorem valV_rep {n : Int} : ∀ {kvs : List (Key × V)} {ks : List Int} {xs : List D}, kvs.map (·.1) = ks.map Sum.inl → Reps c F (kvs.map (·.2)) xs → match dGet ks xs n with
    | some d => ∃ v, valV kvs (Sum.inl n) = some v ∧ Rep c F v d
    | none => valV kvs (Sum.inl n) = none
  | [], ks, xs, hk, hr => by
    cases ks with
    | nil => rfl
    | cons _ _ => cases hk
  | (key, v) :: kvs, ks, xs, hk, hr => by
    cases ks with
    | nil => cases hk
    | cons j ks =>
      cases hr with
      | cons h1 h2 =>
        have e1 := (List.cons.inj hk).1
        have e2 := (List.cons.inj hk).2
        dsimp only at e1
        subst e1
        unfold dGet
        by_cases q : j = n
        · subst q
          rw [if_pos rfl]
          exact ⟨v, valV_pos rfl, h1⟩
        · rw [if_neg q]
          have nk : ¬ (Sum.inl j : Key) = Sum.inl n := fun z => q (Sum.inl.inj z)
          rw [valV_neg nk]
          exact valV_rep e2 h2
theorem any_key {n : Int} : ∀ {kvs : List (Key × V)} {ks : List Int}, kvs.map (·.1) = ks.map Sum.inl → ((kvs.any fun kv => decide (kv.1 = (Sum.inl n : Key))) = true ↔ n ∈ ks)
  | [], ks, hk => by
    cases ks with
    | nil => simp
    | cons _ _ => cases hk
  | (key, v) :: kvs, ks, hk => by
    cases ks with
    | nil => cases hk
    | cons j ks =>
      have e1 := (List.cons.inj hk).1
      have e2 := (List.cons.inj hk).2
      dsimp only at e1
      subst e1
      rw [List.any_cons, Bool.or_eq_true, any_key e2, List.mem_cons, decide_eq_true_eq]
      exact ⟨fun z => z.imp (fun z => (Sum.inl.inj z).symm) id, fun z => z.imp (fun z => by rw [z]) id⟩
theorem put_rep {n : Int} {v : V} {d : D} (hv : Rep c F v d) {kvs : List (Key × V)} {ks : List Int} {xs : List D} (hk : kvs.map (·.1) = ks.map Sum.inl) (hr : Reps c F (kvs.map (·.2)) xs) :
    (putK kvs (Sum.inl n) v).map (·.1) = (dKeys ks n).map Sum.inl ∧ Reps c F ((putK kvs (Sum.inl n) v).map (·.2)) (dVals ks xs n d) := by
  unfold putK dKeys dVals
  by_cases q : n ∈ ks
  · rw [if_pos ((any_key hk).mpr q), if_pos q, if_pos q]
    refine ⟨?_, ?_⟩
    · rw [← hk, List.map_map]
      refine List.map_congr_left fun kv _ => ?_
      show (if kv.1 = Sum.inl n then (kv.1, v) else kv).1 = kv.1
      split <;> rfl
    · clear q
      induction kvs generalizing ks xs with
      | nil =>
        cases hr
        cases ks with
        | nil => exact .nil
        | cons _ _ => cases hk
      | cons kv kvs ih =>
        cases ks with
        | nil => cases hk
        | cons j ks =>
          cases hr with
          | cons h1 h2 =>
            have e1 := (List.cons.inj hk).1
            have e2 := (List.cons.inj hk).2
            dsimp only at e1
            unfold dSet
            refine .cons ?_ (ih e2 h2)
            show Rep c F (if kv.1 = Sum.inl n then (kv.1, v) else kv).2 _
            rw [e1]
            by_cases z : j = n
            · subst z
              rw [if_pos rfl, if_pos rfl]
              exact hv
            · have nk : ¬ (Sum.inl j : Key) = Sum.inl n := fun y => z (Sum.inl.inj y)
              rw [if_neg z, if_neg nk]
              exact h1
  · rw [if_neg (fun z => q ((any_key hk).mp z)), if_neg q, if_neg q, List.map_append, List.map_append, List.map_append, hk]
    exact ⟨rfl, hr.append (.cons hv .nil)⟩
end
/-! ### a slot that holds a dict -/
section
variable {c : Ct} {F0 H0 F H : Hp} {sg : L2.St} {env : XEnv}
theorem Si.mutD {i : Nat} {ks : List Int} {xs : List Bk.D} (s : Si c F0 H0 F H sg env) (he : env[i]? = some (some (.di, .dic ks xs))) : ∃ a kvs, sg[i]? = some (some (.ref a)) ∧ H a = some (.dK kvs) ∧ kvs.map (·.1) = ks.map Sum.inl ∧ Reps c F (kvs.map (·.2)) xs ∧
    ∀ kvs2 ks2 ys, kvs2.map (·.1) = ks2.map Sum.inl → Reps c F (kvs2.map (·.2)) ys → Si c F0 H0 F (upd H a (.dK kvs2)) sg (env.set i (some (.di, .dic ks2 ys))) := by
  obtain ⟨S, s1, s2, s3⟩ := s.own
  obtain ⟨v, h1, a, kvs, ks1, zs, e1, e2, sa, ha, hk, hr0⟩ := s3 i _ _ he
  subst e1
  cases e2
  refine ⟨a, kvs, h1, ha, hk, hr0, fun kvs2 ks2 ys hk2 hr => ?_⟩
  have fa := (s2 i a sa)
  have eF : Ex F (upd H a (.dK kvs2)) := s.wd.fh.mut fa.2.1
  refine ⟨⟨s.wd.f, eF, s.wd.h.mut fa.1, s.wd.n⟩, by rw [List.length_set]; exact s.len, fun j b => if j = i then b = a else S j b, fun j k b hj hk => ?_, fun j b hj => ?_, fun j o d hjd => ?_⟩
  · by_cases q1 : j = i
    · by_cases q2 : k = i
      · rw [q1, q2]
      · simp only [if_pos q1] at hj
        simp only [if_neg q2] at hk
        subst hj
        exact absurd (s1 k i _ hk sa) q2
    · by_cases q2 : k = i
      · simp only [if_neg q1] at hj
        simp only [if_pos q2] at hk
        subst hk
        exact absurd (s1 j i _ hj sa) q1
      · simp only [if_neg q1] at hj
        simp only [if_neg q2] at hk
        exact s1 j k b hj hk
  · by_cases q : j = i
    · simp only [if_pos q] at hj
      subst hj
      refine ⟨fa.1, fa.2.1, ?_⟩
      rw [upd_same]
      exact fun z => by cases z
    · simp only [if_neg q] at hj
      have nb : b ≠ a := fun z => q (s1 j i b hj (by rw [z]; exact sa))
      rw [upd_ne nb]
      exact s2 j b hj
  · by_cases q : j = i
    · subst q
      have hlj : j < env.length := (List.getElem?_eq_some_iff.mp he).1
      rw [List.getElem?_set_self hlj] at hjd
      cases hjd
      refine ⟨.ref a, h1, ?_⟩
      simp only [if_pos]
      exact ⟨a, kvs2, ks2, ys, rfl, rfl, rfl, upd_same, hk2, hr⟩
    · rw [List.getElem?_set_ne (Ne.symm q)] at hjd
      obtain ⟨v, h4, h5⟩ := s3 j o d hjd
      refine ⟨v, h4, ?_⟩
      simp only [if_neg q]
      refine h5.frame (Evl.Ex.refl F) (fun b hb => ?_) fun b hb => (s2 j b hb).2.1
      exact upd_ne fun z => q (s1 j i b hb (by rw [z]; exact sa))
end
section
variable {J : Jx} {e i : Expr} {f h : XE} {pos pos' : Pos} {st : Stmt}
def xDict : XE := fun _ => .ok ⟨.di, false, .dic [] []⟩
theorem se_dict : SE J (.Dict [] [] pos) xDict := pe_dnewK.imp fun sg H Q ⟨F, env, si, hq⟩ => fun p hp => by
  refine hq F (upd H p (.dK [])) (.ref p) ((Wd.refl si.wd.fh).heap (Evl.Ex.new hp)) ⟨fun a => a = p, ⟨p, [], [], [], rfl, rfl, rfl, upd_same, rfl, .nil⟩, fun a ea => ?_⟩
  subst ea
  refine ⟨fun _ => hp, Evl.fresh_back si.wd.fh hp, ?_⟩
  rw [upd_same]
  exact fun z => by cases z
/-- the dict of a slot -/
def atDic : Option (Option (Ow × D)) → Option (List Int × List D)
  | some (some (.di, .dic ks xs)) => some (ks, xs)
  | _ => none
theorem atDic_some {o : Option (Option (Ow × D))} {p : List Int × List D} (h : atDic o = some p) : o = some (some (.di, .dic p.1 p.2)) := by
  unfold atDic at h
  split at h
  · cases h
    rfl
  · cases h
def xPut (i : Nat) (k f : XE) : XS := fun env => match atDic env[i]? with
  | some p => match f env with
    | .ok a => if a.b = true then .bad else match k env with
      | .ok b => match b.d with
        | .int n => if p.1.length < 100000 then .next (env.set i (some (.di, .dic (dKeys p.1 n) (dVals p.1 p.2 n a.d)))) else .bad
        | _ => .bad
      | .exc n => .exc n env
      | .bad => .bad
    | .exc n => .exc n env
    | .bad => .bad
  | none => .bad
theorem ss_put (m : Nat) {fk : XE} (h : PS J.X st (sDPut (tVar m) (tX J.c J.W J.F0 J.H0 fk) (tX J.c J.W J.F0 J.H0 f))) : SS J st (xPut m fk f) := h.imp fun D sg H ⟨F, env, si, hq⟩ => by
  unfold xPut at hq
  cases hp : atDic env[m]? with
  | none => rw [hp] at hq; exact hq.elim
  | some pr =>
    rw [hp] at hq
    obtain ⟨ks, xs⟩ := pr
    have hx := atDic_some hp
    dsimp only at hx hq
    refine ⟨F, env, si, aftS_bind (k := fun a => if a.b = true then .bad else match fk env with
      | .ok b => match b.d with
        | .int n => if ks.length < 100000 then .next (env.set m (some (.di, .dic (dKeys ks n) (dVals ks xs n a.d)))) else .bad
        | _ => .bad
      | .exc n => .exc n env
      | .bad => .bad) si hq fun F1 H1 u b w rv _ hk => ?_⟩
    obtain ⟨o, bb, d⟩ := b
    cases bb with
    | true => exact (show False from hk).elim
    | false =>
      obtain ⟨F2, w2, w3, r2⟩ := rv.share w
      replace hk : AftS J.c J.W J.F0 J.H0 F D (match fk env with
        | .ok b => match b.d with
          | .int n => if ks.length < 100000 then .next (env.set m (some (.di, .dic (dKeys ks n) (dVals ks xs n d)))) else .bad
          | _ => .bad
        | .exc n => .exc n env
        | .bad => .bad) := hk
      have si2 := si.grow w2
      obtain ⟨a2, kv2, h2, ha2, hk2, hr2, hm⟩ := Si.mutD si2 hx
      refine ⟨_, h2, F2, env, si2, ?_⟩
      refine aftS_bind (D := D) (k := fun b => match b.d with
        | .int n => if ks.length < 100000 then .next (env.set m (some (.di, .dic (dKeys ks n) (dVals ks xs n d)))) else .bad
        | _ => .bad) si2 (AftS.grow w2.f hk) fun F3 H3 v k w4 rk hfk hk3 => ?_
      obtain ⟨ok, bk, dk⟩ := k
      have rkk := rk.rep w4.fh
      cases rkk with
      | @int n =>
        replace hk3 : AftS J.c J.W J.F0 J.H0 F2 D (if ks.length < 100000 then .next (env.set m (some (.di, .dic (dKeys ks n) (dVals ks xs n d)))) else .bad) := hk3
        obtain ⟨a3, kv3, h3, ha3, hk4, hr3, hm3⟩ := Si.mutD (si2.grow w4) hx
        rw [h2] at h3
        cases h3
        by_cases hl : ks.length < 100000
        · rw [if_pos hl] at hk3
          obtain ⟨p1, p2⟩ := put_rep (n := n) (r2.mono w4.f) hk4 hr3
          have ll : kv3.length = ks.length := by
            have := congrArg List.length hk4
            rw [List.length_map, List.length_map] at this
            exact this
          have hz : 100000 ≤ sizeLine := by decide
          exact ⟨a2, _, rfl, DPut.k (k := Sum.inl n) ha3 (by omega), hk3 F3 _ sg w4.f (hm3 _ _ _ p1 p2)⟩
        · rw [if_neg hl] at hk3
          exact hk3.elim
      | _ => exact (show False from hk3).elim
def ofDic (o : Ow) (d : D) : Res Val := match o with
  | .sh => .ok (.sh d)
  | .di => .ok (.sh d)
  | _ => .bad
/-- d[k] -/
def xGetD (f k : XE) : XE := fun env => (f env).bind fun a => match a.d with
  | .dic ks xs => (k env).bind fun b => match b.d with
    | .int n => match dGet ks xs n with
      | some d => ofDic a.o d
      | none => .bad
    | _ => .bad
  | _ => .bad
theorem Rw.dict {c : Ct} {F H : Hp} {u : V} {o : Ow} {b : Bool} {ks : List Int} {xs : List D} (h : Rw c F H u ⟨o, b, .dic ks xs⟩) (e : Ex F H) : ∃ a kvs, u = .ref a ∧ H a = some (.dK kvs) ∧ kvs.map (·.1) = ks.map Sum.inl ∧ Reps c H (kvs.map (·.2)) xs ∧ ((o = .sh ∨ o = .di) → Reps c F (kvs.map (·.2)) xs) := by
  have hr := h.rep e
  cases hr with
  | @dic a kvs _ _ ha hk rr =>
    refine ⟨a, kvs, rfl, ha, hk, rr, fun ho => ?_⟩
    obtain ⟨S, h1, h2⟩ := h
    rcases ho with ho | ho
    · subst ho
      have h1 : Rep c F (.ref a) (.dic ks xs) := h1
      cases h1 with
      | @dic _ kv2 _ _ ha2 hk2 rr2 =>
        have := e _ _ ha2
        rw [ha] at this
        cases this
        exact rr2
    · subst ho
      obtain ⟨a2, kv2, ks2, xs2, e1, e2, sa, ha2, hk2, rr2⟩ := h1
      cases e1
      cases e2
      rw [ha] at ha2
      cases ha2
      exact rr2
theorem se_getD (hu : J.X.A.units + 65 < cLine) (ho : SE J e f) (hi : SE J i h) (hs : NoSl i) : SE J (.Subscript e i pos) (xGetD f h) := (pe_dget (by omega) ho hi hs).imp fun sg H Q ⟨F, env, si, hq⟩ => ⟨F, env, si, (aft_bind hq).mono fun x H1 ⟨F1, va, w1, r1, hq1⟩ => by
  obtain ⟨o, bb, d⟩ := va
  cases d with
  | dic ks xs =>
    replace hq1 : Aft J.c J.W sg F1 H1 Q ((h env).bind fun b => match b.d with
      | .int n => match dGet ks xs n with
        | some d => ofDic o d
        | none => .bad
      | _ => .bad) := hq1
    refine ⟨F1, env, si.grow w1, (aft_bind hq1).mono fun y H2 ⟨F2, vb, w2, r2, hq2⟩ => ?_⟩
    obtain ⟨ob, b2, db⟩ := vb
    have rb := r2.rep w2.fh
    cases rb with
    | @int n =>
      obtain ⟨a, kvs, rfl, ha, hk, rh, rf⟩ := Rw.dict (r1.rw.grow w2) w2.fh
      replace hq2 : Aft J.c J.W sg F2 H2 Q (match dGet ks xs n with
        | some d => ofDic o d
        | none => .bad) := hq2
      have vr := valV_rep (n := n) hk rh
      cases hg : dGet ks xs n with
      | none => rw [hg] at hq2; exact hq2.elim
      | some d =>
        rw [hg] at hq2 vr
        obtain ⟨v, hv, rv⟩ := vr
        have both : (o = .sh ∨ o = .di) → Aft J.c J.W sg F2 H2 Q (.ok (.sh d)) → Q v H2 := fun ho hq3 => by
          have vr2 := valV_rep (n := n) hk (rf ho)
          rw [hg] at vr2
          obtain ⟨v2, hv2, rv2⟩ := vr2
          rw [hv] at hv2
          cases hv2
          exact Aft.now w2.fh rv2 hq3
        refine ⟨a, v, rfl, ?_, ?_⟩
        · have := DGet.k (k := (Sum.inl n : Key)) ha
          rw [hv] at this
          exact this
        · cases o with
          | sh => exact both (.inl rfl) hq2
          | di => exact both (.inr rfl) hq2
          | _ => exact (show False from hq2).elim
    | _ => exact (show False from hq2).elim
  | _ => exact (show False from hq1).elim⟩
/-- k in d -/
def pInD (a b : Val) : Res Val := match a.d, b.d with
  | .int n, .dic ks xs => .ok (.sh (.bl (dGet ks xs n).isSome))
  | _, _ => .bad
theorem op_inD2 {X : Cx} (hu : X.A.units + 65 < cLine) : OpR X (compareOp .In) (fun x y H Q => ∃ a o, y = .ref a ∧ DGet H a x o ∧ Q (.bl o.isSome) H) := by
  intro pins s σ H x y v u Q I rx ry h
  obtain ⟨a, o, rfl, g, q⟩ := h
  cases ry
  exact d_in (by omega) I g rx fun s3 I3 => ⟨.bl o.isSome, H, I3, rfl, q⟩
theorem v2_inD {c : Ct} : V2 c (fun x y H Q => ∃ a o, y = .ref a ∧ DGet H a x o ∧ Q (.bl o.isSome) H) pInD := by
  intro W sg F H x y a b Q e ra rb h
  obtain ⟨oa, ba, da⟩ := a
  obtain ⟨ob, bb, db⟩ := b
  have ra' := ra.rep e
  cases da with
  | int n =>
    cases db with
    | dic ks xs =>
      cases ra'
      obtain ⟨a, kvs, rfl, ha, hk, rh, rf⟩ := Rw.dict rb e
      have vr := valV_rep (n := n) hk rh
      have g := DGet.k (k := (Sum.inl n : Key)) ha
      refine ⟨a, _, rfl, g, ?_⟩
      have e1 : (valV kvs (Sum.inl n : Key)).isSome = (dGet ks xs n).isSome := by
        cases hg : dGet ks xs n with
        | none => rw [hg] at vr; rw [vr]; rfl
        | some d =>
          rw [hg] at vr
          obtain ⟨v, hv, _⟩ := vr
          rw [hv]
          rfl
      rw [e1]
      exact Aft.now e .bl h
    | _ => exact (show False from h).elim
  | _ => exact (show False from h).elim
theorem hu1 {A : Around} {k : Nat} (hr : Room k A) : A.units + 1 < cLine := by have := hu65 hr; omega
end
end
end Bk
set_option Elab.async false
set_option linter.all false
set_option maxRecDepth 100000
set_option maxHeartbeats 4000000
/-! BkP: owned things within owned things: a tuple of fresh lists, a list of fresh lists; their parts changed. -/
namespace Bk
open PySem L2 PySem.Spec PyProof.Rows
/-! ### a part is looked at -/
def nestOf (o : Ow) (d : D) : Option (List D) := match o, d with
  | .tu (.li .sh), .tup ps => some ps
  | .li (.li .sh), .lst ps => some ps
  | _, _ => none
theorem nestOf_some {o : Ow} {d : D} {ps : List D} (h : nestOf o d = some ps) : (o = .tu (.li .sh) ∧ d = .tup ps) ∨ (o = .li (.li .sh) ∧ d = .lst ps) := by
  unfold nestOf at h
  split at h
  · cases h
    exact .inl ⟨rfl, rfl⟩
  · cases h
    exact .inr ⟨rfl, rfl⟩
  · cases h
def pIxO (a b : Val) : Res Val := match b.d with
  | .int i => match nestOf a.o a.d with
    | some ps => match atI ps i with
      | some d => .ok ⟨.li .sh, true, d⟩
      | none => .bad
    | none => .bad
  | _ => .bad
section
variable {c : Ct} {W : WX} {sg : L2.St} {F H F0 H0 : Hp} {u : V}
/-- the parts of an owned thing -/
theorem Rw.nest {o : Ow} {b : Bool} {d : D} {ps : List D} (h : Rw c F H u ⟨o, b, d⟩) (hn : nestOf o d = some ps) : ∃ (p : Addr) (vs : List V), u = .ref p ∧ (H p = some (.tup vs) ∧ d = .tup ps ∨ H p = some (.lst vs) ∧ d = .lst ps) ∧ vs.length = ps.length ∧
    ∀ (k : Nat) (v : V) (x : D), vs[k]? = some v → ps[k]? = some x → Rw c F H v ⟨.li .sh, true, x⟩ := by
  obtain ⟨S, h1, h2⟩ := h
  rcases nestOf_some hn with ⟨e1, e2⟩ | ⟨e1, e2⟩
  · dsimp only at h1
    rw [e1, e2] at h1
    obtain ⟨a, vs, xs, q1, q2, ha, hl, fa, sa, T, t1, t2, t3⟩ := h1
    cases q2
    exact ⟨a, vs, q1, .inl ⟨ha, e2⟩, hl, fun k v x hv hx => ⟨T k, t3 k v x hv hx, fun b hb => h2 b (t1 k b hb).1⟩⟩
  · dsimp only at h1
    rw [e1, e2] at h1
    obtain ⟨a, vs, xs, q1, q2, sa, ha, hl, T, t1, t2, t3⟩ := h1
    cases q2
    exact ⟨a, vs, q1, .inr ⟨ha, e2⟩, hl, fun k v x hv hx => ⟨T k, t3 k v x hv hx, fun b hb => h2 b (t1 k b hb).1⟩⟩
theorem atI_len {α β : Type} {xs : List α} {ys : List β} {i : Int} {y : β} (hl : xs.length = ys.length) (h : atI ys i = some y) : ∃ (k : Nat) (x : α), atI xs i = some x ∧ xs[k]? = some x ∧ ys[k]? = some y := by
  unfold atI at h ⊢
  rw [hl]
  cases q : ixN ys.length i with
  | none => rw [q] at h; cases h
  | some j =>
    rw [q] at h
    have h : ys[j]? = some y := h
    have hj := (List.getElem?_eq_some_iff.mp h).1
    exact ⟨j, xs[j]'(by omega), List.getElem?_eq_getElem (by omega), List.getElem?_eq_getElem (by omega), h⟩
theorem v2_ixO : V2 c (rIx c.K) pIxO := by
  intro W sg F H x y a b Q e ra rb h
  obtain ⟨oa, ba, da⟩ := a
  obtain ⟨ob, bb, db⟩ := b
  have rb' := rb.rep e
  dsimp only at rb'
  cases rb' with
  | @int i =>
    replace h : Aft c W sg F H Q (match nestOf oa da with
      | some ps => match atI ps i with
        | some d => .ok ⟨.li .sh, true, d⟩
        | none => .bad
      | none => .bad) := h
    cases hn : nestOf oa da with
    | none => rw [hn] at h; exact h.elim
    | some ps =>
      rw [hn] at h
      replace h : Aft c W sg F H Q (match atI ps i with
        | some d => .ok ⟨.li .sh, true, d⟩
        | none => .bad) := h
      obtain ⟨p, vs, rfl, hp, hl, hk⟩ := ra.nest hn
      cases hx : atI ps i with
      | none => rw [hx] at h; exact h.elim
      | some d =>
        rw [hx] at h
        obtain ⟨k, v, h1, h2, h3⟩ := atI_len hl hx
        obtain ⟨S, q1, q2⟩ := hk k v d h2 h3
        have fin : Q v H := h F H v (Wd.refl e) ⟨S, q1, fun a sa => ⟨fun z => (by cases z), q2 a sa⟩⟩
        rcases hp with ⟨hp, _⟩ | ⟨hp, _⟩
        · exact .inr (.inl ⟨p, vs, i, v, rfl, rfl, .inl (.inl hp), h1, fin⟩)
        · exact .inl ⟨p, vs, i, v, rfl, rfl, .inl (.inl hp), h1, fin⟩
  | _ => exact (show False from h).elim
end
/-! ### a part is changed -/
section
variable {c : Ct} {F0 H0 F H : Hp} {sg : L2.St} {env : XEnv}
def nestD (o : Ow) (ps : List D) : D := match o with
  | .tu _ => .tup ps
  | _ => .lst ps
theorem Si.mutN {i : Nat} {o : Ow} {d : D} {ps : List D} (s : Si c F0 H0 F H sg env) (he : env[i]? = some (some (o, d))) (hn : nestOf o d = some ps) : ∃ (a : Addr) (vs : List V), sg[i]? = some (some (.ref a)) ∧ (H a = some (.tup vs) ∧ d = .tup ps ∨ H a = some (.lst vs) ∧ d = .lst ps) ∧ vs.length = ps.length ∧
    ∀ (j : Nat) (v : V) (x : D), vs[j]? = some v → ps[j]? = some x → ∃ (b : Addr) (us : List V) (xs : List D), v = .ref b ∧ x = .lst xs ∧ H b = some (.lst us) ∧ Reps c F us xs ∧
      ∀ ws ys, Reps c F ws ys → Si c F0 H0 F (upd H b (.lst ws)) sg (env.set i (some (o, nestD o (ps.set j (.lst ys))))) := by
  obtain ⟨S, s1, s2, s3⟩ := s.own
  obtain ⟨v0, h1, h2⟩ := s3 i o d he
  have hli : i < env.length := (List.getElem?_eq_some_iff.mp he).1
  -- what both shapes have
  have core : ∀ (a : Addr) (vs : List V) (T : Nat → Addr → Prop), S i a → vs.length = ps.length → (∀ k b, T k b → S i b ∧ b ≠ a) → (∀ k j b, T k b → T j b → k = j) → (∀ k u x, vs[k]? = some u → ps[k]? = some x → Own c F H (.li .sh) u x (T k)) →
      (∀ (H' : Hp) (ps' : List D), H' a = H a → ps'.length = ps.length → (∀ k u x, vs[k]? = some u → ps'[k]? = some x → Own c F H' (.li .sh) u x (T k)) → Own c F H' o v0 (nestD o ps') (S i)) →
      ∀ (j : Nat) (v : V) (x : D), vs[j]? = some v → ps[j]? = some x → ∃ (b : Addr) (us : List V) (xs : List D), v = .ref b ∧ x = .lst xs ∧ H b = some (.lst us) ∧ Reps c F us xs ∧
        ∀ ws ys, Reps c F ws ys → Si c F0 H0 F (upd H b (.lst ws)) sg (env.set i (some (o, nestD o (ps.set j (.lst ys))))) := by
    intro a vs T sa hl t1 t2 t3 back j v x hv hx
    obtain ⟨b, us, xs, e1, e2, tb, hb, hl2, T2, _, _, u3⟩ := t3 j v x hv hx
    refine ⟨b, us, xs, e1, e2, hb, Reps.all hl2 fun k u x hu hx => u3 k u x hu hx, fun ws ys hr => ?_⟩
    have sb := (t1 j b tb).1
    have fb := s2 i b sb
    have eF : Ex F (upd H b (.lst ws)) := s.wd.fh.mut fb.2.1
    refine ⟨⟨s.wd.f, eF, s.wd.h.mut fb.1, s.wd.n⟩, by rw [List.length_set]; exact s.len, S, s1, fun k q hq => ?_, fun k o3 d3 hk => ?_⟩
    · have := s2 k q hq
      refine ⟨this.1, this.2.1, ?_⟩
      by_cases z : q = b
      · subst z
        rw [upd_same]
        exact fun z => by cases z
      · rw [upd_ne z]
        exact this.2.2
    · by_cases q : k = i
      · subst q
        rw [List.getElem?_set_self hli] at hk
        cases hk
        refine ⟨v0, h1, back _ _ (upd_ne (t1 j b tb).2.symm) (by rw [List.length_set]) fun k2 u x2 hu hx2 => ?_⟩
        by_cases z : k2 = j
        · subst z
          have hlj : k2 < ps.length := (List.getElem?_eq_some_iff.mp hx).1
          rw [List.getElem?_set_self hlj] at hx2
          cases hx2
          rw [hv] at hu
          cases hu
          refine ⟨b, ws, ys, e1, rfl, tb, upd_same, hr.length, fun _ _ => False, fun _ _ z => z.elim, fun _ _ _ z => z.elim, fun k u x hu hx => ?_⟩
          obtain ⟨d2, g2, g3⟩ := hr.get hu
          rw [hx] at g2
          cases g2
          exact g3
        · rw [List.getElem?_set_ne (Ne.symm z)] at hx2
          refine (t3 k2 u x2 hu hx2).frame (Evl.Ex.refl F) (fun q hq => upd_ne fun e => z (t2 k2 j b (e ▸ hq) tb)) fun q hq => (s2 k q (t1 k2 q hq).1).2.1
      · rw [List.getElem?_set_ne (Ne.symm q)] at hk
        obtain ⟨v, h4, h5⟩ := s3 k o3 d3 hk
        refine ⟨v, h4, h5.frame (Evl.Ex.refl F) (fun b2 hb2 => upd_ne fun z => q (s1 k i b2 hb2 (z ▸ sb))) fun b2 hb2 => (s2 k b2 hb2).2.1⟩
  rcases nestOf_some hn with ⟨e1, e2⟩ | ⟨e1, e2⟩
  · subst e1 e2
    obtain ⟨a, vs, xs, q1, q2, ha, hl, fa, sa, T, t1, t2, t3⟩ := h2
    cases q2
    subst q1
    exact ⟨a, vs, h1, .inl ⟨ha, rfl⟩, hl, core a vs T sa hl t1 t2 t3 fun H' ps' hH hl' hk => ⟨a, vs, ps', rfl, rfl, hH.trans ha, hl.trans hl'.symm, fa, sa, T, t1, t2, hk⟩⟩
  · subst e1 e2
    obtain ⟨a, vs, xs, q1, q2, sa, ha, hl, T, t1, t2, t3⟩ := h2
    cases q2
    subst q1
    exact ⟨a, vs, h1, .inr ⟨ha, rfl⟩, hl, core a vs T sa hl t1 t2 t3 fun H' ps' hH hl' hk => ⟨a, vs, ps', rfl, rfl, sa, hH.trans ha, hl.trans hl'.symm, T, t1, t2, hk⟩⟩
end
def nestAt : Option (Option (Ow × D)) → Option (Ow × List D)
  | some (some (o, d)) => (nestOf o d).map fun ps => (o, ps)
  | _ => none
theorem nestAt_some {x : Option (Option (Ow × D))} {o : Ow} {ps : List D} (h : nestAt x = some (o, ps)) : ∃ d, x = some (some (o, d)) ∧ nestOf o d = some ps := by
  match x, h with
  | some (some (o2, d)), h =>
    replace h : (nestOf o2 d).map (fun ps => (o2, ps)) = some (o, ps) := h
    cases q : nestOf o2 d with
    | none => rw [q] at h; cases h
    | some ps2 =>
      rw [q] at h
      cases h
      exact ⟨d, rfl, q⟩
  | some none, h => cases h
  | none, h => cases h
/-- xs[k].append(e), xs the owned lists (or tuple of lists) of slot i -/
def xAppAt (i : Nat) (fk f : XE) : XS := fun env => match nestAt env[i]? with
  | some p => match fk env with
    | .ok k => match k.d with
      | .int n => match ixN p.2.length n with
        | some j => match p.2[j]? with
          | some (.lst xs) => match f env with
            | .ok a => if a.b = true then .bad else if xs.length < 100000 then .next (env.set i (some (p.1, nestD p.1 (p.2.set j (.lst (xs ++ [a.d])))))) else .bad
            | .exc n => .exc n env
            | .bad => .bad
          | _ => .bad
        | none => .bad
      | _ => .bad
    | .exc n => .exc n env
    | .bad => .bad
  | none => .bad
section
variable {J : Jx} {st : Stmt} {f : XE} {e : Expr}
theorem ss_appAt {K : PySem.W.Frag} {i : Nat} {fk : XE} (h : PS J.X st (tDrop (tBM K "list" rAppend (tOp (rIx K) (tVar i) (tX J.c J.W J.F0 J.H0 fk)) (tCons (tX J.c J.W J.F0 J.H0 f) tNil)))) : SS J st (xAppAt i fk f) := h.imp fun D sg H ⟨F, env, si, hq⟩ => by
  unfold xAppAt at hq
  cases hp : nestAt env[i]? with
  | none => rw [hp] at hq; exact hq.elim
  | some p =>
    obtain ⟨o, ps⟩ := p
    rw [hp] at hq
    obtain ⟨d, hd, hn⟩ := nestAt_some hp
    obtain ⟨a, vs, h1, ha, hl, hm⟩ := si.mutN hd hn
    refine ⟨_, h1, F, env, si, ?_⟩
    refine aftS_bind (D := D) (k := fun k => match k.d with
      | .int n => match ixN ps.length n with
        | some j => match ps[j]? with
          | some (.lst xs) => match f env with
            | .ok a => if a.b = true then .bad else if xs.length < 100000 then .next (env.set i (some (o, nestD o (ps.set j (.lst (xs ++ [a.d])))))) else .bad
            | .exc n => .exc n env
            | .bad => .bad
          | _ => .bad
        | none => .bad
      | _ => .bad) si hq fun F1 H1 u k w rk _ hk => ?_
    obtain ⟨ok, bk, dk⟩ := k
    have rkk := rk.rep w.fh
    cases rkk with
    | @int n =>
      replace hk : AftS J.c J.W J.F0 J.H0 F D (match ixN ps.length n with
        | some j => match ps[j]? with
          | some (.lst xs) => match f env with
            | .ok a => if a.b = true then .bad else if xs.length < 100000 then .next (env.set i (some (o, nestD o (ps.set j (.lst (xs ++ [a.d])))))) else .bad
            | .exc n => .exc n env
            | .bad => .bad
          | _ => .bad
        | none => .bad) := hk
      cases hj : ixN ps.length n with
      | none => rw [hj] at hk; exact hk.elim
      | some j =>
        rw [hj] at hk
        replace hk : AftS J.c J.W J.F0 J.H0 F D (match ps[j]? with
          | some (.lst xs) => match f env with
            | .ok a => if a.b = true then .bad else if xs.length < 100000 then .next (env.set i (some (o, nestD o (ps.set j (.lst (xs ++ [a.d])))))) else .bad
            | .exc n => .exc n env
            | .bad => .bad
          | _ => .bad) := hk
        cases hx : ps[j]? with
        | none => rw [hx] at hk; exact hk.elim
        | some x =>
          have hlj := (List.getElem?_eq_some_iff.mp hx).1
          have hv : vs[j]? = some (vs[j]'(by omega)) := List.getElem?_eq_getElem (by omega)
          have si1 := si.grow w
          obtain ⟨a1, vs1, g1, ha1, hl1, hm1⟩ := si1.mutN hd hn
          rw [h1] at g1
          cases g1
          have vv : vs1 = vs := by
            rcases ha with ⟨ha, e1⟩ | ⟨ha, e1⟩ <;> rcases ha1 with ⟨ha1, e2⟩ | ⟨ha1, e2⟩
            · have := w.h _ _ ha
              rw [ha1] at this
              cases this
              rfl
            · rw [e1] at e2
              cases e2
            · rw [e1] at e2
              cases e2
            · have := w.h _ _ ha
              rw [ha1] at this
              cases this
              rfl
          subst vv
          obtain ⟨b, us, xs, eb, ex, hb, hr, _⟩ := hm1 j _ x hv hx
          subst ex
          rw [hx] at hk
          replace hk : AftS J.c J.W J.F0 J.H0 F D (match f env with
            | .ok a => if a.b = true then .bad else if xs.length < 100000 then .next (env.set i (some (o, nestD o (ps.set j (.lst (xs ++ [a.d])))))) else .bad
            | .exc n => .exc n env
            | .bad => .bad) := hk
          have hix : atI vs1 n = some (.ref b) := by
            unfold atI
            rw [hl, hj]
            exact hv.trans (by rw [eb])
          have fin : tyV K "list" (.ref b) H1 ∧ (tCons (tX J.c J.W J.F0 J.H0 f) tNil) sg H1 fun xs H2 => rAppend (.ref b) xs H2 fun _ H3 => D.nx sg H3 := by
            refine ⟨.inl ⟨rfl, _, .inl (.inl hb)⟩, F1, env, si1, ?_⟩
            refine aftS_bind (k := fun a => if a.b = true then .bad else if xs.length < 100000 then .next (env.set i (some (o, nestD o (ps.set j (.lst (xs ++ [a.d])))))) else .bad) si1 (AftS.grow w.f hk) fun F2 H2 u2 b2 w2 rv _ hk2 => ?_
            obtain ⟨o2, bb, d2⟩ := b2
            cases bb with
            | true => exact (show False from hk2).elim
            | false =>
              obtain ⟨F3, w3, w4, r3⟩ := rv.share w2
              replace hk2 : AftS J.c J.W J.F0 J.H0 F1 D (if xs.length < 100000 then .next (env.set i (some (o, nestD o (ps.set j (.lst (xs ++ [d2])))))) else .bad) := hk2
              by_cases hlx : xs.length < 100000
              · rw [if_pos hlx] at hk2
                obtain ⟨a3, vs3, g3, ha3, hl3, hm3⟩ := (si1.grow w3).mutN hd hn
                rw [h1] at g3
                cases g3
                have vv3 : vs3 = vs1 := by
                  rcases ha1 with ⟨ha1, e1⟩ | ⟨ha1, e1⟩ <;> rcases ha3 with ⟨ha3, e2⟩ | ⟨ha3, e2⟩
                  · have := w3.h _ _ ha1
                    rw [ha3] at this
                    cases this
                    rfl
                  · rw [e1] at e2
                    cases e2
                  · rw [e1] at e2
                    cases e2
                  · have := w3.h _ _ ha1
                    rw [ha3] at this
                    cases this
                    rfl
                subst vv3
                obtain ⟨b3, us3, xs3, eb3, ex3, hb3, hr3, hs3⟩ := hm3 j _ _ hv hx
                cases ex3
                rw [eb] at eb3
                cases eb3
                exact ⟨b, us3, u2, rfl, rfl, hb3, Evl.sz_lt (by rw [hr3.length]; exact hlx), hk2 F3 _ sg w3.f (hs3 _ _ (hr3.append (.cons r3 .nil)))⟩
              · rw [if_neg hlx] at hk2
                exact hk2.elim
          rcases ha1 with ⟨ha1, _⟩ | ⟨ha1, _⟩
          · exact .inr (.inl ⟨a, vs1, n, .ref b, rfl, rfl, .inl (.inl ha1), hix, fin⟩)
          · exact .inl ⟨a, vs1, n, .ref b, rfl, rfl, .inl (.inl ha1), hix, fin⟩
    | _ => exact (show False from hk).elim
end
/-! ### a tuple of two fresh lists -/
def pT2 (a b : Val) : Res Val := match a, b with
  | ⟨.li .sh, false, .lst xs⟩, ⟨.li .sh, false, .lst ys⟩ => .ok ⟨.tu (.li .sh), false, .tup [.lst xs, .lst ys]⟩
  | _, _ => .bad
def xTup2O (f h : XE) : XE := fun env => (f env).bind fun a => (h env).bind fun b => pT2 a b
theorem aft_bind0 {c : Ct} {W : WX} {sg : L2.St} {F H F1 H1 : Hp} {Q : VK} {f : Res Val} {g : Val → Res Val} (w1 : Wd F H F1 H1) (h : Aft c W sg F H Q (f.bind g)) : Aft c W sg F1 H1 (fun x Hx => ∃ F2 a, Wd F1 H1 F2 Hx ∧ Rv c H1 F2 Hx x a ∧ Aft c W sg F H Q (g a)) f := by
  cases f with
  | ok a => exact fun F2 H2 u w rv => ⟨F2, a, w, rv, h⟩
  | exc k => exact fun F2 H2 w => h F2 H2 (w1.trans w)
  | bad => exact h
section
variable {J : Jx} {a b : Expr} {f h : XE} {pos : Pos}
theorem se_tup2O {x1 : Nat} (ha : SE J a f) (hb : SE J b h) (hs1 : starEach [a, b] J.X.env = (false, eval a J.X.env) :: starEach [b] J.X.env := by rfl) (hs2 : starEach [b] J.X.env = (false, eval b J.X.env) :: starEach [] J.X.env := by rfl) : SE J (.Tuple [a, b] x1 pos) (xTup2O f h) := (pe_tup (pa_cons ha (pa_cons hb pa_nil hs2) hs1)).imp fun sg H Q ⟨F, env, si, hq⟩ => ⟨F, env, si, (aft_bind0 (Wd.refl si.wd.fh) hq).mono fun x H1 ⟨F1, va, w1, r1, hq1⟩ => ⟨F1, env, si.grow w1, (aft_bind0 w1 hq1).mono fun y H2 ⟨F2, vb, w2, r2, hq2⟩ => by
  obtain ⟨oa, ba, da⟩ := va
  obtain ⟨ob, bb, db⟩ := vb
  unfold pT2 at hq2
  split at hq2
  · rename_i xs ys e1 e2
    cases e1
    cases e2
    refine ⟨Evl.sz_of (show (2 : Nat) ≤ 100000 by decide), fun p hp => ?_⟩
    obtain ⟨S1, a1, a2⟩ := r1
    obtain ⟨S2, b1, b2⟩ := r2
    have g1 : ∀ q, S1 q → H2 q = H1 q := fun q sq => wd_same w2 (a2 q sq).2.2
    have k1 : ∀ q, S1 q → F2 q = none := fun q sq => wd_none w2 (a2 q sq).2.1 (a2 q sq).2.2
    have n1 : ∀ q, S1 q → q ≠ p := fun q sq z => by
      have := (a2 q sq).2.2
      rw [← g1 q sq, z] at this
      exact this hp
    have n2 : ∀ q, S2 q → q ≠ p := fun q sq z => (b2 q sq).2.2 (by rw [z]; exact hp)
    have dis : ∀ q, S1 q → S2 q → False := fun q s1 s2 => (a2 q s1).2.2 ((b2 q s2).1 rfl)
    have fp : F2 p = none := Evl.fresh_back w2.fh hp
    have a3 := a1.frame (F' := F2) (H' := upd H2 p (.tup [x, y])) w2.f (fun q sq => by rw [upd_ne (n1 q sq)]; exact g1 q sq) k1
    have b3 := b1.frame (F' := F2) (H' := upd H2 p (.tup [x, y])) (Evl.Ex.refl F2) (fun q sq => upd_ne (n2 q sq)) fun q sq => (b2 q sq).2.1
    refine hq2 F2 (upd H2 p (.tup [x, y])) (.ref p) ((w1.trans w2).heap (Evl.Ex.new hp)) ⟨fun q => q = p ∨ S1 q ∨ S2 q, ?_, fun q sq => ?_⟩
    · refine ⟨p, [x, y], [.lst xs, .lst ys], rfl, rfl, upd_same, rfl, fp, .inl rfl, fun k q => if k = 0 then S1 q else if k = 1 then S2 q else False, fun k q hk => ?_, fun k j q hk hj => ?_, fun k u d hu hd => ?_⟩
      · by_cases z0 : k = 0
        · simp only [if_pos z0] at hk
          exact ⟨.inr (.inl hk), n1 q hk⟩
        · by_cases z1 : k = 1
          · simp only [if_neg z0, if_pos z1] at hk
            exact ⟨.inr (.inr hk), n2 q hk⟩
          · simp only [if_neg z0, if_neg z1] at hk
      · by_cases z0 : k = 0 <;> by_cases y0 : j = 0
        · rw [z0, y0]
        · simp only [if_pos z0] at hk
          by_cases y1 : j = 1
          · simp only [if_neg y0, if_pos y1] at hj
            exact (dis q hk hj).elim
          · simp only [if_neg y0, if_neg y1] at hj
        · simp only [if_pos y0] at hj
          by_cases z1 : k = 1
          · simp only [if_neg z0, if_pos z1] at hk
            exact (dis q hj hk).elim
          · simp only [if_neg z0, if_neg z1] at hk
        · by_cases z1 : k = 1 <;> by_cases y1 : j = 1
          · rw [z1, y1]
          · simp only [if_neg y0, if_neg y1] at hj
          · simp only [if_neg z0, if_neg z1] at hk
          · simp only [if_neg z0, if_neg z1] at hk
      · match k, hu, hd with
        | 0, hu, hd =>
          cases hu
          cases hd
          simp only [if_pos]
          exact a3
        | 1, hu, hd =>
          cases hu
          cases hd
          exact b3
        | k + 2, hu, hd => cases hu
    · rcases sq with rfl | sq | sq
      · refine ⟨fun _ => Evl.fresh_back (w1.h.trans w2.h) hp, fp, ?_⟩
        rw [upd_same]
        exact fun z => by cases z
      · refine ⟨fun _ => (a2 q sq).1 rfl, k1 q sq, ?_⟩
        rw [upd_ne (n1 q sq), g1 q sq]
        exact (a2 q sq).2.2
      · refine ⟨fun _ => Evl.fresh_back w1.h ((b2 q sq).1 rfl), (b2 q sq).2.1, ?_⟩
        rw [upd_ne (n2 q sq)]
        exact (b2 q sq).2.2
  · exact hq2.elim⟩⟩
end
end Bk
set_option Elab.async false
set_option linter.all false
set_option maxRecDepth 100000
set_option maxHeartbeats 4000000
/-! BkQ: what BkP's ways compute, for simp. -/
namespace Bk
open PySem L2
variable {o o2 : Ow} {b b2 : Bool} {i : Int} {ps xs ys : List D} {f h : XE} {env : XEnv}
@[simp] theorem p_IxOt : pIxO ⟨.tu (.li .sh), b, .tup ps⟩ ⟨o, b2, .int i⟩ = match atI ps i with
  | some d => .ok ⟨.li .sh, true, d⟩
  | none => .bad := rfl
@[simp] theorem p_IxOl : pIxO ⟨.li (.li .sh), b, .lst ps⟩ ⟨o, b2, .int i⟩ = match atI ps i with
  | some d => .ok ⟨.li .sh, true, d⟩
  | none => .bad := rfl
@[simp] theorem nestAt_t : nestAt (some (some (.tu (.li .sh), .tup ps))) = some (.tu (.li .sh), ps) := rfl
@[simp] theorem nestAt_l : nestAt (some (some (.li (.li .sh), .lst ps))) = some (.li (.li .sh), ps) := rfl
@[simp] theorem nestD_t : nestD (.tu o) ps = .tup ps := rfl
@[simp] theorem nestD_l : nestD (.li o) ps = .lst ps := rfl
@[simp] theorem p_T2 : pT2 ⟨.li .sh, false, .lst xs⟩ ⟨.li .sh, false, .lst ys⟩ = .ok ⟨.tu (.li .sh), false, .tup [.lst xs, .lst ys]⟩ := rfl
@[simp] theorem e_Tup2O : xTup2O f h env = (f env).bind fun a => (h env).bind fun b => pT2 a b := rfl
@[simp] theorem e_AppAt (i : Nat) (fk : XE) : xAppAt i fk f env = match nestAt env[i]? with
  | some p => match fk env with
    | .ok k => match k.d with
      | .int n => match ixN p.2.length n with
        | some j => match p.2[j]? with
          | some (.lst xs) => match f env with
            | .ok a => if a.b = true then .bad else if xs.length < 100000 then .next (env.set i (some (p.1, nestD p.1 (p.2.set j (.lst (xs ++ [a.d])))))) else .bad
            | .exc n => .exc n env
            | .bad => .bad
          | _ => .bad
        | none => .bad
      | _ => .bad
    | .exc n => .exc n env
    | .bad => .bad
  | none => .bad := rfl
end Bk
set_option Elab.async false
set_option linter.all false
set_option maxRecDepth 100000
set_option maxHeartbeats 4000000
/-! BkR: a handler that goes on behind the try. -/
namespace Bk
open PySem L2
/-- no caught error within, objects too -/
def D.noE : Nat → D → Bool
  | _, .non => true
  | _, .bl _ => true
  | _, .int _ => true
  | _, .str _ => true
  | n + 1, .lst xs => xs.all (D.noE n)
  | n + 1, .tup xs => xs.all (D.noE n)
  | n + 1, .obj xs => xs.all (D.noE n)
  | n + 1, .fz xs => xs.all (D.noE n)
  | n + 1, .dic _ xs => xs.all (D.noE n)
  | _, _ => false
mutual
theorem Rep.noE {c c' : Ct} {F : Hp} (hK : c'.K = c.K) (hC : c'.C = c.C) : ∀ (n : Nat) {v : V} {d : D}, d.noE n = true → Rep c F v d → Rep c' F v d
  | _, _, _, _, .non => .non
  | _, _, _, _, .bl => .bl
  | _, _, _, _, .int => .int
  | _, _, _, _, .str => .str
  | 0, _, _, h, .lst _ _ => nomatch h
  | n + 1, _, _, h, .lst a r => .lst a (Reps.noE hK hC n h r)
  | 0, _, _, h, .tup _ _ => nomatch h
  | n + 1, _, _, h, .tup a r => .tup a (Reps.noE hK hC n h r)
  | 0, _, _, h, .fz _ _ => nomatch h
  | n + 1, _, _, h, .fz a r => .fz (by rw [hK]; exact a) (Reps.noE hK hC n h r)
  | 0, _, _, h, .obj _ _ _ => nomatch h
  | n + 1, _, _, h, .obj a r l => .obj (by rw [hC]; exact a) (Reps.noE hK hC n h r) l
  | 0, _, _, h, .dic _ _ _ => nomatch h
  | n + 1, _, _, h, .dic a k r => .dic a k (Reps.noE hK hC n h r)
  | 0, _, _, h, .exn _ => nomatch h
  | _ + 1, _, _, h, .exn _ => nomatch h
theorem Reps.noE {c c' : Ct} {F : Hp} (hK : c'.K = c.K) (hC : c'.C = c.C) : ∀ (n : Nat) {vs : List V} {ds : List D}, ds.all (D.noE n) = true → Reps c F vs ds → Reps c' F vs ds
  | _, _, _, _, .nil => .nil
  | n, _, _, h, .cons a r => by
    rw [List.all_cons, Bool.and_eq_true] at h
    exact .cons (Rep.noE hK hC n h.1 a) (Reps.noE hK hC n h.2 r)
end
theorem noE_get {n : Nat} {xs : List D} {k : Nat} {x : D} (h : xs.all (D.noE n) = true) (hx : xs[k]? = some x) : x.noE n = true := List.all_eq_true.mp h x (List.mem_of_getElem? hx)
theorem Own.noE {c c' : Ct} {F H : Hp} (hK : c'.K = c.K) (hC : c'.C = c.C) (hi : ∀ a, c.ix a → c'.ix a) : ∀ (n : Nat) {o : Ow} {v : V} {d : D} {S : Addr → Prop}, d.noE n = true → Own c F H o v d S → Own c' F H o v d S
  | n, .sh, v, d, S, hd, h => Rep.noE hK hC n hd h
  | 0, .li e, v, d, S, hd, h => by
    obtain ⟨a, vs, xs, e1, e2, _⟩ := h
    subst e2
    exact nomatch hd
  | n + 1, .li e, v, d, S, hd, h => by
    obtain ⟨a, vs, xs, e1, e2, sa, ha, hl, T, t1, t2, t3⟩ := h
    subst e2
    exact ⟨a, vs, xs, e1, rfl, sa, ha, hl, T, t1, t2, fun k u x hu hx => Own.noE hK hC hi n (noE_get hd hx) (t3 k u x hu hx)⟩
  | 0, .tu e, v, d, S, hd, h => by
    obtain ⟨a, vs, xs, e1, e2, _⟩ := h
    subst e2
    exact nomatch hd
  | n + 1, .tu e, v, d, S, hd, h => by
    obtain ⟨a, vs, xs, e1, e2, ha, hl, fa, sa, T, t1, t2, t3⟩ := h
    subst e2
    exact ⟨a, vs, xs, e1, rfl, ha, hl, fa, sa, T, t1, t2, fun k u x hu hx => Own.noE hK hC hi n (noE_get hd hx) (t3 k u x hu hx)⟩
  | 0, .di, v, d, S, hd, h => by
    obtain ⟨a, kvs, ks, xs, e1, e2, _⟩ := h
    subst e2
    exact nomatch hd
  | n + 1, .di, v, d, S, hd, h => by
    obtain ⟨a, kvs, ks, xs, e1, e2, sa, ha, hk, r⟩ := h
    subst e2
    exact ⟨a, kvs, ks, xs, e1, rfl, sa, ha, hk, Reps.noE hK hC n hd r⟩
  | 0, .io, v, d, S, hd, h => by
    obtain ⟨a, vs, xs, e1, e2, _⟩ := h
    subst e2
    exact nomatch hd
  | n + 1, .io, v, d, S, hd, h => by
    obtain ⟨a, vs, xs, e1, e2, sa, hia, ha, r⟩ := h
    subst e2
    exact ⟨a, vs, xs, e1, rfl, sa, hi a hia, ha, Reps.noE hK hC n hd r⟩
def slotNoE : Option (Ow × D) → Bool
  | none => true
  | some (_, d) => d.noE 7
def envNoE (e : XEnv) : Bool := e.all slotNoE
theorem Si.noE {c c' : Ct} {F0 H0 F H : Hp} {sg : L2.St} {env : XEnv} (hK : c'.K = c.K) (hC : c'.C = c.C) (hi : ∀ a, c.ix a → c'.ix a) (he : envNoE env = true) (s : Si c F0 H0 F H sg env) : Si c' F0 H0 F H sg env := by
  obtain ⟨S, s1, s2, s3⟩ := s.own
  refine ⟨s.wd, s.len, S, s1, s2, fun i o d e => ?_⟩
  obtain ⟨v, h1, h2⟩ := s3 i o d e
  exact ⟨v, h1, Own.noE hK hC hi 7 (List.all_eq_true.mp he _ (List.mem_of_getElem? e)) h2⟩
def scOut (i : Nat) : Out → Out
  | .ret r => scRet (.ret r)
  | .next e => if envNoE (e.set i none) = true then .next (e.set i none) else .bad
  | _ => .bad
def xTryN (pk : Nat → Option Bool) (i : Nat) (bd hd : XS) : XS := fun env => match bd env with
  | .exc k e => match pk k with
    | some true => scOut i (hd (e.set i (some (.sh, .exn k))))
    | some false => .exc k e
    | none => .bad
  | o => o
theorem aft_scN {c : Ct} {W : WX} {F0 H0 F : Hp} {D D' : Ends} {o : Out} {i : Nat} {a : Addr} {m : Nat} (hr : D'.rt = D.rt) (hn : D'.nx = fun σ' H' => D.nx (σ'.set i none) H') (h : AftS c W F0 H0 F D (scOut i o)) : AftS (ctX c a m) WF F0 H0 F D' o := by
  cases o with
  | ret r => exact aft_sc hr h
  | next e =>
    replace h : AftS c W F0 H0 F D (if envNoE (e.set i none) = true then .next (e.set i none) else .bad) := h
    by_cases q : envNoE (e.set i none) = true
    · rw [if_pos q] at h
      intro F' H' sg' ex s'
      rw [hn]
      exact h F' H' _ ex ((s'.drop i none).noE (c := ctX c a m) (c' := c) rfl rfl (fun _ z => z) q)
    · rw [if_neg q] at h
      exact (show False from h).elim
  | _ => exact (show False from h).elim
section
variable {J : Jx}
theorem ss_tryN {x en : Str} {cv : Value} {body suite : List Stmt} {b0 : Stmt} {np pos' pos : Pos} {bd hd : XS} (i n : Nat) (pk : Nat → Option Bool) (hs : J.X.stack = J.X.env :: J.X.outer) (hf : J.X.env.frame = some J.X.env.locals) (hN : J.X.N.Nodup) (hi : J.X.N[i]? = some en) (hln : J.X.env.kindOf en = some .local)
    (hc : Names J.X x cv) (tk : Takes J.X J.W) (hpx : ∀ a k, ¬ J.c.px a k)
    (hk : ∀ k b, pk k = some b → PySem.W.exmOne J.X.K (.ref (J.c.ea k)) cv = some b) (hkn : ∀ k, pk k = some true → k < n)
    (hb : ∀ (W : WX) (pn : List (Addr × Obj)) (xe : Value → Shared → Prop), Takes (J.X.tr pn xe) W → PassesOwn (model J.X.prog J.X.w) J.X.A J.X.env xe → SSs ⟨J.X.tr pn xe, J.c, W, J.F0, J.H0⟩ body bd)
    (hsu : ∀ (a : Addr) (oe : Obj) (pn : List (Addr × Obj)) (m : Nat), m < n → Zc (.ref (J.c.ea m)) none oe → (∃ vs, oe.data = .fields vs) → SSs ⟨J.X.suite a ((a, oe) :: pn), ctX J.c a m, WF, J.F0, J.H0⟩ (b0 :: suite) hd) :
    SS J (.Try body [.ExceptHandler (some (.Name x np)) (some en) (b0 :: suite) pos'] [] [] pos) (xTryN pk i bd hd) :=
  (ps_try_as (tb := fun W => tXS J.c W J.F0 J.H0 bd) (ts := fun a cls d => fun D σ H => ∃ m, m < n ∧ cls = .ref (J.c.ea m) ∧ d = none ∧ tXS (ctX J.c a m) WF J.F0 J.H0 hd D σ H) hs hf hN hi hln hc tk (fun W pn xe t1 t2 => hb W pn xe t1 t2)
    (fun a oe cls d pn hz hfv => ⟨fun pins s σ H D I ⟨m, hm, e1, e2, h⟩ => by
      subst e1 e2
      exact (hsu a oe pn m hm hz hfv).run pins s σ H D I h⟩)).imp fun D sg H ⟨F, env, si, hq⟩ => ⟨F, env, si, by
  unfold xTryN at hq
  cases q : bd env with
  | next e => rw [q] at hq; exact hq
  | ret r => rw [q] at hq; exact hq
  | rete d x => rw [q] at hq; exact hq
  | brk e => rw [q] at hq; exact hq
  | cont e => rw [q] at hq; exact hq
  | bad => rw [q] at hq; exact hq
  | exc k e1 =>
    rw [q] at hq
    replace hq : AftS J.c J.W J.F0 J.H0 F D (match pk k with
      | some true => scOut i (hd (e1.set i (some (.sh, .exn k))))
      | some false => .exc k e1
      | none => .bad) := hq
    intro F' H' sg' e s'
    cases hp : pk k with
    | none => rw [hp] at hq; exact hq.elim
    | some b =>
      rw [hp] at hq
      refine ⟨b, hk k b hp, fun hbt a ha => ?_, fun hbf => ?_⟩
      · subst hbt
        refine ⟨k, hkn k hp, rfl, rfl, F', e1.set i (some (.sh, .exn k)), ?_, AftS.grow e (aft_scN (D := D) rfl rfl hq)⟩
        have s2 : Si (ctX J.c a k) J.F0 J.H0 F' H' sg' e1 := Si.px (c := J.c) (c' := ctX J.c a k) rfl rfl (fun b j h => absurd h (hpx b j)) (fun _ h => h) s'
        exact s2.store (Wd.refl s2.wd.fh) (Rv.sh (.exn ⟨rfl, rfl⟩)) i
      · subst hbf
        have hq2 : AftS J.c J.W J.F0 J.H0 F D (.exc k e1) := hq
        exact hq2 F' H' sg' e s'⟩
end
def kTryN (pk : Nat → Option Bool) (i : Nat) (hd : XS) : Out → Out
  | .exc k e => match pk k with
    | some true => scOut i (hd (e.set i (some (.sh, .exn k))))
    | some false => .exc k e
    | none => .bad
  | o => o
section
variable (pk : Nat → Option Bool) (i n k : Nat) (bd hd : XS) (env : XEnv)
@[simp] theorem e_TryN : xTryN pk i bd hd env = kTryN pk i hd (bd env) := by
  unfold xTryN
  cases bd env <;> rfl
@[simp] theorem kTryN_next : kTryN pk i hd (.next env) = .next env := rfl
@[simp] theorem kTryN_ret (r : Val) : kTryN pk i hd (.ret r) = .ret r := rfl
theorem kTryN_exc (h : pk k = some true) : kTryN pk i hd (.exc k env) = scOut i (hd (env.set i (some (.sh, .exn k)))) := by
  show (match pk k with
    | some true => scOut i (hd (env.set i (some (.sh, .exn k))))
    | some false => .exc k env
    | none => .bad) = _
  rw [h]
theorem scOut_next {e : XEnv} (h : envNoE (e.set i none) = true) : scOut i (.next e) = .next (e.set i none) := if_pos h
end
end Bk
set_option Elab.async false
set_option linter.all false
set_option maxRecDepth 100000
set_option maxHeartbeats 4000000
/-! BkT: lists of fresh lists: made, lengthened, checked; pop(0). -/
namespace Bk
open PySem L2 PySem.Spec PyProof.Rows
/-! ### [] that will hold fresh lists -/
def xLstN : XE := fun _ => .ok ⟨.li (.li .sh), false, .lst []⟩
section
variable {J : Jx} {pos : Pos}
theorem se_lstN : SE J (.List [] pos) xLstN := (pe_lst pa_nil).imp fun sg H Q ⟨F, env, si, hq⟩ => by
  refine ⟨Evl.sz_of (show (0 : Nat) ≤ 100000 by decide), fun p hp => ?_⟩
  have fp : F p = none := Evl.fresh_back si.wd.fh hp
  refine hq F (upd H p (.lst [])) (.ref p) ((Wd.refl si.wd.fh).heap (Evl.Ex.new hp)) ⟨fun a => a = p, ⟨p, [], [], rfl, rfl, rfl, upd_same, rfl, fun _ _ => False, fun _ _ z => z.elim, fun _ _ _ z => z.elim, fun k u x hu _ => by simp at hu⟩, fun a ea => ?_⟩
  subst ea
  refine ⟨fun _ => hp, fp, ?_⟩
  rw [upd_same]
  exact fun z => by cases z
end
/-! ### a fresh list is put at its end -/
section
variable {c : Ct} {F0 H0 F H F' H' : Hp} {sg : L2.St} {env : XEnv}
theorem Si.pushN {i : Nat} {xs : List D} {u : V} {d : D} (s : Si c F0 H0 F H sg env) (he : env[i]? = some (some (.li (.li .sh), .lst xs))) (w : Wd F H F' H') (r : Rv c H F' H' u ⟨.li .sh, false, d⟩) :
    ∃ a vs, sg[i]? = some (some (.ref a)) ∧ H' a = some (.lst vs) ∧ vs.length = xs.length ∧ Si c F0 H0 F' (upd H' a (.lst (vs ++ [u]))) sg (env.set i (some (.li (.li .sh), .lst (xs ++ [d])))) := by
  obtain ⟨S, s1, s2, s3⟩ := s.own
  obtain ⟨v, h1, a, vs, zs, e1, e2, sa, ha, hl, T, t1, t2, t3⟩ := s3 i _ _ he
  subst e1
  cases e2
  obtain ⟨R, r1, r2⟩ := r
  have hli : i < env.length := (List.getElem?_eq_some_iff.mp he).1
  have s' := s.grow w
  have sH : ∀ j q, S j q → ¬ R q := fun j q sq rq => (s2 j q sq).2.2 ((r2 q rq).1 rfl)
  have hS : ∀ j q, S j q → H0 q = none ∧ F' q = none ∧ H' q ≠ none := fun j q sq => ⟨(s2 j q sq).1, wd_none w (s2 j q sq).2.1 (s2 j q sq).2.2, by rw [wd_same w (s2 j q sq).2.2]; exact (s2 j q sq).2.2⟩
  have hR : ∀ q, R q → H0 q = none ∧ F' q = none ∧ H' q ≠ none := fun q rq => ⟨Evl.fresh_back s.wd.h ((r2 q rq).1 rfl), (r2 q rq).2⟩
  have ha' : H' a = some (.lst vs) := w.h _ _ ha
  have fa := hS i a sa
  have eF : Ex F' (upd H' a (.lst (vs ++ [u]))) := s'.wd.fh.mut fa.2.1
  refine ⟨a, vs, h1, ha', hl, ⟨s'.wd.f, eF, s'.wd.h.mut fa.1, s'.wd.n⟩, by rw [List.length_set]; exact s.len, fun j q => if j = i then S i q ∨ R q else S j q, fun j k q hj hk => ?_, fun j q hj => ?_, fun j o3 d3 hk => ?_⟩
  · by_cases q1 : j = i <;> by_cases q2 : k = i
    · rw [q1, q2]
    · simp only [if_pos q1] at hj
      simp only [if_neg q2] at hk
      rcases hj with hj | hj
      · exact (q2 (s1 k i q hk hj)).elim
      · exact (sH k q hk hj).elim
    · simp only [if_neg q1] at hj
      simp only [if_pos q2] at hk
      rcases hk with hk | hk
      · exact (q1 (s1 j i q hj hk)).elim
      · exact (sH j q hj hk).elim
    · simp only [if_neg q1] at hj
      simp only [if_neg q2] at hk
      exact s1 j k q hj hk
  · have base : H0 q = none ∧ F' q = none ∧ H' q ≠ none := by
      by_cases q1 : j = i
      · simp only [if_pos q1] at hj
        rcases hj with hj | hj
        · exact hS i q hj
        · exact hR q hj
      · simp only [if_neg q1] at hj
        exact hS j q hj
    refine ⟨base.1, base.2.1, ?_⟩
    by_cases z : q = a
    · rw [z, upd_same]
      exact fun z => by cases z
    · rw [upd_ne z]
      exact base.2.2
  · by_cases q : j = i
    · subst q
      rw [List.getElem?_set_self hli] at hk
      cases hk
      refine ⟨.ref a, h1, ?_⟩
      simp only [if_pos]
      refine ⟨a, vs ++ [u], xs ++ [d], rfl, rfl, .inl sa, upd_same, by rw [List.length_append, List.length_append, hl]; rfl, fun k q => if k < vs.length then T k q else if k = vs.length then R q else False, fun k q hk => ?_, fun k m q hk hm => ?_, fun k u2 x2 hu hx => ?_⟩
      · by_cases z : k < vs.length
        · simp only [if_pos z] at hk
          exact ⟨.inl (t1 k q hk).1, (t1 k q hk).2⟩
        · by_cases y : k = vs.length
          · simp only [if_neg z, if_pos y] at hk
            exact ⟨.inr hk, fun e => sH j q (e ▸ sa) hk⟩
          · simp only [if_neg z, if_neg y] at hk
      · by_cases z : k < vs.length
        · simp only [if_pos z] at hk
          by_cases z2 : m < vs.length
          · simp only [if_pos z2] at hm
            exact t2 k m q hk hm
          · by_cases y2 : m = vs.length
            · simp only [if_neg z2, if_pos y2] at hm
              exact (sH j q (t1 k q hk).1 hm).elim
            · simp only [if_neg z2, if_neg y2] at hm
        · by_cases y : k = vs.length
          · simp only [if_neg z, if_pos y] at hk
            by_cases z2 : m < vs.length
            · simp only [if_pos z2] at hm
              exact (sH j q (t1 m q hm).1 hk).elim
            · by_cases y2 : m = vs.length
              · rw [y, y2]
              · simp only [if_neg z2, if_neg y2] at hm
          · simp only [if_neg z, if_neg y] at hk
      · by_cases z : k < vs.length
        · rw [List.getElem?_append_left z] at hu
          rw [List.getElem?_append_left (by omega)] at hx
          simp only [if_pos z]
          refine (t3 k u2 x2 hu hx).frame w.f (fun q hq => ?_) fun q hq => (hS j q (t1 k q hq).1).2.1
          rw [upd_ne (t1 k q hq).2]
          exact wd_same w (s2 j q (t1 k q hq).1).2.2
        · rw [List.getElem?_append_right (by omega)] at hu
          rw [List.getElem?_append_right (by omega)] at hx
          have k0 : k - vs.length = 0 := by
            cases hq : k - vs.length with
            | zero => rfl
            | succ m =>
              rw [hq] at hu
              simp at hu
          have y : k = vs.length := by omega
          have kx : k - xs.length = 0 := by omega
          rw [k0] at hu
          rw [kx] at hx
          cases hu
          cases hx
          simp only [if_neg z, if_pos y]
          exact r1.frame (Evl.Ex.refl F') (fun q hq => upd_ne fun e => sH j q (e ▸ sa) hq) fun q hq => (hR q hq).2.1
    · rw [List.getElem?_set_ne (Ne.symm q)] at hk
      obtain ⟨v, h4, h5⟩ := s3 j o3 d3 hk
      refine ⟨v, h4, ?_⟩
      simp only [if_neg q]
      refine h5.frame w.f (fun b2 hb2 => ?_) fun b2 hb2 => (hS j b2 hb2).2.1
      rw [upd_ne fun z => q (s1 j i b2 hb2 (by rw [z]; exact sa))]
      exact wd_same w (s2 j b2 hb2).2.2
end
def atNL : Option (Option (Ow × D)) → Option (List D)
  | some (some (.li (.li .sh), .lst xs)) => some xs
  | _ => none
theorem atNL_some {x : Option (Option (Ow × D))} {xs : List D} (h : atNL x = some xs) : x = some (some (.li (.li .sh), .lst xs)) := by
  unfold atNL at h
  split at h
  · cases h
    rfl
  · cases h
def freshL : Val → Option D
  | ⟨.li .sh, false, d⟩ => some d
  | _ => none
theorem freshL_some {a : Val} {d : D} (h : freshL a = some d) : a = ⟨.li .sh, false, d⟩ := by
  unfold freshL at h
  split at h
  · cases h
    rfl
  · cases h
/-- xs.append(e), e a fresh list, xs the list of fresh lists of slot i -/
def xAppN (i : Nat) (f : XE) : XS := fun env => match atNL env[i]? with
  | some xs => match f env with
    | .ok a => match freshL a with
      | some d => if xs.length < 100000 then .next (env.set i (some (.li (.li .sh), .lst (xs ++ [d])))) else .bad
      | none => .bad
    | .exc n => .exc n env
    | .bad => .bad
  | none => .bad
/-- xs.pop(0) -/
def xPop0 (i : Nat) : XS := fun env => match env[i]? with
  | some (some (.li .sh, .lst xs)) => match xs with
    | _ :: ys => .next (env.set i (some (.li .sh, .lst ys)))
    | [] => .bad
  | _ => .bad
section
variable {J : Jx} {st : Stmt} {f : XE}
theorem ss_appN {K : PySem.W.Frag} {i : Nat} (h : PS J.X st (tDrop (tBM K "list" rAppend (tVar i) (tCons (tX J.c J.W J.F0 J.H0 f) tNil)))) : SS J st (xAppN i f) := h.imp fun D sg H ⟨F, env, si, hq⟩ => by
  unfold xAppN at hq
  cases hp : atNL env[i]? with
  | none => rw [hp] at hq; exact hq.elim
  | some xs =>
    rw [hp] at hq
    have hx := atNL_some hp
    obtain ⟨S, s1, s2, s3⟩ := si.own
    obtain ⟨v, h1, a, vs, zs, e1, e2, sa, ha, hl, _⟩ := s3 i _ _ hx
    subst e1
    refine ⟨_, h1, .inl ⟨rfl, _, .inl (.inl ha)⟩, F, env, si, ?_⟩
    refine aftS_bind (k := fun a => match freshL a with
      | some d => if xs.length < 100000 then .next (env.set i (some (.li (.li .sh), .lst (xs ++ [d])))) else .bad
      | none => .bad) si hq fun F1 H1 u b w rv _ hk => ?_
    cases hf : freshL b with
    | none => rw [hf] at hk; exact (show False from hk).elim
    | some d =>
      rw [hf] at hk
      have eb := freshL_some hf
      subst eb
      replace hk : AftS J.c J.W J.F0 J.H0 F D (if xs.length < 100000 then .next (env.set i (some (.li (.li .sh), .lst (xs ++ [d])))) else .bad) := hk
      by_cases hlx : xs.length < 100000
      · rw [if_pos hlx] at hk
        obtain ⟨a2, vs2, g1, g2, g3, g4⟩ := si.pushN hx w rv
        rw [h1] at g1
        cases g1
        exact ⟨a, vs2, u, rfl, rfl, g2, Evl.sz_lt (by rw [g3]; exact hlx), hk F1 _ sg w.f g4⟩
      · rw [if_neg hlx] at hk
        exact hk.elim
theorem ss_pop0 {K : PySem.W.Frag} {i : Nat} (h : PS J.X st (tDrop (tBM K "list" rPopAt (tVar i) (tCons (tX J.c J.W J.F0 J.H0 (xC (.int 0))) tNil)))) : SS J st (xPop0 i) := h.imp fun D sg H ⟨F, env, si, hq⟩ => by
  refine ownL (k := fun xs => match xs with
    | _ :: ys => .next (env.set i (some (.li .sh, .lst ys)))
    | [] => .bad) hq fun xs hx hq => ?_
  cases xs with
  | nil => exact (show False from hq).elim
  | cons y ys =>
    replace hq : AftS J.c J.W J.F0 J.H0 F D (.next (env.set i (some (.li .sh, .lst ys)))) := hq
    obtain ⟨a, vs, h1, ha, hr, _⟩ := Si.mut (ys := []) si hx
    refine ⟨_, h1, .inl ⟨rfl, _, .inl (.inl ha)⟩, F, env, si, fun F1 H1 u w rv => ?_⟩
    have rr := rv.repF
    cases rr
    obtain ⟨a2, vs2, g1, g2, g3, g4⟩ := Si.mut (ys := []) (si.grow w) hx
    rw [h1] at g1
    cases g1
    cases g3 with
    | @cons v0 _ vs0 _ r1 r2 =>
      refine ⟨a, v0 :: vs0, 0, 0, v0, rfl, rfl, g2, by decide, by decide, ?_, rfl, hq F1 _ sg w.f (g4 _ _ r2)⟩
      unfold seqIndex?
      simp
end
/-! ### a list of fresh lists is checked -/
section
variable {c : Ct} {F0 H0 F H : Hp} {sg : L2.St} {env : XEnv}
theorem Si.hide (s : Si c F0 H0 F H sg env) (i : Nat) : Si c F0 H0 F H sg (env.set i none) := by
  obtain ⟨S, s1, s2, s3⟩ := s.own
  refine ⟨s.wd, by rw [List.length_set]; exact s.len, S, s1, s2, fun j o d e => ?_⟩
  by_cases q : j = i
  · subst q
    by_cases hl : j < env.length
    · rw [List.getElem?_set_self hl] at e
      cases e
    · rw [List.getElem?_eq_none_iff.mpr (by rw [List.length_set]; omega)] at e
      cases e
  · rw [List.getElem?_set_ne (Ne.symm q)] at e
    exact s3 j o d e
/-- a slot whose value is known is told -/
theorem Si.tell {v : V} {d : D} (s : Si c F0 H0 F H sg env) {j : Nat} (hv : sg[j]? = some (some v)) (r : Rep c F v d) : Si c F0 H0 F H sg (env.set j (some (.sh, d))) := by
  obtain ⟨S, s1, s2, s3⟩ := s.own
  refine ⟨s.wd, by rw [List.length_set]; exact s.len, fun i a => if i = j then False else S i a, fun i k a hi hk => ?_, fun i a hi => ?_, fun i o d2 e => ?_⟩
  · by_cases q1 : i = j
    · simp only [if_pos q1] at hi
    · by_cases q2 : k = j
      · simp only [if_pos q2] at hk
      · simp only [if_neg q1] at hi
        simp only [if_neg q2] at hk
        exact s1 i k a hi hk
  · by_cases q1 : i = j
    · simp only [if_pos q1] at hi
    · simp only [if_neg q1] at hi
      exact s2 i a hi
  · by_cases q : i = j
    · subst q
      have hl : i < env.length := by
        rw [← s.len]
        exact (List.getElem?_eq_some_iff.mp hv).1
      rw [List.getElem?_set_self hl] at e
      cases e
      exact ⟨v, hv, r⟩
    · rw [List.getElem?_set_ne (Ne.symm q)] at e
      obtain ⟨v2, h1, h2⟩ := s3 i o d2 e
      refine ⟨v2, h1, ?_⟩
      simp only [if_neg q]
      exact h2
end
def isF : Res Bool → Bool
  | .ok false => true
  | _ => false
theorem isF_eq {r : Res Bool} (h : isF r = true) : r = .ok false := by
  unfold isF at h
  split at h
  · rfl
  · cases h
def chk1 (f2 : XB) (e : XEnv) (k : Nat) : List D → Bool
  | [] => true
  | y :: ys => isF (f2 (e.set k (some (.sh, y)))) && chk1 f2 e k ys
def chk2 (f1 f2 : XB) (e : XEnv) (j k : Nat) : List D → Bool
  | [] => true
  | .lst ys :: xs => isF (f1 (e.set j (some (.sh, .lst ys)))) && chk1 f2 (e.set j (some (.sh, .lst ys))) k ys && chk2 f1 f2 e j k xs
  | _ :: _ => false
theorem chk1_get {f2 : XB} {e : XEnv} {k : Nat} : ∀ {ys : List D} {n : Nat} {y : D}, chk1 f2 e k ys = true → ys[n]? = some y → f2 (e.set k (some (.sh, y))) = .ok false
  | y :: ys, 0, _, h, hy => by
    cases hy
    unfold chk1 at h
    rw [Bool.and_eq_true] at h
    exact isF_eq h.1
  | y :: ys, n + 1, z, h, hy => by
    unfold chk1 at h
    rw [Bool.and_eq_true] at h
    exact chk1_get h.2 (by simpa using hy)
  | [], n, y, h, hy => by simp at hy
theorem chk2_get {f1 f2 : XB} {e : XEnv} {j k : Nat} : ∀ {ps : List D} {n : Nat} {x : D}, chk2 f1 f2 e j k ps = true → ps[n]? = some x → ∃ ys, x = .lst ys ∧ f1 (e.set j (some (.sh, .lst ys))) = .ok false ∧ chk1 f2 (e.set j (some (.sh, .lst ys))) k ys = true
  | [], n, x, h, hx => by simp at hx
  | p :: ps, n, x, h, hx => by
    cases p with
    | lst ys =>
      unfold chk2 at h
      rw [Bool.and_eq_true, Bool.and_eq_true] at h
      cases n with
      | zero =>
        cases hx
        exact ⟨ys, rfl, isF_eq h.1.1, h.1.2⟩
      | succ n => exact chk2_get h.2 (by simpa using hx)
    | _ => exact nomatch h
/-- for x in xs: if t1: return ..; for y in x: if t2: return .. (no test holds) -/
def xChkN (i j k : Nat) (f1 f2 : XB) : XS := fun env => match atNL env[i]? with
  | some ps => if (chk2 f1 f2 (((env.set j none).set k none).set i (some (.sh, .lst ps))) j k ps && decide (j < env.length)) = true then .next ((env.set j none).set k none) else .bad
  | none => .bad
section
variable {J : Jx} {st : Stmt} {f1 f2 : XB} {t1 t2 : TS}
theorem ss_chkN {K K2 : PySem.W.Frag} {i j k : Nat} (hij : i ≠ j) (hik : i ≠ k) (hjk : j ≠ k) (h : PS J.X st (tFor (iList K (tVar i)) (gName j) (tSeq (tIfS (tXB J.c J.W J.F0 J.H0 f1) t1 tNext) (tFor (iList K2 (tVar j)) (gName k) (tIfS (tXB J.c J.W J.F0 J.H0 f2) t2 tNext))))) : SS J st (xChkN i j k f1 f2) := h.imp fun D sg H ⟨F, env, si, hq⟩ => by
  unfold xChkN at hq
  cases hp : atNL env[i]? with
  | none => rw [hp] at hq; exact hq.elim
  | some ps =>
    rw [hp] at hq
    replace hq : AftS J.c J.W J.F0 J.H0 F D (if (chk2 f1 f2 (((env.set j none).set k none).set i (some (.sh, .lst ps))) j k ps && decide (j < env.length)) = true then .next ((env.set j none).set k none) else .bad) := hq
    by_cases hc0 : (chk2 f1 f2 (((env.set j none).set k none).set i (some (.sh, .lst ps))) j k ps && decide (j < env.length)) = true
    · rw [if_pos hc0] at hq
      rw [Bool.and_eq_true, decide_eq_true_eq] at hc0
      obtain ⟨hc, hjl⟩ := hc0
      have hx := atNL_some hp
      have hil : i < env.length := (List.getElem?_eq_some_iff.mp hx).1
      obtain ⟨S, s1, s2, s3⟩ := si.own
      obtain ⟨v, h1, a, vs, zs, e1, e2, sa, ha, hl, _⟩ := s3 i _ _ hx
      subst e1
      cases e2
      have sE0 : Si J.c J.F0 J.H0 F H sg ((env.set j none).set k none) := (si.hide j).hide k
      have lE : ((env.set j none).set k none).length = env.length := by rw [List.length_set, List.length_set]
      have xE : ((env.set j none).set k none)[i]? = some (some (.li (.li .sh), .lst ps)) := by
        rw [List.getElem?_set_ne (Ne.symm hik), List.getElem?_set_ne (Ne.symm hij)]
        exact hx
      have kE : ((env.set j none).set k none).set k none = (env.set j none).set k none := List.set_set ..
      have jE : ((env.set j none).set k none).set j none = (env.set j none).set k none := by
        rw [List.set_comm _ _ (Ne.symm hjk), List.set_set]
      generalize (env.set j none).set k none = E0 at *
      -- the frozen view
      have froz : ∀ (sg2 : L2.St) (Hx : Hp), Si J.c J.F0 J.H0 F Hx sg2 E0 → sg2[i]? = some (some (.ref a)) → Hx a = some (.lst vs) → ∃ F', Ex F' Hx ∧ Si J.c J.F0 J.H0 F' Hx sg2 (E0.set i (some (.sh, .lst ps))) ∧ Reps J.c F' vs ps := by
        intro sg2 Hx s g1 ga
        obtain ⟨F', w1, ef, sF⟩ := s.freeze xE
        obtain ⟨v, q1, q2⟩ := sF.shared (i := i) (List.getElem?_set_self (by omega))
        rw [g1] at q1
        cases q1
        cases q2 with
        | lst hF hr =>
          have := sF.wd.fh _ _ hF
          rw [ga] at this
          cases this
          exact ⟨F', sF.wd.fh, sF, hr⟩
      refine ⟨_, h1, a, rfl, ⟨vs, .inl (.inl ha)⟩, fun n m sg2 Hx => m = ps.length - n ∧ n ≤ ps.length ∧ sg2[i]? = some (some (.ref a)) ∧ Wd F H F Hx ∧ Si J.c J.F0 J.H0 F Hx sg2 E0, ⟨ps.length, by simp, Nat.zero_le _, h1, Wd.refl si.wd.fh, sE0⟩, ?_⟩
      rintro n m sg2 Hx ⟨rfl, hn, g1, w, sx⟩
      have haX := w.h _ _ ha
      by_cases hlt : n < ps.length
      · have hvn : vs[n]? = some (vs[n]'(by omega)) := List.getElem?_eq_getElem (by omega)
        have hpn : ps[n]? = some ps[n] := List.getElem?_eq_getElem hlt
        refine .inr ⟨⟨vs, _, .inl (.inl haX), hvn⟩, fun sg3 H3 => sg3[i]? = some (some (.ref a)) ∧ Wd F H F H3 ∧ Si J.c J.F0 J.H0 F H3 sg3 E0, fun sg3 H3 hN => ⟨ps.length - (n + 1), by omega, rfl, by omega, hN⟩, fun x H' y => ?_⟩
        obtain ⟨eH, ey⟩ := y
        subst eH
        have ex := ey vs (.inl (.inl haX))
        rw [hvn] at ex
        cases ex
        obtain ⟨ys, ep, c1, c2⟩ := chk2_get hc hpn
        generalize hxv : vs[n]'(by omega) = x at *
        -- slot j is x
        have hj2 : (sg2.set j (some x))[j]? = some (some x) := List.getElem?_set_self (by rw [sx.len, lE]; exact hjl)
        have hi2 : (sg2.set j (some x))[i]? = some (some (.ref a)) := by
          rw [List.getElem?_set_ne (Ne.symm hij)]
          exact g1
        have sx2 : Si J.c J.F0 J.H0 F H' (sg2.set j (some x)) E0 := by
          have := sx.drop j (some x)
          rw [jE] at this
          exact this
        -- x in a frozen view
        have xin : ∀ (sg4 : L2.St) (H4 : Hp), Si J.c J.F0 J.H0 F H4 sg4 E0 → sg4[i]? = some (some (.ref a)) → sg4[j]? = some (some x) → H4 a = some (.lst vs) → ∃ F', Ex F' H4 ∧ Si J.c J.F0 J.H0 F' H4 sg4 ((E0.set i (some (.sh, .lst ps))).set j (some (.sh, .lst ys))) ∧ ∃ b us, x = .ref b ∧ F' b = some (.lst us) ∧ Reps J.c F' us ys := by
          intro sg4 H4 s4 q1 q2 q3
          obtain ⟨F', fx, sF, hr⟩ := froz sg4 H4 s4 q1 q3
          obtain ⟨d, hd, rd⟩ := hr.get hvn
          rw [hpn] at hd
          cases hd
          rw [ep] at rd
          have st := sF.tell q2 rd
          cases rd with
          | lst hb hbr => exact ⟨F', fx, st, _, _, rfl, hb, hbr⟩
        obtain ⟨F', fx, sF, b, us, exb, hb, hbr⟩ := xin _ _ sx2 hi2 hj2 haX
        refine ⟨F', _, sF, ?_⟩
        rw [c1]
        intro F2 H2 w2
        refine iteF ?_
        have hb2 : H2 b = some (.lst us) := w2.h _ _ (fx _ _ hb)
        have wA : Wd F H F H2 := w.heap w2.h
        have sA : Si J.c J.F0 J.H0 F H2 (sg2.set j (some x)) E0 := sx2.grow ((Wd.refl sx2.wd.fh).heap w2.h)
        refine ⟨x, hj2, b, exb, ⟨us, .inl (.inl hb2)⟩, fun n2 m2 sg4 H4 => m2 = ys.length - n2 ∧ n2 ≤ ys.length ∧ sg4[i]? = some (some (.ref a)) ∧ sg4[j]? = some (some x) ∧ Wd F H F H4 ∧ Si J.c J.F0 J.H0 F H4 sg4 E0 ∧ H4 b = some (.lst us), ⟨ys.length, by simp, Nat.zero_le _, hi2, hj2, wA, sA, hb2⟩, ?_⟩
        rintro n2 m2 sg4 H4 ⟨rfl, hn2, q1, q2, wB, sB, hb4⟩
        have lus := hbr.length
        by_cases hlt2 : n2 < ys.length
        · have hun : us[n2]? = some (us[n2]'(by omega)) := List.getElem?_eq_getElem (by omega)
          have hyn : ys[n2]? = some ys[n2] := List.getElem?_eq_getElem hlt2
          refine .inr ⟨⟨us, _, .inl (.inl hb4), hun⟩, fun sg5 H5 => sg5[i]? = some (some (.ref a)) ∧ sg5[j]? = some (some x) ∧ Wd F H F H5 ∧ Si J.c J.F0 J.H0 F H5 sg5 E0 ∧ H5 b = some (.lst us), fun sg5 H5 hN => ⟨ys.length - (n2 + 1), by omega, rfl, by omega, hN⟩, fun z H6 y6 => ?_⟩
          obtain ⟨eH6, ey6⟩ := y6
          subst eH6
          have ez := ey6 us (.inl (.inl hb4))
          rw [hun] at ez
          cases ez
          have k1 := chk1_get c2 hyn
          obtain ⟨F7, fx7, sF7, b7, us7, exb7, hb7, hbr7⟩ := xin _ _ sB q1 q2 (wB.h _ _ ha)
          rw [exb] at exb7
          cases exb7
          have := fx7 _ _ hb7
          rw [hb4] at this
          cases this
          obtain ⟨d, hd, rd⟩ := hbr7.get hun
          rw [hyn] at hd
          cases hd
          refine ⟨F7, _, sF7.put rd k, ?_⟩
          rw [k1]
          intro F8 H8 w8
          refine iteF ?_
          refine ⟨?_, ?_, wB.heap w8.h, ?_, w8.h _ _ hb4⟩
          · rw [List.getElem?_set_ne (Ne.symm hik)]
            exact q1
          · rw [List.getElem?_set_ne (Ne.symm hjk)]
            exact q2
          · have := (sB.drop k (some (us[n2]'(by omega)))).grow ((Wd.refl sB.wd.fh).heap w8.h)
            rw [kE] at this
            exact this
        · have e : n2 = ys.length := by omega
          exact .inl ⟨⟨us, .inl (.inl hb4), by omega⟩, q1, wB, sB⟩
      · exact .inl ⟨⟨vs, .inl (.inl haX), by omega⟩, hq F Hx sg2 (Evl.Ex.refl F) sx⟩
    · rw [if_neg hc0] at hq
      exact hq.elim
end
end Bk
set_option Elab.async false
set_option linter.all false
set_option maxRecDepth 100000
set_option maxHeartbeats 4000000
/-! BkN: what BkT's ways compute, for simp. -/
namespace Bk
open PySem L2
variable {f : XE} {env : XEnv} {d : D} {xs : List D}
@[simp] theorem e_LstN : xLstN env = .ok ⟨.li (.li .sh), false, .lst []⟩ := rfl
@[simp] theorem atNL_l : atNL (some (some (.li (.li .sh), .lst xs))) = some xs := rfl
@[simp] theorem freshL_l : freshL ⟨.li .sh, false, d⟩ = some d := rfl
@[simp] theorem e_AppN (i : Nat) : xAppN i f env = match atNL env[i]? with
  | some xs => match f env with
    | .ok a => match freshL a with
      | some d => if xs.length < 100000 then .next (env.set i (some (.li (.li .sh), .lst (xs ++ [d])))) else .bad
      | none => .bad
    | .exc n => .exc n env
    | .bad => .bad
  | none => .bad := rfl
@[simp] theorem e_Pop0 (i : Nat) : xPop0 i env = match env[i]? with
  | some (some (.li .sh, .lst xs)) => match xs with
    | _ :: ys => .next (env.set i (some (.li .sh, .lst ys)))
    | [] => .bad
  | _ => .bad := rfl
theorem chk1_all {f2 : XB} {e : XEnv} {k : Nat} : ∀ {ys : List D}, (∀ y ∈ ys, f2 (e.set k (some (.sh, y))) = .ok false) → chk1 f2 e k ys = true
  | [], _ => rfl
  | y :: ys, h => by
    unfold chk1
    rw [h y List.mem_cons_self, chk1_all fun z hz => h z (List.mem_cons_of_mem _ hz)]
    rfl
theorem chk2_all {f1 f2 : XB} {e : XEnv} {j k : Nat} : ∀ {ps : List (List D)}, (∀ ys ∈ ps, f1 (e.set j (some (.sh, .lst ys))) = .ok false ∧ ∀ y ∈ ys, f2 ((e.set j (some (.sh, .lst ys))).set k (some (.sh, y))) = .ok false) → chk2 f1 f2 e j k (ps.map .lst) = true
  | [], _ => rfl
  | ys :: ps, h => by
    have h1 := h ys List.mem_cons_self
    rw [List.map_cons]
    unfold chk2
    rw [h1.1, chk1_all h1.2, chk2_all fun z hz => h z (List.mem_cons_of_mem _ hz)]
    rfl
end Bk
set_option Elab.async false
set_option linter.all false
set_option maxRecDepth 100000
set_option maxHeartbeats 4000000
/-! BkM: comprehensions that give fresh lists; a part of a list of fresh lists stored; insert into a part. -/
namespace Bk
open PySem L2 PySem.Spec PyProof.Rows
/-- a turn gives a fresh list -/
def lcStepN (tg : Tg) (f : XE) (env : XEnv) (d : D) : Res (Option D) := match tg.put d env with
  | none => .bad
  | some e1 => match f e1 with
    | .ok a => match freshL a with
      | some d => .ok (some d)
      | none => .bad
    | _ => .bad
def xLcN (vs : List Nat) (it : XI) (tg : Tg) (f : XE) : XE := fun env => (it env).bind fun ds => if ds.length ≤ 100000 then (match lcGo (lcStepN tg f (wipeX env vs)) ds with
  | .ok xs => .ok ⟨.li (.li .sh), false, .lst xs⟩
  | _ => .bad) else .bad
/-- each of us owned, by places that are new behind G -/
def Owns (c : Ct) (G F H : Hp) (L : Addr) (us : List V) (xs : List D) : Prop := us.length = xs.length ∧ ∃ T : Nat → Addr → Prop, (∀ k b, T k b → b ≠ L ∧ G b = none ∧ F b = none ∧ H b ≠ none) ∧ (∀ k j b, T k b → T j b → k = j) ∧ ∀ k u x, us[k]? = some u → xs[k]? = some x → Own c F H (.li .sh) u x (T k)
section
variable {c : Ct} {W : WX} {F0 H0 : Hp} {sg : L2.St} {F H G F' H' : Hp} {env : XEnv} {L : Addr} {us : List V} {xs : List D}
theorem Owns.nil : Owns c G F H L [] [] := ⟨rfl, fun _ _ => False, fun _ _ z => z.elim, fun _ _ _ z => z.elim, fun k u x hu _ => by simp at hu⟩
theorem Owns.grow (w : Wd F H F' H') (o : Owns c G F H L us xs) : Owns c G F' H' L us xs := by
  obtain ⟨hl, T, t1, t2, t3⟩ := o
  exact ⟨hl, T, fun k b hb => ⟨(t1 k b hb).1, (t1 k b hb).2.1, wd_none w (t1 k b hb).2.2.1 (t1 k b hb).2.2.2, by rw [wd_same w (t1 k b hb).2.2.2]; exact (t1 k b hb).2.2.2⟩, t2, fun k u x hu hx =>
    (t3 k u x hu hx).frame w.f (fun b hb => wd_same w (t1 k b hb).2.2.2) fun b hb => wd_none w (t1 k b hb).2.2.1 (t1 k b hb).2.2.2⟩
theorem Owns.upd {ws : List V} (o : Owns c G F H L us xs) : Owns c G F (upd H L (.lst ws)) L us xs := by
  obtain ⟨hl, T, t1, t2, t3⟩ := o
  exact ⟨hl, T, fun k b hb => ⟨(t1 k b hb).1, (t1 k b hb).2.1, (t1 k b hb).2.2.1, by rw [upd_ne (t1 k b hb).1]; exact (t1 k b hb).2.2.2⟩, t2, fun k u x hu hx =>
    (t3 k u x hu hx).frame (Evl.Ex.refl F) (fun b hb => upd_ne (t1 k b hb).1) fun b hb => (t1 k b hb).2.2.1⟩
/-- one more: o stood at (F, H); the new one came out as the heap grew to (F', H') -/
theorem Owns.add {u : V} {d : D} (o : Owns c G F H L us xs) (w : Wd F H F' H') (eG : ∀ b, H b = none → G b = none) (hL : H L ≠ none) (rv : Rv c H F' H' u ⟨.li .sh, false, d⟩) : Owns c G F' H' L (us ++ [u]) (xs ++ [d]) := by
  obtain ⟨hl, T, t1, t2, t3⟩ := o
  obtain ⟨R, r1, r2⟩ := rv
  have dis : ∀ k b, T k b → R b → False := fun k b h1 h2 => (t1 k b h1).2.2.2 ((r2 b h2).1 rfl)
  refine ⟨by rw [List.length_append, List.length_append, hl]; rfl, fun k q => if k < us.length then T k q else if k = us.length then R q else False, fun k q hk => ?_, fun k m q hk hm => ?_, fun k u2 x2 hu hx => ?_⟩
  · by_cases z : k < us.length
    · simp only [if_pos z] at hk
      have := t1 k q hk
      exact ⟨this.1, this.2.1, wd_none w this.2.2.1 this.2.2.2, by rw [wd_same w this.2.2.2]; exact this.2.2.2⟩
    · by_cases y : k = us.length
      · simp only [if_neg z, if_pos y] at hk
        have := r2 q hk
        exact ⟨fun e => hL (e ▸ this.1 rfl), eG q (this.1 rfl), this.2.1, this.2.2⟩
      · simp only [if_neg z, if_neg y] at hk
  · by_cases z : k < us.length
    · simp only [if_pos z] at hk
      by_cases z2 : m < us.length
      · simp only [if_pos z2] at hm
        exact t2 k m q hk hm
      · by_cases y2 : m = us.length
        · simp only [if_neg z2, if_pos y2] at hm
          exact (dis k q hk hm).elim
        · simp only [if_neg z2, if_neg y2] at hm
    · by_cases y : k = us.length
      · simp only [if_neg z, if_pos y] at hk
        by_cases z2 : m < us.length
        · simp only [if_pos z2] at hm
          exact (dis m q hm hk).elim
        · by_cases y2 : m = us.length
          · rw [y, y2]
          · simp only [if_neg z2, if_neg y2] at hm
      · simp only [if_neg z, if_neg y] at hk
  · by_cases z : k < us.length
    · rw [List.getElem?_append_left z] at hu
      rw [List.getElem?_append_left (by omega)] at hx
      simp only [if_pos z]
      exact (t3 k u2 x2 hu hx).frame w.f (fun q hq => wd_same w (t1 k q hq).2.2.2) fun q hq => wd_none w (t1 k q hq).2.2.1 (t1 k q hq).2.2.2
    · rw [List.getElem?_append_right (by omega)] at hu
      rw [List.getElem?_append_right (by omega)] at hx
      have k0 : k - us.length = 0 := by
        cases hq : k - us.length with
        | zero => rfl
        | succ m =>
          rw [hq] at hu
          simp at hu
      have y : k = us.length := by omega
      have kx : k - xs.length = 0 := by omega
      rw [k0] at hu
      rw [kx] at hx
      cases hu
      cases hx
      simp only [if_neg z, if_pos y]
      exact r1
theorem tX_lcN {K : PySem.W.Frag} {vs : List Nat} {it : XI} {tg : Tg} {f : XE} {Q : VK} (hv : ∀ i ∈ tg.ixs, i ∈ vs) (h : tX c W F0 H0 (xLcN vs it tg f) sg H Q) : tLc (tXI c W F0 H0 it) (tg.t K) (tXB c WF F0 H0 xYes) (tX c WF F0 H0 f) vs sg H Q := by
  obtain ⟨F, env, si, hq⟩ := h
  refine ⟨F, env, si, ?_⟩
  unfold xLcN at hq
  cases hit : it env with
  | exc k => rw [hit] at hq; exact hq
  | bad => rw [hit] at hq; exact hq
  | ok ds =>
    rw [hit] at hq
    intro F1 H1 Ji w1 hJ L hL
    replace hq : Aft c W sg F H Q (if ds.length ≤ 100000 then (match lcGo (lcStepN tg f (wipeX env vs)) ds with
      | .ok xs => .ok ⟨.li (.li .sh), false, .lst xs⟩
      | _ => .bad) else .bad) := hq
    by_cases hlen : ds.length ≤ 100000
    · rw [if_pos hlen] at hq
      cases htot : lcGo (lcStepN tg f (wipeX env vs)) ds with
      | exc k => rw [htot] at hq; exact hq.elim
      | bad => rw [htot] at hq; exact hq.elim
      | ok tot =>
        rw [htot] at hq
        replace hq : Aft c W sg F H Q (.ok ⟨.li (.li .sh), false, .lst tot⟩) := hq
        refine ⟨fun i m Hx => m = ds.length - i ∧ i ≤ ds.length ∧ ∃ Fi xs us rest, Hx L = some (.lst us) ∧ Owns c H1 Fi Hx L us xs ∧ Wd F1 H1 Fi Hx ∧ Fi L = none ∧ xs.length ≤ i ∧ lcGo (lcStepN tg f (wipeX env vs)) (ds.drop i) = .ok rest ∧ tot = xs ++ rest,
          ⟨ds.length, by simp, Nat.zero_le _, F1, [], [], tot, upd_same, Owns.nil, ⟨Evl.Ex.refl F1, w1.fh.trans (Evl.Ex.new hL), Evl.Ex.new hL, fun a h1 h2 => absurd h1 h2⟩, Evl.fresh_back w1.fh hL, Nat.le_refl _, htot, rfl⟩, ?_⟩
        rintro i m Hx ⟨rfl, hi, Fi, xs, us, rest, hD, hr, wi, fD, hxl, hrest, htt⟩
        by_cases hlt : i < ds.length
        · refine .inr ?_
          obtain ⟨d, hd⟩ : ∃ d, ds[i]? = some d := ⟨ds[i], by simp [hlt]⟩
          have hdrop : ds.drop i = d :: ds.drop (i + 1) := by
            obtain ⟨e1, e2⟩ := List.getElem?_eq_some_iff.mp hd
            rw [← e2]
            exact List.drop_eq_getElem_cons hlt
          rw [hdrop] at hrest
          obtain ⟨o, r', hs, hr', htt'⟩ := lcGo_cons hrest
          obtain ⟨jg, jy⟩ := (hJ i Hx (wi.f.trans wi.fh)).1 d hd
          refine ⟨jg, fun H' => ∃ m', m' < ds.length - i ∧ (m' = ds.length - (i + 1) ∧ i + 1 ≤ ds.length ∧ ∃ Fi xs us rest, H' L = some (.lst us) ∧ Owns c H1 Fi H' L us xs ∧ Wd F1 H1 Fi H' ∧ Fi L = none ∧ xs.length ≤ i + 1 ∧ lcGo (lcStepN tg f (wipeX env vs)) (ds.drop (i + 1)) = .ok rest ∧ tot = xs ++ rest), fun H' hn => hn, fun x H' y => ?_⟩
          obtain ⟨eH, rx⟩ := jy x H' y
          subst eH
          unfold lcStepN at hs
          cases hp : tg.put d (wipeX env vs) with
          | none => rw [hp] at hs; cases hs
          | some e1 =>
            rw [hp] at hs
            have si1 : Si c F0 H0 Fi H' (L2.wipe sg vs) (wipeX env vs) := (si.grow (w1.trans wi)).wipe vs
            refine Tg.ok K si1 (rx.mono wi.f) hp fun vv si2 => ⟨wipe_setAll vv sg hv, Fi, e1, si2, ?_⟩
            replace hs : (match f e1 with
              | .ok a => match freshL a with
                | some d => .ok (some d)
                | none => .bad
              | _ => .bad) = Res.ok o := hs
            intro F2 H2 w2
            cases hf : f e1 with
            | exc k => rw [hf] at hs; cases hs
            | bad => rw [hf] at hs; cases hs
            | ok a =>
              rw [hf] at hs
              replace hs : (match freshL a with
                | some d => Res.ok (some d)
                | none => .bad) = Res.ok o := hs
              cases hfr : freshL a with
              | none => rw [hfr] at hs; cases hs
              | some da =>
                rw [hfr] at hs
                have ea := freshL_some hfr
                subst ea
                cases hs
                refine iteT ⟨F2, e1, si2.grow w2, ?_⟩
                rw [hf]
                intro F3 H3 u w3 rv
                have w6 : Wd Fi H' F3 H3 := w2.trans w3
                have hD2 : H2 L = some (.lst us) := w2.h _ _ hD
                have hD3 : H3 L = some (.lst us) := w6.h _ _ hD
                have fD3 : F3 L = none := wd_none w6 fD (by rw [hD]; exact fun z => by cases z)
                have w7 : Wd F1 H1 F3 H3 := wi.trans w6
                have ad := (hr.grow w2).add w3 (fun b hb => Evl.fresh_back (wi.trans w2).h hb) (by rw [hD2]; exact fun z => by cases z) rv
                refine ⟨us, hD3, Evl.sz_lt (by rw [hr.1]; omega), ds.length - (i + 1), by omega, rfl, by omega, F3, xs ++ [da], us ++ [u], r', upd_same, ad.upd, ⟨w7.f, w7.fh.mut fD3, w7.h.mut hL, w7.n⟩, fD3, by rw [List.length_append, List.length_singleton]; omega, hr', ?_⟩
                rw [htt, htt', List.append_assoc]
                rfl
        · have e : i = ds.length := by omega
          refine .inl ⟨(hJ i Hx (wi.f.trans wi.fh)).2 e, ?_⟩
          rw [e, List.drop_length] at hrest
          cases hrest
          rw [List.append_nil] at htt
          subst htt
          have wt := w1.trans wi
          obtain ⟨hl, T, t1, t2, t3⟩ := hr
          refine hq Fi Hx (.ref L) wt ⟨fun a => a = L ∨ ∃ k, T k a, ⟨L, us, tot, rfl, rfl, .inl rfl, hD, hl, T, fun k b hb => ⟨.inr ⟨k, hb⟩, (t1 k b hb).1⟩, t2, t3⟩, fun a ea => ?_⟩
          rcases ea with rfl | ⟨k, hk⟩
          · exact ⟨fun _ => Evl.fresh_back w1.h hL, fD, by rw [hD]; exact fun z => by cases z⟩
          · exact ⟨fun _ => Evl.fresh_back w1.h (t1 k a hk).2.1, (t1 k a hk).2.2⟩
    · rw [if_neg hlen] at hq
      exact hq.elim
end
section
variable {J : Jx} {pos : Pos} {f : XE} {elt tgt iter : Expr} {scope : Scope} {it : XI} {tg : Tg}
theorem se_lcN (own : List (Str × Nat)) (hc : J.X.calm = true) (hN : J.X.N.Nodup) (hi : SI J tgt iter it) (ok : BlkOk J.X.N J.X.env.scope scope own)
    (hg : ∀ s H C cl fp, PG (J.blk s H scope C cl fp).X tgt (tg.t J.X.K)) (he : ∀ s H C cl fp, SE (J.blk s H scope C cl fp) elt f) (hv : ∀ i ∈ tg.ixs, i ∈ own.map (·.2) := by decide)
    (hs : ∀ x, foldedSetIterable iter J.X.env x = pure x := by intro _; rfl) : SE J (.ListComp elt [⟨tgt, iter, [], 0⟩] scope pos) (xLcN (own.map (·.2)) it tg f) :=
  (pe_lc hc hN hi ok hg (fun s H C cl fp => spt_nil (J := J.blk s H scope C cl fp)) he hs).imp fun sg H Q h => tX_lcN hv h
theorem ss_setLcN {x : Str} {pos' pos2 : Pos} (i : Nat) (own : List (Str × Nat)) (hc : J.X.calm = true) (hN : J.X.N.Nodup) (hi : SI J tgt iter it) (ok : BlkOk J.X.N J.X.env.scope scope own)
    (hg : ∀ s H C cl fp, PG (J.blk s H scope C cl fp).X tgt (tg.t J.X.K)) (he : ∀ s H C cl fp, SE (J.blk s H scope C cl fp) elt f) (hy : J.X.N[i]? = some x := by rfl) (hyl : J.X.env.scope.names.lookup x = some .local := by rfl)
    (hsw : swapsWith (.ListComp elt [⟨tgt, iter, [], 0⟩] scope pos) (some (.Name x pos')) pos2.line J.X.env = pure true := by exact sw_true rfl rfl rfl (by decide +kernel)) (hv : ∀ i ∈ tg.ixs, i ∈ own.map (·.2) := by decide)
    (hs : ∀ x, foldedSetIterable iter J.X.env x = pure x := by intro _; rfl) : SS J (.Assign [.Name x pos'] (.ListComp elt [⟨tgt, iter, [], 0⟩] scope pos) pos2) (xSet i (xLcN (own.map (·.2)) it tg f)) :=
  (ps_setLc hc hN hy hyl hsw hi ok hg (fun s H C cl fp => spt_nil (J := J.blk s H scope C cl fp)) he hs).imp fun D sg H q => set_tS (tX_lcN hv) q
end
/-! ### a part is stored anew -/
section
variable {c : Ct} {F0 H0 F H F' H' : Hp} {sg : L2.St} {env : XEnv}
theorem Si.setN {i j : Nat} {xs : List D} {u : V} {d : D} (s : Si c F0 H0 F H sg env) (he : env[i]? = some (some (.li (.li .sh), .lst xs))) (w : Wd F H F' H') (r : Rv c H F' H' u ⟨.li .sh, false, d⟩) :
    ∃ a vs, sg[i]? = some (some (.ref a)) ∧ H' a = some (.lst vs) ∧ vs.length = xs.length ∧ Si c F0 H0 F' (upd H' a (.lst (vs.set j u))) sg (env.set i (some (.li (.li .sh), .lst (xs.set j d)))) := by
  obtain ⟨S, s1, s2, s3⟩ := s.own
  obtain ⟨v, h1, a, vs, zs, e1, e2, sa, ha, hl, T, t1, t2, t3⟩ := s3 i _ _ he
  subst e1
  cases e2
  obtain ⟨R, r1, r2⟩ := r
  have hli : i < env.length := (List.getElem?_eq_some_iff.mp he).1
  have s' := s.grow w
  have sH : ∀ j q, S j q → ¬ R q := fun j q sq rq => (s2 j q sq).2.2 ((r2 q rq).1 rfl)
  have hS : ∀ j q, S j q → H0 q = none ∧ F' q = none ∧ H' q ≠ none := fun j q sq => ⟨(s2 j q sq).1, wd_none w (s2 j q sq).2.1 (s2 j q sq).2.2, by rw [wd_same w (s2 j q sq).2.2]; exact (s2 j q sq).2.2⟩
  have hR : ∀ q, R q → H0 q = none ∧ F' q = none ∧ H' q ≠ none := fun q rq => ⟨Evl.fresh_back s.wd.h ((r2 q rq).1 rfl), (r2 q rq).2⟩
  have ha' : H' a = some (.lst vs) := w.h _ _ ha
  have fa := hS i a sa
  have eF : Ex F' (upd H' a (.lst (vs.set j u))) := s'.wd.fh.mut fa.2.1
  refine ⟨a, vs, h1, ha', hl, ⟨s'.wd.f, eF, s'.wd.h.mut fa.1, s'.wd.n⟩, by rw [List.length_set]; exact s.len, fun n q => if n = i then S i q ∨ R q else S n q, fun n k q hj hk => ?_, fun n q hj => ?_, fun n o3 d3 hk => ?_⟩
  · by_cases q1 : n = i <;> by_cases q2 : k = i
    · rw [q1, q2]
    · simp only [if_pos q1] at hj
      simp only [if_neg q2] at hk
      rcases hj with hj | hj
      · exact (q2 (s1 k i q hk hj)).elim
      · exact (sH k q hk hj).elim
    · simp only [if_neg q1] at hj
      simp only [if_pos q2] at hk
      rcases hk with hk | hk
      · exact (q1 (s1 n i q hj hk)).elim
      · exact (sH n q hj hk).elim
    · simp only [if_neg q1] at hj
      simp only [if_neg q2] at hk
      exact s1 n k q hj hk
  · have base : H0 q = none ∧ F' q = none ∧ H' q ≠ none := by
      by_cases q1 : n = i
      · simp only [if_pos q1] at hj
        rcases hj with hj | hj
        · exact hS i q hj
        · exact hR q hj
      · simp only [if_neg q1] at hj
        exact hS n q hj
    refine ⟨base.1, base.2.1, ?_⟩
    by_cases z : q = a
    · rw [z, upd_same]
      exact fun z => by cases z
    · rw [upd_ne z]
      exact base.2.2
  · by_cases q : n = i
    · subst q
      rw [List.getElem?_set_self hli] at hk
      cases hk
      refine ⟨.ref a, h1, ?_⟩
      simp only [if_pos]
      refine ⟨a, vs.set j u, xs.set j d, rfl, rfl, .inl sa, upd_same, by rw [List.length_set, List.length_set, hl], fun k q => if k = j then R q else T k q, fun k q hk => ?_, fun k m q hk hm => ?_, fun k u2 x2 hu hx => ?_⟩
      · by_cases z : k = j
        · simp only [if_pos z] at hk
          exact ⟨.inr hk, fun e => sH n q (e ▸ sa) hk⟩
        · simp only [if_neg z] at hk
          exact ⟨.inl (t1 k q hk).1, (t1 k q hk).2⟩
      · by_cases z : k = j <;> by_cases z2 : m = j
        · rw [z, z2]
        · simp only [if_pos z] at hk
          simp only [if_neg z2] at hm
          exact (sH n q (t1 m q hm).1 hk).elim
        · simp only [if_neg z] at hk
          simp only [if_pos z2] at hm
          exact (sH n q (t1 k q hk).1 hm).elim
        · simp only [if_neg z] at hk
          simp only [if_neg z2] at hm
          exact t2 k m q hk hm
      · by_cases z : k = j
        · subst z
          have l1 : k < vs.length := by
            have := (List.getElem?_eq_some_iff.mp hu).1
            rw [List.length_set] at this
            exact this
          rw [List.getElem?_set_self l1] at hu
          rw [List.getElem?_set_self (by omega)] at hx
          cases hu
          cases hx
          simp only [if_pos]
          exact r1.frame (Evl.Ex.refl F') (fun q hq => upd_ne fun e => sH n q (e ▸ sa) hq) fun q hq => (hR q hq).2.1
        · rw [List.getElem?_set_ne (Ne.symm z)] at hu hx
          simp only [if_neg z]
          refine (t3 k u2 x2 hu hx).frame w.f (fun q hq => ?_) fun q hq => (hS n q (t1 k q hq).1).2.1
          rw [upd_ne (t1 k q hq).2]
          exact wd_same w (s2 n q (t1 k q hq).1).2.2
    · rw [List.getElem?_set_ne (Ne.symm q)] at hk
      obtain ⟨v, h4, h5⟩ := s3 n o3 d3 hk
      refine ⟨v, h4, ?_⟩
      simp only [if_neg q]
      refine h5.frame w.f (fun b2 hb2 => ?_) fun b2 hb2 => (hS n b2 hb2).2.1
      rw [upd_ne fun z => q (s1 n i b2 hb2 (by rw [z]; exact sa))]
      exact wd_same w (s2 n b2 hb2).2.2
end
/-- xs[k] = e, e a fresh list, xs the list of fresh lists of slot i -/
def xSetN (i : Nat) (fk f : XE) : XS := fun env => match atNL env[i]? with
  | some xs => match f env with
    | .ok a => match freshL a with
      | some d => match fk env with
        | .ok k => match k.d with
          | .int n => match ixN xs.length n with
            | some j => .next (env.set i (some (.li (.li .sh), .lst (xs.set j d))))
            | none => .bad
          | _ => .bad
        | .exc n => .exc n env
        | .bad => .bad
      | none => .bad
    | .exc n => .exc n env
    | .bad => .bad
  | none => .bad
section
variable {J : Jx} {st : Stmt} {f : XE}
theorem ss_setN {i : Nat} {fk : XE} (h : PS J.X st (tAsg (tX J.c J.W J.F0 J.H0 f) (gSub (tVar i) (tX J.c J.W J.F0 J.H0 fk) rSetL))) : SS J st (xSetN i fk f) := h.imp fun D sg H ⟨F, env, si, hq⟩ => by
  unfold xSetN at hq
  cases hp : atNL env[i]? with
  | none => rw [hp] at hq; exact hq.elim
  | some xs =>
    rw [hp] at hq
    have hx := atNL_some hp
    refine ⟨F, env, si, aftS_bind (k := fun a => match freshL a with
      | some d => match fk env with
        | .ok k => match k.d with
          | .int n => match ixN xs.length n with
            | some j => .next (env.set i (some (.li (.li .sh), .lst (xs.set j d))))
            | none => .bad
          | _ => .bad
        | .exc n => .exc n env
        | .bad => .bad
      | none => .bad) si hq fun F1 H1 u b w rv _ hk => ?_⟩
    cases hf : freshL b with
    | none => rw [hf] at hk; exact (show False from hk).elim
    | some d =>
      rw [hf] at hk
      have eb := freshL_some hf
      subst eb
      replace hk : AftS J.c J.W J.F0 J.H0 F D (match fk env with
        | .ok k => match k.d with
          | .int n => match ixN xs.length n with
            | some j => .next (env.set i (some (.li (.li .sh), .lst (xs.set j d))))
            | none => .bad
          | _ => .bad
        | .exc n => .exc n env
        | .bad => .bad) := hk
      have si1 := si.grow w
      obtain ⟨a, vs, h1, _⟩ := si.setN (j := 0) hx w rv
      refine ⟨_, h1, F1, env, si1, ?_⟩
      refine aftS_bind (D := D) (k := fun k => match k.d with
        | .int n => match ixN xs.length n with
          | some j => .next (env.set i (some (.li (.li .sh), .lst (xs.set j d))))
          | none => .bad
        | _ => .bad) si1 (AftS.grow w.f hk) fun F3 H3 v k w4 rk hfk hk2 => ?_
      obtain ⟨ok, bk, dk⟩ := k
      have rkk := rk.rep w4.fh
      cases rkk with
      | @int n =>
        replace hk2 : AftS J.c J.W J.F0 J.H0 F1 D (match ixN xs.length n with
          | some j => .next (env.set i (some (.li (.li .sh), .lst (xs.set j d))))
          | none => .bad) := hk2
        cases hj : ixN xs.length n with
        | none => rw [hj] at hk2; exact hk2.elim
        | some j =>
          rw [hj] at hk2
          obtain ⟨a3, vs3, g1, g2, g3, g4⟩ := si.setN (j := j) hx (w.trans w4) (rv.grow w4)
          rw [h1] at g1
          cases g1
          exact ⟨a, vs3, n, j, rfl, rfl, g2, by rw [g3]; exact hj, hk2 F3 _ sg w4.f g4⟩
      | _ => exact (show False from hk2).elim
end
/-! ### xs[k].insert(n, e) -/
def xInsAt (i : Nat) (fk fi f : XE) : XS := fun env => match nestAt env[i]? with
  | some p => match fk env with
    | .ok k => match k.d with
      | .int n => match ixN p.2.length n with
        | some j => match p.2[j]? with
          | some (.lst xs) => match fi env with
            | .ok q => match q.d with
              | .int m => match f env with
                | .ok a => if a.b = true then .bad else if xs.length < 100000 ∧ 0 ≤ m ∧ m ≤ 100000 then .next (env.set i (some (p.1, nestD p.1 (p.2.set j (.lst (xs.take m.toNat ++ [a.d] ++ xs.drop m.toNat)))))) else .bad
                | .exc n => .exc n env
                | .bad => .bad
              | _ => .bad
            | .exc n => .exc n env
            | .bad => .bad
          | _ => .bad
        | none => .bad
      | _ => .bad
    | .exc n => .exc n env
    | .bad => .bad
  | none => .bad
section
variable {J : Jx} {st : Stmt} {f : XE}
def rIns (x : V) (vs : List V) (H : Hp) (Q : VK) : Prop := ∃ (l : Addr) (xs : List V) (i : Int) (y : V), x = .ref l ∧ vs = [.int i, y] ∧ H l = some (.lst xs) ∧ xs.length < sizeLine ∧ 0 ≤ i ∧ i < 2 ^ 63 ∧ Q .non (upd H l (.lst (xs.take i.toNat ++ [y] ++ xs.drop i.toNat)))
theorem mutN_same {c : Ct} {F0 H0 F H F' H' : Hp} {sg : L2.St} {env : XEnv} {i : Nat} {o : Ow} {d : D} {ps : List D} {a : Addr} {vs vs1 : List V} (w : Wd F H F' H') (h1 : H a = some (.tup vs) ∧ d = .tup ps ∨ H a = some (.lst vs) ∧ d = .lst ps) (h2 : H' a = some (.tup vs1) ∧ d = .tup ps ∨ H' a = some (.lst vs1) ∧ d = .lst ps) : vs1 = vs := by
  rcases h1 with ⟨ha, e1⟩ | ⟨ha, e1⟩ <;> rcases h2 with ⟨ha1, e2⟩ | ⟨ha1, e2⟩
  · have := w.h _ _ ha
    rw [ha1] at this
    cases this
    rfl
  · rw [e1] at e2
    cases e2
  · rw [e1] at e2
    cases e2
  · have := w.h _ _ ha
    rw [ha1] at this
    cases this
    rfl
theorem ss_insAt {K : PySem.W.Frag} {i : Nat} {fk fi : XE} (h : PS J.X st (tDrop (tBM K "list" rIns (tOp (rIx K) (tVar i) (tX J.c J.W J.F0 J.H0 fk)) (tCons (tX J.c J.W J.F0 J.H0 fi) (tCons (tX J.c J.W J.F0 J.H0 f) tNil))))) : SS J st (xInsAt i fk fi f) := h.imp fun D sg H ⟨F, env, si, hq⟩ => by
  unfold xInsAt at hq
  cases hp : nestAt env[i]? with
  | none => rw [hp] at hq; exact hq.elim
  | some p =>
    obtain ⟨o, ps⟩ := p
    rw [hp] at hq
    obtain ⟨d, hd, hn⟩ := nestAt_some hp
    obtain ⟨a, vs, h1, ha, hl, hm⟩ := si.mutN hd hn
    refine ⟨_, h1, F, env, si, ?_⟩
    refine aftS_bind (D := D) (k := fun k => match k.d with
      | .int n => match ixN ps.length n with
        | some j => match ps[j]? with
          | some (.lst xs) => match fi env with
            | .ok q => match q.d with
              | .int m => match f env with
                | .ok a => if a.b = true then .bad else if xs.length < 100000 ∧ 0 ≤ m ∧ m ≤ 100000 then .next (env.set i (some (o, nestD o (ps.set j (.lst (xs.take m.toNat ++ [a.d] ++ xs.drop m.toNat)))))) else .bad
                | .exc n => .exc n env
                | .bad => .bad
              | _ => .bad
            | .exc n => .exc n env
            | .bad => .bad
          | _ => .bad
        | none => .bad
      | _ => .bad) si hq fun F1 H1 u k w rk _ hk => ?_
    obtain ⟨ok, bk, dk⟩ := k
    have rkk := rk.rep w.fh
    cases rkk with
    | @int n =>
      replace hk : AftS J.c J.W J.F0 J.H0 F D (match ixN ps.length n with
        | some j => match ps[j]? with
          | some (.lst xs) => match fi env with
            | .ok q => match q.d with
              | .int m => match f env with
                | .ok a => if a.b = true then .bad else if xs.length < 100000 ∧ 0 ≤ m ∧ m ≤ 100000 then .next (env.set i (some (o, nestD o (ps.set j (.lst (xs.take m.toNat ++ [a.d] ++ xs.drop m.toNat)))))) else .bad
                | .exc n => .exc n env
                | .bad => .bad
              | _ => .bad
            | .exc n => .exc n env
            | .bad => .bad
          | _ => .bad
        | none => .bad) := hk
      cases hj : ixN ps.length n with
      | none => rw [hj] at hk; exact hk.elim
      | some j =>
        rw [hj] at hk
        replace hk : AftS J.c J.W J.F0 J.H0 F D (match ps[j]? with
          | some (.lst xs) => match fi env with
            | .ok q => match q.d with
              | .int m => match f env with
                | .ok a => if a.b = true then .bad else if xs.length < 100000 ∧ 0 ≤ m ∧ m ≤ 100000 then .next (env.set i (some (o, nestD o (ps.set j (.lst (xs.take m.toNat ++ [a.d] ++ xs.drop m.toNat)))))) else .bad
                | .exc n => .exc n env
                | .bad => .bad
              | _ => .bad
            | .exc n => .exc n env
            | .bad => .bad
          | _ => .bad) := hk
        cases hx : ps[j]? with
        | none => rw [hx] at hk; exact hk.elim
        | some x =>
          have hlj := (List.getElem?_eq_some_iff.mp hx).1
          have hv : vs[j]? = some (vs[j]'(by omega)) := List.getElem?_eq_getElem (by omega)
          have si1 := si.grow w
          obtain ⟨a1, vs1, g1, ha1, hl1, hm1⟩ := si1.mutN hd hn
          rw [h1] at g1
          cases g1
          have vv := mutN_same (c := J.c) (F0 := F) (H0 := H) (sg := sg) (env := env) (i := i) (o := o) w ha ha1
          subst vv
          obtain ⟨b, us, xs, eb, ex, hb, hr, _⟩ := hm1 j _ x hv hx
          subst ex
          rw [hx] at hk
          replace hk : AftS J.c J.W J.F0 J.H0 F D (match fi env with
            | .ok q => match q.d with
              | .int m => match f env with
                | .ok a => if a.b = true then .bad else if xs.length < 100000 ∧ 0 ≤ m ∧ m ≤ 100000 then .next (env.set i (some (o, nestD o (ps.set j (.lst (xs.take m.toNat ++ [a.d] ++ xs.drop m.toNat)))))) else .bad
                | .exc n => .exc n env
                | .bad => .bad
              | _ => .bad
            | .exc n => .exc n env
            | .bad => .bad) := hk
          have hix : atI vs1 n = some (.ref b) := by
            unfold atI
            rw [hl, hj]
            exact hv.trans (by rw [eb])
          have fin : tyV K "list" (.ref b) H1 ∧ (tCons (tX J.c J.W J.F0 J.H0 fi) (tCons (tX J.c J.W J.F0 J.H0 f) tNil)) sg H1 fun xs H2 => rIns (.ref b) xs H2 fun _ H3 => D.nx sg H3 := by
            refine ⟨.inl ⟨rfl, _, .inl (.inl hb)⟩, F1, env, si1, ?_⟩
            refine aftS_bind (D := D) (k := fun q => match q.d with
              | .int m => match f env with
                | .ok a => if a.b = true then .bad else if xs.length < 100000 ∧ 0 ≤ m ∧ m ≤ 100000 then .next (env.set i (some (o, nestD o (ps.set j (.lst (xs.take m.toNat ++ [a.d] ++ xs.drop m.toNat)))))) else .bad
                | .exc n => .exc n env
                | .bad => .bad
              | _ => .bad) si1 (AftS.grow w.f hk) fun F5 H5 u5 q5 w5 rq _ hk5 => ?_
            obtain ⟨oq, bq, dq⟩ := q5
            have rqq := rq.rep w5.fh
            cases rqq with
            | @int m =>
              replace hk5 : AftS J.c J.W J.F0 J.H0 F1 D (match f env with
                | .ok a => if a.b = true then .bad else if xs.length < 100000 ∧ 0 ≤ m ∧ m ≤ 100000 then .next (env.set i (some (o, nestD o (ps.set j (.lst (xs.take m.toNat ++ [a.d] ++ xs.drop m.toNat)))))) else .bad
                | .exc n => .exc n env
                | .bad => .bad) := hk5
              have si5 := si1.grow w5
              refine ⟨F5, env, si5, ?_⟩
              refine aftS_bind (k := fun a => if a.b = true then .bad else if xs.length < 100000 ∧ 0 ≤ m ∧ m ≤ 100000 then .next (env.set i (some (o, nestD o (ps.set j (.lst (xs.take m.toNat ++ [a.d] ++ xs.drop m.toNat)))))) else .bad) si5 (AftS.grow w5.f hk5) fun F2 H2 u2 b2 w2 rv _ hk2 => ?_
              obtain ⟨o2, bb, d2⟩ := b2
              cases bb with
              | true => exact (show False from hk2).elim
              | false =>
                obtain ⟨F3, w3, w4, r3⟩ := rv.share w2
                replace hk2 : AftS J.c J.W J.F0 J.H0 F5 D (if xs.length < 100000 ∧ 0 ≤ m ∧ m ≤ 100000 then .next (env.set i (some (o, nestD o (ps.set j (.lst (xs.take m.toNat ++ [d2] ++ xs.drop m.toNat)))))) else .bad) := hk2
                by_cases hlx : xs.length < 100000 ∧ 0 ≤ m ∧ m ≤ 100000
                · rw [if_pos hlx] at hk2
                  obtain ⟨a3, vs3, g3, ha3, hl3, hm3⟩ := (si5.grow w3).mutN hd hn
                  rw [h1] at g3
                  cases g3
                  have vv3 := mutN_same (c := J.c) (F0 := F) (H0 := H) (sg := sg) (env := env) (i := i) (o := o) (w5.trans w3) ha1 ha3
                  subst vv3
                  obtain ⟨b3, us3, xs3, eb3, ex3, hb3, hr3, hs3⟩ := hm3 j _ _ hv hx
                  cases ex3
                  rw [eb] at eb3
                  cases eb3
                  exact ⟨b, us3, m, u2, rfl, rfl, hb3, Evl.sz_lt (by rw [hr3.length]; exact hlx.1), hlx.2.1, by omega, hk2 F3 _ sg w3.f (hs3 _ _ (((hr3.take m.toNat).append (.cons r3 .nil)).append (hr3.drop m.toNat)))⟩
                · rw [if_neg hlx] at hk2
                  exact hk2.elim
            | _ => exact (show False from hk5).elim
          rcases ha1 with ⟨ha1, _⟩ | ⟨ha1, _⟩
          · exact .inr (.inl ⟨a, _, n, .ref b, rfl, rfl, .inl (.inl ha1), hix, fin⟩)
          · exact .inl ⟨a, _, n, .ref b, rfl, rfl, .inl (.inl ha1), hix, fin⟩
    | _ => exact (show False from hk).elim
end
/-! ### t[lo:hi], t a tuple, not the whole of it -/
def kSlT (a : Val) (l h : Option Int) : Res Val := match a with
  | ⟨.sh, _, .tup xs⟩ => if HT.sIx xs.length 0 l = 0 ∧ HT.sIx xs.length xs.length h = xs.length then .bad else .ok (.sh (.tup (cut xs l h)))
  | _ => .bad
def xSlT (f : XE) (lo hi : XP) : XE := fun env => (f env).bind fun a => (lo env).bind fun l => (hi env).bind fun h => kSlT a l h
section
variable {J : Jx} {a : Expr} {f : XE} {pos : Pos}
theorem se_slT {lo hi : Option Expr} {p2 : Pos} {fl fh : XP} (ha : SE J a f) (hl : SPo J lo fl) (hh : SPo J hi fh) : SE J (.Subscript a (.Slice lo hi none p2) pos) (xSlT f fl fh) := (pe_slice sl_tup ha hl hh).imp fun sg H Q ⟨F, env, si, hq⟩ => ⟨F, env, si, (aft_bind hq).mono fun x H1 ⟨F1, va, w1, r1, hq1⟩ => by
  refine ⟨F1, env, si.grow w1, (aft_bindP hq1).mono fun l H2 ⟨F2, w2, hq2⟩ => ?_⟩
  refine ⟨F2, env, (si.grow w1).grow w2, (aft_bindP hq2).mono fun u H3 ⟨F3, w3, hq3⟩ => ?_⟩
  have r3 := (r1.rw.grow w2).grow w3
  obtain ⟨oa, ba, da⟩ := va
  cases oa with
  | sh =>
    cases da with
    | tup xs =>
      replace hq3 : Aft J.c J.W sg F3 H3 Q (if HT.sIx xs.length 0 l = 0 ∧ HT.sIx xs.length xs.length u = xs.length then .bad else .ok (.sh (.tup (cut xs l u)))) := hq3
      have rr := r3.sh1
      cases rr with
      | @tup p vs _ hp hr =>
        by_cases q : HT.sIx xs.length 0 l = 0 ∧ HT.sIx xs.length xs.length u = xs.length
        · rw [if_pos q] at hq3
          exact hq3.elim
        · rw [if_neg q] at hq3
          exact ⟨p, vs, rfl, .inl (.inl (w3.fh _ _ hp)), by rw [hr.length]; exact q, fun p2 hp2 => Aft.newT w3.fh hp2 (cut_reps l u hr) hq3⟩
    | _ => exact (show False from hq3).elim
  | _ => exact (show False from hq3).elim⟩
end
@[simp] theorem e_SlT (f : XE) (lo hi : XP) (env : XEnv) : xSlT f lo hi env = (f env).bind fun a => (lo env).bind fun l => (hi env).bind fun h => kSlT a l h := rfl
end Bk
set_option Elab.async false
set_option linter.all false
set_option maxRecDepth 100000
set_option maxHeartbeats 4000000
/-! KF: each def of the program and the law as a function over plain data (printed by gen.py). -/
namespace Bk
open PySem L2
/-- _law_sheet_by(cell): 0=cell 1=way 2=more -/
def F_law_sheet_by : XF := xFun 1 3 (xSeq (xSet 1 (xOp2 pMod (xV 0) (xC (.int 8)))) (
  xSeq (xSet 2 (xOp2 pDiv (xV 0) (xC (.int 8)))) (
  xSeq (xIfS (xT (xOp2 pLt (xV 1) (xC (.int 5)))) (xRet (xTup (xACons (xOp2 pAdd (xC (.int 1)) (xOp2 pMod (xV 2) (xC (.int 6)))) (xACons (xOp2 pAdd (xC (.int 1)) (xOp2 pMod (xOp2 pDiv (xV 2) (xC (.int 6))) (xC (.int 5)))) (xANil))))) (xSkip)) (
  xSeq (xIfS (xT (xOp2 pEq (xV 1) (xC (.int 5)))) (xRet (xTup (xACons (xOp2 pAdd (xC (.int 1)) (xOp2 pMod (xV 2) (xC (.int 40)))) (xACons (xC (.int 1)) (xANil))))) (xSkip)) (
  xSeq (xIfS (xT (xOp2 pEq (xV 1) (xC (.int 6)))) (xRet (xTup (xACons (xC (.int 1)) (xACons (xOp2 pAdd (xC (.int 1)) (xOp2 pMod (xV 2) (xC (.int 40)))) (xANil))))) (xSkip)) (
  xRet (xOp2 pIx (xLst (xACons (xTup (xACons (xC (.int 8)) (xACons (xC (.int 8)) (xANil)))) (xACons (xTup (xACons (xC (.int 16)) (xACons (xC (.int 4)) (xANil)))) (xACons (xTup (xACons (xC (.int 3)) (xACons (xC (.int 21)) (xANil)))) (xACons (xTup (xACons (xC (.int 64)) (xACons (xC (.int 1)) (xANil)))) (xANil)))))) (xOp2 pMod (xV 2) (xC (.int 4))))))))))
/-- _law_flat(columns, rows): 0=columns 1=rows 2=k -/
def F_law_flat : XF := xFun 2 3 (xRet (xLc [2] (xIRange (xVCons (xOp2 pMul (xV 0) (xV 1)) (xVNil))) (.nm 2) (xYes) (xTup (xACons (xOp2 pMod (xV 2) (xV 0)) (xACons (xOp2 pDiv (xV 2) (xV 0)) (xACons (xC (.int 0)) (xACons (xC (.bl false)) (xACons (xC (.bl false)) (xANil)))))))))
/-- _law_heaps(spots): 0=spots 1=wide 2=high 3=out 4=depth 5=k 6=one -/
def F_law_heaps : XF := xFun 1 7 (xSeq (xSet 1 (xOp2 pAdd (xC (.int 1)) (xBlt pMax1 (xVCons (xLc [6] (xIList (xV 0)) (.nm 6) (xYes) (xOp2 pIx (xV 6) (xC (.int 0)))) (xVNil))))) (
  xSeq (xSet 2 (xOp2 pAdd (xC (.int 1)) (xBlt pMax1 (xVCons (xLc [6] (xIList (xV 0)) (.nm 6) (xYes) (xOp2 pIx (xV 6) (xC (.int 1)))) (xVNil))))) (
  xSeq (xSet 3 (xLcN [5] (xIRange (xVCons (xOp2 pMul (xV 1) (xV 2)) (xVNil))) (.nm 5) (xLst (xANil)))) (
  xSeq (xFor (.tp [4, 5]) (xIList (xBlt pSortP (xVCons (xLc [5] (xIRange (xVCons (xBlt pLen (xVCons (xV 0) (xVNil))) (xVNil))) (.nm 5) (xYes) (xTup (xACons (xOp2 pSub (xC (.int 0)) (xOp2 pIx (xOp2 pIx (xV 0) (xV 5)) (xC (.int 2)))) (xACons (xV 5) (xANil))))) (xVNil)))) (xAppAt 3 (xOp2 pAdd (xOp2 pMul (xOp2 pIx (xOp2 pIx (xV 0) (xV 5)) (xC (.int 1))) (xV 1)) (xOp2 pIx (xOp2 pIx (xV 0) (xV 5)) (xC (.int 0)))) (xTup (xACons (xV 5) (xACons (xOp2 pIx (xOp2 pIx (xV 0) (xV 5)) (xC (.int 3))) (xACons (xOp2 pIx (xOp2 pIx (xV 0) (xV 5)) (xC (.int 4))) (xANil))))))) (
  xRetV 3)))))
/-- _law_wider(heaps, wide, high, cell): 0=heaps 1=wide 2=high 3=cell 4=at 5=out 6=y 7=row 8=k -/
def F_law_wider : XF := xFun 4 9 (xSeq (xIfS (xT (xOp2 pEq (xOp2 pMod (xV 3) (xC (.int 4))) (xC (.int 1)))) (xSeq (xSet 4 (xIf (xT (xOp2 pEq (xOp2 pMod (xOp2 pDiv (xV 3) (xC (.int 4))) (xC (.int 2))) (xC (.int 1)))) (xOp2 pMod (xOp2 pDiv (xV 3) (xC (.int 8))) (xOp2 pAdd (xV 1) (xC (.int 1)))) (xV 1))) (
  xSeq (xSet 5 (xLst (xANil))) (
  xSeq (xFor (.nm 6) (xIRange (xVCons (xV 2) (xVNil))) (xSeq (xSet 7 (xSl (xV 0) (xPSome (xOp2 pMul (xV 6) (xV 1))) (xPSome (xOp2 pAdd (xOp2 pMul (xV 6) (xV 1)) (xV 1))))) (
  xSet 5 (xOp2 pAdd (xOp2 pAdd (xOp2 pAdd (xV 5) (xSl (xV 7) (xPNone) (xPSome (xV 4)))) (xLst (xACons (xLst (xANil)) (xANil)))) (xSl (xV 7) (xPSome (xV 4)) (xPNone)))))) (
  xFz 5 (xRet (xTup (xACons (xOp2 pAdd (xV 1) (xC (.int 1))) (xACons (xV 2) (xACons (xV 5) (xANil)))))))))) (xSkip)) (
  xSeq (xIfS (xT (xOp2 pEq (xOp2 pMod (xV 3) (xC (.int 4))) (xC (.int 3)))) (xSeq (xSet 4 (xIf (xT (xOp2 pEq (xOp2 pMod (xOp2 pDiv (xV 3) (xC (.int 4))) (xC (.int 2))) (xC (.int 1)))) (xOp2 pMod (xOp2 pDiv (xV 3) (xC (.int 8))) (xOp2 pAdd (xV 2) (xC (.int 1)))) (xV 2))) (
  xRet (xTup (xACons (xV 1) (xACons (xOp2 pAdd (xV 2) (xC (.int 1))) (xACons (xOp2 pAdd (xOp2 pAdd (xSl (xV 0) (xPNone) (xPSome (xOp2 pMul (xV 4) (xV 1)))) (xLc [8] (xIRange (xVCons (xV 1) (xVNil))) (.nm 8) (xYes) (xLst (xANil)))) (xSl (xV 0) (xPSome (xOp2 pMul (xV 4) (xV 1))) (xPNone))) (xANil))))))) (xSkip)) (
  xRet (xTup (xACons (xV 1) (xACons (xV 2) (xACons (xV 0) (xANil))))))))
/-- seated(columns, rows, wide, heaps): 0=columns 1=rows 2=wide 3=heaps 4=out 5=times 6=place 7=layer 8=cell 9=east 10=north 11=k -/
def F_seated : XF := xFun 4 12 (xSeq (xSet 4 (xLc [11] (xIRange (xVCons (xOp2 pMul (xV 0) (xV 1)) (xVNil))) (.nm 11) (xYes) (xC .non))) (
  xSeq (xSet 5 (xLc [11] (xIRange (xVCons (xOp2 pMul (xV 0) (xV 1)) (xVNil))) (.nm 11) (xYes) (xC (.int 0)))) (
  xSeq (xFor (.nm 6) (xIRange (xVCons (xBlt pLen (xVCons (xV 3) (xVNil))) (xVNil))) (xSeq (xSet 7 (xC (.int 0))) (
  xFor (.tp [8, 9, 10]) (xIList (xOp2 pIx (xV 3) (xV 6))) (xSeq (xSetI 4 (xV 8) (xTup (xACons (xOp2 pSub (xV 6) (xOp2 pMul (xOp2 pDiv (xV 6) (xV 2)) (xV 2))) (xACons (xOp2 pDiv (xV 6) (xV 2)) (xACons (xV 7) (xACons (xV 9) (xACons (xV 10) (xANil)))))))) (
  xSeq (xSetI 5 (xV 8) (xOp2 pAdd (xOp2 pIx (xV 5) (xV 8)) (xC (.int 1)))) (
  xSet 7 (xOp2 pAdd (xV 7) (xC (.int 1))))))))) (
  xRet (xLc [11] (xIRange (xVCons (xBlt pLen (xVCons (xV 4) (xVNil))) (xVNil))) (.nm 11) (xYes) (xIf (xT (xOp2 pEq (xOp2 pIx (xV 5) (xV 11)) (xC (.int 1)))) (xOp2 pIx (xV 4) (xV 11)) (xC .non)))))))
/-- pairs(columns, rows): 0=columns 1=rows 2=out 3=cell -/
def F_pairs : XF := xFun 2 4 (xSeq (xSet 2 (xLst (xANil))) (
  xSeq (xFor (.nm 3) (xIRange (xVCons (xOp2 pMul (xV 0) (xV 1)) (xVNil))) (xSeq (xIfS (xT (xOp2 pEq (xOp2 pDiv (xOp2 pAdd (xV 3) (xC (.int 1))) (xV 0)) (xOp2 pDiv (xV 3) (xV 0)))) (xApp 2 (xTup (xACons (xV 3) (xACons (xOp2 pAdd (xV 3) (xC (.int 1))) (xACons (xC (.bl false)) (xANil)))))) (xSkip)) (
  xIfS (xT (xOp2 pLt (xOp2 pAdd (xV 3) (xV 0)) (xOp2 pMul (xV 0) (xV 1)))) (xApp 2 (xTup (xACons (xV 3) (xACons (xOp2 pAdd (xV 3) (xV 0)) (xACons (xC (.bl true)) (xANil)))))) (xSkip)))) (
  xRetV 2)))
/-- meets(one, other, level): 0=one 1=other 2=level 3=along 4=turn 5=line 6=low 7=high 8=seat -/
def F_meets : XF := xFun 3 9 (xSeq (xSet 3 (xC (.int 0))) (
  xSeq (xSet 4 (xC (.int 3))) (
  xSeq (xIfS (xT (xV 2)) (xSeq (xSet 3 (xC (.int 1))) (
  xSet 4 (xC (.int 4)))) (xSkip)) (
  xSeq (xIfS (xOr (xT (xOp2 pNe (xOp2 pIx (xV 0) (xOp2 pSub (xC (.int 1)) (xV 3))) (xOp2 pIx (xV 1) (xOp2 pSub (xC (.int 1)) (xV 3))))) (xT (xOp2 pNe (xOp2 pIx (xV 0) (xOp2 pSub (xC (.int 7)) (xV 4))) (xOp2 pIx (xV 1) (xOp2 pSub (xC (.int 7)) (xV 4)))))) (xRet (xC .non)) (xSkip)) (
  xSeq (xSet 5 (xOp2 pAdd (xOp2 pIx (xV 0) (xV 3)) (xBlt pInt1 (xVCons (xNotV (xOp2 pIx (xV 0) (xV 4))) (xVNil))))) (
  xSeq (xIfS (xT (xOp2 pNe (xV 5) (xOp2 pAdd (xOp2 pIx (xV 1) (xV 3)) (xBlt pInt1 (xVCons (xOp2 pIx (xV 1) (xV 4)) (xVNil)))))) (xRet (xC .non)) (xSkip)) (
  xSeq (xSet 6 (xBlt pSortI (xVCons (xLc [8] (xITup (xTup (xACons (xV 0) (xACons (xV 1) (xANil))))) (.nm 8) (xT (xOp2 pLt (xOp2 pIx (xV 8) (xV 3)) (xV 5))) (xOp2 pIx (xV 8) (xC (.int 2)))) (xVNil)))) (
  xSeq (xSet 7 (xBlt pSortI (xVCons (xLc [8] (xITup (xTup (xACons (xV 0) (xACons (xV 1) (xANil))))) (.nm 8) (xT (xOp2 pGe (xOp2 pIx (xV 8) (xV 3)) (xV 5))) (xOp2 pIx (xV 8) (xC (.int 2)))) (xVNil)))) (
  xFz 6 (xFz 7 (xRet (xTup (xACons (xV 2) (xACons (xV 5) (xACons (xOp2 pIx (xV 0) (xOp2 pSub (xC (.int 1)) (xV 3))) (xACons (xV 6) (xACons (xV 7) (xANil))))))))))))))))))
/-- between(layer, bend): 0=layer 1=bend -/
def F_between : XF := xFun 2 2 (xRet (xChain pLt pLt (xOp2 pIx (xV 1) (xC (.int 0))) (xV 0) (xOp2 pIx (xV 1) (xC (.int 1)))))
/-- cross(one, other): 0=one 1=other 2=side -/
def F_cross : XF := xFun 2 3 (xSeq (xIfS (xOr (xT (xOp2 pNe (xOp2 pIx (xV 0) (xC (.int 0))) (xOp2 pIx (xV 1) (xC (.int 0))))) (xOr (xT (xOp2 pNe (xOp2 pIx (xV 0) (xC (.int 1))) (xOp2 pIx (xV 1) (xC (.int 1))))) (xT (xOp2 pNe (xOp2 pIx (xV 0) (xC (.int 2))) (xOp2 pIx (xV 1) (xC (.int 2))))))) (xRet (xC (.bl false))) (xSkip)) (
  xSeq (xIfS (xAnd (xT (xOp2 pEq (xBlt pLen (xVCons (xOp2 pIx (xV 0) (xC (.int 3))) (xVNil))) (xC (.int 1)))) (xT (xOp2 pEq (xBlt pLen (xVCons (xOp2 pIx (xV 1) (xC (.int 3))) (xVNil))) (xC (.int 1))))) (xRet (xOp2 pNe (xOp2 pLt (xOp2 pIx (xOp2 pIx (xV 0) (xC (.int 3))) (xC (.int 0))) (xOp2 pIx (xOp2 pIx (xV 1) (xC (.int 3))) (xC (.int 0)))) (xOp2 pLt (xOp2 pIx (xOp2 pIx (xV 0) (xC (.int 4))) (xC (.int 0))) (xOp2 pIx (xOp2 pIx (xV 1) (xC (.int 4))) (xC (.int 0)))))) (xSkip)) (
  xSeq (xFor (.nm 2) (xITup (xTup (xACons (xC (.int 3)) (xACons (xC (.int 4)) (xANil))))) (xSeq (xIfS (xAnd (xT (xOp2 pEq (xBlt pLen (xVCons (xOp2 pIx (xV 0) (xV 2)) (xVNil))) (xC (.int 2)))) (xT (xOp2 pEq (xBlt pLen (xVCons (xOp2 pIx (xV 1) (xV 2)) (xVNil))) (xC (.int 2))))) (xIfS (xT (xOp2 pNe (xCallB F_between (xVCons (xOp2 pIx (xOp2 pIx (xV 1) (xV 2)) (xC (.int 0))) (xVCons (xOp2 pIx (xV 0) (xV 2)) (xVNil)))) (xCallB F_between (xVCons (xOp2 pIx (xOp2 pIx (xV 1) (xV 2)) (xC (.int 1))) (xVCons (xOp2 pIx (xV 0) (xV 2)) (xVNil)))))) (xRet (xC (.bl true))) (xSkip)) (xSkip)) (
  xSeq (xIfS (xAnd (xT (xOp2 pEq (xBlt pLen (xVCons (xOp2 pIx (xV 0) (xV 2)) (xVNil))) (xC (.int 2)))) (xAnd (xT (xOp2 pEq (xBlt pLen (xVCons (xOp2 pIx (xV 1) (xV 2)) (xVNil))) (xC (.int 1)))) (xT (xCallB F_between (xVCons (xOp2 pIx (xOp2 pIx (xV 1) (xV 2)) (xC (.int 0))) (xVCons (xOp2 pIx (xV 0) (xV 2)) (xVNil))))))) (xRet (xC (.bl true))) (xSkip)) (
  xIfS (xAnd (xT (xOp2 pEq (xBlt pLen (xVCons (xOp2 pIx (xV 0) (xV 2)) (xVNil))) (xC (.int 1)))) (xAnd (xT (xOp2 pEq (xBlt pLen (xVCons (xOp2 pIx (xV 1) (xV 2)) (xVNil))) (xC (.int 2)))) (xT (xCallB F_between (xVCons (xOp2 pIx (xOp2 pIx (xV 0) (xV 2)) (xC (.int 0))) (xVCons (xOp2 pIx (xV 1) (xV 2)) (xVNil))))))) (xRet (xC (.bl true))) (xSkip))))) (
  xRet (xC (.bl false))))))
/-- fault(columns, rows, wide, high, heaps): 0=columns 1=rows 2=wide 3=high 4=heaps 5=at 6=cell 7=found 8=k 9=first 10=second 11=level 12=place 13=other -/
def F_fault : XF := xFun 5 14 (xSeq (xSet 5 (xCall F_seated (xACons (xV 0) (xACons (xV 1) (xACons (xV 2) (xACons (xV 4) (xANil))))))) (
  xSeq (xFor (.nm 6) (xIRange (xVCons (xBlt pLen (xVCons (xV 5) (xVNil))) (xVNil))) (xIfS (xT (xOp2 pIs (xOp2 pIx (xV 5) (xV 6)) (xC .non))) (xRet (xTup (xACons (xC (.str "cell")) (xACons (xV 6) (xANil))))) (xSkip))) (
  xSeq (xSet 7 (xLst (xANil))) (
  xSeq (xFor (.tp [9, 10, 11]) (xIList (xCall F_pairs (xACons (xV 0) (xACons (xV 1) (xANil))))) (xSeq (xSet 12 (xCall F_meets (xACons (xOp2 pIx (xV 5) (xV 9)) (xACons (xOp2 pIx (xV 5) (xV 10)) (xACons (xV 11) (xANil)))))) (
  xSeq (xIfS (xT (xOp2 pIs (xV 12) (xC .non))) (xRet (xTup (xACons (xC (.str "torn")) (xACons (xV 9) (xACons (xV 10) (xANil)))))) (xSkip)) (
  xApp 7 (xTup (xACons (xV 9) (xACons (xV 10) (xACons (xV 12) (xANil))))))))) (
  xSeq (xFor (.nm 8) (xIRange (xVCons (xBlt pLen (xVCons (xV 7) (xVNil))) (xVNil))) (xFor (.nm 13) (xIList (xSl (xV 7) (xPSome (xOp2 pAdd (xV 8) (xC (.int 1)))) (xPNone))) (xIfS (xT (xCallB F_cross (xVCons (xOp2 pIx (xOp2 pIx (xV 7) (xV 8)) (xC (.int 2))) (xVCons (xOp2 pIx (xV 13) (xC (.int 2))) (xVNil))))) (xRet (xTup (xACons (xC (.str "crossed")) (xACons (xOp2 pIx (xOp2 pIx (xV 7) (xV 8)) (xC (.int 0))) (xACons (xOp2 pIx (xOp2 pIx (xV 7) (xV 8)) (xC (.int 1))) (xACons (xOp2 pIx (xV 13) (xC (.int 0))) (xACons (xOp2 pIx (xV 13) (xC (.int 1))) (xANil)))))))) (xSkip)))) (
  xRet (xC .non)))))))
/-- _law_cell_at(script, k): 0=script 1=k -/
def F_law_cell_at : XF := xFun 2 2 (xSeq (xIfS (xT (xOp2 pLt (xV 1) (xBlt pLen (xVCons (xV 0) (xVNil))))) (xRet (xOp2 pIx (xV 0) (xV 1))) (xSkip)) (
  xRet (xC (.int 0))))
/-- _law_spot(one, fold, grown, top, low): 0=one 1=fold 2=grown 3=top 4=low 5=along 6=far 7=gap 8=place 9=spot 10=side 11=over 12=crease -/
def F_law_spot : XF := xFun 5 13 (xSeq (xUnp [10, 11, 12] (xV 1)) (
  xSeq (xSet 5 (xBlt pInt1 (xVCons (xOp2 (pIn false) (xV 10) (xTup (xACons (xC (.str "north")) (xACons (xC (.str "south")) (xANil))))) (xVNil)))) (
  xSeq (xSet 6 (xOp2 (pIn false) (xV 10) (xTup (xACons (xC (.str "east")) (xACons (xC (.str "south")) (xANil)))))) (
  xSeq (xSet 7 (xOp2 pSub (xOp2 pSub (xV 12) (xC (.int 1))) (xOp2 pIx (xV 0) (xV 5)))) (
  xSeq (xIfS (xT (xOp2 pGe (xOp2 pIx (xV 0) (xV 5)) (xV 12))) (xSet 7 (xOp2 pSub (xOp2 pIx (xV 0) (xV 5)) (xV 12))) (xSkip)) (
  xSeq (xSet 8 (xIf (xT (xV 6)) (xOp2 pSub (xOp2 pSub (xV 2) (xC (.int 1))) (xV 7)) (xV 7))) (
  xSeq (xSet 9 (xLst (xACons (xOp2 pIx (xV 0) (xC (.int 0))) (xACons (xOp2 pIx (xV 0) (xC (.int 1))) (xACons (xOp2 pIx (xV 0) (xC (.int 2))) (xACons (xOp2 pIx (xV 0) (xC (.int 3))) (xACons (xOp2 pIx (xV 0) (xC (.int 4))) (xANil)))))))) (
  xSeq (xSetI 9 (xV 5) (xV 8)) (
  xSeq (xIfS (xT (xOp2 pEq (xOp2 pGe (xOp2 pIx (xV 0) (xV 5)) (xV 12)) (xV 6))) (xSeq (xSetI 9 (xC (.int 2)) (xIf (xT (xV 11)) (xOp2 pSub (xOp2 pAdd (xOp2 pMul (xC (.int 2)) (xV 3)) (xC (.int 1))) (xOp2 pIx (xV 0) (xC (.int 2)))) (xOp2 pSub (xOp2 pSub (xOp2 pMul (xC (.int 2)) (xV 4)) (xC (.int 1))) (xOp2 pIx (xV 0) (xC (.int 2)))))) (
  xSetI 9 (xOp2 pAdd (xC (.int 3)) (xV 5)) (xNotV (xOp2 pIx (xV 0) (xOp2 pAdd (xC (.int 3)) (xV 5)))))) (xSkip)) (
  xRet (xTup (xACons (xOp2 pIx (xV 9) (xC (.int 0))) (xACons (xOp2 pIx (xV 9) (xC (.int 1))) (xACons (xOp2 pIx (xV 9) (xC (.int 2))) (xACons (xOp2 pIx (xV 9) (xC (.int 3))) (xACons (xOp2 pIx (xV 9) (xC (.int 4))) (xANil)))))))))))))))))
/-- _law_folded(spots, fold): 0=spots 1=fold 2=along 3=extent 4=grown 5=top 6=low 7=one -/
def F_law_folded : XF := xFun 2 8 (xSeq (xSet 2 (xBlt pInt1 (xVCons (xOp2 (pIn false) (xOp2 pIx (xV 1) (xC (.int 0))) (xTup (xACons (xC (.str "north")) (xACons (xC (.str "south")) (xANil))))) (xVNil)))) (
  xSeq (xSet 3 (xOp2 pAdd (xC (.int 1)) (xBlt pMax1 (xVCons (xLc [7] (xIList (xV 0)) (.nm 7) (xYes) (xOp2 pIx (xV 7) (xV 2))) (xVNil))))) (
  xSeq (xSet 4 (xBlt pMax2 (xVCons (xOp2 pIx (xV 1) (xC (.int 2))) (xVCons (xOp2 pSub (xV 3) (xOp2 pIx (xV 1) (xC (.int 2)))) (xVNil))))) (
  xSeq (xSet 5 (xBlt pMax1 (xVCons (xLc [7] (xIList (xV 0)) (.nm 7) (xYes) (xOp2 pIx (xV 7) (xC (.int 2)))) (xVNil)))) (
  xSeq (xSet 6 (xBlt pMin1 (xVCons (xLc [7] (xIList (xV 0)) (.nm 7) (xYes) (xOp2 pIx (xV 7) (xC (.int 2)))) (xVNil)))) (
  xRet (xLc [7] (xIList (xV 0)) (.nm 7) (xYes) (xCall F_law_spot (xACons (xV 7) (xACons (xV 1) (xACons (xV 4) (xACons (xV 5) (xACons (xV 6) (xANil))))))))))))))
/-- _law_layers(heaps, at, way): 0=heaps 1=at 2=way 3=heap 4=out 5=k 6=one -/
def F_law_layers : XF := xFun 3 7 (xSeq (xSet 3 (xOp2 pIx (xV 0) (xOp2 pMod (xOp2 pDiv (xV 1) (xC (.int 7))) (xBlt pLen (xVCons (xV 0) (xVNil)))))) (
  xSeq (xIfS (xT (xOp2 pEq (xV 3) (xLst (xANil)))) (xRetV 0) (xSkip)) (
  xSeq (xIfS (xAnd (xT (xOp2 pEq (xV 2) (xC (.int 2)))) (xT (xOp2 pGt (xBlt pLen (xVCons (xV 3) (xVNil))) (xC (.int 1))))) (xSeq (xSet 5 (xOp2 pMod (xV 1) (xOp2 pSub (xBlt pLen (xVCons (xV 3) (xVNil))) (xC (.int 1))))) (
  xSet 3 (xOp2 pAdd (xOp2 pAdd (xSl (xV 3) (xPNone) (xPSome (xV 5))) (xLst (xACons (xOp2 pIx (xV 3) (xOp2 pAdd (xV 5) (xC (.int 1)))) (xACons (xOp2 pIx (xV 3) (xV 5)) (xANil))))) (xSl (xV 3) (xPSome (xOp2 pAdd (xV 5) (xC (.int 2)))) (xPNone))))) (xSkip)) (
  xSeq (xIfS (xT (xOp2 pEq (xV 2) (xC (.int 6)))) (xSet 3 (xOp2 pAdd (xSl (xV 3) (xPSome (xC (.int 1))) (xPNone)) (xSl (xV 3) (xPNone) (xPSome (xC (.int 1)))))) (xSkip)) (
  xSeq (xIfS (xT (xOp2 pEq (xV 2) (xC (.int 4)))) (xSeq (xSet 5 (xOp2 pMod (xV 1) (xBlt pLen (xVCons (xV 3) (xVNil))))) (
  xSet 3 (xOp2 pAdd (xSl (xV 3) (xPNone) (xPSome (xV 5))) (xSl (xV 3) (xPSome (xOp2 pAdd (xV 5) (xC (.int 1)))) (xPNone))))) (xSkip)) (
  xSeq (xSet 4 (xLc [6] (xIList (xV 0)) (.nm 6) (xYes) (xBlt pList (xVCons (xV 6) (xVNil))))) (
  xFz 3 (xSeq (xSetI 4 (xOp2 pMod (xOp2 pDiv (xV 1) (xC (.int 7))) (xBlt pLen (xVCons (xV 0) (xVNil)))) (xV 3)) (
  xRetV 4)))))))))
/-- _law_spoilt(heaps, at, way, count): 0=heaps 1=at 2=way 3=count 4=out 5=first 6=other 7=names 8=odd 9=turn 10=k 11=j 12=one 13=heap 14=a 15=b 16=n -/
def F_law_spoilt : XF := xFun 4 17 (xSeq (xSet 4 (xLcN [12] (xIList (xV 0)) (.nm 12) (xBlt pList (xVCons (xV 12) (xVNil))))) (
  xSeq (xIfS (xT (xOp2 pEq (xV 2) (xC (.int 1)))) (xSeq (xSet 5 (xOp2 pMod (xV 1) (xV 3))) (
  xSeq (xSet 6 (xOp2 pMod (xOp2 pDiv (xV 1) (xC (.int 29))) (xV 3))) (
  xSeq (xSet 7 (xLc [10] (xIRange (xVCons (xV 3) (xVNil))) (.nm 10) (xYes) (xIf (xT (xOp2 pEq (xV 10) (xV 5))) (xV 6) (xIf (xT (xOp2 pEq (xV 10) (xV 6))) (xV 5) (xV 10))))) (
  xFz 4 (xRet (xLc [13] (xIList (xV 4)) (.nm 13) (xYes) (xLc [12] (xIList (xV 13)) (.nm 12) (xYes) (xTup (xACons (xOp2 pIx (xV 7) (xOp2 pIx (xV 12) (xC (.int 0)))) (xACons (xOp2 pIx (xV 12) (xC (.int 1))) (xACons (xOp2 pIx (xV 12) (xC (.int 2))) (xANil)))))))))))) (xSkip)) (
  xSeq (xIfS (xT (xOp2 pEq (xV 2) (xC (.int 3)))) (xSeq (xSet 8 (xOp2 pMod (xV 1) (xV 3))) (
  xSeq (xSet 9 (xOp2 pEq (xOp2 pMod (xOp2 pDiv (xV 1) (xC (.int 29))) (xC (.int 2))) (xC (.int 1)))) (
  xFz 4 (xRet (xLc [13] (xIList (xV 4)) (.nm 13) (xYes) (xLc [10, 14, 15] (xIList (xV 13)) (.tp [10, 14, 15]) (xYes) (xTup (xACons (xV 10) (xACons (xOp2 pNe (xV 14) (xAndV (xOp2 pEq (xV 10) (xV 8)) (xV 9))) (xACons (xOp2 pNe (xV 15) (xAndV (xOp2 pEq (xV 10) (xV 8)) (xNotV (xV 9)))) (xANil))))))))))) (xSkip)) (
  xSeq (xIfS (xT (xOp2 pEq (xV 2) (xC (.int 8)))) (xSeq (xSet 5 (xOp2 pMod (xV 1) (xV 3))) (
  xSeq (xSet 6 (xOp2 pMod (xOp2 pDiv (xV 1) (xC (.int 29))) (xV 3))) (
  xFz 4 (xRet (xLc [13] (xIList (xV 4)) (.nm 13) (xYes) (xLc [12] (xIList (xV 13)) (.nm 12) (xYes) (xTup (xACons (xIf (xT (xOp2 pEq (xOp2 pIx (xV 12) (xC (.int 0))) (xV 6))) (xV 5) (xOp2 pIx (xV 12) (xC (.int 0)))) (xACons (xOp2 pIx (xV 12) (xC (.int 1))) (xACons (xOp2 pIx (xV 12) (xC (.int 2))) (xANil))))))))))) (xSkip)) (
  xSeq (xIfS (xT (xOp2 pEq (xV 2) (xC (.int 9)))) (xSeq (xSetN 4 (xOp2 pMod (xOp2 pDiv (xV 1) (xC (.int 7))) (xBlt pLen (xVCons (xV 4) (xVNil)))) (xLst (xANil))) (
  xRetV 4)) (xSkip)) (
  xSeq (xIfS (xT (xOp2 pEq (xV 2) (xC (.int 5)))) (xSeq (xInsAt 4 (xOp2 pMod (xOp2 pDiv (xV 1) (xC (.int 7))) (xBlt pLen (xVCons (xV 4) (xVNil)))) (xOp2 pMul (xOp2 pMod (xV 1) (xC (.int 2))) (xBlt pLen (xVCons (xOp2 pIxO (xV 4) (xOp2 pMod (xOp2 pDiv (xV 1) (xC (.int 7))) (xBlt pLen (xVCons (xV 4) (xVNil))))) (xVNil)))) (xTup (xACons (xOp2 pMod (xV 1) (xV 3)) (xACons (xC (.bl false)) (xACons (xC (.bl true)) (xANil)))))) (
  xRetV 4)) (xSkip)) (
  xSeq (xIfS (xT (xOp2 pEq (xV 2) (xC (.int 7)))) (xSeq (xSet 10 (xOp2 pMod (xV 1) (xBlt pLen (xVCons (xV 4) (xVNil))))) (
  xSeq (xSet 11 (xOp2 pMod (xOp2 pDiv (xV 1) (xC (.int 29))) (xBlt pLen (xVCons (xV 4) (xVNil))))) (
  xFz 4 (xRet (xLc [16] (xIRange (xVCons (xBlt pLen (xVCons (xV 4) (xVNil))) (xVNil))) (.nm 16) (xYes) (xIf (xT (xOp2 pEq (xV 16) (xV 10))) (xOp2 pIx (xV 4) (xV 11)) (xIf (xT (xOp2 pEq (xV 16) (xV 11))) (xOp2 pIx (xV 4) (xV 10)) (xOp2 pIx (xV 4) (xV 16))))))))) (xSkip)) (
  xFz 4 (xRet (xCall F_law_layers (xACons (xV 4) (xACons (xV 1) (xACons (xV 2) (xANil))))))))))))))
/-- _law_whole(found): 0=found -/
def F_law_whole : XF := xFun 1 1 (xRet (xAndV (xIsi "int" (xV 0)) (xNotV (xIsi "bool" (xV 0)))))
/-- _law_alike(found, due): 0=found 1=due 2=part -/
def F_law_alike : XF := xFun 2 3 (xSeq (xIfS (xOr (xT (xOp2 pIs (xV 1) (xC .non))) (xOr (xNotB (xT (xIsi "tuple" (xV 0)))) (xT (xOp2 pNe (xBlt pLen (xVCons (xV 0) (xVNil))) (xBlt pLen (xVCons (xV 1) (xVNil))))))) (xRet (xAndV (xOp2 pIs (xV 1) (xC .non)) (xOp2 pIs (xV 0) (xC .non)))) (xSkip)) (
  xSeq (xFor (.nm 2) (xITup (xSlT (xV 0) (xPSome (xC (.int 1))) (xPNone))) (xIfS (xNotB (xT (xCallB F_law_whole (xVCons (xV 2) (xVNil))))) (xRet (xC (.bl false))) (xSkip))) (
  xRet (xAndV (xIsi "str" (xOp2 pIx (xV 0) (xC (.int 0)))) (xOp2 pEq (xV 0) (xV 1))))))
/-- _law_seated(count, wide, heaps): 0=count 1=wide 2=heaps 3=out 4=place 5=layer 6=k 7=east 8=north -/
def F_law_seated : XF := xFun 3 9 (xSeq (xSet 3 (xLcN [6] (xIRange (xVCons (xV 0) (xVNil))) (.nm 6) (xLst (xANil)))) (
  xSeq (xFor (.nm 4) (xIRange (xVCons (xBlt pLen (xVCons (xV 2) (xVNil))) (xVNil))) (xFor (.nm 5) (xIRange (xVCons (xBlt pLen (xVCons (xOp2 pIx (xV 2) (xV 4)) (xVNil))) (xVNil))) (xSeq (xUnp [6, 7, 8] (xOp2 pIx (xOp2 pIx (xV 2) (xV 4)) (xV 5))) (
  xAppAt 3 (xV 6) (xTup (xACons (xOp2 pMod (xV 4) (xV 1)) (xACons (xOp2 pDiv (xV 4) (xV 1)) (xACons (xV 5) (xACons (xV 7) (xACons (xV 8) (xANil))))))))))) (
  xRetV 3)))
/-- _law_near(columns, rows): 0=columns 1=rows 2=out 3=k -/
def F_law_near : XF := xFun 2 4 (xSeq (xSet 2 (xLst (xANil))) (
  xSeq (xFor (.nm 3) (xIRange (xVCons (xOp2 pMul (xV 0) (xV 1)) (xVNil))) (xSeq (xIfS (xT (xOp2 pLt (xOp2 pMod (xV 3) (xV 0)) (xOp2 pSub (xV 0) (xC (.int 1))))) (xApp 2 (xTup (xACons (xV 3) (xACons (xOp2 pAdd (xV 3) (xC (.int 1))) (xACons (xC (.bl false)) (xANil)))))) (xSkip)) (
  xIfS (xT (xOp2 pLt (xOp2 pDiv (xV 3) (xV 0)) (xOp2 pSub (xV 1) (xC (.int 1))))) (xApp 2 (xTup (xACons (xV 3) (xACons (xOp2 pAdd (xV 3) (xV 0)) (xACons (xC (.bl true)) (xANil)))))) (xSkip)))) (
  xRetV 2)))
/-- _law_line(one, level): 0=one 1=level -/
def F_law_line : XF := xFun 2 2 (xSeq (xIfS (xT (xV 1)) (xRet (xIf (xT (xOp2 pIx (xV 0) (xC (.int 4)))) (xOp2 pIx (xV 0) (xC (.int 1))) (xOp2 pAdd (xOp2 pIx (xV 0) (xC (.int 1))) (xC (.int 1))))) (xSkip)) (
  xRet (xIf (xT (xOp2 pIx (xV 0) (xC (.int 3)))) (xOp2 pIx (xV 0) (xC (.int 0))) (xOp2 pAdd (xOp2 pIx (xV 0) (xC (.int 0))) (xC (.int 1))))))
/-- _law_back_line(one, level): 0=one 1=level -/
def F_law_back_line : XF := xFun 2 2 (xSeq (xIfS (xT (xV 1)) (xRet (xIf (xT (xOp2 pIx (xV 0) (xC (.int 4)))) (xOp2 pAdd (xOp2 pIx (xV 0) (xC (.int 1))) (xC (.int 1))) (xOp2 pIx (xV 0) (xC (.int 1))))) (xSkip)) (
  xRet (xIf (xT (xOp2 pIx (xV 0) (xC (.int 3)))) (xOp2 pAdd (xOp2 pIx (xV 0) (xC (.int 0))) (xC (.int 1))) (xOp2 pIx (xV 0) (xC (.int 0))))))
/-- _law_meet(one, other, level): 0=one 1=other 2=level -/
def F_law_meet : XF := xFun 3 3 (xSeq (xIfS (xAnd (xT (xV 2)) (xOr (xT (xOp2 pNe (xOp2 pIx (xV 0) (xC (.int 0))) (xOp2 pIx (xV 1) (xC (.int 0))))) (xT (xOp2 pNe (xOp2 pIx (xV 0) (xC (.int 3))) (xOp2 pIx (xV 1) (xC (.int 3))))))) (xRet (xC (.bl false))) (xSkip)) (
  xSeq (xIfS (xAnd (xNotB (xT (xV 2))) (xOr (xT (xOp2 pNe (xOp2 pIx (xV 0) (xC (.int 1))) (xOp2 pIx (xV 1) (xC (.int 1))))) (xT (xOp2 pNe (xOp2 pIx (xV 0) (xC (.int 4))) (xOp2 pIx (xV 1) (xC (.int 4))))))) (xRet (xC (.bl false))) (xSkip)) (
  xRet (xOp2 pEq (xCallB F_law_line (xVCons (xV 0) (xVCons (xV 2) (xVNil)))) (xCallB F_law_back_line (xVCons (xV 1) (xVCons (xV 2) (xVNil))))))))
/-- _law_parts(one, other, level, line): 0=one 1=other 2=level 3=line 4=along 5=low 6=high 7=spot -/
def F_law_parts : XF := xFun 4 8 (xSeq (xSet 4 (xBlt pInt1 (xVCons (xV 2) (xVNil)))) (
  xSeq (xSet 5 (xLc [7] (xITup (xTup (xACons (xV 0) (xACons (xV 1) (xANil))))) (.nm 7) (xT (xOp2 pEq (xOp2 pIx (xV 7) (xV 4)) (xOp2 pSub (xV 3) (xC (.int 1))))) (xOp2 pIx (xV 7) (xC (.int 2))))) (
  xSeq (xSet 6 (xLc [7] (xITup (xTup (xACons (xV 0) (xACons (xV 1) (xANil))))) (.nm 7) (xT (xOp2 pEq (xOp2 pIx (xV 7) (xV 4)) (xV 3))) (xOp2 pIx (xV 7) (xC (.int 2))))) (
  xFz 5 (xFz 6 (xRet (xTup (xACons (xV 5) (xACons (xV 6) (xANil))))))))))
/-- _law_inside(layer, bend): 0=layer 1=bend -/
def F_law_inside : XF := xFun 2 2 (xRet (xChain pLt pLt (xBlt pMin1 (xVCons (xV 1) (xVNil))) (xV 0) (xBlt pMax1 (xVCons (xV 1) (xVNil)))))
/-- _law_bends(low, other): 0=low 1=other -/
def F_law_bends : XF := xFun 2 2 (xSeq (xIfS (xAnd (xT (xOp2 pEq (xBlt pLen (xVCons (xV 0) (xVNil))) (xC (.int 2)))) (xT (xOp2 pEq (xBlt pLen (xVCons (xV 1) (xVNil))) (xC (.int 2))))) (xRet (xOp2 pNe (xCallB F_law_inside (xVCons (xOp2 pIx (xV 1) (xC (.int 0))) (xVCons (xV 0) (xVNil)))) (xCallB F_law_inside (xVCons (xOp2 pIx (xV 1) (xC (.int 1))) (xVCons (xV 0) (xVNil)))))) (xSkip)) (
  xSeq (xIfS (xAnd (xT (xOp2 pEq (xBlt pLen (xVCons (xV 0) (xVNil))) (xC (.int 2)))) (xT (xOp2 pEq (xBlt pLen (xVCons (xV 1) (xVNil))) (xC (.int 1))))) (xRet (xCallB F_law_inside (xVCons (xOp2 pIx (xV 1) (xC (.int 0))) (xVCons (xV 0) (xVNil))))) (xSkip)) (
  xRet (xAndV (xOp2 pEq (xBlt pLen (xVCons (xV 0) (xVNil))) (xC (.int 1))) (xAndV (xOp2 pEq (xBlt pLen (xVCons (xV 1) (xVNil))) (xC (.int 2))) (xCallB F_law_inside (xVCons (xOp2 pIx (xV 0) (xC (.int 0))) (xVCons (xV 1) (xVNil)))))))))
/-- _law_through(one, other): 0=one 1=other -/
def F_law_through : XF := xFun 2 2 (xSeq (xIfS (xAnd (xT (xOp2 pEq (xBlt pLen (xVCons (xOp2 pIx (xV 0) (xC (.int 0))) (xVNil))) (xC (.int 1)))) (xT (xOp2 pEq (xBlt pLen (xVCons (xOp2 pIx (xV 1) (xC (.int 0))) (xVNil))) (xC (.int 1))))) (xRet (xOp2 pEq (xOp2 pLt (xOp2 pIx (xOp2 pIx (xV 0) (xC (.int 0))) (xC (.int 0))) (xOp2 pIx (xOp2 pIx (xV 1) (xC (.int 0))) (xC (.int 0)))) (xOp2 pGt (xOp2 pIx (xOp2 pIx (xV 0) (xC (.int 1))) (xC (.int 0))) (xOp2 pIx (xOp2 pIx (xV 1) (xC (.int 1))) (xC (.int 0)))))) (xSkip)) (
  xRet (xOrV (xCallB F_law_bends (xVCons (xOp2 pIx (xV 0) (xC (.int 0))) (xVCons (xOp2 pIx (xV 1) (xC (.int 0))) (xVNil)))) (xCallB F_law_bends (xVCons (xOp2 pIx (xV 0) (xC (.int 1))) (xVCons (xOp2 pIx (xV 1) (xC (.int 1))) (xVNil)))))))
/-- _law_due(columns, rows, wide, heaps): 0=columns 1=rows 2=wide 3=heaps 4=spots 5=k 6=found 7=first 8=second 9=level 10=one 11=other 12=line 13=place -/
def F_law_due : XF := xFun 4 14 (xSeq (xSet 4 (xCall F_law_seated (xACons (xOp2 pMul (xV 0) (xV 1)) (xACons (xV 2) (xACons (xV 3) (xANil)))))) (
  xFz 4 (xSeq (xFor (.nm 5) (xIRange (xVCons (xOp2 pMul (xV 0) (xV 1)) (xVNil))) (xIfS (xT (xOp2 pNe (xBlt pLen (xVCons (xOp2 pIx (xV 4) (xV 5)) (xVNil))) (xC (.int 1)))) (xRet (xTup (xACons (xC (.str "cell")) (xACons (xV 5) (xANil))))) (xSkip))) (
  xSeq (xSet 6 (xLst (xANil))) (
  xSeq (xFor (.tp [7, 8, 9]) (xIList (xCall F_law_near (xACons (xV 0) (xACons (xV 1) (xANil))))) (xSeq (xSet 10 (xOp2 pIx (xOp2 pIx (xV 4) (xV 7)) (xC (.int 0)))) (
  xSeq (xSet 11 (xOp2 pIx (xOp2 pIx (xV 4) (xV 8)) (xC (.int 0)))) (
  xSeq (xIfS (xNotB (xT (xCallB F_law_meet (xVCons (xV 10) (xVCons (xV 11) (xVCons (xV 9) (xVNil))))))) (xRet (xTup (xACons (xC (.str "torn")) (xACons (xV 7) (xACons (xV 8) (xANil)))))) (xSkip)) (
  xSeq (xSet 12 (xCallB F_law_line (xVCons (xV 10) (xVCons (xV 9) (xVNil))))) (
  xSeq (xSet 13 (xTup (xACons (xV 9) (xACons (xV 12) (xACons (xOp2 pIx (xV 10) (xOp2 pSub (xC (.int 1)) (xBlt pInt1 (xVCons (xV 9) (xVNil))))) (xANil)))))) (
  xApp 6 (xTup (xACons (xV 7) (xACons (xV 8) (xACons (xV 13) (xACons (xCall F_law_parts (xACons (xV 10) (xACons (xV 11) (xACons (xV 9) (xACons (xV 12) (xANil)))))) (xANil))))))))))))) (
  xSeq (xFor (.nm 5) (xIRange (xVCons (xBlt pLen (xVCons (xV 6) (xVNil))) (xVNil))) (xFor (.nm 11) (xIList (xSl (xV 6) (xPSome (xOp2 pAdd (xV 5) (xC (.int 1)))) (xPNone))) (xIfS (xAnd (xT (xOp2 pEq (xOp2 pIx (xOp2 pIx (xV 6) (xV 5)) (xC (.int 2))) (xOp2 pIx (xV 11) (xC (.int 2))))) (xT (xCallB F_law_through (xVCons (xOp2 pIx (xOp2 pIx (xV 6) (xV 5)) (xC (.int 3))) (xVCons (xOp2 pIx (xV 11) (xC (.int 3))) (xVNil)))))) (xRet (xTup (xACons (xC (.str "crossed")) (xACons (xOp2 pIx (xOp2 pIx (xV 6) (xV 5)) (xC (.int 0))) (xACons (xOp2 pIx (xOp2 pIx (xV 6) (xV 5)) (xC (.int 1))) (xACons (xOp2 pIx (xV 11) (xC (.int 0))) (xACons (xOp2 pIx (xV 11) (xC (.int 1))) (xANil)))))))) (xSkip)))) (
  xRet (xC .non))))))))
/-- _law_fold_by(cell, wide, high): 0=cell 1=wide 2=high 3=level 4=extent 5=sides -/
def F_law_fold_by : XF := xFun 3 6 (xSeq (xSet 3 (xOrV (xOp2 pEq (xV 1) (xC (.int 1))) (xAndV (xOp2 pGt (xV 2) (xC (.int 1))) (xOp2 pEq (xOp2 pMod (xV 0) (xC (.int 2))) (xC (.int 1)))))) (
  xSeq (xSet 4 (xIf (xT (xV 3)) (xV 2) (xV 1))) (
  xSeq (xSet 5 (xIf (xT (xV 3)) (xLst (xACons (xC (.str "north")) (xACons (xC (.str "south")) (xANil)))) (xLst (xACons (xC (.str "west")) (xACons (xC (.str "east")) (xANil)))))) (
  xRet (xTup (xACons (xOp2 pIx (xV 5) (xOp2 pMod (xOp2 pDiv (xV 0) (xC (.int 2))) (xC (.int 2)))) (xACons (xOp2 pEq (xOp2 pMod (xOp2 pDiv (xV 0) (xC (.int 4))) (xC (.int 2))) (xC (.int 1))) (xACons (xOp2 pAdd (xC (.int 1)) (xOp2 pMod (xOp2 pDiv (xV 0) (xC (.int 8))) (xOp2 pSub (xV 4) (xC (.int 1))))) (xANil)))))))))
/-- law(script): 0=script 1=spots 2=cells 3=cell 4=wide 5=high 6=way 7=heaps 8=handed 9=found 10=columns 11=rows 12=one -/
def F_law : XF := xFun 1 13 (xSeq (xUnp [10, 11] (xCall F_law_sheet_by (xACons (xCallB F_law_cell_at (xVCons (xV 0) (xVCons (xC (.int 0)) (xVNil)))) (xANil)))) (
  xSeq (xSet 1 (xCall F_law_flat (xACons (xV 10) (xACons (xV 11) (xANil))))) (
  xSeq (xSet 2 (xSl (xV 0) (xPSome (xC (.int 3))) (xPSome (xC (.int 11))))) (
  xSeq (xIfS (xT (xOp2 pEq (xOp2 pMod (xCallB F_law_cell_at (xVCons (xV 0) (xVCons (xC (.int 12)) (xVNil)))) (xC (.int 4))) (xC (.int 1)))) (xSeq (xPar 10 11 (xACons (xC (.int 2)) (xACons (xOp2 pAdd (xC (.int 2)) (xOp2 pMod (xOp2 pDiv (xCallB F_law_cell_at (xVCons (xV 0) (xVCons (xC (.int 12)) (xVNil)))) (xC (.int 4))) (xC (.int 3)))) (xANil)))) (
  xSeq (xSet 1 (xCall F_law_folded (xACons (xCall F_law_flat (xACons (xV 10) (xACons (xV 11) (xANil)))) (xACons (xTup (xACons (xC (.str "west")) (xACons (xC (.bl true)) (xACons (xC (.int 1)) (xANil))))) (xANil))))) (
  xSet 2 (xLst (xANil))))) (xSkip)) (
  xFz 2 (xSeq (xFor (.nm 3) (xIList (xV 2)) (xFz 1 (xSeq (xSet 4 (xOp2 pAdd (xC (.int 1)) (xBlt pMax1 (xVCons (xLc [12] (xIList (xV 1)) (.nm 12) (xYes) (xOp2 pIx (xV 12) (xC (.int 0)))) (xVNil))))) (
  xFz 1 (xSeq (xSet 5 (xOp2 pAdd (xC (.int 1)) (xBlt pMax1 (xVCons (xLc [12] (xIList (xV 1)) (.nm 12) (xYes) (xOp2 pIx (xV 12) (xC (.int 1)))) (xVNil))))) (
  xIfS (xT (xOp2 pGt (xOp2 pMul (xV 4) (xV 5)) (xC (.int 1)))) (xFz 1 (xSet 1 (xCall F_law_folded (xACons (xV 1) (xACons (xCall F_law_fold_by (xACons (xV 3) (xACons (xV 4) (xACons (xV 5) (xANil))))) (xANil)))))) (xSkip))))))) (
  xFz 1 (xSeq (xSet 4 (xOp2 pAdd (xC (.int 1)) (xBlt pMax1 (xVCons (xLc [12] (xIList (xV 1)) (.nm 12) (xYes) (xOp2 pIx (xV 12) (xC (.int 0)))) (xVNil))))) (
  xFz 1 (xSeq (xSet 5 (xOp2 pAdd (xC (.int 1)) (xBlt pMax1 (xVCons (xLc [12] (xIList (xV 1)) (.nm 12) (xYes) (xOp2 pIx (xV 12) (xC (.int 1)))) (xVNil))))) (
  xSeq (xSet 6 (xOp2 pMod (xCallB F_law_cell_at (xVCons (xV 0) (xVCons (xC (.int 1)) (xVNil)))) (xC (.int 10)))) (
  xFz 1 (xSeq (xSet 7 (xCall F_law_heaps (xACons (xV 1) (xANil)))) (
  xSeq (xIfS (xT (xOp2 pGt (xV 6) (xC (.int 0)))) (xFz 7 (xSet 7 (xCall F_law_spoilt (xACons (xV 7) (xACons (xOp2 pMod (xCallB F_law_cell_at (xVCons (xV 0) (xVCons (xC (.int 2)) (xVNil)))) (xOp2 pPow (xC (.int 10)) (xC (.int 9)))) (xACons (xV 6) (xACons (xOp2 pMul (xV 10) (xV 11)) (xANil)))))))) (xSkip)) (
  xFz 7 (xSeq (xUnp [4, 5, 7] (xCall F_law_wider (xACons (xV 7) (xACons (xV 4) (xACons (xV 5) (xACons (xOp2 pMod (xCallB F_law_cell_at (xVCons (xV 0) (xVCons (xC (.int 11)) (xVNil)))) (xOp2 pPow (xC (.int 10)) (xC (.int 9)))) (xANil))))))) (
  xFz 7 (xSeq (xSet 8 (xLc [12] (xIList (xV 7)) (.nm 12) (xYes) (xBlt pList (xVCons (xV 12) (xVNil))))) (
  xFz 8 (xSeq (xSet 9 (xCall F_fault (xACons (xV 10) (xACons (xV 11) (xACons (xV 4) (xACons (xV 5) (xACons (xV 8) (xANil)))))))) (
  xFz 7 (xSeq (xIfS (xNotB (xT (xCallB F_law_alike (xVCons (xV 9) (xVCons (xCall F_law_due (xACons (xV 10) (xACons (xV 11) (xACons (xV 4) (xACons (xV 7) (xANil)))))) (xVNil)))))) (xRet (xC (.bl false))) (xSkip)) (
  xRet (xOp2 pEq (xV 8) (xV 7)))))))))))))))))))))))))
end Bk
set_option Elab.async false
set_option linter.all false
set_option maxRecDepth 100000
set_option maxHeartbeats 4000000
/-! MA: folds over plain spots, no program in sight. -/
namespace Fd
structure Spot where
  x : Int
  y : Int
  l : Int
  e : Bool
  n : Bool
inductive Side where
  | west | east | north | south
  deriving DecidableEq
def Side.lev : Side → Bool
  | .north => true
  | .south => true
  | _ => false
def Side.far : Side → Bool
  | .east => true
  | .south => true
  | _ => false
structure Fold where
  side : Side
  over : Bool
  cr : Int
abbrev Cell := Nat × Bool × Bool
def al (v : Bool) (s : Spot) : Int := if v = true then s.y else s.x
def ac (v : Bool) (s : Spot) : Int := if v = true then s.x else s.y
def gapOf (cr a : Int) : Int := if cr ≤ a then a - cr else cr - 1 - a
def plOf (far : Bool) (cr grown a : Int) : Int := if far = true then grown - 1 - gapOf cr a else gapOf cr a
def mvs (far : Bool) (cr a : Int) : Bool := decide (cr ≤ a) == far
def spotF (f : Fold) (grown top low : Int) (s : Spot) : Spot :=
  { x := if f.side.lev = true then s.x else plOf f.side.far f.cr grown s.x
    y := if f.side.lev = true then plOf f.side.far f.cr grown s.y else s.y
    l := if mvs f.side.far f.cr (al f.side.lev s) = true then (if f.over = true then 2 * top + 1 - s.l else 2 * low - 1 - s.l) else s.l
    e := if mvs f.side.far f.cr (al f.side.lev s) = true ∧ f.side.lev = false then !s.e else s.e
    n := if mvs f.side.far f.cr (al f.side.lev s) = true ∧ f.side.lev = true then !s.n else s.n }
def cell (S : Nat → Spot) (k : Nat) : Cell := (k, (S k).e, (S k).n)
def IsHeap (N : Nat) (S : Nat → Spot) (x y : Int) (ks : List Nat) : Prop :=
  ks.Pairwise (fun a b => (S b).l < (S a).l) ∧ ∀ k, k ∈ ks ↔ k < N ∧ (S k).x = x ∧ (S k).y = y
structure Good (N : Nat) (S : Nat → Spot) (wide high : Int) : Prop where
  bnd : ∀ k, k < N → 0 ≤ (S k).x ∧ (S k).x < wide ∧ 0 ≤ (S k).y ∧ (S k).y < high
  full : ∀ x y, 0 ≤ x → x < wide → 0 ≤ y → y < high → ∃ k, k < N ∧ (S k).x = x ∧ (S k).y = y
  inj : ∀ j k, j < N → k < N → (S j).x = (S k).x → (S j).y = (S k).y → (S j).l = (S k).l → j = k
/-- the bounds of all layers -/
def Lay (N : Nat) (S : Nat → Spot) (top low : Int) : Prop := ∀ k, k < N → low ≤ (S k).l ∧ (S k).l ≤ top
def gapAt (extent cr : Int) (far : Bool) (at_ : Int) : Int := if far = true then max cr (extent - cr) - 1 - at_ else at_
def nearT (cr gap : Int) : Option Int := if gap < cr then some (cr - 1 - gap) else none
def beyT (extent cr gap : Int) : Option Int := if gap < extent - cr then some (cr + gap) else none
def meetM (extent cr : Int) (far : Bool) (at_ : Int) : Option Int := if far = true then beyT extent cr (gapAt extent cr far at_) else nearT cr (gapAt extent cr far at_)
def meetS (extent cr : Int) (far : Bool) (at_ : Int) : Option Int := if far = true then nearT cr (gapAt extent cr far at_) else beyT extent cr (gapAt extent cr far at_)

theorem meetM_iff {extent cr at_ a : Int} {far : Bool} (h1 : 1 ≤ cr) (h2 : cr < extent) (h3 : 0 ≤ at_) (h4 : at_ < max cr (extent - cr)) (h5 : 0 ≤ a) (h6 : a < extent) :
    meetM extent cr far at_ = some a ↔ plOf far cr (max cr (extent - cr)) a = at_ ∧ mvs far cr a = true := by
  unfold meetM plOf mvs gapAt nearT beyT gapOf
  cases far <;> by_cases h : cr ≤ a <;> simp [h] <;> omega
theorem meetS_iff {extent cr at_ a : Int} {far : Bool} (h1 : 1 ≤ cr) (h2 : cr < extent) (h3 : 0 ≤ at_) (h4 : at_ < max cr (extent - cr)) (h5 : 0 ≤ a) (h6 : a < extent) :
    meetS extent cr far at_ = some a ↔ plOf far cr (max cr (extent - cr)) a = at_ ∧ mvs far cr a = false := by
  unfold meetS plOf mvs gapAt nearT beyT gapOf
  cases far <;> by_cases h : cr ≤ a <;> simp [h] <;> omega
theorem meetM_bnd {extent cr at_ a : Int} {far : Bool} (h1 : 1 ≤ cr) (h2 : cr < extent) (h3 : 0 ≤ at_) (h4 : at_ < max cr (extent - cr)) (h : meetM extent cr far at_ = some a) : 0 ≤ a ∧ a < extent := by
  unfold meetM gapAt nearT beyT at h
  cases far <;> simp at h <;> omega
theorem meetS_bnd {extent cr at_ a : Int} {far : Bool} (h1 : 1 ≤ cr) (h2 : cr < extent) (h3 : 0 ≤ at_) (h4 : at_ < max cr (extent - cr)) (h : meetS extent cr far at_ = some a) : 0 ≤ a ∧ a < extent := by
  unfold meetS gapAt nearT beyT at h
  cases far <;> simp at h <;> omega
theorem meet_some {extent cr at_ : Int} {far : Bool} (h1 : 1 ≤ cr) (h2 : cr < extent) (h3 : 0 ≤ at_) (h4 : at_ < max cr (extent - cr)) :
    (∃ a, meetM extent cr far at_ = some a) ∨ ∃ a, meetS extent cr far at_ = some a := by
  unfold meetM meetS gapAt nearT beyT
  cases far <;> simp <;> omega
theorem plOf_bnd {extent cr a : Int} {far : Bool} (h1 : 1 ≤ cr) (h2 : cr < extent) (h5 : 0 ≤ a) (h6 : a < extent) : 0 ≤ plOf far cr (max cr (extent - cr)) a ∧ plOf far cr (max cr (extent - cr)) a < max cr (extent - cr) := by
  unfold plOf gapOf
  cases far <;> by_cases h : cr ≤ a <;> simp [h] <;> omega

/-- the sizes behind a fold -/
def ext (v : Bool) (wide high : Int) : Int := if v = true then high else wide
def wideF (f : Fold) (wide : Int) : Int := if f.side.lev = true then wide else max f.cr (wide - f.cr)
def highF (f : Fold) (high : Int) : Int := if f.side.lev = true then max f.cr (high - f.cr) else high
def grownF (f : Fold) (wide high : Int) : Int := max f.cr (ext f.side.lev wide high - f.cr)
/-- which cells come from an old place -/
def OldHeap (N : Nat) (S : Nat → Spot) (v : Bool) (o : Option Int) (c : Int) (ks : List Nat) : Prop :=
  ks.Pairwise (fun a b => (S b).l < (S a).l) ∧ ∀ k, k ∈ ks ↔ k < N ∧ o = some (al v (S k)) ∧ ac v (S k) = c
theorem oldHeap_none {N S v c} : OldHeap N S v none c [] := ⟨.nil, fun k => by simp⟩
theorem oldHeap_some {N S v a c ks} (h : IsHeap N S (if v = true then c else a) (if v = true then a else c) ks) : OldHeap N S v (some a) c ks := by
  refine ⟨h.1, fun k => ?_⟩
  rw [h.2 k]
  unfold al ac
  cases v
  · simp only [Bool.false_eq_true, if_false, Option.some.injEq]
    exact and_congr_right fun _ => ⟨fun q => ⟨q.1.symm, q.2⟩, fun q => ⟨q.1.symm, q.2⟩⟩
  · simp only [if_true, Option.some.injEq]
    exact and_congr_right fun _ => ⟨fun q => ⟨q.2.symm, q.1⟩, fun q => ⟨q.2, q.1.symm⟩⟩
section
variable {N : Nat} {S : Nat → Spot} {wide high top low : Int} {f : Fold}
theorem spotF_al {s : Spot} {g : Int} : al f.side.lev (spotF f g top low s) = plOf f.side.far f.cr g (al f.side.lev s) := by
  unfold al spotF
  cases h : f.side.lev <;> simp
theorem spotF_ac {s : Spot} {g : Int} : ac f.side.lev (spotF f g top low s) = ac f.side.lev s := by
  unfold ac spotF
  cases h : f.side.lev <;> simp
theorem Good.alb (G : Good N S wide high) (v : Bool) {k : Nat} (hk : k < N) : 0 ≤ al v (S k) ∧ al v (S k) < ext v wide high ∧ 0 ≤ ac v (S k) ∧ ac v (S k) < ext (!v) wide high := by
  have h := G.bnd k hk
  unfold al ac ext
  cases v <;> simp <;> omega
theorem spotF_lm {s : Spot} {g : Int} (h : mvs f.side.far f.cr (al f.side.lev s) = true) : (spotF f g top low s).l = if f.over = true then 2 * top + 1 - s.l else 2 * low - 1 - s.l := by
  unfold spotF
  rw [h]
  simp
theorem spotF_ls {s : Spot} {g : Int} (h : mvs f.side.far f.cr (al f.side.lev s) = false) : (spotF f g top low s).l = s.l := by
  unfold spotF
  rw [h]
  simp
def flipC (v : Bool) (c : Cell) : Cell := if v = true then (c.1, c.2.1, !c.2.2) else (c.1, !c.2.1, c.2.2)
def turnT (v : Bool) (h : List Cell) : List Cell := h.reverse.map (flipC v)
theorem cell_mv {g : Int} {k : Nat} (h : mvs f.side.far f.cr (al f.side.lev (S k)) = true) : cell (fun k => spotF f g top low (S k)) k = flipC f.side.lev (cell S k) := by
  unfold cell spotF flipC
  dsimp only
  rw [h]
  cases f.side.lev <;> simp
theorem cell_st {g : Int} {k : Nat} (h : mvs f.side.far f.cr (al f.side.lev (S k)) = false) : cell (fun k => spotF f g top low (S k)) k = cell S k := by
  unfold cell spotF
  dsimp only
  rw [h]
  simp
/-- the heap that a fold makes at a place -/
theorem fold_heap (G : Good N S wide high) (L : Lay N S top low) (h1 : 1 ≤ f.cr) (h2 : f.cr < ext f.side.lev wide high) {at_ c : Int} (h3 : 0 ≤ at_) (h4 : at_ < grownF f wide high)
    {km kt : List Nat} (hm : OldHeap N S f.side.lev (meetM (ext f.side.lev wide high) f.cr f.side.far at_) c km) (ht : OldHeap N S f.side.lev (meetS (ext f.side.lev wide high) f.cr f.side.far at_) c kt) :
    ∃ ks, OldHeap N (fun k => spotF f (grownF f wide high) top low (S k)) f.side.lev (some at_) c ks ∧
      ks.map (cell fun k => spotF f (grownF f wide high) top low (S k)) = if f.over = true then turnT f.side.lev (km.map (cell S)) ++ kt.map (cell S) else kt.map (cell S) ++ turnT f.side.lev (km.map (cell S)) := by
  have mm : ∀ k, k ∈ km ↔ k < N ∧ (plOf f.side.far f.cr (grownF f wide high) (al f.side.lev (S k)) = at_ ∧ mvs f.side.far f.cr (al f.side.lev (S k)) = true) ∧ ac f.side.lev (S k) = c := fun k => by
    rw [hm.2 k]
    refine and_congr_right fun hk => and_congr_left fun _ => ?_
    have hb := G.alb f.side.lev hk
    exact meetM_iff h1 h2 h3 h4 hb.1 hb.2.1
  have mt : ∀ k, k ∈ kt ↔ k < N ∧ (plOf f.side.far f.cr (grownF f wide high) (al f.side.lev (S k)) = at_ ∧ mvs f.side.far f.cr (al f.side.lev (S k)) = false) ∧ ac f.side.lev (S k) = c := fun k => by
    rw [ht.2 k]
    refine and_congr_right fun hk => and_congr_left fun _ => ?_
    have hb := G.alb f.side.lev hk
    exact meetS_iff h1 h2 h3 h4 hb.1 hb.2.1
  have pm : km.reverse.Pairwise (fun a b => (spotF f (grownF f wide high) top low (S b)).l < (spotF f (grownF f wide high) top low (S a)).l) := by
    rw [List.pairwise_reverse]
    refine List.Pairwise.imp_of_mem (fun {a b} ha hb hab => ?_) hm.1
    rw [spotF_lm ((mm a).mp ha).2.1.2, spotF_lm ((mm b).mp hb).2.1.2]
    cases f.over <;> simp <;> omega
  have pt : kt.Pairwise (fun a b => (spotF f (grownF f wide high) top low (S b)).l < (spotF f (grownF f wide high) top low (S a)).l) := by
    refine List.Pairwise.imp_of_mem (fun {a b} ha hb hab => ?_) ht.1
    rw [spotF_ls ((mt a).mp ha).2.1.2, spotF_ls ((mt b).mp hb).2.1.2]
    exact hab
  have cm : km.reverse.map (cell fun k => spotF f (grownF f wide high) top low (S k)) = turnT f.side.lev (km.map (cell S)) := by
    unfold turnT
    rw [← List.map_reverse, List.map_map]
    refine List.map_congr_left fun k hk => ?_
    exact cell_mv ((mm k).mp (List.mem_reverse.mp hk)).2.1.2
  have ct : kt.map (cell fun k => spotF f (grownF f wide high) top low (S k)) = kt.map (cell S) :=
    List.map_congr_left fun k hk => cell_st ((mt k).mp hk).2.1.2
  have mem : ∀ k, (k ∈ km ∨ k ∈ kt) ↔ k < N ∧ (some at_ = some (al f.side.lev (spotF f (grownF f wide high) top low (S k)))) ∧ ac f.side.lev (spotF f (grownF f wide high) top low (S k)) = c := fun k => by
    rw [mm k, mt k, spotF_al, spotF_ac]
    simp only [Option.some.injEq]
    cases mvs f.side.far f.cr (al f.side.lev (S k)) <;> simp <;> omega
  cases ho : f.over with
  | true =>
    refine ⟨km.reverse ++ kt, ⟨List.pairwise_append.mpr ⟨pm, pt, fun a ha b hb => ?_⟩, fun k => ?_⟩, ?_⟩
    · rw [List.mem_reverse] at ha
      rw [spotF_lm ((mm a).mp ha).2.1.2, spotF_ls ((mt b).mp hb).2.1.2, ho]
      have q1 := L a ((mm a).mp ha).1
      have q2 := L b ((mt b).mp hb).1
      simp
      omega
    · rw [← mem k, List.mem_append, List.mem_reverse]
    · rw [List.map_append, cm, ct]
      simp
  | false =>
    refine ⟨kt ++ km.reverse, ⟨List.pairwise_append.mpr ⟨pt, pm, fun b hb a ha => ?_⟩, fun k => ?_⟩, ?_⟩
    · rw [List.mem_reverse] at ha
      rw [spotF_lm ((mm a).mp ha).2.1.2, spotF_ls ((mt b).mp hb).2.1.2, ho]
      have q1 := L a ((mm a).mp ha).1
      have q2 := L b ((mt b).mp hb).1
      simp
      omega
    · rw [← mem k, List.mem_append, List.mem_reverse, or_comm]
    · rw [List.map_append, cm, ct]
      simp
/-- a fold keeps the sheet good -/
theorem fold_good (G : Good N S wide high) (L : Lay N S top low) (h1 : 1 ≤ f.cr) (h2 : f.cr < ext f.side.lev wide high) :
    Good N (fun k => spotF f (grownF f wide high) top low (S k)) (wideF f wide) (highF f high) := by
  have bnd : ∀ k, k < N → 0 ≤ plOf f.side.far f.cr (grownF f wide high) (al f.side.lev (S k)) ∧ plOf f.side.far f.cr (grownF f wide high) (al f.side.lev (S k)) < grownF f wide high := fun k hk => by
    have hb := G.alb f.side.lev hk
    exact plOf_bnd h1 h2 hb.1 hb.2.1
  constructor
  · intro k hk
    have q1 := bnd k hk
    have q2 := G.bnd k hk
    unfold spotF wideF highF
    unfold al at q1
    have e : grownF f wide high = max f.cr ((if f.side.lev = true then high else wide) - f.cr) := rfl
    cases hl : f.side.lev <;> rw [hl] at q1 e <;> simp only [Bool.false_eq_true, if_false, if_true] at q1 e ⊢ <;> omega
  · intro x y hx hx2 hy hy2
    have key : ∀ at_ c, 0 ≤ at_ → at_ < grownF f wide high → 0 ≤ c → c < ext (!f.side.lev) wide high → ∃ k, k < N ∧ plOf f.side.far f.cr (grownF f wide high) (al f.side.lev (S k)) = at_ ∧ ac f.side.lev (S k) = c := by
      intro at_ c h3 h4 h5 h6
      have pick : ∀ a, 0 ≤ a → a < ext f.side.lev wide high → ∃ k, k < N ∧ al f.side.lev (S k) = a ∧ ac f.side.lev (S k) = c := by
        intro a ha hb
        unfold al ac
        unfold ext at hb h6
        cases hl : f.side.lev <;> rw [hl] at hb h6 <;> simp at hb h6 ⊢
        · exact G.full a c ha hb h5 h6
        · obtain ⟨k, q1, q2, q3⟩ := G.full c a h5 h6 ha hb
          exact ⟨k, q1, q3, q2⟩
      rcases meet_some (far := f.side.far) h1 h2 h3 h4 with ⟨a, ha⟩ | ⟨a, ha⟩
      · have hb := meetM_bnd h1 h2 h3 h4 ha
        obtain ⟨k, q1, q2, q3⟩ := pick a hb.1 hb.2
        refine ⟨k, q1, ?_, q3⟩
        rw [q2]
        exact ((meetM_iff h1 h2 h3 h4 hb.1 hb.2).mp ha).1
      · have hb := meetS_bnd h1 h2 h3 h4 ha
        obtain ⟨k, q1, q2, q3⟩ := pick a hb.1 hb.2
        refine ⟨k, q1, ?_, q3⟩
        rw [q2]
        exact ((meetS_iff h1 h2 h3 h4 hb.1 hb.2).mp ha).1
    unfold wideF at hx2
    unfold highF at hy2
    unfold grownF ext al ac at key
    unfold spotF grownF ext
    cases hl : f.side.lev <;> rw [hl] at key hx2 hy2 <;> simp at key hx2 hy2 ⊢
    · exact key x y hx hx2 hy hy2
    · obtain ⟨k, q1, q2, q3⟩ := key y x hy hy2 hx hx2
      exact ⟨k, q1, q3, q2⟩
  · intro j k hj hk hx hy hlay
    have e1 : plOf f.side.far f.cr (grownF f wide high) (al f.side.lev (S j)) = plOf f.side.far f.cr (grownF f wide high) (al f.side.lev (S k)) ∧ ac f.side.lev (S j) = ac f.side.lev (S k) := by
      rw [← spotF_al (top := top) (low := low), ← spotF_al (top := top) (low := low), ← spotF_ac (top := top) (low := low) (g := grownF f wide high), ← spotF_ac (s := S k) (top := top) (low := low) (g := grownF f wide high)]
      unfold al ac
      rw [hx, hy]
      exact ⟨rfl, rfl⟩
    have bj := G.alb f.side.lev hj
    have bk := G.alb f.side.lev hk
    have lj := L j hj
    have lk := L k hk
    have e2 : mvs f.side.far f.cr (al f.side.lev (S j)) = mvs f.side.far f.cr (al f.side.lev (S k)) := by
      cases q1 : mvs f.side.far f.cr (al f.side.lev (S j)) <;> cases q2 : mvs f.side.far f.cr (al f.side.lev (S k)) <;> try rfl
      · rw [spotF_ls q1, spotF_lm q2] at hlay
        cases ho : f.over <;> rw [ho] at hlay <;> simp at hlay <;> omega
      · rw [spotF_lm q1, spotF_ls q2] at hlay
        cases ho : f.over <;> rw [ho] at hlay <;> simp at hlay <;> omega
    have e3 : al f.side.lev (S j) = al f.side.lev (S k) := by
      have h := e1.1
      unfold plOf gapOf at h
      unfold mvs at e2
      cases hf : f.side.far <;> rw [hf] at h e2 <;> by_cases c1 : f.cr ≤ al f.side.lev (S j) <;> by_cases c2 : f.cr ≤ al f.side.lev (S k) <;> simp [c1, c2] at h e2 <;> omega
    have e4 : (S j).l = (S k).l := by
      cases q2 : mvs f.side.far f.cr (al f.side.lev (S k))
      · rw [q2] at e2
        rw [spotF_ls q2, spotF_ls e2] at hlay
        exact hlay
      · rw [q2] at e2
        rw [spotF_lm q2, spotF_lm e2] at hlay
        cases ho : f.over <;> rw [ho] at hlay <;> simp at hlay <;> omega
    have e5 := e1.2
    unfold al at e3
    unfold ac at e5
    cases hl : f.side.lev <;> rw [hl] at e3 e5 <;> simp at e3 e5
    · exact G.inj j k hj hk e3 e5 e4
    · exact G.inj j k hj hk e5 e3 e4
end
/-- the flat sheet -/
def flatS (c : Nat) (k : Nat) : Spot := ⟨((k % c : Nat) : Int), ((k / c : Nat) : Int), 0, false, false⟩
theorem flat_good {c r : Nat} (hc : 0 < c) : Good (c * r) (flatS c) c r := by
  constructor
  · intro k hk
    have h1 := Nat.mod_lt k hc
    have h2 : k / c < r := Nat.div_lt_of_lt_mul hk
    unfold flatS
    dsimp only
    generalize k % c = p at *
    generalize k / c = q at *
    omega
  · intro x y h1 h2 h3 h4
    refine ⟨y.toNat * c + x.toNat, ?_, ?_, ?_⟩
    · have : y.toNat * c + c ≤ r * c := by
        rw [← Nat.succ_mul]
        exact Nat.mul_le_mul_right c (by omega)
      rw [Nat.mul_comm c r]
      omega
    · unfold flatS
      dsimp only
      rw [Nat.add_comm, Nat.add_mul_mod_self_right, Nat.mod_eq_of_lt (by omega)]
      omega
    · unfold flatS
      dsimp only
      rw [Nat.add_comm, Nat.add_mul_div_right _ _ hc, Nat.div_eq_of_lt (by omega)]
      omega
  · intro j k _ _ h1 h2 _
    unfold flatS at h1 h2
    dsimp only at h1 h2
    rw [← Nat.div_add_mod j c, ← Nat.div_add_mod k c]
    have e1 : j % c = k % c := by omega
    have e2 : j / c = k / c := by omega
    rw [e1, e2]
theorem flat_heap {c r : Nat} (hc : 0 < c) {x y : Int} (h1 : 0 ≤ x) (h2 : x < c) (h3 : 0 ≤ y) (h4 : y < r) : IsHeap (c * r) (flatS c) x y [(y * c + x).toNat] := by
  have G := flat_good (r := r) hc
  obtain ⟨k, hk, ex, ey⟩ := G.full x y h1 h2 h3 h4
  have e : (y * (c : Int) + x).toNat = k := by
    unfold flatS at ex ey
    dsimp only at ex ey
    have := Nat.div_add_mod k c
    rw [← ex, ← ey, ← Int.natCast_mul, ← Int.natCast_add, Int.toNat_natCast, Nat.mul_comm]
    exact this
  rw [e]
  refine ⟨List.pairwise_singleton _ _, fun j => ?_⟩
  rw [List.mem_singleton]
  constructor
  · rintro rfl
    exact ⟨hk, ex, ey⟩
  · rintro ⟨hj, jx, jy⟩
    exact G.inj j k hj hk (jx.trans ex.symm) (jy.trans ey.symm) rfl
theorem lay_ex (N : Nat) (S : Nat → Spot) : ∃ top low, Lay N S top low := by
  induction N with
  | zero => exact ⟨0, 0, fun k hk => absurd hk (Nat.not_lt_zero _)⟩
  | succ N ih =>
    obtain ⟨t, w, h⟩ := ih
    refine ⟨max t (S N).l, min w (S N).l, fun k hk => ?_⟩
    by_cases q : k = N
    · subst q
      omega
    · have := h k (by omega)
      omega
end Fd
set_option Elab.async false
set_option linter.all false
set_option maxRecDepth 100000
set_option maxHeartbeats 4000000
/-! MB: what the program's defs compute, over plain data. -/
namespace Fd
open Bk PySem L2
def cellD (c : Cell) : D := .tup [.int (c.1 : Int), .bl c.2.1, .bl c.2.2]
def heapD (h : List Cell) : D := .lst (h.map cellD)
def sideS : Side → Str
  | .west => "west"
  | .east => "east"
  | .north => "north"
  | .south => "south"
def foldD (f : Fold) : D := .tup [.str (sideS f.side), .bl f.over, .int f.cr]
def spotD (s : Spot) : D := .tup [.int s.x, .int s.y, .int s.l, .bl s.e, .bl s.n]
def optD : Option Int → D
  | none => .non
  | some i => .int i
structure PileT where
  cols : Int
  rows : Int
  wide : Int
  high : Int
  heaps : List (List Cell)
  folds : List Fold
  cuts : List (Nat × Nat)
def prD (p : Nat × Nat) : D := .tup [.int (p.1 : Int), .int (p.2 : Int)]
def pileL (P : PileT) : List D := [.int P.cols, .int P.rows, .int P.wide, .int P.high, .lst (P.heaps.map heapD), .lst (P.folds.map foldD), .lst (P.cuts.map prD)]
def pileD (P : PileT) : D := .obj (pileL P)

@[simp] theorem ne_west_east : ((Str.ofString "west" : Str) = Str.ofString "east") = False := eq_false (by decide +kernel)
@[simp] theorem ne_west_north : ((Str.ofString "west" : Str) = Str.ofString "north") = False := eq_false (by decide +kernel)
@[simp] theorem ne_west_south : ((Str.ofString "west" : Str) = Str.ofString "south") = False := eq_false (by decide +kernel)
@[simp] theorem ne_east_west : ((Str.ofString "east" : Str) = Str.ofString "west") = False := eq_false (by decide +kernel)
@[simp] theorem ne_east_north : ((Str.ofString "east" : Str) = Str.ofString "north") = False := eq_false (by decide +kernel)
@[simp] theorem ne_east_south : ((Str.ofString "east" : Str) = Str.ofString "south") = False := eq_false (by decide +kernel)
@[simp] theorem ne_north_west : ((Str.ofString "north" : Str) = Str.ofString "west") = False := eq_false (by decide +kernel)
@[simp] theorem ne_north_east : ((Str.ofString "north" : Str) = Str.ofString "east") = False := eq_false (by decide +kernel)
@[simp] theorem ne_north_south : ((Str.ofString "north" : Str) = Str.ofString "south") = False := eq_false (by decide +kernel)
@[simp] theorem ne_south_west : ((Str.ofString "south" : Str) = Str.ofString "west") = False := eq_false (by decide +kernel)
@[simp] theorem ne_south_east : ((Str.ofString "south" : Str) = Str.ofString "east") = False := eq_false (by decide +kernel)
@[simp] theorem ne_south_north : ((Str.ofString "south" : Str) = Str.ofString "north") = False := eq_false (by decide +kernel)
@[simp] theorem ok_west : PyData.strOk (Str.ofString "west") = true := by decide +kernel
@[simp] theorem ok_east : PyData.strOk (Str.ofString "east") = true := by decide +kernel
@[simp] theorem ok_north : PyData.strOk (Str.ofString "north") = true := by decide +kernel
@[simp] theorem ok_south : PyData.strOk (Str.ofString "south") = true := by decide +kernel
def oldT (P : PileT) (v : Bool) (o : Option Int) (c : Int) : List Cell := match o with
  | none => []
  | some a => P.heaps.getD (if v = true then a * P.wide + c else c * P.wide + a).toNat []
theorem getD_map {α : Type} {h : List α} {f : α → D} {i : Nat} {d : α} (hi : i < h.length) : (h.map f)[i]? = some (f (h.getD i d)) := by
  rw [List.getElem?_map, List.getElem?_eq_getElem hi, List.getD_eq_getElem?_getD, List.getElem?_eq_getElem hi]
  rfl
end Fd
set_option Elab.async false
set_option linter.all false
set_option maxRecDepth 100000
set_option maxHeartbeats 4000000
/-! MC: met, folded. -/
namespace Fd
open Bk PySem L2
section
variable (P : PileT) (c : Bool)
@[simp] theorem fldP0 : pFld 0 ⟨.sh, c, pileD P⟩ = .ok (.sh (.int P.cols)) := rfl
@[simp] theorem fldP1 : pFld 1 ⟨.sh, c, pileD P⟩ = .ok (.sh (.int P.rows)) := rfl
@[simp] theorem fldP2 : pFld 2 ⟨.sh, c, pileD P⟩ = .ok (.sh (.int P.wide)) := rfl
@[simp] theorem fldP3 : pFld 3 ⟨.sh, c, pileD P⟩ = .ok (.sh (.int P.high)) := rfl
@[simp] theorem fldP4 : pFld 4 ⟨.sh, c, pileD P⟩ = .ok (.sh (.lst (P.heaps.map heapD))) := rfl
@[simp] theorem fldP5 : pFld 5 ⟨.sh, c, pileD P⟩ = .ok (.sh (.lst (P.folds.map foldD))) := rfl
@[simp] theorem fldP6 : pFld 6 ⟨.sh, c, pileD P⟩ = .ok (.sh (.lst (P.cuts.map prD))) := rfl
end
@[simp] theorem kMethP (F : XF) (r : Res (List D)) (P : PileT) (b : Bool) : kMeth F r ⟨.sh, b, pileD P⟩ = r.bind fun ds => F (pileD P :: ds) := rfl
structure Shape (P : PileT) : Prop where
  w1 : 1 ≤ P.wide
  h1 : 1 ≤ P.high
  w64 : P.wide ≤ 64
  h64 : P.high ≤ 64
  len : P.heaps.length = (P.wide * P.high).toNat
  hp : ∀ h ∈ P.heaps, h.length ≤ 64
theorem Shape.ix {P : PileT} (G : Shape P) {x y : Int} (h1 : 0 ≤ x) (h2 : x < P.wide) (h3 : 0 ≤ y) (h4 : y < P.high) : 0 ≤ y * P.wide + x ∧ y * P.wide + x < P.heaps.length := by
  have e1 := G.len
  have q : (y + 1) * P.wide ≤ P.high * P.wide := Int.mul_le_mul_of_nonneg_right (by omega) (by omega)
  rw [Int.add_mul, Int.one_mul] at q
  have q2 := Int.mul_nonneg h3 (show 0 ≤ P.wide by omega)
  rw [Int.mul_comm] at e1
  omega
theorem old_len {P : PileT} (G : Shape P) (v : Bool) (o : Option Int) (c : Int) : (oldT P v o c).length ≤ 64 := by
  unfold oldT
  cases o with
  | none => simp
  | some a =>
    dsimp only
    rw [List.getD_eq_getElem?_getD]
    cases q : P.heaps[(if v = true then a * P.wide + c else c * P.wide + a).toNat]? with
    | none => simp
    | some h => exact G.hp h (List.mem_of_getElem? q)
def metT (P : PileT) (f : Fold) (x y : Int) : List Cell :=
  if f.over = true then turnT f.side.lev (oldT P f.side.lev (meetM (ext f.side.lev P.wide P.high) f.cr f.side.far (ext f.side.lev x y)) (ext (!f.side.lev) x y)) ++ oldT P f.side.lev (meetS (ext f.side.lev P.wide P.high) f.cr f.side.far (ext f.side.lev x y)) (ext (!f.side.lev) x y)
  else oldT P f.side.lev (meetS (ext f.side.lev P.wide P.high) f.cr f.side.far (ext f.side.lev x y)) (ext (!f.side.lev) x y) ++ turnT f.side.lev (oldT P f.side.lev (meetM (ext f.side.lev P.wide P.high) f.cr f.side.far (ext f.side.lev x y)) (ext (!f.side.lev) x y))
theorem turn_len {v : Bool} {h : List Cell} : (turnT v h).length = h.length := by
  unfold turnT
  rw [List.length_map, List.length_reverse]
theorem met_len {P : PileT} (G : Shape P) (f : Fold) (x y : Int) : (metT P f x y).length ≤ 128 := by
  unfold metT
  have a := old_len G f.side.lev (meetM (ext f.side.lev P.wide P.high) f.cr f.side.far (ext f.side.lev x y)) (ext (!f.side.lev) x y)
  have b := old_len G f.side.lev (meetS (ext f.side.lev P.wide P.high) f.cr f.side.far (ext f.side.lev x y)) (ext (!f.side.lev) x y)
  cases f.over <;> simp [turn_len] <;> omega
theorem heap_add {A B : List Cell} (b1 b2 : Bool) (o1 o2 : Ow) (h1 : o1 = .sh ∨ o1 = .li .sh) (h2 : o2 = .sh ∨ o2 = .li .sh) (ha : A.length ≤ 10000) (hb : B.length ≤ 10000) : pAdd ⟨o1, b1, heapD A⟩ ⟨o2, b2, heapD B⟩ = .ok ⟨.li .sh, false, heapD (A ++ B)⟩ := by
  have hl : A.length + B.length ≤ 100000 := by omega
  rcases h1 with rfl | rfl <;> rcases h2 with rfl | rfl <;> simp [heapD, hl]
/-- rows of places -/
def grid {α : Type} (w h : Nat) (g : Nat → Nat → α) : List α := (List.range h).flatMap fun y => (List.range w).map fun x => g x y
theorem grid_succ {α : Type} {w h : Nat} {g : Nat → Nat → α} : grid w (h + 1) g = grid w h g ++ (List.range w).map fun x => g x h := by
  unfold grid
  rw [List.range_succ, List.flatMap_append]
  simp
theorem grid_len {α : Type} {w h : Nat} {g : Nat → Nat → α} : (grid w h g).length = w * h := by
  induction h with
  | zero => rfl
  | succ h ih => rw [grid_succ, List.length_append, ih, List.length_map, List.length_range, Nat.mul_succ]
theorem grid_get {α : Type} {w h x y : Nat} {g : Nat → Nat → α} (hx : x < w) (hy : y < h) : (grid w h g)[y * w + x]? = some (g x y) := by
  induction h with
  | zero => omega
  | succ h ih =>
    rw [grid_succ]
    by_cases q : y < h
    · rw [List.getElem?_append_left, ih q]
      rw [grid_len]
      have : (y + 1) * w ≤ h * w := Nat.mul_le_mul_right w q
      rw [Nat.add_mul, Nat.one_mul] at this
      rw [Nat.mul_comm w h]
      omega
    · have e : y = h := by omega
      subst e
      rw [List.getElem?_append_right (by rw [grid_len, Nat.mul_comm]; omega), grid_len, Nat.mul_comm w y, Nat.add_sub_cancel_left, List.getElem?_map, List.getElem?_range hx]
      rfl
theorem grid_all {α : Type} {w h : Nat} {g : Nat → Nat → α} {a : α} (ha : a ∈ grid w h g) : ∃ x y, x < w ∧ y < h ∧ a = g x y := by
  unfold grid at ha
  rw [List.mem_flatMap] at ha
  obtain ⟨y, hy, ha⟩ := ha
  rw [List.mem_map] at ha
  obtain ⟨x, hx, e⟩ := ha
  rw [List.mem_range] at hx hy
  exact ⟨x, y, hx, hy, e.symm⟩
def foldT (P : PileT) (f : Fold) : PileT := ⟨P.cols, P.rows, wideF f P.wide, highF f P.high, grid (wideF f P.wide).toNat (highF f P.high).toNat fun x y => metT P f (x : Int) (y : Int), P.folds ++ [f], []⟩
end Fd
set_option Elab.async false
set_option linter.all false
set_option maxRecDepth 100000
set_option maxHeartbeats 4000000
/-! MD: laid, heap, done; the law's helpers. -/
namespace Fd
open Bk PySem L2
@[simp] theorem rangeD_len (n : Int) : (rangeD n).length = n.toNat := by simp [rangeD]
def laidT (c r : Int) : PileT := ⟨c, r, c, r, (List.range (c * r).toNat).map fun k => [(k, false, false)], [], []⟩
theorem sizes_bnd {c r m : Int} (hc : 1 ≤ c) (hr : 1 ≤ r) (h : c * r ≤ m) : c ≤ m ∧ r ≤ m ∧ 1 ≤ c * r := by
  have h1 : c * 1 ≤ c * r := Int.mul_le_mul_of_nonneg_left hr (by omega)
  have h2 : 1 * r ≤ c * r := Int.mul_le_mul_of_nonneg_right hc (by omega)
  omega
def heapT (P : PileT) (x y : Int) : List Cell := P.heaps.getD (y * P.wide + x).toNat []
/-! ### the law's helpers -/
@[simp] theorem ev_cell_at (ns : List Int) (k : Nat) : F_law_cell_at [.fz (ns.map .int), .int (k : Int)] = .ok (.sh (.int (ns.getD k 0))) := by
  by_cases h : k < ns.length
  · have h2 : (k : Int) < (ns.length : Nat) := by omega
    simp [F_law_cell_at, h2, h]
  · have h2 : ¬ (k : Int) < (ns.length : Nat) := by omega
    simp [F_law_cell_at, h2, h]
@[simp] theorem ev_whole_i (i : Int) : F_law_whole [.int i] = .ok (.sh (.bl true)) := by simp [F_law_whole]
@[simp] theorem ev_whole_b (b : Bool) : F_law_whole [.bl b] = .ok (.sh (.bl false)) := by simp [F_law_whole]
def spotsD (N : Nat) (S : Nat → Spot) : D := .lst ((List.range N).map fun k => spotD (S k))
def flatI (c : Int) (k : Nat) : Spot := ⟨(k : Int) % c, (k : Int) / c, 0, false, false⟩
theorem flatI_nat (c : Nat) : flatI (c : Int) = flatS c := by
  funext k
  unfold flatI flatS
  rw [Int.natCast_emod, Int.natCast_ediv]
theorem flatI_good {c r : Int} (hc : 1 ≤ c) (hr : 1 ≤ r) : Good (c * r).toNat (flatI c) c r := by
  obtain ⟨a, rfl⟩ : ∃ a : Nat, c = a := ⟨c.toNat, by omega⟩
  obtain ⟨b, rfl⟩ : ∃ a : Nat, r = a := ⟨r.toNat, by omega⟩
  rw [flatI_nat, ← Int.natCast_mul, Int.toNat_natCast]
  exact flat_good (by omega)
theorem flatI_heap {c r x y : Int} (hc : 1 ≤ c) (hr : 1 ≤ r) (h1 : 0 ≤ x) (h2 : x < c) (h3 : 0 ≤ y) (h4 : y < r) : IsHeap (c * r).toNat (flatI c) x y [(y * c + x).toNat] := by
  obtain ⟨a, rfl⟩ : ∃ a : Nat, c = a := ⟨c.toNat, by omega⟩
  obtain ⟨b, rfl⟩ : ∃ a : Nat, r = a := ⟨r.toNat, by omega⟩
  rw [flatI_nat, ← Int.natCast_mul, Int.toNat_natCast]
  exact flat_heap (by omega) h1 h2 h3 h4
theorem ev_flat {c r : Int} (hc : 1 ≤ c) (hr : 1 ≤ r) (h : c * r ≤ 64) : F_law_flat [.int c, .int r] = .ok ⟨.li .sh, false, spotsD (c * r).toNat (flatI c)⟩ := by
  have b := sizes_bnd hc hr h
  have a4 : c * r ≤ 100000 := by omega
  have a5 : -100000 ≤ c * r := by omega
  have a6 : (c * r).toNat ≤ 100000 := by omega
  have a7 : c < 18446744073709551616 := by omega
  have a8 : -18446744073709551616 < c := by omega
  have a9 : 0 < c := by omega
  have a10 : c < 1073741824 := by omega
  have hl : lcGo (lcStep (.nm 2) xYes (xTup (xACons (xOp2 pMod (xV 2) (xV 0)) (xACons (xOp2 pDiv (xV 2) (xV 0)) (xACons (xC (.int 0)) (xACons (xC (.bl false)) (xACons (xC (.bl false)) xANil)))))) [some (.sh, .int c), some (.sh, .int r), none]) (rangeD (c * r)) = .ok ((List.range (c * r).toNat).map fun k => spotD (flatI c k)) :=
    lc_range fun k hk => by simp [lcStep, a9, a10, spotD, flatI]
  simp [F_law_flat, a4, a5, a6, a7, a8, hl]
  simp [spotsD]
def foldByT (cell wide high : Int) : Fold :=
  let lv := wide = 1 ∨ (1 < high ∧ cell % 2 = 1)
  ⟨if lv then (if cell / 2 % 2 = 0 then .north else .south) else (if cell / 2 % 2 = 0 then .west else .east), decide (cell / 4 % 2 = 1), 1 + cell / 8 % ((if lv then high else wide) - 1)⟩
theorem foldByT_ok {cell wide high : Int} (h1 : 1 ≤ wide) (h2 : 1 ≤ high) (h : ¬ (wide = 1 ∧ high = 1)) : 1 ≤ (foldByT cell wide high).cr ∧ (foldByT cell wide high).cr < ext (foldByT cell wide high).side.lev wide high := by
  unfold foldByT
  by_cases q : wide = 1 ∨ (1 < high ∧ cell % 2 = 1)
  · simp only [q, if_true]
    have e : (if cell / 2 % 2 = 0 then Side.north else Side.south).lev = true := by split <;> rfl
    rw [e]
    have := Int.emod_nonneg (cell / 8) (show high - 1 ≠ 0 by omega)
    have := Int.emod_lt_of_pos (cell / 8) (show 0 < high - 1 by omega)
    simp [ext]
    omega
  · simp only [q, if_false]
    have e : (if cell / 2 % 2 = 0 then Side.west else Side.east).lev = false := by split <;> rfl
    rw [e]
    have := Int.emod_nonneg (cell / 8) (show wide - 1 ≠ 0 by omega)
    have := Int.emod_lt_of_pos (cell / 8) (show 0 < wide - 1 by omega)
    simp [ext]
    omega
theorem ev_fold_by {cell wide high : Int} (h1 : 1 ≤ wide) (h2 : 1 ≤ high) (h : ¬ (wide = 1 ∧ high = 1)) : F_law_fold_by [.int cell, .int wide, .int high] = .ok (.sh (foldD (foldByT cell wide high))) := by
  unfold foldByT
  have k0 : cell / 2 % 2 = 0 ∨ cell / 2 % 2 = 1 := by omega
  by_cases q1 : wide = 1
  · have q3 : 0 < high - 1 := by omega
    have q4 : 1 < high := by omega
    rcases k0 with k0 | k0 <;> simp [F_law_fold_by, q1, q3, q4, k0, foldD, sideS]
  · have q3 : 0 < wide - 1 := by omega
    have q4 : 1 < wide := by omega
    by_cases q2 : 1 < high ∧ cell % 2 = 1
    · have q5 : 0 < high - 1 := by omega
      rcases k0 with k0 | k0 <;> simp [F_law_fold_by, q1, q2, q2.1, q5, k0, foldD, sideS]
    · by_cases q6 : 1 < high
      · have q7 : ¬ cell % 2 = 1 := fun z => q2 ⟨q6, z⟩
        rcases k0 with k0 | k0 <;> simp [F_law_fold_by, q1, q3, q4, q6, q7, k0, foldD, sideS]
      · rcases k0 with k0 | k0 <;> simp [F_law_fold_by, q1, q3, q4, q6, k0, foldD, sideS]
theorem ev_spot (s : Spot) (f : Fold) (g t w : Int) : F_law_spot [spotD s, foldD f, .int g, .int t, .int w] = .ok (.sh (spotD (spotF f g t w s))) := by
  obtain ⟨sd, ov, cr⟩ := f
  obtain ⟨x, y, l, e, n⟩ := s
  cases sd
  · by_cases h : cr ≤ x <;> cases ov <;> simp [F_law_spot, ixN, foldD, spotD, sideS, spotF, Side.lev, Side.far, plOf, gapOf, mvs, al, h]
  · by_cases h : cr ≤ x <;> cases ov <;> simp [F_law_spot, ixN, foldD, spotD, sideS, spotF, Side.lev, Side.far, plOf, gapOf, mvs, al, h]
  · by_cases h : cr ≤ y <;> cases ov <;> simp [F_law_spot, ixN, foldD, spotD, sideS, spotF, Side.lev, Side.far, plOf, gapOf, mvs, al, h]
  · by_cases h : cr ≤ y <;> cases ov <;> simp [F_law_spot, ixN, foldD, spotD, sideS, spotF, Side.lev, Side.far, plOf, gapOf, mvs, al, h]
end Fd
set_option Elab.async false
set_option linter.all false
set_option maxRecDepth 100000
set_option maxHeartbeats 4000000
/-! ME: the law's own folds and heaps. -/
namespace Fd
open Bk PySem L2
theorem maxR {N : Nat} {g : Nat → Int} {o : Ow} {b : Bool} (hN : 0 < N) : ∃ m, pMax1 [⟨o, b, .lst ((List.range N).map fun k => .int (g k))⟩] = .ok (.sh (.int m)) ∧ (∀ k, k < N → g k ≤ m) ∧ ∃ k, k < N ∧ g k = m := by
  have e : ((List.range N).map fun k => D.int (g k)) = ((List.range N).map g).map D.int := by rw [List.map_map]; rfl
  cases q : (List.range N).map g with
  | nil =>
    have := congrArg List.length q
    rw [List.length_map, List.length_range] at this
    simp at this
    omega
  | cons x xs =>
    have mm : ∀ z, z ∈ x :: xs ↔ ∃ k, k < N ∧ g k = z := fun z => by rw [← q, List.mem_map]; simp [List.mem_range]
    obtain ⟨h1, h2, h3⟩ := foldl_max xs x
    refine ⟨xs.foldl max x, ?_, fun k hk => ?_, ?_⟩
    · rw [e, q]
      unfold pMax1 pInts
      dsimp only
      rw [ints_map]
      rfl
    · rcases List.mem_cons.mp ((mm (g k)).mpr ⟨k, hk, rfl⟩) with hy | hy
      · rw [hy]; exact h1
      · exact h2 _ hy
    · refine (mm _).mp ?_
      rcases h3 with h3 | h3
      · rw [h3]; exact List.mem_cons_self
      · exact List.mem_cons_of_mem _ h3
theorem minR {N : Nat} {g : Nat → Int} {o : Ow} {b : Bool} (hN : 0 < N) : ∃ m, pMin1 [⟨o, b, .lst ((List.range N).map fun k => .int (g k))⟩] = .ok (.sh (.int m)) ∧ (∀ k, k < N → m ≤ g k) ∧ ∃ k, k < N ∧ g k = m := by
  have e : ((List.range N).map fun k => D.int (g k)) = ((List.range N).map g).map D.int := by rw [List.map_map]; rfl
  cases q : (List.range N).map g with
  | nil =>
    have := congrArg List.length q
    rw [List.length_map, List.length_range] at this
    simp at this
    omega
  | cons x xs =>
    have mm : ∀ z, z ∈ x :: xs ↔ ∃ k, k < N ∧ g k = z := fun z => by rw [← q, List.mem_map]; simp [List.mem_range]
    obtain ⟨h1, h2, h3⟩ := foldl_min xs x
    refine ⟨xs.foldl min x, ?_, fun k hk => ?_, ?_⟩
    · rw [e, q]
      unfold pMin1 pInts
      dsimp only
      rw [ints_map]
      rfl
    · rcases List.mem_cons.mp ((mm (g k)).mpr ⟨k, hk, rfl⟩) with hy | hy
      · rw [hy]; exact h1
      · exact h2 _ hy
    · refine (mm _).mp ?_
      rcases h3 with h3 | h3
      · rw [h3]; exact List.mem_cons_self
      · exact List.mem_cons_of_mem _ h3
theorem spots_lc {N : Nat} {S : Nat → Spot} {step : D → Res (Option D)} {g : Nat → D} (h : ∀ k, k < N → step (spotD (S k)) = .ok (some (g k))) : lcGo step ((List.range N).map fun k => spotD (S k)) = .ok ((List.range N).map g) :=
  lcGo_map (enc := fun k => spotD (S k)) fun k hk => h k (List.mem_range.mp hk)
theorem Good.max {N : Nat} {S : Nat → Spot} {wide high : Int} (G : Good N S wide high) (v : Bool) (h1 : 1 ≤ wide) (h2 : 1 ≤ high) {m : Int} (hm : ∀ k, k < N → al v (S k) ≤ m) (hx : ∃ k, k < N ∧ al v (S k) = m) : m = ext v wide high - 1 := by
  obtain ⟨k, hk, ek⟩ := hx
  have b := G.alb v hk
  have : ext v wide high - 1 ≤ m := by
    unfold ext al at *
    cases v <;> simp at hm ⊢
    · obtain ⟨j, hj, e1, e2⟩ := G.full (wide - 1) 0 (by omega) (by omega) (by omega) (by omega)
      have := hm j hj
      omega
    · obtain ⟨j, hj, e1, e2⟩ := G.full 0 (high - 1) (by omega) (by omega) (by omega) (by omega)
      have := hm j hj
      omega
  omega
theorem Good.pos {N : Nat} {S : Nat → Spot} {wide high : Int} (G : Good N S wide high) (h1 : 1 ≤ wide) (h2 : 1 ≤ high) : 0 < N := by
  obtain ⟨k, hk, _⟩ := G.full 0 0 (by omega) (by omega) (by omega) (by omega)
  omega
theorem ev_law_folded {N : Nat} {S : Nat → Spot} {wide high : Int} (G : Good N S wide high) (h1 : 1 ≤ wide) (h2 : 1 ≤ high) (hN : N ≤ 10000) (f : Fold) :
    ∃ top low, Lay N S top low ∧ F_law_folded [spotsD N S, foldD f] = .ok ⟨.li .sh, false, spotsD N fun k => spotF f (grownF f wide high) top low (S k)⟩ := by
  have hp := G.pos h1 h2
  obtain ⟨m, em, m1, m2⟩ := maxR (N := N) (g := fun k => al f.side.lev (S k)) (o := .li .sh) (b := false) hp
  obtain ⟨t, et, t1, t2⟩ := maxR (N := N) (g := fun k => (S k).l) (o := .li .sh) (b := false) hp
  obtain ⟨w, ew, w1, w2⟩ := minR (N := N) (g := fun k => (S k).l) (o := .li .sh) (b := false) hp
  have em2 := G.max f.side.lev h1 h2 m1 m2
  have eg : (if 1 + m - f.cr > f.cr then 1 + m - f.cr else f.cr) = grownF f wide high := by unfold grownF; omega
  refine ⟨t, w, fun k hk => ⟨w1 k hk, t1 k hk⟩, ?_⟩
  have hl : N ≤ 100000 := by omega
  have l1 : ∀ env : XEnv, env[2]? = some (some (.sh, .int (if f.side.lev = true then 1 else 0))) → env.length = 8 → lcGo (lcStep (.nm 7) xYes (xOp2 pIx (xV 7) (xV 2)) env) ((List.range N).map fun k => spotD (S k)) = .ok ((List.range N).map fun k => .int (al f.side.lev (S k))) := by
    intro env h2 h8
    refine spots_lc fun k hk => ?_
    obtain ⟨e0, e1, e2, e3, e4, e5, e6, e7, rfl⟩ : ∃ a b c d e f g h, env = [a, b, c, d, e, f, g, h] := by
      match env, h8 with
      | [a, b, c, d, e, f, g, h], _ => exact ⟨a, b, c, d, e, f, g, h, rfl⟩
    simp at h2
    subst h2
    cases hv : f.side.lev <;> simp [lcStep, spotD, al]
  have l2 : ∀ a b c d e : Option (Ow × D), lcGo (lcStep (.nm 7) xYes (xOp2 pIx (xV 7) (xC (.int 2))) [a, b, c, d, e, none, none, none]) ((List.range N).map fun k => spotD (S k)) = .ok ((List.range N).map fun k => .int (S k).l) := fun a b c d e =>
    spots_lc fun k hk => by simp [lcStep, spotD]
  have l3 : ∀ a b c d e : Option (Ow × D), lcGo (lcStep (.nm 7) xYes (xOp2 pIx (xV 7) (xC (.int 2))) [a, b, c, d, e, some (.sh, .int t), none, none]) ((List.range N).map fun k => spotD (S k)) = .ok ((List.range N).map fun k => .int (S k).l) := fun a b c d e =>
    spots_lc fun k hk => by simp [lcStep, spotD]
  have l4 : ∀ a c d : Option (Ow × D), lcGo (lcStep (.nm 7) xYes (xCall F_law_spot (xACons (xV 7) (xACons (xV 1) (xACons (xV 4) (xACons (xV 5) (xACons (xV 6) xANil)))))) [a, some (.sh, foldD f), c, d, some (.sh, .int (grownF f wide high)), some (.sh, .int t), some (.sh, .int w), none]) ((List.range N).map fun k => spotD (S k)) = .ok ((List.range N).map fun k => spotD (spotF f (grownF f wide high) t w (S k))) := fun a c d =>
    spots_lc fun k hk => by simp [lcStep, ev_spot]
  clear m1 m2 t1 t2 w1 w2
  obtain ⟨sd, ov, cr⟩ := f
  simp only [gt_iff_lt] at eg
  cases sd <;> simp only [Side.lev, if_true, if_false, Bool.false_eq_true, foldD, sideS] at * <;> simp [F_law_folded, spotsD, hl, l1, l2, l3, l4, em, et, ew, eg]

/-! ### the law's heap -/
def kyD (S : Nat → Spot) (k : Nat) : Int × Int := (0 - (S k).l, (k : Int))
theorem heap_psort {N : Nat} {S : Nat → Spot} {x y : Int} {ks : List Nat} (h : IsHeap N S x y ks) : psort (((List.range N).filter fun k => decide ((S k).x = x) && decide ((S k).y = y)).map (kyD S)) = ks.map (kyD S) := by
  symm
  refine psort_uniq ?_ ?_
  · refine List.Perm.map _ ((List.perm_ext_iff_of_nodup ?_ ?_).mpr fun k => ?_)
    · exact h.1.imp fun {a b} hab e => by subst e; omega
    · exact List.nodup_range.filter _
    · rw [h.2 k, List.mem_filter, List.mem_range, Bool.and_eq_true, decide_eq_true_eq, decide_eq_true_eq]
  · refine List.pairwise_map.mpr (h.1.imp fun {a b} hab => ?_)
    rw [lexLe_iff]
    unfold kyD
    dsimp only
    omega
end Fd
set_option Elab.async false
set_option linter.all false
set_option maxRecDepth 100000
set_option maxHeartbeats 4000000
/-! MG: a pile that spots tell; comparisons of the law. -/
namespace Fd
open Bk PySem L2
structure Mt (P : PileT) (N : Nat) (S : Nat → Spot) : Prop where
  good : Good N S P.wide P.high
  sh : Shape P
  n64 : N ≤ 64
  hp : ∀ x y, 0 ≤ x → x < P.wide → 0 ≤ y → y < P.high → ∃ ks, IsHeap N S x y ks ∧ heapT P x y = ks.map (cell S)
theorem isHeap_len {N : Nat} {S : Nat → Spot} {x y : Int} {ks : List Nat} (h : IsHeap N S x y ks) : ks.length ≤ N := by
  have h1 : ks.Nodup := h.1.imp fun {a b} hab e => by subst e; omega
  have h2 : ks.Perm ((List.range N).filter fun k => decide ((S k).x = x) && decide ((S k).y = y)) := (List.perm_ext_iff_of_nodup h1 (List.nodup_range.filter _)).mpr fun k => by
    rw [h.2 k, List.mem_filter, List.mem_range, Bool.and_eq_true, decide_eq_true_eq, decide_eq_true_eq]
  rw [h2.length_eq]
  have := List.length_filter_le (fun k => decide ((S k).x = x) && decide ((S k).y = y)) (List.range N)
  rw [List.length_range] at this
  exact this
theorem Mt.laid {c r : Int} (hc : 1 ≤ c) (hr : 1 ≤ r) (h : c * r ≤ 64) : Mt (laidT c r) (c * r).toNat (flatI c) := by
  have b := sizes_bnd hc hr h
  have sh : Shape (laidT c r) := ⟨hc, hr, b.1, b.2.1, by unfold laidT; simp, fun h hh => by
    unfold laidT at hh
    simp at hh
    obtain ⟨k, _, rfl⟩ := hh
    simp⟩
  refine ⟨flatI_good hc hr, sh, by omega, fun x y h1 h2 h3 h4 => ⟨_, flatI_heap hc hr h1 h2 h3 h4, ?_⟩⟩
  have ix := sh.ix h1 h2 h3 h4
  have e : (laidT c r).heaps.length = (c * r).toNat := by unfold laidT; simp
  have e2 : (laidT c r).wide = c := rfl
  rw [e, e2] at ix
  unfold heapT
  have e3 : (laidT c r).heaps = (List.range (c * r).toNat).map fun k => [(k, false, false)] := rfl
  rw [e2, e3, List.getD_eq_getElem?_getD, List.getElem?_map, List.getElem?_range (by omega)]
  rfl
theorem Mt.old {P : PileT} {N : Nat} {S : Nat → Spot} (M : Mt P N S) (v : Bool) {o : Option Int} {c : Int} (ho : ∀ a, o = some a → 0 ≤ a ∧ a < ext v P.wide P.high) (hc : 0 ≤ c) (hc2 : c < ext (!v) P.wide P.high) :
    ∃ ks, OldHeap N S v o c ks ∧ oldT P v o c = ks.map (cell S) := by
  cases o with
  | none => exact ⟨[], oldHeap_none, rfl⟩
  | some a =>
    have h := ho a rfl
    unfold ext at h hc2
    cases v <;> simp at h hc2
    · obtain ⟨ks, h1, h2⟩ := M.hp a c h.1 h.2 hc hc2
      exact ⟨ks, oldHeap_some (by simpa using h1), h2⟩
    · obtain ⟨ks, h1, h2⟩ := M.hp c a hc hc2 h.1 h.2
      exact ⟨ks, oldHeap_some (by simpa using h1), h2⟩
theorem Mt.met {P : PileT} {N : Nat} {S : Nat → Spot} (M : Mt P N S) {f : Fold} {top low : Int} (L : Lay N S top low) (h1 : 1 ≤ f.cr) (h2 : f.cr < ext f.side.lev P.wide P.high) {x y : Int} (hx : 0 ≤ x) (hx2 : x < wideF f P.wide) (hy : 0 ≤ y) (hy2 : y < highF f P.high) :
    ∃ ks, IsHeap N (fun k => spotF f (grownF f P.wide P.high) top low (S k)) x y ks ∧ metT P f x y = ks.map (cell fun k => spotF f (grownF f P.wide P.high) top low (S k)) := by
  have a3 : 0 ≤ ext f.side.lev x y := by unfold ext; cases f.side.lev <;> simp [hx, hy]
  have a4 : ext f.side.lev x y < grownF f P.wide P.high := by
    unfold grownF ext wideF highF at *
    cases hl : f.side.lev <;> rw [hl] at hx2 hy2 <;> simp at hx2 hy2 ⊢ <;> omega
  have a5 : 0 ≤ ext (!f.side.lev) x y := by unfold ext; cases f.side.lev <;> simp [hx, hy]
  have a6 : ext (!f.side.lev) x y < ext (!f.side.lev) P.wide P.high := by
    unfold ext wideF highF at *
    cases hl : f.side.lev <;> rw [hl] at hx2 hy2 <;> simp at hx2 hy2 ⊢ <;> omega
  obtain ⟨km, m1, m2⟩ := M.old f.side.lev (o := meetM (ext f.side.lev P.wide P.high) f.cr f.side.far (ext f.side.lev x y)) (fun a ha => meetM_bnd h1 h2 a3 a4 ha) a5 a6
  obtain ⟨kt, t1, t2⟩ := M.old f.side.lev (o := meetS (ext f.side.lev P.wide P.high) f.cr f.side.far (ext f.side.lev x y)) (fun a ha => meetS_bnd h1 h2 a3 a4 ha) a5 a6
  obtain ⟨ks, k1, k2⟩ := fold_heap M.good L h1 h2 a3 a4 m1 t1
  refine ⟨ks, ⟨k1.1, fun k => ?_⟩, ?_⟩
  · rw [k1.2 k]
    refine and_congr_right fun _ => ?_
    unfold al ac ext
    cases f.side.lev
    · simp only [Bool.false_eq_true, if_false, Bool.not_false, if_true, Option.some.injEq]
      exact ⟨fun q => ⟨q.1.symm, q.2⟩, fun q => ⟨q.1.symm, q.2⟩⟩
    · simp only [Bool.false_eq_true, if_false, Bool.not_true, if_true, Option.some.injEq]
      exact ⟨fun q => ⟨q.2, q.1.symm⟩, fun q => ⟨q.2.symm, q.1⟩⟩
  · unfold metT
    rw [k2, m2, t2]
theorem ext_le {f : Fold} {w h : Int} (h1 : 1 ≤ f.cr) (h2 : f.cr < ext f.side.lev w h) (hw : 1 ≤ w) (hh : 1 ≤ h) : 1 ≤ wideF f w ∧ wideF f w ≤ w ∧ 1 ≤ highF f h ∧ highF f h ≤ h := by
  unfold wideF highF
  unfold ext at h2
  cases hl : f.side.lev <;> rw [hl] at h2 <;> simp at h2 ⊢ <;> omega
theorem Mt.fold {P : PileT} {N : Nat} {S : Nat → Spot} (M : Mt P N S) {f : Fold} {top low : Int} (L : Lay N S top low) (h1 : 1 ≤ f.cr) (h2 : f.cr < ext f.side.lev P.wide P.high) :
    Mt (foldT P f) N (fun k => spotF f (grownF f P.wide P.high) top low (S k)) := by
  have b := ext_le h1 h2 M.sh.w1 M.sh.h1
  have w64 := M.sh.w64
  have h64 := M.sh.h64
  have ew : ((wideF f P.wide).toNat : Int) = wideF f P.wide := by omega
  have eh : ((highF f P.high).toNat : Int) = highF f P.high := by omega
  have n64 := M.n64
  have sh : Shape (foldT P f) := by
    refine ⟨b.1, b.2.2.1, ?_, ?_, ?_, ?_⟩
    · show wideF f P.wide ≤ 64
      omega
    · show highF f P.high ≤ 64
      omega
    · show (grid _ _ _).length = (wideF f P.wide * highF f P.high).toNat
      rw [grid_len, Int.toNat_mul (by omega) (by omega)]
    · intro h hh
      obtain ⟨x, y, hx, hy, rfl⟩ := grid_all hh
      obtain ⟨ks, k1, k2⟩ := M.met L h1 h2 (x := x) (y := y) (by omega) (by omega) (by omega) (by omega)
      have e : metT P f (x : Int) (y : Int) = _ := k2
      rw [e, List.length_map]
      have := isHeap_len k1
      omega
  refine ⟨fold_good M.good L h1 h2, sh, M.n64, fun x y hx hx2 hy hy2 => ?_⟩
  obtain ⟨ks, k1, k2⟩ := M.met L h1 h2 hx hx2 hy hy2
  refine ⟨ks, k1, ?_⟩
  rw [← k2]
  have q : x.toNat < (wideF f P.wide).toNat := by have : x < wideF f P.wide := hx2; omega
  have q2 : y.toNat < (highF f P.high).toNat := by have : y < highF f P.high := hy2; omega
  have e : (y * (foldT P f).wide + x).toNat = y.toNat * (wideF f P.wide).toNat + x.toNat := by
    show (y * wideF f P.wide + x).toNat = _
    rw [Int.toNat_add (Int.mul_nonneg hy (by omega)) hx, Int.toNat_mul hy (by omega)]
  unfold heapT
  rw [e, List.getD_eq_getElem?_getD]
  have g := grid_get (g := fun a b : Nat => metT P f (a : Int) (b : Int)) q q2
  have e2 : (foldT P f).heaps = grid (wideF f P.wide).toNat (highF f P.high).toNat fun a b => metT P f (a : Int) (b : Int) := rfl
  rw [e2, g, Int.toNat_of_nonneg hx, Int.toNat_of_nonneg hy]
  rfl
/-! ### comparisons -/
theorem ok_side (s : Side) : PyData.strOk (sideS s) = true := by cases s <;> simp [sideS]
theorem lc_x {N : Nat} {S : Nat → Spot} {env : XEnv} {j : Nat} (hj : j < env.length) : lcGo (lcStep (.nm j) xYes (xOp2 pIx (xV j) (xC (.int 0))) env) ((List.range N).map fun k => spotD (S k)) = .ok ((List.range N).map fun k => .int (S k).x) :=
  spots_lc fun k hk => by simp [lcStep, spotD, hj]
theorem lc_y {N : Nat} {S : Nat → Spot} {env : XEnv} {j : Nat} (hj : j < env.length) : lcGo (lcStep (.nm j) xYes (xOp2 pIx (xV j) (xC (.int 1))) env) ((List.range N).map fun k => spotD (S k)) = .ok ((List.range N).map fun k => .int (S k).y) :=
  spots_lc fun k hk => by simp [lcStep, spotD, hj]
theorem Mt.maxx {P : PileT} {N : Nat} {S : Nat → Spot} (M : Mt P N S) (o : Ow) (b : Bool) : pMax1 [⟨o, b, .lst ((List.range N).map fun k => .int (S k).x)⟩] = .ok (.sh (.int (P.wide - 1))) := by
  obtain ⟨m, em, m1, m2⟩ := maxR (N := N) (g := fun k => (S k).x) (o := o) (b := b) (M.good.pos M.sh.w1 M.sh.h1)
  have := M.good.max false M.sh.w1 M.sh.h1 m1 m2
  unfold ext at this
  simp at this
  rw [em, this]
theorem Mt.maxy {P : PileT} {N : Nat} {S : Nat → Spot} (M : Mt P N S) (o : Ow) (b : Bool) : pMax1 [⟨o, b, .lst ((List.range N).map fun k => .int (S k).y)⟩] = .ok (.sh (.int (P.high - 1))) := by
  obtain ⟨m, em, m1, m2⟩ := maxR (N := N) (g := fun k => (S k).y) (o := o) (b := b) (M.good.pos M.sh.w1 M.sh.h1)
  have := M.good.max true M.sh.w1 M.sh.h1 m1 m2
  unfold ext at this
  simp at this
  rw [em, this]
theorem cut_map {α β : Type} (f : α → β) (xs : List α) (l h : Option Int) : cut (xs.map f) l h = (cut xs l h).map f := by
  unfold cut
  rw [List.length_map, List.map_take, List.map_drop]
theorem cut_len {α : Type} (xs : List α) (l h : Option Int) : (cut xs l h).length ≤ xs.length := by
  unfold cut
  rw [List.length_take, List.length_drop]
  omega
theorem foldD_def (f : Fold) : foldD f = .tup [.str (sideS f.side), .bl f.over, .int f.cr] := rfl
theorem one_add (w : Int) : 1 + (w - 1) = w := by omega
end Fd
set_option Elab.async false
set_option linter.all false
set_option maxRecDepth 100000
set_option maxHeartbeats 4000000
/-! MJ: seats, pairs, joints. -/
namespace Fd
open Bk PySem L2
/-! ### pairs -/
def pairsAt (c N : Int) (k : Nat) : List (Nat × Nat × Bool) := (if ((k : Int) + 1) / c = (k : Int) / c then [(k, k + 1, false)] else []) ++ (if (k : Int) + c < N then [(k, k + c.toNat, true)] else [])
def pairsT (c : Int) (N : Nat) : List (Nat × Nat × Bool) := (List.range N).flatMap (pairsAt c N)
def pcD (p : Nat × Nat × Bool) : D := .tup [.int (p.1 : Int), .int (p.2.1 : Int), .bl p.2.2]
theorem pairsAt_len (c N : Int) (k : Nat) : (pairsAt c N k).length ≤ 2 := by
  unfold pairsAt
  split <;> split <;> simp
theorem flat_len {α : Type} {f : Nat → List α} {m : Nat} (h : ∀ k, (f k).length ≤ m) (n : Nat) : ((List.range n).flatMap f).length ≤ m * n := by
  induction n with
  | zero => simp
  | succ n ih =>
    rw [List.range_succ, List.flatMap_append, List.length_append, Nat.mul_succ]
    have := h n
    simp only [List.flatMap_cons, List.flatMap_nil, List.append_nil]
    omega
theorem pairs_step (c N y : Int) (k : Nat) (hc : 1 ≤ c) (hc2 : c ≤ 64) (hy : y = (k : Int)) (r : Int) (hr : c * r = N) (xs : List D) (hl : xs.length ≤ 1000) (v : Option (Ow × D)) :
    (xSeq (xIfS (xT (xOp2 pEq (xOp2 pDiv (xOp2 pAdd (xV 3) (xC (.int 1))) (xV 0)) (xOp2 pDiv (xV 3) (xV 0)))) (xApp 2 (xTup (xACons (xV 3) (xACons (xOp2 pAdd (xV 3) (xC (.int 1))) (xACons (xC (.bl false)) (xANil)))))) (xSkip)) (
  xIfS (xT (xOp2 pLt (xOp2 pAdd (xV 3) (xV 0)) (xOp2 pMul (xV 0) (xV 1)))) (xApp 2 (xTup (xACons (xV 3) (xACons (xOp2 pAdd (xV 3) (xV 0)) (xACons (xC (.bl true)) (xANil)))))) (xSkip)))
    [some (.sh, .int c), some (.sh, .int r), some (.li .sh, .lst xs), some (.sh, .int y)] = .next [some (.sh, .int c), some (.sh, .int r), some (.li .sh, .lst (xs ++ (pairsAt c N k).map pcD)), some (.sh, .int y)] := by
  have a1 : -18446744073709551616 < c := by omega
  have a2 : c < 18446744073709551616 := by omega
  have a3 : 0 < c := by omega
  have a4 : c < 1073741824 := by omega
  have e1 : ((k + 1 : Nat) : Int) = y + 1 := by omega
  have e2 : ((k + c.toNat : Nat) : Int) = y + c := by omega
  have l1 : xs.length < 100000 := by omega
  have l2 : xs.length + 1 < 100000 := by omega
  unfold pairsAt
  rw [← hy]
  by_cases q1 : (y + 1) / c = y / c <;> by_cases q2 : y + c < N <;> simp [q1, q2, a1, a2, a3, a4, hr, l1, l2, pcD, e1, e2, ← hy]
theorem ev_pairs {c r : Int} (hc : 1 ≤ c) (hr : 1 ≤ r) (h : c * r ≤ 64) : F_pairs [.int c, .int r] = .ok ⟨.li .sh, false, .lst ((pairsT c (c * r).toNat).map pcD)⟩ := by
  have b := sizes_bnd hc hr h
  have a1 : -18446744073709551616 < c := by omega
  have a2 : c < 18446744073709551616 := by omega
  have a4 : c * r ≤ 100000 := by omega
  have a5 : -100000 ≤ c * r := by omega
  simp [F_pairs, a1, a2, a4, a5]
  refine rng_fun (fun i env => ∃ v, env = [some (.sh, .int c), some (.sh, .int r), some (.li .sh, .lst (((List.range i).flatMap (pairsAt c ((c * r).toNat : Nat))).map pcD)), v]) ⟨none, rfl⟩ ?_ ?_
  · rintro i env hi ⟨v, rfl⟩
    have hN : c * r = (((c * r).toNat : Nat) : Int) := by omega
    have hl : (((List.range i).flatMap (pairsAt c ((c * r).toNat : Nat))).map pcD).length ≤ 1000 := by
      rw [List.length_map]
      have := flat_len (f := pairsAt c ((c * r).toNat : Nat)) (m := 2) (fun k => pairsAt_len _ _ k) i
      omega
    have e := pairs_step c ((c * r).toNat : Nat) i i hc (by omega) rfl r hN _ hl v
    refine ⟨_, e, some (.sh, .int i), ?_⟩
    rw [List.range_succ, List.flatMap_append, List.map_append]
    simp
  · rintro e2 ⟨v, rfl⟩
    simp [pairsT]
/-! ### lines -/
def lineT (s : Spot) (v : Bool) : Int := if v = true then s.y + (if s.n = true then 0 else 1) else s.x + (if s.e = true then 0 else 1)
def jAt (S : Nat → Spot) (p : Nat × Nat × Bool) : D := .tup [.int (p.1 : Int), .int (p.2.1 : Int), .bl p.2.2, .int (lineT (S p.1) p.2.2)]
def seatD (s : Spot) (l : Int) : D := .tup [.int s.x, .int s.y, .int l, .bl s.e, .bl s.n]
/-! ### seats -/
def layT (P : PileT) (S : Nat → Spot) (k : Nat) : Nat := ((heapT P (S k).x (S k).y).map (·.1)).idxOf k
def stD (P : PileT) (S : Nat → Spot) (k : Nat) : D := seatD (S k) (layT P S k : Nat)
def dn (S : Nat → Spot) (x y : Int) (k : Nat) : Bool := decide ((S k).y < y) || (decide ((S k).y = y) && decide ((S k).x < x))
theorem set_range {N k : Nat} {g : Nat → D} {d : D} (hk : k < N) : ((List.range N).map g).set k d = (List.range N).map fun j => if j = k then d else g j := by
  refine List.ext_getElem (by simp) fun i h1 h2 => ?_
  have hi : i < N := by simpa using h2
  rw [List.getElem_set]
  by_cases q : k = i
  · subst q
    simp
  · rw [if_neg q]
    simp [show ¬ i = k from fun z => q z.symm]
theorem lay_at {P : PileT} {N : Nat} {S : Nat → Spot} {x y : Int} {ks : List Nat} (hk : IsHeap N S x y ks) (hh : heapT P x y = ks.map (cell S)) {m k : Nat} (hm : ks[m]? = some k) : layT P S k = m := by
  have hk2 := (hk.2 k).mp (List.mem_of_getElem? hm)
  unfold layT
  rw [hk2.2.1, hk2.2.2, hh, List.map_map]
  have e : ((fun c : Cell => c.1) ∘ cell S) = id := by funext j; rfl
  rw [e, List.map_id]
  have nd : ks.Nodup := hk.1.imp fun {a b} hab e => by subst e; omega
  obtain ⟨h1, h2⟩ := List.getElem?_eq_some_iff.mp hm
  rw [← h2, nd.idxOf_getElem]
/-! ### joints -/
structure Cr (P : PileT) (N : Nat) : Prop where
  hc : 1 ≤ P.cols
  hr : 1 ≤ P.rows
  hN : P.cols * P.rows = (N : Int)
def jointsT (P : PileT) (N : Nat) : List (Nat × Nat × Bool) := (pairsT P.cols N).filter fun p => decide ((p.1, p.2.1) ∉ P.cuts)
theorem pairs_lt {c : Int} {N : Nat} (hc : 1 ≤ c) {p : Nat × Nat × Bool} (h : p ∈ pairsT c N) : p.1 < N := by
  unfold pairsT at h
  rw [List.mem_flatMap] at h
  obtain ⟨k, hk, h⟩ := h
  have hk := List.mem_range.mp hk
  unfold pairsAt at h
  rw [List.mem_append] at h
  rcases h with h | h
  · split at h
    · rw [List.mem_singleton] at h
      subst h
      exact hk
    · simp at h
  · split at h
    · rw [List.mem_singleton] at h
      subst h
      exact hk
    · simp at h
theorem pairs_len {c : Int} {N : Nat} : (pairsT c N).length ≤ 2 * N := flat_len (fun k => pairsAt_len c N k) N
theorem in_cuts {b b2 : Bool} {a c : Nat} {cuts : List (Nat × Nat)} {y : Int} : pIn true ⟨.sh, b, .tup [.int (a : Int), .int (c : Int)]⟩ ⟨.sh, b2, .lst (cuts.map prD)⟩ = .ok (.sh (.bl (decide ((a, c) ∉ cuts)))) := by
  have e1 : (cuts.map prD).all (D.fine 5) = true := by
    rw [List.all_map, List.all_eq_true]
    intro x _
    simp [prD, D.fine]
  have e2 : ((cuts.map prD).any fun z => D.eqv 5 z (.tup [.int (a : Int), .int (c : Int)])) = decide ((a, c) ∈ cuts) := by
    rw [List.any_map]
    induction cuts with
    | nil => rfl
    | cons x cuts ih =>
      rw [List.any_cons, ih (by rw [List.map_cons, List.all_cons, Bool.and_eq_true] at e1; exact e1.2)]
      obtain ⟨x1, x2⟩ := x
      simp [prD]
      rw [Bool.eq_iff_iff]
      simp
      refine or_congr ?_ Iff.rfl
      omega
  unfold pIn
  simp only [flat_t, Bool.false_and, Bool.false_eq_true, if_false]
  rw [e1, e2]
  simp [D.fine]
end Fd
set_option Elab.async false
set_option linter.all false
set_option maxRecDepth 100000
set_option maxHeartbeats 4000000
/-! MK: knives, folds undone, refusals. -/
namespace Fd
open Bk PySem L2
def hitB (S : Nat → Spot) (v : Bool) (l : Int) (p : Nat × Nat × Bool) : Bool := (p.2.2 == v) && decide (lineT (S p.1) p.2.2 = l)
def cutT (P : PileT) (N : Nat) (S : Nat → Spot) (v : Bool) (l : Int) : PileT := { P with cuts := P.cuts ++ ((jointsT P N).filter (hitB S v l)).map fun p => (p.1, p.2.1) }
theorem joints_len {P : PileT} {N : Nat} : (jointsT P N).length ≤ 2 * N := by
  unfold jointsT
  have h1 := List.length_filter_le (fun p : Nat × Nat × Bool => decide ((p.1, p.2.1) ∉ P.cuts)) (pairsT P.cols N)
  have h2 := pairs_len (c := P.cols) (N := N)
  omega
/-! ### a row of folds -/
def prefP (c r : Int) (fs : List Fold) : PileT := fs.foldl foldT (laidT c r)
theorem prefP_snoc (c r : Int) (fs : List Fold) (f : Fold) : prefP c r (fs ++ [f]) = foldT (prefP c r fs) f := by
  unfold prefP
  rw [List.foldl_append]
  rfl
def Okf (P : PileT) (f : Fold) : Prop := 1 ≤ f.cr ∧ f.cr < ext f.side.lev P.wide P.high
def Hs (c r : Int) (fs : List Fold) : Prop := ∀ i f, fs[i]? = some f → Okf (prefP c r (fs.take i)) f
theorem Hs.nil {c r : Int} : Hs c r [] := fun i f h => by simp at h
theorem Hs.snoc {c r : Int} {fs : List Fold} {f : Fold} (h : Hs c r fs) (hf : Okf (prefP c r fs) f) : Hs c r (fs ++ [f]) := by
  intro i g hg
  by_cases q : i < fs.length
  · rw [List.getElem?_append_left q] at hg
    rw [List.take_append_of_le_length (by omega)]
    exact h i g hg
  · rw [List.getElem?_append_right (by omega)] at hg
    have hi : i = fs.length := by
      by_cases z : i = fs.length
      · exact z
      · rw [List.getElem?_eq_none (by simp; omega)] at hg
        cases hg
    subst hi
    rw [Nat.sub_self] at hg
    cases hg
    rw [List.take_left]
    exact hf
theorem Hs.take {c r : Int} {fs : List Fold} (h : Hs c r fs) (n : Nat) : Hs c r (fs.take n) := by
  intro i f hf
  rw [List.getElem?_take] at hf
  split at hf
  · rw [List.take_take, Nat.min_eq_left (by omega)]
    exact h i f hf
  · cases hf
theorem prefP_facts (c r : Int) (fs : List Fold) : (prefP c r fs).cols = c ∧ (prefP c r fs).rows = r ∧ (prefP c r fs).folds = fs ∧ (prefP c r fs).cuts = [] := by
  suffices ∀ (fs : List Fold) (P : PileT), (fs.foldl foldT P).cols = P.cols ∧ (fs.foldl foldT P).rows = P.rows ∧ (fs.foldl foldT P).folds = P.folds ++ fs ∧ (P.cuts = [] → (fs.foldl foldT P).cuts = []) by
    have h := this fs (laidT c r)
    exact ⟨h.1, h.2.1, h.2.2.1, h.2.2.2 rfl⟩
  intro fs
  induction fs with
  | nil => exact fun P => ⟨rfl, rfl, by simp, fun h => h⟩
  | cons f fs ih =>
    intro P
    have h := ih (foldT P f)
    rw [List.foldl_cons]
    refine ⟨h.1, h.2.1, ?_, fun _ => h.2.2.2 rfl⟩
    rw [h.2.2.1]
    show (P.folds ++ [f]) ++ fs = _
    rw [List.append_assoc]
    rfl
/-- the spots behind a row of folds -/
theorem Hs.mt {c r : Int} (hc : 1 ≤ c) (hr : 1 ≤ r) (h : c * r ≤ 64) : ∀ (n : Nat) {fs : List Fold}, fs.length = n → Hs c r fs → ∃ S, Mt (prefP c r fs) (c * r).toNat S
  | 0, fs, hn, _ => by
    rw [List.length_eq_zero_iff.mp hn]
    exact ⟨_, Mt.laid hc hr h⟩
  | n + 1, fs, hn, hs => by
    have hne : fs ≠ [] := fun z => by rw [z] at hn; simp at hn
    have e := List.dropLast_concat_getLast hne
    have ht : fs.dropLast = fs.take n := by rw [List.dropLast_eq_take, hn]; rfl
    obtain ⟨S, M⟩ := Hs.mt hc hr h n (fs := fs.take n) (by rw [List.length_take]; omega) (hs.take n)
    have hf : Okf (prefP c r (fs.take n)) (fs.getLast hne) := hs n _ (by
      rw [List.getLast_eq_getElem]
      rw [List.getElem?_eq_getElem (by omega)]
      simp [hn])
    obtain ⟨top, low, L⟩ := lay_ex (c * r).toNat S
    have M2 := M.fold L hf.1 hf.2
    rw [← prefP_snoc, ← ht, e] at M2
    exact ⟨_, M2⟩
theorem cut_m1 {α : Type} (xs : List α) : cut xs none (some (-1)) = xs.take (xs.length - 1) := by
  unfold cut
  have e1 : HT.sIx xs.length 0 none = 0 := rfl
  have e2 : HT.sIx xs.length xs.length (some (-1)) = xs.length - 1 := by
    show (if (-1 : Int) < 0 then ((-1 : Int) + (xs.length : Int)).toNat else min (-1 : Int).toNat xs.length) = _
    rw [if_pos (by omega)]
    omega
  rw [e1, e2, List.drop_zero, Nat.sub_zero]
end Fd
set_option Elab.async false
set_option linter.all false
set_option maxRecDepth 100000
set_option maxHeartbeats 4000000
/-! MQ: neighbours meet; the law's seats. -/
namespace Fd
open Bk PySem L2
def backT (s : Spot) (v : Bool) : Int := if v = true then s.y + (if s.n = true then 1 else 0) else s.x + (if s.e = true then 1 else 0)
def phi (far : Bool) (cr g l : Int) : Int := if far = true then g - (if cr ≤ l then l - cr else cr - l) else (if cr ≤ l then l - cr else cr - l)
/-- two neighbours meet -/
def MeetOk (a b : Spot) (v : Bool) : Prop := (if v = true then a.x = b.x ∧ a.e = b.e else a.y = b.y ∧ a.n = b.n) ∧ lineT a v = backT b v
theorem line_fold (f : Fold) (g t w : Int) (s : Spot) (v : Bool) : lineT (spotF f g t w s) v = if v = f.side.lev then phi f.side.far f.cr g (lineT s v) else lineT s v := by
  obtain ⟨sd, ov, cr⟩ := f
  obtain ⟨x, y, l, e, n⟩ := s
  cases sd <;> cases v <;> simp only [lineT, spotF, Side.lev, Side.far, phi, plOf, gapOf, mvs, al] <;> simp
  all_goals
    first
    | done
    | (by_cases h : cr ≤ x <;> cases e <;> simp [h] <;> (try split) <;> omega)
    | (by_cases h : cr ≤ y <;> cases n <;> simp [h] <;> (try split) <;> omega)
theorem back_fold (f : Fold) (g t w : Int) (s : Spot) (v : Bool) : backT (spotF f g t w s) v = if v = f.side.lev then phi f.side.far f.cr g (backT s v) else backT s v := by
  obtain ⟨sd, ov, cr⟩ := f
  obtain ⟨x, y, l, e, n⟩ := s
  cases sd <;> cases v <;> simp only [backT, spotF, Side.lev, Side.far, phi, plOf, gapOf, mvs, al] <;> simp
  all_goals
    first
    | done
    | (by_cases h : cr ≤ x <;> cases e <;> simp [h] <;> (try split) <;> omega)
    | (by_cases h : cr ≤ y <;> cases n <;> simp [h] <;> (try split) <;> omega)
theorem meet_fold {a b : Spot} {v : Bool} (f : Fold) (g t w : Int) (h : MeetOk a b v) : MeetOk (spotF f g t w a) (spotF f g t w b) v := by
  refine ⟨?_, by rw [line_fold, back_fold, h.2]⟩
  have h1 := h.1
  obtain ⟨sd, ov, cr⟩ := f
  cases sd <;> cases v <;> simp [spotF, Side.lev, al] at h1 ⊢ <;> simp [h1.1, h1.2]
def Joined (c : Int) (N : Nat) (S : Nat → Spot) : Prop := ∀ p ∈ pairsT c N, MeetOk (S p.1) (S p.2.1) p.2.2
theorem Joined.fold {c : Int} {N : Nat} {S : Nat → Spot} (h : Joined c N S) (f : Fold) (g t w : Int) : Joined c N (fun k => spotF f g t w (S k)) := fun p hp => meet_fold f g t w (h p hp)
theorem pair_cases {c : Int} {N : Nat} {p : Nat × Nat × Bool} (h : p ∈ pairsT c N) : p.1 < N ∧ ((p.2.1 = p.1 + 1 ∧ p.2.2 = false ∧ ((p.1 : Int) + 1) / c = (p.1 : Int) / c) ∨ (p.2.1 = p.1 + c.toNat ∧ p.2.2 = true ∧ (p.1 : Int) + c < N)) := by
  unfold pairsT at h
  rw [List.mem_flatMap] at h
  obtain ⟨k, hk, h⟩ := h
  have hk := List.mem_range.mp hk
  unfold pairsAt at h
  rw [List.mem_append] at h
  rcases h with h | h
  · split at h
    · rename_i q
      rw [List.mem_singleton] at h
      subst h
      exact ⟨hk, .inl ⟨rfl, rfl, q⟩⟩
    · simp at h
  · split at h
    · rename_i q
      rw [List.mem_singleton] at h
      subst h
      exact ⟨hk, .inr ⟨rfl, rfl, q⟩⟩
    · simp at h
theorem row_mod {c y : Int} (hc : 1 ≤ c) (h : (y + 1) / c = y / c) : (y + 1) % c = y % c + 1 := by
  have d := Int.mul_ediv_add_emod y c
  have d2 := Int.mul_ediv_add_emod (y + 1) c
  rw [h] at d2
  omega
theorem pairs_lt2 {c r : Int} {N : Nat} (hc : 1 ≤ c) (hN : c * r = (N : Int)) {p : Nat × Nat × Bool} (h : p ∈ pairsT c N) : p.2.1 < N := by
  obtain ⟨hk, h⟩ := pair_cases h
  rcases h with ⟨h1, _, h2⟩ | ⟨h1, _, h2⟩
  · rw [h1]
    have m := row_mod hc h2
    have d := Int.mul_ediv_add_emod (p.1 : Int) c
    have d2 := Int.mul_ediv_add_emod ((p.1 : Int) + 1) c
    have m1 := Int.emod_lt_of_pos ((p.1 : Int) + 1) (show 0 < c by omega)
    have q : (p.1 : Int) / c < r := Int.ediv_lt_of_lt_mul (by omega) (by rw [Int.mul_comm, hN]; omega)
    have : c * ((p.1 : Int) / c + 1) ≤ c * r := Int.mul_le_mul_of_nonneg_left (by omega) (by omega)
    rw [Int.mul_add] at this
    rw [h2] at d2
    omega
  · rw [h1]
    omega
theorem Joined.flat {c : Int} {N : Nat} (hc : 1 ≤ c) : Joined c N (flatI c) := by
  intro p hp
  obtain ⟨hk, h⟩ := pair_cases hp
  obtain ⟨a, b, v⟩ := p
  dsimp only at hk h ⊢
  rcases h with ⟨h1, h2, h3⟩ | ⟨h1, h2, h3⟩
  · subst h1 h2
    have m := row_mod hc h3
    simp [MeetOk, flatI, lineT, backT, h3, m]
  · subst h1 h2
    have e : ((a + c.toNat : Nat) : Int) = (a : Int) + c := by omega
    have e1 : ((a : Int) + c) % c = (a : Int) % c := by rw [Int.add_emod_right]
    have e2 : ((a : Int) + c) / c = (a : Int) / c + 1 := by
      rw [Int.add_ediv_of_dvd_right ⟨1, by omega⟩, Int.ediv_self (by omega)]
    unfold MeetOk flatI lineT backT
    rw [e, e1, e2]
    simp
/-- the spots behind a row of folds, with what each fold keeps -/
theorem Hs.ind {c r : Int} (hc : 1 ≤ c) (hr : 1 ≤ r) (h : c * r ≤ 64) (Φ : (Nat → Spot) → Prop) (h0 : Φ (flatI c)) (hf : ∀ (P : PileT) S f top low, Mt P (c * r).toNat S → Lay (c * r).toNat S top low → Okf P f → Φ S → Φ (fun k => spotF f (grownF f P.wide P.high) top low (S k))) : ∀ (n : Nat) {fs : List Fold}, fs.length = n → Hs c r fs → ∃ S, Mt (prefP c r fs) (c * r).toNat S ∧ Φ S
  | 0, fs, hn, _ => by
    rw [List.length_eq_zero_iff.mp hn]
    exact ⟨_, Mt.laid hc hr h, h0⟩
  | n + 1, fs, hn, hs => by
    have hne : fs ≠ [] := fun z => by rw [z] at hn; simp at hn
    have e := List.dropLast_concat_getLast hne
    have ht : fs.dropLast = fs.take n := by rw [List.dropLast_eq_take, hn]; rfl
    obtain ⟨S, M, hΦ⟩ := Hs.ind hc hr h Φ h0 hf n (fs := fs.take n) (by rw [List.length_take]; omega) (hs.take n)
    have hok : Okf (prefP c r (fs.take n)) (fs.getLast hne) := hs n _ (by
      rw [List.getLast_eq_getElem]
      rw [List.getElem?_eq_getElem (by omega)]
      simp [hn])
    obtain ⟨top, low, L⟩ := lay_ex (c * r).toNat S
    rw [← ht] at M hok
    have M2 := M.fold L hok.1 hok.2
    rw [← prefP_snoc, e] at M2
    exact ⟨_, M2, hf _ _ _ _ _ M L hok hΦ⟩
theorem near_step (c N y : Int) (k : Nat) (hc : 1 ≤ c) (hc2 : c ≤ 64) (hy : y = (k : Int)) (r : Int) (hr : c * r = N) (xs : List D) (hl : xs.length ≤ 1000) :
    (xSeq (xIfS (xT (xOp2 pLt (xOp2 pMod (xV 3) (xV 0)) (xOp2 pSub (xV 0) (xC (.int 1))))) (xApp 2 (xTup (xACons (xV 3) (xACons (xOp2 pAdd (xV 3) (xC (.int 1))) (xACons (xC (.bl false)) (xANil)))))) (xSkip)) (
  xIfS (xT (xOp2 pLt (xOp2 pDiv (xV 3) (xV 0)) (xOp2 pSub (xV 1) (xC (.int 1))))) (xApp 2 (xTup (xACons (xV 3) (xACons (xOp2 pAdd (xV 3) (xV 0)) (xACons (xC (.bl true)) (xANil)))))) (xSkip)))
    [some (.sh, .int c), some (.sh, .int r), some (.li .sh, .lst xs), some (.sh, .int y)] = .next [some (.sh, .int c), some (.sh, .int r), some (.li .sh, .lst (xs ++ (pairsAt c N k).map pcD)), some (.sh, .int y)] := by
  have a3 : 0 < c := by omega
  have a4 : c < 1073741824 := by omega
  have e1 : ((k + 1 : Nat) : Int) = y + 1 := by omega
  have e2 : ((k + c.toNat : Nat) : Int) = y + c := by omega
  have l1 : xs.length < 100000 := by omega
  have l2 : xs.length + 1 < 100000 := by omega
  have i1 : (y + 1) / c = y / c ↔ y % c < c - 1 := by
    have d := Int.mul_ediv_add_emod y c
    have m0 := Int.emod_nonneg y (show c ≠ 0 by omega)
    have m1 := Int.emod_lt_of_pos y a3
    constructor
    · intro h
      have m := row_mod hc h
      have m2 := Int.emod_lt_of_pos (y + 1) a3
      omega
    · intro h
      have : y + 1 = c * (y / c) + (y % c + 1) := by omega
      rw [this, Int.add_comm, Int.add_mul_ediv_left _ _ (by omega), Int.ediv_eq_zero_of_lt (by omega) (by omega)]
      omega
  have i2 : y + c < c * r ↔ y / c < r - 1 := by
    have d := Int.mul_ediv_add_emod y c
    have m0 := Int.emod_nonneg y (show c ≠ 0 by omega)
    have m1 := Int.emod_lt_of_pos y a3
    constructor
    · intro h
      have : c * (y / c + 1) < c * r := by rw [Int.mul_add]; omega
      have := Int.lt_of_mul_lt_mul_left this (by omega)
      omega
    · intro h
      have : c * (y / c + 1 + 1) ≤ c * r := Int.mul_le_mul_of_nonneg_left (by omega) (by omega)
      rw [Int.mul_add, Int.mul_add] at this
      omega
  unfold pairsAt
  rw [← hy, ← hr]
  simp only [i1, i2]
  clear i1 i2
  by_cases q1 : y % c < c - 1 <;> by_cases q2 : y / c < r - 1 <;> simp [q1, q2, a3, a4, l1, l2, pcD, e1, e2, ← hy]
theorem ev_near {c r : Int} (hc : 1 ≤ c) (hr : 1 ≤ r) (h : c * r ≤ 64) : F_law_near [.int c, .int r] = .ok ⟨.li .sh, false, .lst ((pairsT c (c * r).toNat).map pcD)⟩ := by
  have b := sizes_bnd hc hr h
  have a1 : -18446744073709551616 < c := by omega
  have a2 : c < 18446744073709551616 := by omega
  have a4 : c * r ≤ 100000 := by omega
  have a5 : -100000 ≤ c * r := by omega
  simp [F_law_near, a1, a2, a4, a5]
  refine rng_fun (fun i env => ∃ v, env = [some (.sh, .int c), some (.sh, .int r), some (.li .sh, .lst (((List.range i).flatMap (pairsAt c ((c * r).toNat : Nat))).map pcD)), v]) ⟨none, rfl⟩ ?_ ?_
  · rintro i env hi ⟨v, rfl⟩
    have hN : c * r = (((c * r).toNat : Nat) : Int) := by omega
    have hl : (((List.range i).flatMap (pairsAt c ((c * r).toNat : Nat))).map pcD).length ≤ 1000 := by
      rw [List.length_map]
      have := flat_len (f := pairsAt c ((c * r).toNat : Nat)) (m := 2) (fun k => pairsAt_len _ _ k) i
      omega
    have e := near_step c ((c * r).toNat : Nat) i i hc (by omega) rfl r hN _ hl
    refine ⟨_, e, some (.sh, .int i), ?_⟩
    rw [List.range_succ, List.flatMap_append, List.map_append]
    simp
  · rintro e2 ⟨v, rfl⟩
    simp [pairsT]
end Fd
set_option Elab.async false
set_option linter.all false
set_option maxRecDepth 100000
set_option maxHeartbeats 8000000
/-! MX: no two joints on one line cross. -/
namespace Fd
/-- the ends round a line: the low side upward, the high side downward -/
def bef (h1 : Bool) (l1 : Int) (h2 : Bool) (l2 : Int) : Prop := (h1 = false ∧ h2 = true) ∨ (h1 = false ∧ h2 = false ∧ l1 < l2) ∨ (h1 = true ∧ h2 = true ∧ l2 < l1)
def btw (ha : Bool) (la : Int) (hb : Bool) (lb : Int) (hx : Bool) (lx : Int) : Prop := (bef ha la hx lx ∧ bef hx lx hb lb) ∨ (bef hb lb hx lx ∧ bef hx lx ha la)
def NC (ha : Bool) (la : Int) (hb : Bool) (lb : Int) (hc : Bool) (lc : Int) (hd : Bool) (ld : Int) : Prop := btw ha la hb lb hc lc ↔ btw ha la hb lb hd ld
structure Dst (ha : Bool) (la : Int) (hb : Bool) (lb : Int) (hc : Bool) (lc : Int) (hd : Bool) (ld : Int) : Prop where
  ab : ha = hb → la ≠ lb
  ac : ha = hc → la ≠ lc
  ad : ha = hd → la ≠ ld
  bc : hb = hc → lb ≠ lc
  bd : hb = hd → lb ≠ ld
  cd : hc = hd → lc ≠ ld
section
variable {ha hb hc hd : Bool} {la lb lc ld : Int}
/-- moved as a whole: the sides change, the layers turn -/
theorem nc_turn (C : Int) (D : Dst ha la hb lb hc lc hd ld) (h : NC ha la hb lb hc lc hd ld) : NC (!ha) (C - la) (!hb) (C - lb) (!hc) (C - lc) (!hd) (C - ld) := by
  obtain ⟨d1, d2, d3, d4, d5, d6⟩ := D
  unfold NC btw bef at h ⊢
  cases ha <;> cases hb <;> cases hc <;> cases hd <;> simp at d1 d2 d3 d4 d5 d6 h ⊢ <;> omega
/-- the layers turn, the sides stay -/
theorem nc_flip (C : Int) (D : Dst ha la hb lb hc lc hd ld) (h : NC ha la hb lb hc lc hd ld) : NC ha (C - la) hb (C - lb) hc (C - lc) hd (C - ld) := by
  obtain ⟨d1, d2, d3, d4, d5, d6⟩ := D
  unfold NC btw bef at h ⊢
  cases ha <;> cases hb <;> cases hc <;> cases hd <;> simp at d1 d2 d3 d4 d5 d6 h ⊢ <;> omega
/-- one joint lies above the other -/
theorem nc_apart (m : Int) (h1 : m < la ∧ m < lb) (h2 : lc ≤ m ∧ ld ≤ m) (hh : hc = hd → lc ≠ ld) (hh2 : ha = hb → la ≠ lb) : NC ha la hb lb hc lc hd ld := by
  unfold NC btw bef
  cases ha <;> cases hb <;> cases hc <;> cases hd <;> simp at hh hh2 ⊢ <;> omega
theorem nc_apart2 (m : Int) (h1 : m < lc ∧ m < ld) (h2 : la ≤ m ∧ lb ≤ m) (hh : hc = hd → lc ≠ ld) (hh2 : ha = hb → la ≠ lb) : NC ha la hb lb hc lc hd ld := by
  unfold NC btw bef
  cases ha <;> cases hb <;> cases hc <;> cases hd <;> simp at hh hh2 ⊢ <;> omega
/-- at the crease: the ends of the side m turn over (up) or under (down), all ends then lie on the side s -/
theorem nc_shut_up (s m : Bool) (C t : Int) (hC : ∀ l : Int, l ≤ t → t < C - l) (ba : la ≤ t) (bb : lb ≤ t) (bc : lc ≤ t) (bd : ld ≤ t) (D : Dst ha la hb lb hc lc hd ld) (h : NC ha la hb lb hc lc hd ld) :
    NC s (if ha = m then C - la else la) s (if hb = m then C - lb else lb) s (if hc = m then C - lc else lc) s (if hd = m then C - ld else ld) := by
  obtain ⟨d1, d2, d3, d4, d5, d6⟩ := D
  have c1 := hC la ba
  have c2 := hC lb bb
  have c3 := hC lc bc
  have c4 := hC ld bd
  unfold NC btw bef at h ⊢
  cases s <;> cases m <;> cases ha <;> cases hb <;> cases hc <;> cases hd <;> simp at d1 d2 d3 d4 d5 d6 h ⊢ <;> omega
theorem nc_shut_down (s m : Bool) (C t : Int) (hC : ∀ l : Int, t ≤ l → C - l < t) (ba : t ≤ la) (bb : t ≤ lb) (bc : t ≤ lc) (bd : t ≤ ld) (D : Dst ha la hb lb hc lc hd ld) (h : NC ha la hb lb hc lc hd ld) :
    NC s (if ha = m then C - la else la) s (if hb = m then C - lb else lb) s (if hc = m then C - lc else lc) s (if hd = m then C - ld else ld) := by
  obtain ⟨d1, d2, d3, d4, d5, d6⟩ := D
  have c1 := hC la ba
  have c2 := hC lb bb
  have c3 := hC lc bc
  have c4 := hC ld bd
  unfold NC btw bef at h ⊢
  cases s <;> cases m <;> cases ha <;> cases hb <;> cases hc <;> cases hd <;> simp at d1 d2 d3 d4 d5 d6 h ⊢ <;> omega
end
def hi (v : Bool) (l : Int) (s : Spot) : Bool := decide (al v s = l)
def NCp (S : Nat → Spot) (p q : Nat × Nat × Bool) : Prop := NC (hi p.2.2 (lineT (S p.1) p.2.2) (S p.1)) (S p.1).l (hi p.2.2 (lineT (S p.1) p.2.2) (S p.2.1)) (S p.2.1).l (hi p.2.2 (lineT (S p.1) p.2.2) (S q.1)) (S q.1).l (hi p.2.2 (lineT (S p.1) p.2.2) (S q.2.1)) (S q.2.1).l
def NCs (c : Int) (N : Nat) (S : Nat → Spot) : Prop := ∀ p q, p ∈ pairsT c N → q ∈ pairsT c N → p ≠ q → p.2.2 = q.2.2 → lineT (S p.1) p.2.2 = lineT (S q.1) q.2.2 → ac p.2.2 (S p.1) = ac q.2.2 (S q.1) → NCp S p q
theorem line_side (s : Spot) (v : Bool) : al v s = lineT s v ∨ al v s = lineT s v - 1 := by
  unfold al lineT
  cases v <;> simp <;> split <;> omega
theorem back_side (s : Spot) (v : Bool) : al v s = backT s v ∨ al v s = backT s v - 1 := by
  unfold al backT
  cases v <;> simp <;> split <;> omega
theorem line_back (s : Spot) (v : Bool) : lineT s v ≠ backT s v := by
  unfold lineT backT
  cases v <;> simp <;> split <;> omega
theorem MeetOk.ac {a b : Spot} {v : Bool} (h : MeetOk a b v) : ac v a = ac v b := by
  have := h.1
  unfold Fd.ac
  cases v <;> simp at this ⊢
  · exact this.1
  · exact this.1
section
variable {c : Int} {N : Nat} {S : Nat → Spot} {wide high : Int}
theorem pair_ext {p q : Nat × Nat × Bool} (hp : p ∈ pairsT c N) (hq : q ∈ pairsT c N) (hv : p.2.2 = q.2.2) (h : p.1 = q.1 ∨ p.2.1 = q.2.1) : p = q := by
  obtain ⟨_, hp⟩ := pair_cases hp
  obtain ⟨_, hq⟩ := pair_cases hq
  obtain ⟨a, b, v⟩ := p
  obtain ⟨a', b', v'⟩ := q
  dsimp only at hp hq hv h
  subst hv
  rcases hp with ⟨p1, p2, p3⟩ | ⟨p1, p2, p3⟩ <;> rcases hq with ⟨q1, q2, q3⟩ | ⟨q1, q2, q3⟩
  · have : a = a' := by omega
    subst this
    rw [p1, q1]
  · rw [p2] at q2
    cases q2
  · rw [p2] at q2
    cases q2
  · have : a = a' := by omega
    subst this
    rw [p1, q1]
theorem pair_ne {p : Nat × Nat × Bool} (hc : 1 ≤ c) (hp : p ∈ pairsT c N) : p.1 ≠ p.2.1 := by
  obtain ⟨_, h⟩ := pair_cases hp
  rcases h with ⟨h, _⟩ | ⟨h, _⟩ <;> omega
/-- the four ends at a line are four places -/
theorem dst_of (hc : 1 ≤ c) {r : Int} (hN : c * r = (N : Int)) (G : Good N S wide high) (J : Joined c N S) {p q : Nat × Nat × Bool} (hp : p ∈ pairsT c N) (hq : q ∈ pairsT c N) (hne : p ≠ q) (hv : p.2.2 = q.2.2) (hl : lineT (S p.1) p.2.2 = lineT (S q.1) q.2.2) (ha : ac p.2.2 (S p.1) = ac q.2.2 (S q.1)) :
    Dst (hi p.2.2 (lineT (S p.1) p.2.2) (S p.1)) (S p.1).l (hi p.2.2 (lineT (S p.1) p.2.2) (S p.2.1)) (S p.2.1).l (hi p.2.2 (lineT (S p.1) p.2.2) (S q.1)) (S q.1).l (hi p.2.2 (lineT (S p.1) p.2.2) (S q.2.1)) (S q.2.1).l := by
  have Jp := J p hp
  have Jq := J q hq
  have p1 := (pair_cases hp).1
  have q1 := (pair_cases hq).1
  have p2 := pairs_lt2 hc hN hp
  have q2 := pairs_lt2 hc hN hq
  have s1 := line_side (S p.1) p.2.2
  have s2 := back_side (S p.2.1) p.2.2
  have s3 := line_side (S q.1) q.2.2
  have s4 := back_side (S q.2.1) q.2.2
  have c1 := Jp.ac
  have c2 := Jq.ac
  have l1 := Jp.2
  have l2 := Jq.2
  have ne1 := pair_ne hc hp
  have ne2 := pair_ne hc hq
  have ne3 : p.1 ≠ q.1 := fun z => hne (pair_ext hp hq hv (.inl z))
  have ne4 : p.2.1 ≠ q.2.1 := fun z => hne (pair_ext hp hq hv (.inr z))
  have ne5 : p.1 ≠ q.2.1 := fun z => by
    have := line_back (S p.1) p.2.2
    rw [hl, l2, ← z, hv] at this
    exact this rfl
  have ne6 : p.2.1 ≠ q.1 := fun z => by
    have := line_back (S q.1) q.2.2
    rw [← hl, l1, ← z, hv] at this
    exact this rfl
  have key : ∀ i j, i < N → j < N → i ≠ j → ac p.2.2 (S i) = ac p.2.2 (S j) → (al p.2.2 (S i) = lineT (S p.1) p.2.2 ∨ al p.2.2 (S i) = lineT (S p.1) p.2.2 - 1) → (al p.2.2 (S j) = lineT (S p.1) p.2.2 ∨ al p.2.2 (S j) = lineT (S p.1) p.2.2 - 1) → hi p.2.2 (lineT (S p.1) p.2.2) (S i) = hi p.2.2 (lineT (S p.1) p.2.2) (S j) → (S i).l ≠ (S j).l := by
    intro i j hi_ hj hij hac h1 h2 hh hll
    refine hij (G.inj i j hi_ hj ?_ ?_ hll)
    all_goals
      unfold hi al Fd.ac at *
      cases hvv : p.2.2 <;> rw [hvv] at hh hac h1 h2 <;> simp at hh hac h1 h2 <;> omega
  rw [← hv] at s3 s4 c2 l2 hl ha
  exact ⟨key _ _ p1 p2 ne1 c1 s1 (by omega), key _ _ p1 q1 ne3 ha s1 (by omega), key _ _ p1 q2 ne5 (by omega) s1 (by omega), key _ _ p2 q1 ne6 (by omega) (by omega) (by omega), key _ _ p2 q2 ne4 (by omega) (by omega) (by omega), key _ _ q1 q2 ne2 c2 (by omega) (by omega)⟩
end
theorem NCs.flat {c r : Int} (hc : 1 ≤ c) (hr : 1 ≤ r) : NCs c (c * r).toNat (flatI c) := by
  intro p q hp hq hne hv hl ha
  refine absurd (pair_ext hp hq hv (.inl ?_)) hne
  have G := flatI_good hc hr
  refine G.inj _ _ (pair_cases hp).1 (pair_cases hq).1 ?_ ?_ rfl
  all_goals
    rw [hv] at hl ha
    unfold lineT at hl
    unfold ac at ha
    cases hvv : q.2.2 <;> rw [hvv] at hl ha <;> simp at hl ha <;> unfold flatI at hl ha ⊢ <;> simp at hl ha ⊢ <;> omega
def Cof (f : Fold) (top low : Int) : Int := if f.over = true then 2 * top + 1 else 2 * low - 1
theorem lay_new (f : Fold) (g top low : Int) (s : Spot) : (spotF f g top low s).l = if mvs f.side.far f.cr (al f.side.lev s) = true then Cof f top low - s.l else s.l := by
  unfold spotF Cof
  dsimp only
  cases mvs f.side.far f.cr (al f.side.lev s) <;> cases f.over <;> simp
theorem al_not (v : Bool) (s : Spot) : al (!v) s = ac v s := by
  unfold al ac
  cases v <;> rfl
theorem ac_not (v : Bool) (s : Spot) : ac (!v) s = al v s := by
  unfold al ac
  cases v <;> rfl
section
variable {c : Int} {N : Nat} {S : Nat → Spot} {wide high top low : Int}
/-- one of two joints has moved, the other not -/
theorem nc_parted (f : Fold) {ha hb hc hd : Bool} {la lb lc ld : Int} (Ba : low ≤ la ∧ la ≤ top) (Bb : low ≤ lb ∧ lb ≤ top) (Bc : low ≤ lc ∧ lc ≤ top) (Bd : low ≤ ld ∧ ld ≤ top) (mp mq : Bool) (hm : mp ≠ mq)
    (D : Dst ha (if mp = true then Cof f top low - la else la) hb (if mp = true then Cof f top low - lb else lb) hc (if mq = true then Cof f top low - lc else lc) hd (if mq = true then Cof f top low - ld else ld)) :
    NC ha (if mp = true then Cof f top low - la else la) hb (if mp = true then Cof f top low - lb else lb) hc (if mq = true then Cof f top low - lc else lc) hd (if mq = true then Cof f top low - ld else ld) := by
  have d1 := D.ab
  have d2 := D.cd
  clear D
  unfold Cof at d1 d2 ⊢
  cases ho : f.over <;> rw [ho] at d1 d2 <;> cases mp <;> cases mq <;> simp only [Bool.false_eq_true, if_false, if_true, ne_eq, not_true_eq_false] at hm d1 d2 ⊢
  · exact nc_apart (low - 1) ⟨by omega, by omega⟩ ⟨by omega, by omega⟩ d2 d1
  · exact nc_apart2 (low - 1) ⟨by omega, by omega⟩ ⟨by omega, by omega⟩ d2 d1
  · exact nc_apart2 top ⟨by omega, by omega⟩ ⟨by omega, by omega⟩ d2 d1
  · exact nc_apart top ⟨by omega, by omega⟩ ⟨by omega, by omega⟩ d2 d1
theorem hi_lt {far : Bool} {cr g X l : Int} (hX : X = l ∨ X = l - 1) (h : l < cr) : decide (plOf far cr g X = phi far cr g l) = (if far = true then decide (X = l) else !decide (X = l)) ∧ mvs far cr X = !far := by
  have n1 : ¬ cr ≤ l := by omega
  have n2 : ¬ cr ≤ X := by omega
  unfold plOf phi gapOf mvs
  rw [if_neg n1, if_neg n2]
  refine ⟨?_, by cases far <;> simp <;> omega⟩
  cases far <;> rw [Bool.eq_iff_iff] <;> simp <;> omega
theorem hi_gt {far : Bool} {cr g X l : Int} (hX : X = l ∨ X = l - 1) (h : cr < l) : decide (plOf far cr g X = phi far cr g l) = (if far = true then !decide (X = l) else decide (X = l)) ∧ mvs far cr X = far := by
  have n1 : cr ≤ l := by omega
  have n2 : cr ≤ X := by omega
  unfold plOf phi gapOf mvs
  rw [if_pos n1, if_pos n2]
  refine ⟨?_, by cases far <;> simp <;> omega⟩
  cases far <;> rw [Bool.eq_iff_iff] <;> simp <;> omega
theorem hi_at {far : Bool} {cr g X l : Int} (hX : X = l ∨ X = l - 1) (h : l = cr) : decide (plOf far cr g X = phi far cr g l) = (!far) ∧ mvs far cr X = (decide (X = l) == far) := by
  subst h
  unfold plOf phi gapOf mvs
  rw [if_pos (Int.le_refl l)]
  rcases hX with rfl | rfl
  · rw [if_pos (Int.le_refl _)]
    refine ⟨?_, by cases far <;> simp⟩
    cases far
    · simp
    · have h : ¬ g - 1 - (X - X) = g - (X - X) := by omega
      rw [if_pos rfl, if_pos rfl, decide_eq_false h]
      rfl
  · have n1 : ¬ l ≤ l - 1 := by omega
    rw [if_neg n1]
    refine ⟨?_, by
      have : ¬ l ≤ l - 1 := by omega
      have h3 : ¬ l - 1 = l := by omega
      cases far <;> simp [this, h3]⟩
    cases far
    · have h : l - 1 - (l - 1) = l - l := by omega
      rw [if_neg Bool.false_ne_true, if_neg Bool.false_ne_true, decide_eq_true h]
      rfl
    · have h : ¬ g - 1 - (l - 1 - (l - 1)) = g - (l - l) := by omega
      rw [if_pos rfl, if_pos rfl, decide_eq_false h]
      rfl
/-- a fold makes no two joints cross -/
theorem NCs.fold (hc : 1 ≤ c) {r : Int} (hN : c * r = (N : Int)) (G : Good N S wide high) (L : Lay N S top low) {f : Fold} (h1 : 1 ≤ f.cr) (h2 : f.cr < ext f.side.lev wide high) (J : Joined c N S) (h : NCs c N S) : NCs c N (fun k => spotF f (grownF f wide high) top low (S k)) := by
  intro p q hp hq hne hv hl ha
  have G' := fold_good G L h1 h2
  have J' := J.fold f (grownF f wide high) top low
  have D' := dst_of hc hN G' J' hp hq hne hv hl ha
  have Jp := J p hp
  have Jq := J q hq
  have Ba := L _ (pair_cases hp).1
  have Bb := L _ (pairs_lt2 hc hN hp)
  have Bc := L _ (pair_cases hq).1
  have Bd := L _ (pairs_lt2 hc hN hq)
  have s1 := line_side (S p.1) p.2.2
  have s2 := back_side (S p.2.1) p.2.2
  have s3 := line_side (S q.1) q.2.2
  have s4 := back_side (S q.2.1) q.2.2
  rw [← Jp.2] at s2
  rw [← Jq.2] at s4
  have c1 := Jp.ac
  have c2 := Jq.ac
  unfold NCp
  dsimp only at hl ha D' ⊢
  generalize grownF f wide high = g at *
  simp only [lay_new] at D' ⊢
  rw [line_fold] at hl D' ⊢
  rw [line_fold (s := S q.1)] at hl
  unfold hi at D' ⊢
  rw [← hv] at hl ha s3 s4 c2
  by_cases q0 : p.2.2 = f.side.lev
  · -- along the fold
    rw [if_pos q0] at hl D' ⊢
    rw [if_pos q0] at hl
    rw [q0] at hl ha s1 s2 s3 s4 c1 c2 D' ⊢
    simp only [spotF_al, spotF_ac] at ha D' ⊢
    by_cases hll : lineT (S p.1) f.side.lev = lineT (S q.1) f.side.lev
    · have D := dst_of hc hN G J hp hq hne hv (by rw [← hv, q0]; exact hll) (by rw [← hv, q0]; exact ha)
      have H := h p q hp hq hne hv (by rw [← hv, q0]; exact hll) (by rw [← hv, q0]; exact ha)
      unfold NCp at H
      unfold hi at D H
      rw [q0] at D H
      rw [← hll] at s3 s4
      generalize lineT (S p.1) f.side.lev = l at *
      rcases Int.lt_trichotomy l f.cr with hlt | heq | hgt
      · rw [(hi_lt s1 hlt).1, (hi_lt s2 hlt).1, (hi_lt s3 hlt).1, (hi_lt s4 hlt).1, (hi_lt (g := g) s1 hlt).2, (hi_lt (g := g) s2 hlt).2, (hi_lt (g := g) s3 hlt).2, (hi_lt (g := g) s4 hlt).2]
        cases hfar : f.side.far
        · simpa using nc_turn (Cof f top low) D H
        · simpa using H
      · rw [(hi_at s1 heq).1, (hi_at s2 heq).1, (hi_at s3 heq).1, (hi_at s4 heq).1, (hi_at (g := g) s1 heq).2, (hi_at (g := g) s2 heq).2, (hi_at (g := g) s3 heq).2, (hi_at (g := g) s4 heq).2]
        simp only [beq_iff_eq]
        cases ho : f.over
        · exact nc_shut_down (!f.side.far) f.side.far (Cof f top low) low (fun l hl => by unfold Cof; rw [ho]; simp; omega) Ba.1 Bb.1 Bc.1 Bd.1 D H
        · exact nc_shut_up (!f.side.far) f.side.far (Cof f top low) top (fun l hl => by unfold Cof; rw [ho]; simp; omega) Ba.2 Bb.2 Bc.2 Bd.2 D H
      · rw [(hi_gt s1 hgt).1, (hi_gt s2 hgt).1, (hi_gt s3 hgt).1, (hi_gt s4 hgt).1, (hi_gt (g := g) s1 hgt).2, (hi_gt (g := g) s2 hgt).2, (hi_gt (g := g) s3 hgt).2, (hi_gt (g := g) s4 hgt).2]
        cases hfar : f.side.far
        · simpa using H
        · simpa using nc_turn (Cof f top low) D H
    · -- two lines that come together
      have both : (lineT (S p.1) f.side.lev < f.cr ∧ f.cr < lineT (S q.1) f.side.lev) ∨ (lineT (S q.1) f.side.lev < f.cr ∧ f.cr < lineT (S p.1) f.side.lev) := by
        unfold phi at hl
        cases hfar : f.side.far <;> rw [hfar] at hl <;> simp at hl <;> (repeat' split at hl) <;> omega
      rcases both with ⟨b1, b2⟩ | ⟨b1, b2⟩
      · rw [(hi_lt (g := g) s1 b1).2, (hi_lt (g := g) s2 b1).2, (hi_gt (g := g) s3 b2).2, (hi_gt (g := g) s4 b2).2] at D' ⊢
        exact nc_parted f Ba Bb Bc Bd _ _ (by cases f.side.far <;> simp) D'
      · rw [(hi_gt (g := g) s1 b2).2, (hi_gt (g := g) s2 b2).2, (hi_lt (g := g) s3 b1).2, (hi_lt (g := g) s4 b1).2] at D' ⊢
        exact nc_parted f Ba Bb Bc Bd _ _ (by cases f.side.far <;> simp) D'
  · -- across the fold
    have q1 : p.2.2 = !f.side.lev := by cases z : p.2.2 <;> cases z2 : f.side.lev <;> rw [z, z2] at q0 <;> simp at q0 ⊢
    rw [if_neg q0] at hl D' ⊢
    rw [if_neg q0] at hl
    rw [q1] at hl ha c1 c2 D' ⊢
    simp only [al_not, ac_not, spotF_ac, spotF_al] at ha c1 c2 D' ⊢
    rw [← c1, ← c2] at D' ⊢
    by_cases haa : al f.side.lev (S p.1) = al f.side.lev (S q.1)
    · have D := dst_of hc hN G J hp hq hne hv (by rw [← hv, q1]; exact hl) (by rw [← hv, q1, ac_not, ac_not]; exact haa)
      have H := h p q hp hq hne hv (by rw [← hv, q1]; exact hl) (by rw [← hv, q1, ac_not, ac_not]; exact haa)
      unfold NCp at H
      unfold hi at D H
      rw [q1] at D H
      simp only [al_not] at D H
      rw [← haa]
      cases mvs f.side.far f.cr (al f.side.lev (S p.1))
      · simpa using H
      · simpa using nc_flip (Cof f top low) D H
    · have hm : mvs f.side.far f.cr (al f.side.lev (S p.1)) ≠ mvs f.side.far f.cr (al f.side.lev (S q.1)) := by
        unfold plOf gapOf at ha
        unfold mvs
        cases hfar : f.side.far <;> rw [hfar] at ha <;> simp at ha ⊢ <;> (repeat' split at ha) <;> omega
      exact nc_parted f Ba Bb Bc Bd _ _ hm D'
end
end Fd
set_option Elab.async false
set_option linter.all false
set_option maxRecDepth 100000
set_option maxHeartbeats 8000000
/-! MF: joints that cross, as the program and the law look for them. -/
namespace Fd
open Bk PySem L2
instance (h1 : Bool) (l1 : Int) (h2 : Bool) (l2 : Int) : Decidable (bef h1 l1 h2 l2) := by unfold bef; infer_instance
instance (ha : Bool) (la : Int) (hb : Bool) (lb : Int) (hx : Bool) (lx : Int) : Decidable (btw ha la hb lb hx lx) := by unfold btw; infer_instance
instance (ha : Bool) (la : Int) (hb : Bool) (lb : Int) (hc : Bool) (lc : Int) (hd : Bool) (ld : Int) : Decidable (NC ha la hb lb hc lc hd ld) := by unfold NC; infer_instance
/-- of two layers those on the side b -/
def sideT (b h1 : Bool) (t1 : Int) (h2 : Bool) (t2 : Int) : List D := (if h1 = b then [.int t1] else []) ++ (if h2 = b then [.int t2] else [])
theorem min2 {o : Ow} {b : Bool} {i j : Int} : pMin1 [⟨o, b, .lst [.int i, .int j]⟩] = .ok (.sh (.int (min i j))) := rfl
theorem max2 {o : Ow} {b : Bool} {i j : Int} : pMax1 [⟨o, b, .lst [.int i, .int j]⟩] = .ok (.sh (.int (max i j))) := rfl
theorem beqd (P Q : Prop) [Decidable P] [Decidable Q] : (decide P == decide Q) = decide (P ↔ Q) := by
  by_cases p : P <;> by_cases q : Q <;> simp [p, q]
theorem ev_inside (t i j : Int) : F_law_inside [.int t, .lst [.int i, .int j]] = .ok (.sh (.bl (decide (min i j < t ∧ t < max i j)))) := by
  by_cases q : min i j < t <;> simp [F_law_inside, min2, max2, q]
theorem ev_parts (a b : Spot) (la lb : Int) (v : Bool) (ln : Int) (h1 : al v a = ln ∨ al v a = ln - 1) (h2 : al v b = ln ∨ al v b = ln - 1) : F_law_parts [seatD a la, seatD b lb, .bl v, .int ln] = .ok (.sh (.tup [.lst (sideT false (hi v ln a) la (hi v ln b) lb), .lst (sideT true (hi v ln a) la (hi v ln b) lb)])) := by
  have n1 : ¬ ln - 1 = ln := by omega
  have n2 : ¬ ln = ln - 1 := by omega
  unfold al at h1 h2
  cases v <;> simp at h1 h2 <;> rcases h1 with h1 | h1 <;> rcases h2 with h2 | h2 <;> simp [F_law_parts, seatD, h1, h2, lcGo, lcStep, sideT, hi, al, n1, n2]
theorem ev_through {ha hb hc hd : Bool} {la lb lc ld : Int} (X : Dst ha la hb lb hc lc hd ld) : F_law_through [.tup [.lst (sideT false ha la hb lb), .lst (sideT true ha la hb lb)], .tup [.lst (sideT false hc lc hd ld), .lst (sideT true hc lc hd ld)]] = .ok (.sh (.bl (!decide (NC ha la hb lb hc lc hd ld)))) := by
  obtain ⟨d1, d2, d3, d4, d5, d6⟩ := X
  unfold NC btw bef
  cases ha <;> cases hb <;> cases hc <;> cases hd <;> simp at d1 d2 d3 d4 d5 d6 <;> simp [F_law_through, F_law_bends, sideT, ev_inside]
  all_goals (simp only [← Bool.decide_and, ← Bool.decide_or, ← decide_not, beqd, decide_eq_decide]; omega)
theorem ev_between (t i j : Int) : F_between [.int t, .lst [.int i, .int j]] = .ok (.sh (.bl (decide (i < t ∧ t < j)))) := by
  by_cases q : i < t <;> simp [F_between, q]
def srt (xs : List Int) : List D := (isort xs).map .int
theorem sort_def {o : Ow} {b : Bool} (xs : List Int) : pSortI [⟨o, b, .lst (xs.map .int)⟩] = .ok ⟨.li .sh, false, .lst (srt xs)⟩ := by
  unfold pSortI pInts
  dsimp only
  rw [ints_map]
  rfl
theorem srt0 : srt [] = [] := by
  unfold srt
  rw [← isort_uniq (ms := []) (.refl _) .nil]
  rfl
theorem srt1 {i : Int} : srt [i] = [.int i] := by
  unfold srt
  rw [← isort_uniq (ms := [i]) (.refl _) (by simp)]
  rfl
theorem srt2 {i j : Int} : srt [i, j] = [.int (min i j), .int (max i j)] := by
  unfold srt
  by_cases h : i ≤ j
  · rw [← isort_uniq (ms := [i, j]) (.refl _) (by simp [h]), Int.min_eq_left h, Int.max_eq_right h]
    rfl
  · rw [← isort_uniq (ms := [j, i]) (.swap _ _ _) (by simp; omega), Int.min_eq_right (by omega), Int.max_eq_left (by omega)]
    rfl
theorem sort0 {o : Ow} {b : Bool} : pSortI [⟨o, b, .lst []⟩] = .ok ⟨.li .sh, false, .lst []⟩ := by
  have := sort_def (o := o) (b := b) []
  rw [srt0] at this
  exact this
theorem sort1 {o : Ow} {b : Bool} {i : Int} : pSortI [⟨o, b, .lst [.int i]⟩] = .ok ⟨.li .sh, false, .lst [.int i]⟩ := by
  have := sort_def (o := o) (b := b) [i]
  rw [srt1] at this
  exact this
theorem sort2 {o : Ow} {b : Bool} {i j : Int} : pSortI [⟨o, b, .lst [.int i, .int j]⟩] = .ok ⟨.li .sh, false, .lst [.int (min i j), .int (max i j)]⟩ := by
  have := sort_def (o := o) (b := b) [i, j]
  rw [srt2] at this
  exact this
/-- of two layers those on the side b, rising -/
def sideO (b h1 : Bool) (t1 : Int) (h2 : Bool) (t2 : Int) : List D := if h1 = b then (if h2 = b then [.int (min t1 t2), .int (max t1 t2)] else [.int t1]) else (if h2 = b then [.int t2] else [])
instance (a b : Spot) (v : Bool) : Decidable (MeetOk a b v) := by unfold MeetOk; infer_instance
def plD (a b : Spot) (v : Bool) : D := .tup [.bl v, .int (lineT a v), .int (ac v a), .lst (sideO false (hi v (lineT a v) a) a.l (hi v (lineT a v) b) b.l), .lst (sideO true (hi v (lineT a v) a) a.l (hi v (lineT a v) b) b.l)]
theorem ev_meets (a b : Spot) (v : Bool) : F_meets [spotD a, spotD b, .bl v] = .ok (.sh (if MeetOk a b v then plD a b v else .non)) := by
  obtain ⟨x, y, l, e, n⟩ := a
  obtain ⟨x2, y2, l2, e2, n2⟩ := b
  have n1 : ∀ z : Int, ¬ z + 1 < z := fun z => by omega
  have n2' : ∀ z : Int, ¬ z + 1 = z := fun z => by omega
  have n3 : ∀ z : Int, z < z + 1 := fun z => by omega
  have n4 : ∀ z : Int, ¬ z + 1 ≤ z := fun z => by omega
  have n5 : ∀ z : Int, ¬ z = z + 1 := fun z => by omega
  cases v
  · by_cases q1 : y = y2
    · by_cases q2 : n = n2
      · subst q1 q2
        by_cases q3 : lineT ⟨x, y, l, e, n⟩ false = backT ⟨x2, y, l2, e2, n⟩ false
        · cases e <;> cases e2 <;> simp [lineT, backT] at q3 <;> subst q3 <;> simp [F_meets, spotD, MeetOk, lineT, backT, plD, hi, al, ac, sideO, lcGo, lcStep, sort0, sort1, sort2, n1, n2', n3, n4, n5]
        · have q4 : ¬ MeetOk ⟨x, y, l, e, n⟩ ⟨x2, y, l2, e2, n⟩ false := fun z => q3 z.2
          rw [if_neg q4]
          cases e <;> cases e2 <;> simp [lineT, backT] at q3 <;> simp [F_meets, spotD, q3]
      · have q4 : ¬ MeetOk ⟨x, y, l, e, n⟩ ⟨x2, y2, l2, e2, n2⟩ false := fun z => by
          have := z.1
          simp at this
          exact q2 this.2
        rw [if_neg q4]
        cases n <;> cases n2 <;> simp at q2 <;> simp [F_meets, spotD, q1]
    · have q4 : ¬ MeetOk ⟨x, y, l, e, n⟩ ⟨x2, y2, l2, e2, n2⟩ false := fun z => by
        have := z.1
        simp at this
        exact q1 this.1
      rw [if_neg q4]
      simp [F_meets, spotD, q1]
  · by_cases q1 : x = x2
    · by_cases q2 : e = e2
      · subst q1 q2
        by_cases q3 : lineT ⟨x, y, l, e, n⟩ true = backT ⟨x, y2, l2, e, n2⟩ true
        · cases n <;> cases n2 <;> simp [lineT, backT] at q3 <;> subst q3 <;> simp [F_meets, spotD, MeetOk, lineT, backT, plD, hi, al, ac, sideO, lcGo, lcStep, sort0, sort1, sort2, n1, n2', n3, n4, n5]
        · have q4 : ¬ MeetOk ⟨x, y, l, e, n⟩ ⟨x, y2, l2, e, n2⟩ true := fun z => q3 z.2
          rw [if_neg q4]
          cases n <;> cases n2 <;> simp [lineT, backT] at q3 <;> simp [F_meets, spotD, q3]
      · have q4 : ¬ MeetOk ⟨x, y, l, e, n⟩ ⟨x2, y2, l2, e2, n2⟩ true := fun z => by
          have := z.1
          simp at this
          exact q2 this.2
        rw [if_neg q4]
        cases e <;> cases e2 <;> simp at q2 <;> simp [F_meets, spotD, q1]
    · have q4 : ¬ MeetOk ⟨x, y, l, e, n⟩ ⟨x2, y2, l2, e2, n2⟩ true := fun z => by
        have := z.1
        simp at this
        exact q1 this.1
      rw [if_neg q4]
      simp [F_meets, spotD, q1]
def inB (t i j : Int) : Bool := decide (i < t ∧ t < j)
theorem ev_betw (t i j : Int) : F_between [.int t, .lst [.int i, .int j]] = .ok (.sh (.bl (inB t i j))) := ev_between t i j
theorem ev_cross_no (a b c d : Spot) (v w : Bool) (h : ¬ (v = w ∧ lineT a v = lineT c w ∧ ac v a = ac w c)) : F_cross [plD a b v, plD c d w] = .ok (.sh (.bl false)) := by
  have nb : ∀ p q : Bool, ¬ p = q → (p == q) = false := fun p q h => by simp [h]
  by_cases q1 : v = w
  · subst q1
    by_cases q2 : lineT a v = lineT c v
    · by_cases q3 : ac v a = ac v c
      · exact (h ⟨rfl, q2, q3⟩).elim
      · simp [F_cross, plD, q2, q3]
    · simp [F_cross, plD, q2]
  · simp [F_cross, plD, nb _ _ q1]
def plR (v : Bool) (ln at_ : Int) (ha : Bool) (la : Int) (hb : Bool) (lb : Int) : D := .tup [.bl v, .int ln, .int at_, .lst (sideO false ha la hb lb), .lst (sideO true ha la hb lb)]
theorem cross_yes (v : Bool) (ln at_ : Int) : ∀ (ha hb hc hd : Bool) {la lb lc ld : Int} (X : Dst ha la hb lb hc lc hd ld), F_cross [plR v ln at_ ha la hb lb, plR v ln at_ hc lc hd ld] = .ok (.sh (.bl (!decide (NC ha la hb lb hc lc hd ld))))
  | false, false, false, false, la, lb, lc, ld, ⟨d1, d2, d3, d4, d5, d6⟩ => by
    have k : (!decide (NC false la false lb false lc false ld)) = (inB (min lc ld) (min la lb) (max la lb) != inB (max lc ld) (min la lb) (max la lb)) := by
      simp at d1 d2 d3 d4 d5 d6
      simp [NC, btw, bef, inB]
      try (simp only [bne, ← Bool.decide_and, ← Bool.decide_or, ← decide_not, beqd, decide_eq_decide]; omega)
    rw [k]
    clear k
    cases q0 : inB (min lc ld) (min la lb) (max la lb)
    · cases q1 : inB (max lc ld) (min la lb) (max la lb)
      · simp [F_cross, plR, sideO, ev_betw, forGo, q0, q1]
      · simp [F_cross, plR, sideO, ev_betw, forGo, q0, q1]
    · cases q1 : inB (max lc ld) (min la lb) (max la lb)
      · simp [F_cross, plR, sideO, ev_betw, forGo, q0, q1]
      · simp [F_cross, plR, sideO, ev_betw, forGo, q0, q1]
  | false, false, false, true, la, lb, lc, ld, ⟨d1, d2, d3, d4, d5, d6⟩ => by
    have k : (!decide (NC false la false lb false lc true ld)) = inB lc (min la lb) (max la lb) := by
      simp at d1 d2 d3 d4 d5 d6
      simp [NC, btw, bef, inB]
      try (simp only [bne, ← Bool.decide_and, ← Bool.decide_or, ← decide_not, beqd, decide_eq_decide]; omega)
    rw [k]
    clear k
    cases q0 : inB lc (min la lb) (max la lb) <;> simp [F_cross, plR, sideO, ev_betw, forGo, q0]
  | false, false, true, false, la, lb, lc, ld, ⟨d1, d2, d3, d4, d5, d6⟩ => by
    have k : (!decide (NC false la false lb true lc false ld)) = inB ld (min la lb) (max la lb) := by
      simp at d1 d2 d3 d4 d5 d6
      simp [NC, btw, bef, inB]
      try (simp only [bne, ← Bool.decide_and, ← Bool.decide_or, ← decide_not, beqd, decide_eq_decide]; omega)
    rw [k]
    clear k
    cases q0 : inB ld (min la lb) (max la lb) <;> simp [F_cross, plR, sideO, ev_betw, forGo, q0]
  | false, false, true, true, la, lb, lc, ld, ⟨d1, d2, d3, d4, d5, d6⟩ => by
    have k : (!decide (NC false la false lb true lc true ld)) = false := by
      simp at d1 d2 d3 d4 d5 d6
      simp [NC, btw, bef, inB]
      try (simp only [bne, ← Bool.decide_and, ← Bool.decide_or, ← decide_not, beqd, decide_eq_decide]; omega)
    rw [k]
    clear k
    simp [F_cross, plR, sideO, forGo, bne]
  | false, true, false, false, la, lb, lc, ld, ⟨d1, d2, d3, d4, d5, d6⟩ => by
    have k : (!decide (NC false la true lb false lc false ld)) = inB la (min lc ld) (max lc ld) := by
      simp at d1 d2 d3 d4 d5 d6
      simp [NC, btw, bef, inB]
      try (simp only [bne, ← Bool.decide_and, ← Bool.decide_or, ← decide_not, beqd, decide_eq_decide]; omega)
    rw [k]
    clear k
    cases q0 : inB la (min lc ld) (max lc ld) <;> simp [F_cross, plR, sideO, ev_betw, forGo, q0]
  | false, true, false, true, la, lb, lc, ld, ⟨d1, d2, d3, d4, d5, d6⟩ => by
    have k : (!decide (NC false la true lb false lc true ld)) = (decide (la < lc) != decide (lb < ld)) := by
      simp at d1 d2 d3 d4 d5 d6
      simp [NC, btw, bef, inB]
      try (simp only [bne, ← Bool.decide_and, ← Bool.decide_or, ← decide_not, beqd, decide_eq_decide]; omega)
    rw [k]
    clear k
    simp [F_cross, plR, sideO, forGo, bne]
  | false, true, true, false, la, lb, lc, ld, ⟨d1, d2, d3, d4, d5, d6⟩ => by
    have k : (!decide (NC false la true lb true lc false ld)) = (decide (la < ld) != decide (lb < lc)) := by
      simp at d1 d2 d3 d4 d5 d6
      simp [NC, btw, bef, inB]
      try (simp only [bne, ← Bool.decide_and, ← Bool.decide_or, ← decide_not, beqd, decide_eq_decide]; omega)
    rw [k]
    clear k
    simp [F_cross, plR, sideO, forGo, bne]
  | false, true, true, true, la, lb, lc, ld, ⟨d1, d2, d3, d4, d5, d6⟩ => by
    have k : (!decide (NC false la true lb true lc true ld)) = inB lb (min lc ld) (max lc ld) := by
      simp at d1 d2 d3 d4 d5 d6
      simp [NC, btw, bef, inB]
      try (simp only [bne, ← Bool.decide_and, ← Bool.decide_or, ← decide_not, beqd, decide_eq_decide]; omega)
    rw [k]
    clear k
    cases q0 : inB lb (min lc ld) (max lc ld) <;> simp [F_cross, plR, sideO, ev_betw, forGo, q0]
  | true, false, false, false, la, lb, lc, ld, ⟨d1, d2, d3, d4, d5, d6⟩ => by
    have k : (!decide (NC true la false lb false lc false ld)) = inB lb (min lc ld) (max lc ld) := by
      simp at d1 d2 d3 d4 d5 d6
      simp [NC, btw, bef, inB]
      try (simp only [bne, ← Bool.decide_and, ← Bool.decide_or, ← decide_not, beqd, decide_eq_decide]; omega)
    rw [k]
    clear k
    cases q0 : inB lb (min lc ld) (max lc ld) <;> simp [F_cross, plR, sideO, ev_betw, forGo, q0]
  | true, false, false, true, la, lb, lc, ld, ⟨d1, d2, d3, d4, d5, d6⟩ => by
    have k : (!decide (NC true la false lb false lc true ld)) = (decide (lb < lc) != decide (la < ld)) := by
      simp at d1 d2 d3 d4 d5 d6
      simp [NC, btw, bef, inB]
      try (simp only [bne, ← Bool.decide_and, ← Bool.decide_or, ← decide_not, beqd, decide_eq_decide]; omega)
    rw [k]
    clear k
    simp [F_cross, plR, sideO, forGo, bne]
  | true, false, true, false, la, lb, lc, ld, ⟨d1, d2, d3, d4, d5, d6⟩ => by
    have k : (!decide (NC true la false lb true lc false ld)) = (decide (lb < ld) != decide (la < lc)) := by
      simp at d1 d2 d3 d4 d5 d6
      simp [NC, btw, bef, inB]
      try (simp only [bne, ← Bool.decide_and, ← Bool.decide_or, ← decide_not, beqd, decide_eq_decide]; omega)
    rw [k]
    clear k
    simp [F_cross, plR, sideO, forGo, bne]
  | true, false, true, true, la, lb, lc, ld, ⟨d1, d2, d3, d4, d5, d6⟩ => by
    have k : (!decide (NC true la false lb true lc true ld)) = inB la (min lc ld) (max lc ld) := by
      simp at d1 d2 d3 d4 d5 d6
      simp [NC, btw, bef, inB]
      try (simp only [bne, ← Bool.decide_and, ← Bool.decide_or, ← decide_not, beqd, decide_eq_decide]; omega)
    rw [k]
    clear k
    cases q0 : inB la (min lc ld) (max lc ld) <;> simp [F_cross, plR, sideO, ev_betw, forGo, q0]
  | true, true, false, false, la, lb, lc, ld, ⟨d1, d2, d3, d4, d5, d6⟩ => by
    have k : (!decide (NC true la true lb false lc false ld)) = false := by
      simp at d1 d2 d3 d4 d5 d6
      simp [NC, btw, bef, inB]
      try (simp only [bne, ← Bool.decide_and, ← Bool.decide_or, ← decide_not, beqd, decide_eq_decide]; omega)
    rw [k]
    clear k
    simp [F_cross, plR, sideO, forGo, bne]
  | true, true, false, true, la, lb, lc, ld, ⟨d1, d2, d3, d4, d5, d6⟩ => by
    have k : (!decide (NC true la true lb false lc true ld)) = inB ld (min la lb) (max la lb) := by
      simp at d1 d2 d3 d4 d5 d6
      simp [NC, btw, bef, inB]
      try (simp only [bne, ← Bool.decide_and, ← Bool.decide_or, ← decide_not, beqd, decide_eq_decide]; omega)
    rw [k]
    clear k
    cases q0 : inB ld (min la lb) (max la lb) <;> simp [F_cross, plR, sideO, ev_betw, forGo, q0]
  | true, true, true, false, la, lb, lc, ld, ⟨d1, d2, d3, d4, d5, d6⟩ => by
    have k : (!decide (NC true la true lb true lc false ld)) = inB lc (min la lb) (max la lb) := by
      simp at d1 d2 d3 d4 d5 d6
      simp [NC, btw, bef, inB]
      try (simp only [bne, ← Bool.decide_and, ← Bool.decide_or, ← decide_not, beqd, decide_eq_decide]; omega)
    rw [k]
    clear k
    cases q0 : inB lc (min la lb) (max la lb) <;> simp [F_cross, plR, sideO, ev_betw, forGo, q0]
  | true, true, true, true, la, lb, lc, ld, ⟨d1, d2, d3, d4, d5, d6⟩ => by
    have k : (!decide (NC true la true lb true lc true ld)) = (inB (min lc ld) (min la lb) (max la lb) != inB (max lc ld) (min la lb) (max la lb)) := by
      simp at d1 d2 d3 d4 d5 d6
      simp [NC, btw, bef, inB]
      try (simp only [bne, ← Bool.decide_and, ← Bool.decide_or, ← decide_not, beqd, decide_eq_decide]; omega)
    rw [k]
    clear k
    cases q0 : inB (min lc ld) (min la lb) (max la lb)
    · cases q1 : inB (max lc ld) (min la lb) (max la lb)
      · simp [F_cross, plR, sideO, ev_betw, forGo, q0, q1]
      · simp [F_cross, plR, sideO, ev_betw, forGo, q0, q1]
    · cases q1 : inB (max lc ld) (min la lb) (max la lb)
      · simp [F_cross, plR, sideO, ev_betw, forGo, q0, q1]
      · simp [F_cross, plR, sideO, ev_betw, forGo, q0, q1]
end Fd
set_option Elab.async false
set_option linter.all false
set_option maxRecDepth 100000
set_option maxHeartbeats 8000000
/-! MFS: the seats of the cells in heaps. -/
namespace Fd
open Bk PySem L2
/-- a place, a layer, a cell -/
abbrev Ent := Nat × Nat × Cell
def entH (m : Nat) (h : List Cell) : List Ent := h.zipIdx.map fun p => (m, p.2, p.1)
def ents (H : List (List Cell)) : List Ent := H.zipIdx.flatMap fun p => entH p.2 p.1
theorem entH_snoc (m : Nat) (h : List Cell) (c : Cell) : entH m (h ++ [c]) = entH m h ++ [(m, h.length, c)] := by
  unfold entH
  rw [List.zipIdx_append, List.map_append]
  simp
theorem ents_snoc (H : List (List Cell)) (h : List Cell) : ents (H ++ [h]) = ents H ++ entH H.length h := by
  unfold ents
  rw [List.zipIdx_append, List.flatMap_append]
  simp
def ofC (k : Nat) (es : List Ent) : List Ent := es.filter fun e => e.2.2.1 == k
theorem ofC_snoc (k : Nat) (es : List Ent) (e : Ent) : ofC k (es ++ [e]) = if e.2.2.1 = k then ofC k es ++ [e] else ofC k es := by
  unfold ofC
  rw [List.filter_append]
  by_cases q : e.2.2.1 = k <;> simp [q]
def entD (W : Int) (e : Ent) : D := .tup [.int ((e.1 : Int) - (e.1 : Int) / W * W), .int ((e.1 : Int) / W), .int (e.2.1 : Int), .bl e.2.2.2.1, .bl e.2.2.2.2]
def lastG (W : Int) (es : List Ent) (k : Nat) : D := match (ofC k es).getLast? with
  | some e => entD W e
  | none => .non
def timG (es : List Ent) (k : Nat) : D := .int ((ofC k es).length : Int)
def seatG (W : Int) (es : List Ent) (k : Nat) : D := match ofC k es with
  | [e] => entD W e
  | _ => .non
theorem last_snoc (W : Int) (N : Nat) (es : List Ent) (e : Ent) (h : e.2.2.1 < N) : ((List.range N).map (lastG W es)).set e.2.2.1 (entD W e) = (List.range N).map (lastG W (es ++ [e])) := by
  rw [set_range h]
  refine List.map_congr_left fun k _ => ?_
  unfold lastG
  rw [ofC_snoc]
  by_cases q : k = e.2.2.1
  · simp [q]
  · rw [if_neg q, if_neg fun z => q z.symm]
theorem tim_snoc (N : Nat) (es : List Ent) (e : Ent) (h : e.2.2.1 < N) : ((List.range N).map (timG es)).set e.2.2.1 (.int (((ofC e.2.2.1 es).length : Int) + 1)) = (List.range N).map (timG (es ++ [e])) := by
  rw [set_range h]
  refine List.map_congr_left fun k _ => ?_
  unfold timG
  rw [ofC_snoc]
  by_cases q : k = e.2.2.1
  · simp [q]
  · rw [if_neg q, if_neg fun z => q z.symm]
abbrev EV (c r W : Int) (H : D) (O T : List D) (a b f g h k : Option (Ow × D)) : XEnv := [some (.sh, .int c), some (.sh, .int r), some (.sh, .int W), some (.sh, H), some (.li .sh, .lst O), some (.li .sh, .lst T), a, b, f, g, h, k]
theorem seated_step (c r W : Int) (H : D) (O T : List D) (m j y t : Int) (e n : Bool) (k : Nat) (hk : y = (k : Int)) (h1 : k < O.length) (h2 : T.length = O.length) (ht : T[k]? = some (.int t)) (hW : 0 < W) (hW2 : W < 100000) (f g h i : Option (Ow × D)) :
    stepO (.tp [8, 9, 10]) (xSeq (xSetI 4 (xV 8) (xTup (xACons (xOp2 pSub (xV 6) (xOp2 pMul (xOp2 pDiv (xV 6) (xV 2)) (xV 2))) (xACons (xOp2 pDiv (xV 6) (xV 2)) (xACons (xV 7) (xACons (xV 9) (xACons (xV 10) (xANil)))))))) (
  xSeq (xSetI 5 (xV 8) (xOp2 pAdd (xOp2 pIx (xV 5) (xV 8)) (xC (.int 1)))) (
  xSet 7 (xOp2 pAdd (xV 7) (xC (.int 1)))))) (.tup [.int y, .bl e, .bl n]) (EV c r W H O T (some (.sh, .int m)) (some (.sh, .int j)) f g h i) = .next (EV c r W H (O.set k (.tup [.int (m - m / W * W), .int (m / W), .int j, .bl e, .bl n])) (T.set k (.int (t + 1))) (some (.sh, .int m)) (some (.sh, .int (j + 1))) (some (.sh, .int y)) (some (.sh, .bl e)) (some (.sh, .bl n)) i) := by
  have i1 : ixN O.length y = some k := by
    unfold ixN
    rw [if_pos (by omega), if_pos (by omega), hk]
    rfl
  have i2 : ixN T.length y = some k := by rw [h2]; exact i1
  have i3 : atI T y = some (.int t) := by rw [hk, atI_cast, ht]
  have w1 : W < 1073741824 := by omega
  have w2 : -18446744073709551616 < W := by omega
  have w3 : W < 18446744073709551616 := by omega
  simp [hW, w1, w2, w3, i1, i2, i3]
theorem ev_seated {c r W : Int} {N : Nat} {H : List (List Cell)} (hN : c * r = (N : Int)) (n4 : N ≤ 10000) (b1 : -18446744073709551616 < c) (b2 : c < 18446744073709551616) (w0 : 0 < W) (w1 : W < 100000) (hH : ∀ h ∈ H, ∀ x ∈ h, x.1 < N) (hl : H.length ≤ 10000) :
    F_seated [.int c, .int r, .int W, .lst (H.map heapD)] = .ok ⟨.li .sh, false, .lst ((List.range N).map (seatG W (ents H)))⟩ := by
  have lc1 : ∀ env : XEnv, lcGo (lcStep (.nm 11) xYes (xC .non) env) (rangeD (N : Int)) = .ok ((List.range N).map (lastG W [])) := fun env => by
    have := lc_range (step := lcStep (.nm 11) xYes (xC .non) env) (n := (N : Int)) (g := fun _ => .non) fun k hk => by simp [lcStep]
    rw [Int.toNat_natCast] at this
    exact this
  have lc2 : ∀ env : XEnv, lcGo (lcStep (.nm 11) xYes (xC (.int 0)) env) (rangeD (N : Int)) = .ok ((List.range N).map (timG [])) := fun env => by
    have := lc_range (step := lcStep (.nm 11) xYes (xC (.int 0)) env) (n := (N : Int)) (g := fun _ => .int 0) fun k hk => by simp [lcStep]
    rw [Int.toNat_natCast] at this
    exact this
  have a1 : (N : Int) ≤ 100000 := by omega
  have a2 : -100000 ≤ (N : Int) := by omega
  have a3 : (H.length : Int) ≤ 100000 := by omega
  have a4 : -100000 ≤ (H.length : Int) := by omega
  have a5 : N ≤ 100000 := by omega
  have aN : (rangeD (N : Int)).length = N := by rw [rangeD_map]; simp
  generalize hn : (N : Int) = n at *
  simp [F_seated, hN, b1, b2, a1, a2, a3, a4, a5, aN, lc1, lc2]
  refine rng_fun (fun i env => ∃ a b f g h, env = EV c r W (.lst (H.map heapD)) ((List.range N).map (lastG W (ents (H.take i)))) ((List.range N).map (timG (ents (H.take i)))) a b f g h none) ⟨_, _, _, _, _, rfl⟩ ?_ ?_
  · rintro i env hi ⟨a, b, f, g, h, rfl⟩
    have hi2 : i < H.length := by omega
    have hH2 := hH H[i] (List.getElem_mem _)
    have hg : (H.map heapD)[i]? = some (heapD H[i]) := by rw [List.getElem?_map, List.getElem?_eq_getElem hi2]; rfl
    have ex := ents_snoc (H.take i) H[i]
    rw [List.take_append_getElem, List.length_take, Nat.min_eq_left (by omega)] at ex
    rw [ex]
    generalize H[i] = hp at *
    generalize ents (H.take i) = E0 at *
    rw [stepO_nm]
    have i1 : atI (H.map heapD) (i : Int) = some (heapD hp) := by rw [atI_cast, hg]
    obtain ⟨e2, q1, f2, g2, h2, q2⟩ := for_nx (tg := .tp [8, 9, 10]) (bd := xSeq (xSetI 4 (xV 8) (xTup (xACons (xOp2 pSub (xV 6) (xOp2 pMul (xOp2 pDiv (xV 6) (xV 2)) (xV 2))) (xACons (xOp2 pDiv (xV 6) (xV 2)) (xACons (xV 7) (xACons (xV 9) (xACons (xV 10) (xANil)))))))) (
        xSeq (xSetI 5 (xV 8) (xOp2 pAdd (xOp2 pIx (xV 5) (xV 8)) (xC (.int 1)))) (
        xSet 7 (xOp2 pAdd (xV 7) (xC (.int 1))))))
      (env := EV c r W (.lst (H.map heapD)) ((List.range N).map (lastG W E0)) ((List.range N).map (timG E0)) (some (.sh, .int (i : Int))) (some (.sh, .int 0)) f g h none) (enc := cellD) hp (fun j env => ∃ f g h, env = EV c r W (.lst (H.map heapD)) ((List.range N).map (lastG W (E0 ++ entH i (hp.take j)))) ((List.range N).map (timG (E0 ++ entH i (hp.take j)))) (some (.sh, .int (i : Int))) (some (.sh, .int (j : Int))) f g h none) rfl ⟨f, g, h, by simp [entH]⟩ (by
        rintro j x env hx ⟨f, g, h, rfl⟩
        obtain ⟨hj, hxe⟩ := List.getElem?_eq_some_iff.mp hx
        have hk := hH2 x (List.mem_of_getElem? hx)
        have es := entH_snoc i (hp.take j) x
        rw [← hxe, List.take_append_getElem, List.length_take, Nat.min_eq_left (by omega), hxe] at es
        rw [es, ← List.append_assoc]
        have st := seated_step c r W (.lst (H.map heapD)) ((List.range N).map (lastG W (E0 ++ entH i (hp.take j)))) ((List.range N).map (timG (E0 ++ entH i (hp.take j)))) i j x.1 (((ofC x.1 (E0 ++ entH i (hp.take j))).length : Nat) : Int) x.2.1 x.2.2 x.1 rfl (by simp; omega) (by simp) (by simp [hk, timG]) w0 w1 f g h none
        refine ⟨_, st, some (.sh, .int (x.1 : Int)), some (.sh, .bl x.2.1), some (.sh, .bl x.2.2), ?_⟩
        have l1 := last_snoc W N (E0 ++ entH i (hp.take j)) (i, j, x) hk
        have l2 := tim_snoc N (E0 ++ entH i (hp.take j)) (i, j, x) hk
        dsimp only [entD] at l1 l2
        rw [l1, l2]
        rfl)
    refine ⟨e2, ?_, some (.sh, .int (i : Int)), some (.sh, .int (hp.length : Int)), f2, g2, h2, ?_⟩
    · rw [← q1]
      simp [i1, heapD]
    · rw [q2, List.take_length]
  · rintro e2 ⟨a, b, f, g, h, rfl⟩
    rw [show H.take ((H.length : Int)).toNat = H from by simp]
    have lc3 : lcGo (lcStep (.nm 11) xYes (xIf (xT (xOp2 pEq (xOp2 pIx (xV 5) (xV 11)) (xC (.int 1)))) (xOp2 pIx (xV 4) (xV 11)) (xC .non)) (EV c r W (.lst (H.map heapD)) ((List.range N).map (lastG W (ents H))) ((List.range N).map (timG (ents H))) a b f g h none)) (rangeD (N : Int)) = .ok ((List.range N).map (seatG W (ents H))) := by
      have := lc_range (step := lcStep (.nm 11) xYes (xIf (xT (xOp2 pEq (xOp2 pIx (xV 5) (xV 11)) (xC (.int 1)))) (xOp2 pIx (xV 4) (xV 11)) (xC .non)) (EV c r W (.lst (H.map heapD)) ((List.range N).map (lastG W (ents H))) ((List.range N).map (timG (ents H))) a b f g h none)) (n := (N : Int)) (g := seatG W (ents H)) fun k hk => by
        have k1 : k < N := by omega
        have o1 : ((List.range N).map (lastG W (ents H)))[k]? = some (lastG W (ents H) k) := by simp [k1]
        have o2 : ((List.range N).map (timG (ents H)))[k]? = some (timG (ents H) k) := by simp [k1]
        generalize (List.range N).map (lastG W (ents H)) = LO at *
        generalize (List.range N).map (timG (ents H)) = LT at *
        unfold timG at o2
        unfold lastG at o1
        unfold seatG
        generalize ofC k (ents H) = z at *
        match z, o1, o2 with
        | [], o1, o2 => simp [lcStep, o1, o2]
        | [x], o1, o2 => simp [lcStep, o1, o2, entD]
        | x :: y :: l, o1, o2 =>
          have q : ¬ ((((x :: y :: l).length : Nat) : Int) = 1) := by simp; omega
          generalize (((x :: y :: l).length : Nat) : Int) = ln at *
          simp [lcStep, o2, q]
      rw [Int.toNat_natCast] at this
      exact this
    rw [hn] at lc3
    simp [a1, a2, a5, aN]
    rw [hn]
    unfold EV at lc3
    simp [a1, a2, a5, aN, lc3]
end Fd
set_option Elab.async false
set_option linter.all false
set_option maxRecDepth 100000
set_option maxHeartbeats 8000000
/-! MFT: the heaps of a pile hold each cell once; joints that do not cross, told by the layers in the heaps. -/
namespace Fd
open Bk PySem L2
def layS (P : PileT) (S : Nat → Spot) (k : Nat) : Spot := { S k with l := ((layT P S k : Nat) : Int) }
theorem stD_lay (P : PileT) (S : Nat → Spot) (k : Nat) : stD P S k = seatD (layS P S k) (layS P S k).l := rfl
theorem ofC_none {S : Nat → Spot} {m k : Nat} {ks : List Nat} (h : k ∉ ks) : ofC k (entH m (ks.map (cell S))) = [] := by
  unfold ofC entH
  rw [List.filter_map, List.map_eq_nil_iff, List.filter_eq_nil_iff]
  rintro ⟨a, b⟩ hp
  have := List.fst_mem_of_mem_zipIdx hp
  obtain ⟨j, hj, e⟩ := List.mem_map.mp this
  simp only [Function.comp]
  dsimp only at e
  rw [← e]
  simp [cell]
  exact fun z => h (z ▸ hj)
theorem ofC_one {S : Nat → Spot} {m : Nat} {ks : List Nat} (nd : ks.Nodup) {i k : Nat} (h : ks[i]? = some k) : ofC k (entH m (ks.map (cell S))) = [(m, i, cell S k)] := by
  obtain ⟨hi, he⟩ := List.getElem?_eq_some_iff.mp h
  suffices ∀ n, n ≤ ks.length → ofC k (entH m ((ks.take n).map (cell S))) = if i < n then [(m, i, cell S k)] else [] by
    have := this ks.length (Nat.le_refl _)
    rw [List.take_length, if_pos hi] at this
    exact this
  intro n
  induction n with
  | zero => intro _; rfl
  | succ n ih =>
    intro hn
    have e1 := entH_snoc m ((ks.take n).map (cell S)) (cell S ks[n])
    rw [← List.map_singleton (f := cell S), ← List.map_append, List.take_append_getElem, List.length_map, List.length_take, Nat.min_eq_left (by omega)] at e1
    rw [e1, ofC_snoc, ih (by omega)]
    show (if ks[n] = k then _ else _) = _
    by_cases q : n = i
    · subst q
      rw [if_pos he, if_neg (by omega), if_pos (by omega)]
      rw [he]
      rfl
    · have : ¬ ks[n] = k := fun z => q ((List.getElem_inj nd).mp (z.trans he.symm))
      rw [if_neg this]
      by_cases z : i < n
      · rw [if_pos z, if_pos (by omega)]
      · rw [if_neg z, if_neg (by omega)]
theorem ofC_at {H : List (List Cell)} {k m0 : Nat} {e : Ent} (h1 : m0 < H.length) (h2 : ofC k (entH m0 H[m0]) = [e]) (h3 : ∀ m (hm : m < H.length), m ≠ m0 → ofC k (entH m H[m]) = []) : ofC k (ents H) = [e] := by
  suffices ∀ i, i ≤ H.length → ofC k (ents (H.take i)) = if m0 < i then [e] else [] by
    have := this H.length (Nat.le_refl _)
    rw [List.take_length, if_pos h1] at this
    exact this
  intro i
  induction i with
  | zero => intro _; rfl
  | succ i ih =>
    intro hi
    have e1 := ents_snoc (H.take i) H[i]
    rw [List.take_append_getElem, List.length_take, Nat.min_eq_left (by omega)] at e1
    rw [e1]
    unfold ofC at ih h2 h3 ⊢
    rw [List.filter_append, ih (by omega)]
    by_cases q : i = m0
    · subst q
      rw [h2, if_neg (by omega), if_pos (by omega)]
      rfl
    · rw [h3 i (by omega) q, List.append_nil]
      by_cases z : m0 < i
      · rw [if_pos z, if_pos (by omega)]
      · rw [if_neg z, if_neg (by omega)]
theorem place_xy {x y w : Int} (h1 : 0 ≤ x) (h2 : x < w) : (y * w + x) % w = x ∧ (y * w + x) / w = y := by
  constructor
  · rw [Int.add_comm, Int.add_mul_emod_self_right]
    exact Int.emod_eq_of_lt h1 h2
  · rw [Int.add_comm, Int.add_mul_ediv_right _ _ (by omega), Int.ediv_eq_zero_of_lt h1 h2, Int.zero_add]
theorem seat_mt {P : PileT} {N : Nat} {S : Nat → Spot} (M : Mt P N S) {k : Nat} (hk : k < N) : seatG P.wide (ents P.heaps) k = spotD (layS P S k) := by
  have b := M.good.bnd k hk
  have ix := M.sh.ix b.1 b.2.1 b.2.2.1 b.2.2.2
  have w1 := M.sh.w1
  obtain ⟨ks, hi, hh⟩ := M.hp _ _ b.1 b.2.1 b.2.2.1 b.2.2.2
  have hm : k ∈ ks := (hi.2 k).mpr ⟨hk, rfl, rfl⟩
  obtain ⟨j, hj, e⟩ := List.getElem_of_mem hm
  have hj2 : ks[j]? = some k := by rw [List.getElem?_eq_getElem hj, e]
  have nd : ks.Nodup := hi.1.imp fun {a b} hab e => by subst e; omega
  have hl := lay_at hi hh hj2
  have key : ofC k (ents P.heaps) = [(((S k).y * P.wide + (S k).x).toNat, j, cell S k)] := by
    refine ofC_at (m0 := ((S k).y * P.wide + (S k).x).toNat) (by omega) ?_ ?_
    · have : P.heaps[((S k).y * P.wide + (S k).x).toNat] = heapT P (S k).x (S k).y := by
        unfold heapT
        rw [List.getD_eq_getElem?_getD, List.getElem?_eq_getElem (by omega)]
        rfl
      rw [this, hh]
      exact ofC_one nd hj2
    · intro m hm hne
      have dm := Int.mul_ediv_add_emod (m : Int) P.wide
      have m0 := Int.emod_nonneg (m : Int) (show P.wide ≠ 0 by omega)
      have m1 := Int.emod_lt_of_pos (m : Int) (show 0 < P.wide by omega)
      have hlen := M.sh.len
      have y0 : 0 ≤ (m : Int) / P.wide := Int.ediv_nonneg (by omega) (by omega)
      have y1 : (m : Int) / P.wide < P.high := Int.ediv_lt_of_lt_mul (by omega) (by rw [Int.mul_comm]; omega)
      obtain ⟨ks2, hi2, hh2⟩ := M.hp _ _ m0 m1 y0 y1
      have : P.heaps[m] = heapT P ((m : Int) % P.wide) ((m : Int) / P.wide) := by
        unfold heapT
        have : ((m : Int) / P.wide * P.wide + (m : Int) % P.wide).toNat = m := by
          rw [Int.mul_comm]
          omega
        rw [this, List.getD_eq_getElem?_getD, List.getElem?_eq_getElem hm]
        rfl
      rw [this, hh2]
      refine ofC_none fun z => hne ?_
      have := (hi2.2 k).mp z
      rw [this.2.1, this.2.2, Int.mul_comm]
      omega
  unfold seatG
  rw [key]
  have pp := place_xy (y := (S k).y) b.1 b.2.1
  have e0 : (((((S k).y * P.wide + (S k).x).toNat : Nat)) : Int) = (S k).y * P.wide + (S k).x := by omega
  simp only [entD, e0, pp.2, cell, spotD, layS, hl]
  have : (S k).y * P.wide + (S k).x - (S k).y * P.wide = (S k).x := by omega
  rw [this]
theorem lay_lt {P : PileT} {N : Nat} {S : Nat → Spot} (M : Mt P N S) {i j : Nat} (hi : i < N) (hj : j < N) (hx : (S i).x = (S j).x) (hy : (S i).y = (S j).y) : ((layS P S i).l < (layS P S j).l ↔ (S j).l < (S i).l) := by
  have b := M.good.bnd i hi
  obtain ⟨ks, hk, hh⟩ := M.hp _ _ b.1 b.2.1 b.2.2.1 b.2.2.2
  have m1 : i ∈ ks := (hk.2 i).mpr ⟨hi, rfl, rfl⟩
  have m2 : j ∈ ks := (hk.2 j).mpr ⟨hj, hx.symm, hy.symm⟩
  obtain ⟨a, ha, e1⟩ := List.getElem_of_mem m1
  obtain ⟨b, hb, e2⟩ := List.getElem_of_mem m2
  have l1 := lay_at hk hh (show ks[a]? = some i by rw [List.getElem?_eq_getElem ha, e1])
  have l2 := lay_at hk hh (show ks[b]? = some j by rw [List.getElem?_eq_getElem hb, e2])
  show ((layT P S i : Nat) : Int) < ((layT P S j : Nat) : Int) ↔ _
  rw [l1, l2]
  have pw := List.pairwise_iff_getElem.mp hk.1
  rcases Nat.lt_trichotomy a b with q | q | q
  · have := pw a b ha hb q
    rw [e1, e2] at this
    omega
  · subst q
    rw [e1] at e2
    subst e2
    omega
  · have := pw b a hb ha q
    rw [e1, e2] at this
    omega
theorem nc_order {ha hb hc hd : Bool} {la lb lc ld ta tb tc td : Int} (D : Dst ha la hb lb hc lc hd ld) (h : NC ha la hb lb hc lc hd ld)
    (ab : ha = hb → ((ta < tb ↔ lb < la) ∧ (tb < ta ↔ la < lb))) (ac : ha = hc → ((ta < tc ↔ lc < la) ∧ (tc < ta ↔ la < lc))) (ad : ha = hd → ((ta < td ↔ ld < la) ∧ (td < ta ↔ la < ld))) (bc : hb = hc → ((tb < tc ↔ lc < lb) ∧ (tc < tb ↔ lb < lc))) (bd : hb = hd → ((tb < td ↔ ld < lb) ∧ (td < tb ↔ lb < ld))) (cd : hc = hd → ((tc < td ↔ ld < lc) ∧ (td < tc ↔ lc < ld))) :
    NC ha ta hb tb hc tc hd td ∧ Dst ha ta hb tb hc tc hd td := by
  obtain ⟨d1, d2, d3, d4, d5, d6⟩ := D
  refine ⟨?_, ⟨fun z => ?_, fun z => ?_, fun z => ?_, fun z => ?_, fun z => ?_, fun z => ?_⟩⟩
  · unfold NC btw bef at h ⊢
    cases ha <;> cases hb <;> cases hc <;> cases hd <;> simp at d1 d2 d3 d4 d5 d6 ab ac ad bc bd cd h ⊢ <;> omega
  · have := d1 z; have := ab z; omega
  · have := d2 z; have := ac z; omega
  · have := d3 z; have := ad z; omega
  · have := d4 z; have := bc z; omega
  · have := d5 z; have := bd z; omega
  · have := d6 z; have := cd z; omega
/-- no two joints cross, as the layers in the heaps tell it -/
def NCl (c : Int) (N : Nat) (S : Nat → Spot) : Prop := ∀ p q, p ∈ pairsT c N → q ∈ pairsT c N → p ≠ q → p.2.2 = q.2.2 → lineT (S p.1) p.2.2 = lineT (S q.1) q.2.2 → ac p.2.2 (S p.1) = ac q.2.2 (S q.1) → NCp S p q ∧
    Dst (hi p.2.2 (lineT (S p.1) p.2.2) (S p.1)) (S p.1).l (hi p.2.2 (lineT (S p.1) p.2.2) (S p.2.1)) (S p.2.1).l (hi p.2.2 (lineT (S p.1) p.2.2) (S q.1)) (S q.1).l (hi p.2.2 (lineT (S p.1) p.2.2) (S q.2.1)) (S q.2.1).l
theorem ncl_of {P : PileT} {N : Nat} {S : Nat → Spot} {c r : Int} (hc : 1 ≤ c) (hN : c * r = (N : Int)) (M : Mt P N S) (J : Joined c N S) (h : NCs c N S) : NCl c N (layS P S) := by
  intro p q hp hq hne hv hl ha
  have D := dst_of hc hN M.good J hp hq hne hv hl ha
  have nc := h p q hp hq hne hv hl ha
  have Jp := J p hp
  have Jq := J q hq
  have p1 := (pair_cases hp).1
  have q1 := (pair_cases hq).1
  have p2 := pairs_lt2 hc hN hp
  have q2 := pairs_lt2 hc hN hq
  have s1 := line_side (S p.1) p.2.2
  have s2 := back_side (S p.2.1) p.2.2
  have s3 := line_side (S q.1) q.2.2
  have s4 := back_side (S q.2.1) q.2.2
  have c1 := Jp.ac
  have c2 := Jq.ac
  have l1 := Jp.2
  have l2 := Jq.2
  have hl : lineT (S p.1) p.2.2 = lineT (S q.1) q.2.2 := hl
  have ha : ac p.2.2 (S p.1) = ac q.2.2 (S q.1) := ha
  have key : ∀ i j, i < N → j < N → ac p.2.2 (S i) = ac p.2.2 (S j) → (al p.2.2 (S i) = lineT (S p.1) p.2.2 ∨ al p.2.2 (S i) = lineT (S p.1) p.2.2 - 1) → (al p.2.2 (S j) = lineT (S p.1) p.2.2 ∨ al p.2.2 (S j) = lineT (S p.1) p.2.2 - 1) → hi p.2.2 (lineT (S p.1) p.2.2) (S i) = hi p.2.2 (lineT (S p.1) p.2.2) (S j) → (((layS P S i).l < (layS P S j).l ↔ (S j).l < (S i).l) ∧ ((layS P S j).l < (layS P S i).l ↔ (S i).l < (S j).l)) := by
    intro i j hi_ hj hac h1 h2 hh
    have e : (S i).x = (S j).x ∧ (S i).y = (S j).y := by
      unfold hi al Fd.ac at *
      cases hvv : p.2.2 <;> rw [hvv] at hh hac h1 h2 <;> simp at hh hac h1 h2 <;> omega
    exact ⟨lay_lt M hi_ hj e.1 e.2, lay_lt M hj hi_ e.1.symm e.2.symm⟩
  rw [← hv] at s3 s4 c2 l2 hl ha
  exact nc_order D nc (key _ _ p1 p2 c1 s1 (by omega)) (key _ _ p1 q1 ha s1 (by omega)) (key _ _ p1 q2 (by omega) s1 (by omega)) (key _ _ p2 q1 (by omega) (by omega) (by omega)) (key _ _ p2 q2 (by omega) (by omega) (by omega)) (key _ _ q1 q2 c2 (by omega) (by omega))
theorem pairs_nd {c : Int} {N : Nat} : (pairsT c N).Nodup := by
  unfold pairsT
  unfold List.Nodup
  rw [List.pairwise_flatMap]
  refine ⟨fun k _ => ?_, ?_⟩
  · unfold pairsAt
    split <;> split <;> simp
  · refine List.Pairwise.imp ?_ List.nodup_range
    intro a b hab p hp q hq hpq
    subst hpq
    unfold pairsAt at hp hq
    have h1 : p.1 = a := by
      rw [List.mem_append] at hp
      rcases hp with h | h <;> split at h <;> simp at h <;> rw [h]
    have h2 : p.1 = b := by
      rw [List.mem_append] at hq
      rcases hq with h | h <;> split at h <;> simp at h <;> rw [h]
    exact hab (h1.symm.trans h2)
end Fd
set_option Elab.async false
set_option linter.all false
set_option maxRecDepth 100000
set_option maxHeartbeats 8000000
/-! MFU: no fault. -/
namespace Fd
open Bk PySem L2
theorem cut_drop {α : Type} (xs : List α) (k : Nat) (h : k ≤ xs.length) : cut xs (some (k : Int)) none = xs.drop k := by
  unfold cut
  have e1 : HT.sIx xs.length xs.length none = xs.length := rfl
  rw [e1, HT.sIx_nat, Nat.min_eq_left h]
  rw [List.take_of_length_le]
  simp
def foundD (S : Nat → Spot) (p : Nat × Nat × Bool) : D := .tup [.int (p.1 : Int), .int (p.2.1 : Int), plD (S p.1) (S p.2.1) p.2.2]
theorem cross_ncl {c : Int} {N : Nat} {S : Nat → Spot} (J : Joined c N S) (X : NCl c N S) {p q : Nat × Nat × Bool} (hp : p ∈ pairsT c N) (hq : q ∈ pairsT c N) (hne : p ≠ q) : F_cross [plD (S p.1) (S p.2.1) p.2.2, plD (S q.1) (S q.2.1) q.2.2] = .ok (.sh (.bl false)) := by
  by_cases z : p.2.2 = q.2.2 ∧ lineT (S p.1) p.2.2 = lineT (S q.1) q.2.2 ∧ ac p.2.2 (S p.1) = ac q.2.2 (S q.1)
  · have x := X p q hp hq hne z.1 z.2.1 z.2.2
    have := cross_yes p.2.2 (lineT (S p.1) p.2.2) (ac p.2.2 (S p.1)) _ _ _ _ x.2
    have nc := x.1
    unfold NCp at nc
    rw [decide_eq_true nc] at this
    unfold plD
    rw [← z.2.1, ← z.2.2, ← z.1]
    exact this
  · exact ev_cross_no _ _ _ _ _ _ z
abbrev EF (c r W h : Int) (H : D) (at_ : D) (a : Option (Ow × D)) (fd : D) (k first second level place other : Option (Ow × D)) : XEnv := [some (.sh, .int c), some (.sh, .int r), some (.sh, .int W), some (.sh, .int h), some (.sh, H), some (.li .sh, at_), a, some (.li .sh, fd), k, first, second, level, place, other]
theorem ev_fault_ok {c r W h : Int} {H : D} {S : Nat → Spot} (hc : 1 ≤ c) (hr : 1 ≤ r) (hcr : c * r ≤ 64) (hs : F_seated [.int c, .int r, .int W, H] = .ok ⟨.li .sh, false, .lst ((List.range (c * r).toNat).map fun k => spotD (S k))⟩) (J : Joined c (c * r).toNat S) (X : NCl c (c * r).toNat S) :
    F_fault [.int c, .int r, .int W, .int h, H] = .ok (.sh .non) := by
  have bb := sizes_bnd hc hr hcr
  have ep := ev_pairs hc hr hcr
  have hN : c * r = (((c * r).toNat : Nat) : Int) := by omega
  have lt2 := fun p hp => pairs_lt2 (p := p) (r := r) hc hN hp
  have lt1 := fun p hp => (pair_cases (c := c) (N := (c * r).toNat) (p := p) hp).1
  have pl := pairs_len (c := c) (N := (c * r).toNat)
  generalize hNN : (c * r).toNat = N at *
  have atk : ∀ k, k < N → ((List.range N).map fun k => spotD (S k))[k]? = some (spotD (S k)) := fun k hk => by simp [hk]
  have len : ((List.range N).map fun k => spotD (S k)).length = N := by simp
  generalize (List.range N).map (fun k => spotD (S k)) = LS at *
  have n1 : (N : Int) ≤ 100000 := by omega
  have n2 : -100000 ≤ (N : Int) := by omega
  simp [F_fault, hs, ep, len, n1, n2]
  refine rng_fun (fun i env => ∃ u, env = [some (.sh, .int c), some (.sh, .int r), some (.sh, .int W), some (.sh, .int h), some (.sh, H), some (.li .sh, .lst LS), u, none, none, none, none, none, none, none]) ⟨none, rfl⟩ ?_ ?_
  · rintro i env hi ⟨u, rfl⟩
    have a := atk i (by omega)
    simp [a, spotD]
  rintro e2 ⟨u, rfl⟩
  simp [ep]
  refine for_fun (enc := pcD) (pairsT c N) (fun i env => ∃ f s l p, env = EF c r W h H (.lst LS) u (.lst (((pairsT c N).take i).map (foundD S))) none f s l p none) rfl ⟨none, none, none, none, rfl⟩ ?_ ?_
  · rintro i p env hx ⟨f, s, l, pl0, rfl⟩
    have hm := List.mem_of_getElem? hx
    have s1 := atk p.1 (lt1 p hm)
    have s2 := atk p.2.1 (lt2 p hm)
    have em := ev_meets (S p.1) (S p.2.1) p.2.2
    rw [if_pos (J p hm)] at em
    have hi := (List.getElem?_eq_some_iff.mp hx).1
    have tk : ((pairsT c N).take (i + 1)).map (foundD S) = ((pairsT c N).take i).map (foundD S) ++ [foundD S p] := by
      rw [List.take_succ, hx, List.map_append]
      rfl
    have tl : (((pairsT c N).take i).map (foundD S)).length < 100000 := by
      rw [List.length_map, List.length_take]
      omega
    rw [tk]
    unfold foundD at *
    generalize spotD (S p.1) = D1 at *
    generalize spotD (S p.2.1) = D2 at *
    have nn : (plD (S p.1) (S p.2.1) p.2.2).isNon = false := rfl
    generalize plD (S p.1) (S p.2.1) p.2.2 = D3 at *
    generalize ((pairsT c N).take i).map (fun p => D.tup [.int (p.1 : Int), .int (p.2.1 : Int), plD (S p.1) (S p.2.1) p.2.2]) = LF at *
    obtain ⟨p1, p2, pv⟩ := p
    simp [pcD, s1, s2, em, nn, tl]
  rintro e3 ⟨f, s, l, pl0, rfl⟩
  rw [List.take_length]
  have fk : ∀ (k : Nat) p, (pairsT c N)[k]? = some p → ((pairsT c N).map (foundD S))[k]? = some (foundD S p) := fun k p hk => by rw [List.getElem?_map, hk]; rfl
  have q1 : ((pairsT c N).length : Int) ≤ 100000 := by omega
  have q2 : -100000 ≤ ((pairsT c N).length : Int) := by omega
  simp [q1, q2]
  refine rng_fun (fun i env => ∃ k g, env = EF c r W h H (.lst LS) u (.lst ((pairsT c N).map (foundD S))) k f s l pl0 g) ⟨none, none, rfl⟩ ?_ ?_
  · rintro i env hi ⟨k, g, rfl⟩
    have hi2 : i < (pairsT c N).length := by omega
    have hp : (pairsT c N)[i]? = some (pairsT c N)[i] := List.getElem?_eq_getElem hi2
    have f1 := fk i _ hp
    have hm := List.getElem_mem hi2
    have dr := cut_drop ((pairsT c N).map (foundD S)) (i + 1) (by simp; omega)
    rw [show (((i + 1 : Nat)) : Int) = (i : Int) + 1 from by omega, ← List.map_drop] at dr
    have nd := List.pairwise_iff_getElem.mp (pairs_nd (c := c) (N := N))
    have nq : ∀ q ∈ (pairsT c N).drop (i + 1), q ∈ pairsT c N ∧ (pairsT c N)[i] ≠ q := fun q hq => by
      refine ⟨List.mem_of_mem_drop hq, ?_⟩
      obtain ⟨j, hj, e⟩ := List.getElem_of_mem hq
      rw [List.getElem_drop] at e
      rw [← e]
      rw [List.length_drop] at hj
      exact nd _ _ hi2 (by omega) (by omega)
    generalize (pairsT c N)[i] = p at *
    rw [stepO_nm]
    obtain ⟨e2, z1, g2, z2⟩ := for_nx (tg := .nm 13) (bd := xIfS (xT (xCallB F_cross (xVCons (xOp2 pIx (xOp2 pIx (xV 7) (xV 8)) (xC (.int 2))) (xVCons (xOp2 pIx (xV 13) (xC (.int 2))) (xVNil))))) (xRet (xTup (xACons (xC (.str "crossed")) (xACons (xOp2 pIx (xOp2 pIx (xV 7) (xV 8)) (xC (.int 0))) (xACons (xOp2 pIx (xOp2 pIx (xV 7) (xV 8)) (xC (.int 1))) (xACons (xOp2 pIx (xV 13) (xC (.int 0))) (xACons (xOp2 pIx (xV 13) (xC (.int 1))) (xANil)))))))) (xSkip))
      (env := EF c r W h H (.lst LS) u (.lst ((pairsT c N).map (foundD S))) (some (.sh, .int (i : Int))) f s l pl0 g) (enc := foundD S) ((pairsT c N).drop (i + 1)) (fun j env => ∃ g, env = EF c r W h H (.lst LS) u (.lst ((pairsT c N).map (foundD S))) (some (.sh, .int (i : Int))) f s l pl0 g) rfl ⟨g, rfl⟩ (by
        rintro j q env hq ⟨g, rfl⟩
        have hq2 := nq q (List.mem_of_getElem? hq)
        have ex := cross_ncl J X hm hq2.1 hq2.2
        refine ⟨_, ?_, some (.sh, foundD S q), rfl⟩
        unfold foundD at *
        generalize plD (S p.1) (S p.2.1) p.2.2 = D1 at *
        generalize plD (S q.1) (S q.2.1) q.2.2 = D2 at *
        generalize List.map _ (pairsT c N) = LF at *
        simp [f1, ex])
    refine ⟨e2, ?_, some (.sh, .int (i : Int)), g2, z2⟩
    rw [← z1]
    generalize List.map (foundD S) (pairsT c N) = LF at *
    simp [dr]
  · rintro e4 ⟨k, g, rfl⟩
    simp
end Fd
set_option Elab.async false
set_option linter.all false
set_option maxRecDepth 100000
set_option maxHeartbeats 4000000
namespace Fd
open Bk PySem L2
theorem mul_le {a b m n : Int} (h1 : 0 ≤ b) (h2 : a ≤ m) (h3 : b ≤ n) (h4 : 0 ≤ m) : a * b ≤ m * n := Int.le_trans (Int.mul_le_mul_of_nonneg_right h2 h1) (Int.mul_le_mul_of_nonneg_left h3 h4)
theorem ev_sheet_by (cell : Int) : ∃ c r, F_law_sheet_by [.int cell] = .ok (.sh (.tup [.int c, .int r])) ∧ 1 ≤ c ∧ 1 ≤ r ∧ c * r ≤ 64 := by
  have h6 := Int.emod_nonneg (cell / 8) (show (6 : Int) ≠ 0 by omega)
  have h6' := Int.emod_lt_of_pos (cell / 8) (show (0 : Int) < 6 by omega)
  have h5 := Int.emod_nonneg (cell / 8 / 6) (show (5 : Int) ≠ 0 by omega)
  have h5' := Int.emod_lt_of_pos (cell / 8 / 6) (show (0 : Int) < 5 by omega)
  have h40 := Int.emod_nonneg (cell / 8) (show (40 : Int) ≠ 0 by omega)
  have h40' := Int.emod_lt_of_pos (cell / 8) (show (0 : Int) < 40 by omega)
  by_cases q1 : cell % 8 < 5
  · refine ⟨1 + cell / 8 % 6, 1 + cell / 8 / 6 % 5, by simp [F_law_sheet_by, q1], by omega, by omega, ?_⟩
    have := mul_le (a := 1 + cell / 8 % 6) (b := 1 + cell / 8 / 6 % 5) (m := 6) (n := 5) (by omega) (by omega) (by omega) (by omega)
    omega
  · by_cases q2 : cell % 8 = 5
    · exact ⟨1 + cell / 8 % 40, 1, by simp [F_law_sheet_by, q2], by omega, by omega, by omega⟩
    · by_cases q3 : cell % 8 = 6
      · exact ⟨1, 1 + cell / 8 % 40, by simp [F_law_sheet_by, q3], by omega, by omega, by omega⟩
      · have q4 : cell / 8 % 4 = 0 ∨ cell / 8 % 4 = 1 ∨ cell / 8 % 4 = 2 ∨ cell / 8 % 4 = 3 := by omega
        rcases q4 with q4 | q4 | q4 | q4
        · exact ⟨8, 8, by simp [F_law_sheet_by, q1, q2, q3, q4], by omega, by omega, by omega⟩
        · exact ⟨16, 4, by simp [F_law_sheet_by, q1, q2, q3, q4], by omega, by omega, by omega⟩
        · exact ⟨3, 21, by simp [F_law_sheet_by, q1, q2, q3, q4], by omega, by omega, by omega⟩
        · exact ⟨64, 1, by simp [F_law_sheet_by, q1, q2, q3, q4], by omega, by omega, by omega⟩
end Fd
set_option Elab.async false
set_option linter.all false
set_option maxRecDepth 100000
set_option maxHeartbeats 8000000
/-! KA: first hits; the law's seats. -/
namespace Fd
open Bk PySem L2
theorem forGo_step (tg : Tg) (bd : XS) (d : D) (ds : List D) (env : XEnv) : forGo tg bd (d :: ds) env = (match stepO tg bd d env with
  | .next e2 => forGo tg bd ds e2
  | .cont e2 => forGo tg bd ds e2
  | .brk e2 => .next e2
  | o => o) := by
  rw [forGo]
  unfold stepO
  cases tg.put d env <;> rfl
def kLcN : Res (List D) → Res Val
  | .ok xs => .ok ⟨.li (.li .sh), false, .lst xs⟩
  | _ => .bad
@[simp] theorem e_LcN (ws : List Nat) (it : XI) (tg : Tg) (f : XE) (env : XEnv) : xLcN ws it tg f env = (it env).bind fun ds => if ds.length ≤ 100000 then kLcN (lcGo (lcStepN tg f (wipeX env ws)) ds) else .bad := rfl
@[simp] theorem kLcN_ok (xs : List D) : kLcN (.ok xs) = .ok ⟨.li (.li .sh), false, .lst xs⟩ := rfl
/-- a loop that ends at the first hit -/
theorem for_first {tg : Tg} {bd : XS} {α : Type} {enc : α → D} (Q : α → Bool) (V : α → Val) (P : Nat → XEnv → Prop) : ∀ (xs : List α) (n : Nat) (env : XEnv), P n env →
    (∀ i x env, xs[i]? = some x → P (n + i) env → (Q x = true → stepO tg bd (enc x) env = .ret (V x)) ∧ (Q x = false → ∃ e2, stepO tg bd (enc x) env = .next e2 ∧ P (n + i + 1) e2)) →
    (∀ x, xs.find? Q = some x → forGo tg bd (xs.map enc) env = .ret (V x)) ∧ (xs.find? Q = none → ∃ e2, forGo tg bd (xs.map enc) env = .next e2 ∧ P (n + xs.length) e2)
  | [], n, env, h, _ => ⟨fun x z => by simp at z, fun _ => ⟨env, rfl, h⟩⟩
  | x :: xs, n, env, h, k => by
    have kx := k 0 x env rfl h
    rw [List.map_cons, forGo_step, List.find?_cons]
    cases q : Q x with
    | true =>
      rw [kx.1 q]
      exact ⟨fun y z => by cases z; rfl, fun z => by cases z⟩
    | false =>
      obtain ⟨e2, h1, h2⟩ := kx.2 q
      rw [h1]
      have ih := for_first (tg := tg) (bd := bd) (enc := enc) Q V P xs (n + 1) e2 h2 fun i y env hy hp => by
        have e : n + 1 + i = n + (i + 1) := by omega
        rw [e] at hp ⊢
        exact k (i + 1) y env (by simpa using hy) hp
      refine ⟨ih.1, fun z => ?_⟩
      obtain ⟨e3, h3, h4⟩ := ih.2 z
      refine ⟨e3, h3, ?_⟩
      rw [List.length_cons, show n + (xs.length + 1) = n + 1 + xs.length from by omega]
      exact h4
theorem dst_inj {c : Int} {N : Nat} {S : Nat → Spot} (hc : 1 ≤ c) {r : Int} (hN : c * r = (N : Int)) (inj : ∀ j k, j < N → k < N → (S j).x = (S k).x → (S j).y = (S k).y → (S j).l = (S k).l → j = k) (J : Joined c N S) {p q : Nat × Nat × Bool} (hp : p ∈ pairsT c N) (hq : q ∈ pairsT c N) (hne : p ≠ q) (hv : p.2.2 = q.2.2) (hl : lineT (S p.1) p.2.2 = lineT (S q.1) q.2.2) (ha : ac p.2.2 (S p.1) = ac q.2.2 (S q.1)) :
    Dst (hi p.2.2 (lineT (S p.1) p.2.2) (S p.1)) (S p.1).l (hi p.2.2 (lineT (S p.1) p.2.2) (S p.2.1)) (S p.2.1).l (hi p.2.2 (lineT (S p.1) p.2.2) (S q.1)) (S q.1).l (hi p.2.2 (lineT (S p.1) p.2.2) (S q.2.1)) (S q.2.1).l := by
  have Jp := J p hp
  have Jq := J q hq
  have p1 := (pair_cases hp).1
  have q1 := (pair_cases hq).1
  have p2 := pairs_lt2 hc hN hp
  have q2 := pairs_lt2 hc hN hq
  have s1 := line_side (S p.1) p.2.2
  have s2 := back_side (S p.2.1) p.2.2
  have s3 := line_side (S q.1) q.2.2
  have s4 := back_side (S q.2.1) q.2.2
  have c1 := Jp.ac
  have c2 := Jq.ac
  have l1 := Jp.2
  have l2 := Jq.2
  have ne1 := pair_ne hc hp
  have ne2 := pair_ne hc hq
  have ne3 : p.1 ≠ q.1 := fun z => hne (pair_ext hp hq hv (.inl z))
  have ne4 : p.2.1 ≠ q.2.1 := fun z => hne (pair_ext hp hq hv (.inr z))
  have ne5 : p.1 ≠ q.2.1 := fun z => by
    have := line_back (S p.1) p.2.2
    rw [hl, l2, ← z, hv] at this
    exact this rfl
  have ne6 : p.2.1 ≠ q.1 := fun z => by
    have := line_back (S q.1) q.2.2
    rw [← hl, l1, ← z, hv] at this
    exact this rfl
  have key : ∀ i j, i < N → j < N → i ≠ j → ac p.2.2 (S i) = ac p.2.2 (S j) → (al p.2.2 (S i) = lineT (S p.1) p.2.2 ∨ al p.2.2 (S i) = lineT (S p.1) p.2.2 - 1) → (al p.2.2 (S j) = lineT (S p.1) p.2.2 ∨ al p.2.2 (S j) = lineT (S p.1) p.2.2 - 1) → hi p.2.2 (lineT (S p.1) p.2.2) (S i) = hi p.2.2 (lineT (S p.1) p.2.2) (S j) → (S i).l ≠ (S j).l := by
    intro i j hi_ hj hij hac h1 h2 hh hll
    refine hij (inj i j hi_ hj ?_ ?_ hll)
    all_goals
      unfold hi al Fd.ac at *
      cases hvv : p.2.2 <;> rw [hvv] at hh hac h1 h2 <;> simp at hh hac h1 h2 <;> omega
  rw [← hv] at s3 s4 c2 l2 hl ha
  exact ⟨key _ _ p1 p2 ne1 c1 s1 (by omega), key _ _ p1 q1 ne3 ha s1 (by omega), key _ _ p1 q2 ne5 (by omega) s1 (by omega), key _ _ p2 q1 ne6 (by omega) (by omega) (by omega), key _ _ p2 q2 ne4 (by omega) (by omega) (by omega), key _ _ q1 q2 ne2 c2 (by omega) (by omega)⟩
/-- the spot that an entry tells -/
def sE (W : Int) (e : Ent) : Spot := ⟨(e.1 : Int) - (e.1 : Int) / W * W, (e.1 : Int) / W, (e.2.1 : Int), e.2.2.2.1, e.2.2.2.2⟩
theorem entD_sE (W : Int) (e : Ent) : entD W e = spotD (sE W e) := rfl
def sS (W : Int) (es : List Ent) (k : Nat) : Spot := match ofC k es with
  | [e] => sE W e
  | _ => ⟨0, 0, 0, false, false⟩
theorem mem_ents {H : List (List Cell)} {e : Ent} : e ∈ ents H ↔ ∃ h, H[e.1]? = some h ∧ h[e.2.1]? = some e.2.2 := by
  unfold ents
  rw [List.mem_flatMap]
  constructor
  · rintro ⟨⟨h, m⟩, h1, h2⟩
    unfold entH at h2
    obtain ⟨⟨x, j⟩, h3, rfl⟩ := List.mem_map.mp h2
    rw [List.mk_mem_zipIdx_iff_getElem?] at h1 h3
    exact ⟨h, h1, h3⟩
  · rintro ⟨h, h1, h2⟩
    refine ⟨(h, e.1), List.mk_mem_zipIdx_iff_getElem?.mpr h1, ?_⟩
    unfold entH
    exact List.mem_map.mpr ⟨(e.2.2, e.2.1), List.mk_mem_zipIdx_iff_getElem?.mpr h2, rfl⟩
theorem sS_inj {W : Int} {H : List (List Cell)} {j k : Nat} (hj : (ofC j (ents H)).length = 1) (hk : (ofC k (ents H)).length = 1) (hx : (sS W (ents H) j).x = (sS W (ents H) k).x) (hy : (sS W (ents H) j).y = (sS W (ents H) k).y) (hl : (sS W (ents H) j).l = (sS W (ents H) k).l) : j = k := by
  obtain ⟨e1, h1⟩ := List.length_eq_one_iff.mp hj
  obtain ⟨e2, h2⟩ := List.length_eq_one_iff.mp hk
  have m1 : e1 ∈ ofC j (ents H) := by rw [h1]; exact List.mem_singleton.mpr rfl
  have m2 : e2 ∈ ofC k (ents H) := by rw [h2]; exact List.mem_singleton.mpr rfl
  unfold ofC at m1 m2
  rw [List.mem_filter, beq_iff_eq] at m1 m2
  have a1 := mem_ents.mp m1.1
  have a2 := mem_ents.mp m2.1
  unfold sS at hx hy hl
  rw [h1, h2] at hx hy hl
  have hx : (e1.1 : Int) - (e1.1 : Int) / W * W = (e2.1 : Int) - (e2.1 : Int) / W * W := hx
  have hy : (e1.1 : Int) / W = (e2.1 : Int) / W := hy
  have hl : (e1.2.1 : Int) = (e2.2.1 : Int) := hl
  rw [hy] at hx
  have p1 : e1.1 = e2.1 := by omega
  have p2 : e1.2.1 = e2.2.1 := by omega
  obtain ⟨g1, b1, b2⟩ := a1
  obtain ⟨g2, b3, b4⟩ := a2
  rw [p1, b3] at b1
  cases b1
  rw [p2, b4] at b2
  have := Option.some.inj b2
  rw [← m1.2, ← m2.2, this]
def outD (W : Int) (N : Nat) (es : List Ent) : List D := (List.range N).map fun k => .lst ((ofC k es).map (entD W))
theorem out_len {W : Int} {N : Nat} {es : List Ent} : (outD W N es).length = N := by unfold outD; rw [List.length_map, List.length_range]
theorem out_at {W : Int} {N : Nat} {es : List Ent} {k : Nat} (hk : k < N) : (outD W N es)[k]? = some (.lst ((ofC k es).map (entD W))) := by
  unfold outD
  rw [List.getElem?_map, List.getElem?_range hk]
  rfl
theorem out_snoc (W : Int) (N : Nat) (es : List Ent) (e : Ent) (h : e.2.2.1 < N) : (outD W N es).set e.2.2.1 (.lst ((ofC e.2.2.1 es).map (entD W) ++ [entD W e])) = outD W N (es ++ [e]) := by
  unfold outD
  rw [set_range h]
  refine List.map_congr_left fun k _ => ?_
  rw [ofC_snoc]
  by_cases q : k = e.2.2.1
  · subst q
    simp
  · rw [if_neg q, if_neg fun z => q z.symm]
--@ F_law_seated
theorem seat_step (n W m j y : Int) (HD O hx os : List D) (e b : Bool) (k : Nat) (h1 : atI HD m = some (.lst hx)) (h2 : atI hx j = some (.tup [.int y, .bl e, .bl b])) (hk : y = (k : Int)) (ho : O[k]? = some (.lst os)) (hl : os.length < 100000) (w0 : 0 < W) (w1 : W < 100000) (x5 x6 x7 x8 : Option (Ow × D)) :
    stepO (.nm 5) (xSeq (xUnp [6, 7, 8] (xOp2 pIx (xOp2 pIx (xV 2) (xV 4)) (xV 5))) (
  xAppAt 3 (xV 6) (xTup (xACons (xOp2 pMod (xV 4) (xV 1)) (xACons (xOp2 pDiv (xV 4) (xV 1)) (xACons (xV 5) (xACons (xV 7) (xACons (xV 8) (xANil))))))))) (.int j) [some (.sh, .int n), some (.sh, .int W), some (.sh, .lst HD), some (.li (.li .sh), .lst O), some (.sh, .int m), x5, x6, x7, x8] =
    .next [some (.sh, .int n), some (.sh, .int W), some (.sh, .lst HD), some (.li (.li .sh), .lst (O.set k (.lst (os ++ [.tup [.int (m - m / W * W), .int (m / W), .int j, .bl e, .bl b]])))), some (.sh, .int m), some (.sh, .int j), some (.sh, .int y), some (.sh, .bl e), some (.sh, .bl b)] := by
  have hkl : k < O.length := (List.getElem?_eq_some_iff.mp ho).1
  have ix : ixN O.length y = some k := by
    unfold ixN
    rw [if_pos (by omega), if_pos (by omega), hk]
    rfl
  have w2 : W < 1073741824 := by omega
  have em : m % W = m - m / W * W := by rw [Int.emod_def, Int.mul_comm]
  simp [h1, h2, ix, ho, hl, w0, w2, em]
theorem ev_law_seated {W : Int} {N : Nat} {H : List (List Cell)} (n4 : N ≤ 10000) (w0 : 0 < W) (w1 : W < 100000) (hH : ∀ h ∈ H, ∀ x ∈ h, x.1 < N) (hl : H.length ≤ 300) (hh : ∀ h ∈ H, h.length ≤ 300) (n : Int) (hn : n = (N : Int)) :
    F_law_seated [.int n, .int W, .lst (H.map heapD)] = .ok ⟨.li (.li .sh), false, .lst (outD W N (ents H))⟩ := by
  have a1 : n ≤ 100000 := by omega
  have a2 : -100000 ≤ n := by omega
  have a3 : (H.length : Int) ≤ 100000 := by omega
  have a4 : -100000 ≤ (H.length : Int) := by omega
  have aN : (rangeD n).length ≤ 100000 := by
    rw [rangeD_map, List.length_map, List.length_range]
    omega
  have lc1 : ∀ env : XEnv, lcGo (lcStepN (.nm 6) (xLst xANil) env) (rangeD n) = .ok (outD W N []) := fun env => by
    have := lc_range (step := lcStepN (.nm 6) (xLst xANil) env) (n := n) (g := fun _ => .lst []) fun k hk => by simp [lcStepN]
    rw [hn, Int.toNat_natCast] at this
    rw [hn]
    exact this
  simp [F_law_seated, a1, a2, a3, a4, aN, lc1]
  refine rng_fun (fun i env => (∃ x4 x5 x6 x7 x8, env = [some (.sh, .int n), some (.sh, .int W), some (.sh, .lst (H.map heapD)), some (.li (.li .sh), .lst (outD W N (ents (H.take i)))), x4, x5, x6, x7, x8]) ∧ (ents (H.take i)).length ≤ 300 * i) ⟨⟨_, _, _, _, _, rfl⟩, Nat.le_refl _⟩ ?_ ?_
  · rintro i env hi ⟨⟨x4, x5, x6, x7, x8, rfl⟩, hel⟩
    have hi2 : i < H.length := by omega
    have hH2 := hH H[i] (List.getElem_mem _)
    have hh2 := hh H[i] (List.getElem_mem _)
    have hg : (H.map heapD)[i]? = some (heapD H[i]) := by rw [List.getElem?_map, List.getElem?_eq_getElem hi2]; rfl
    have ex := ents_snoc (H.take i) H[i]
    rw [List.take_append_getElem, List.length_take, Nat.min_eq_left (by omega)] at ex
    rw [ex]
    generalize H[i] = hp at *
    generalize ents (H.take i) = E0 at *
    rw [stepO_nm]
    have i1 : atI (H.map heapD) (i : Int) = some (heapD hp) := by rw [atI_cast, hg]
    have b1 : (hp.length : Int) ≤ 100000 := by omega
    have b2 : -100000 ≤ (hp.length : Int) := by omega
    obtain ⟨e2, q1, x5', x6', x7', x8', q2⟩ := rng_nx (tg := .nm 5) (n := (hp.length : Int)) (bd := xSeq (xUnp [6, 7, 8] (xOp2 pIx (xOp2 pIx (xV 2) (xV 4)) (xV 5))) (
        xAppAt 3 (xV 6) (xTup (xACons (xOp2 pMod (xV 4) (xV 1)) (xACons (xOp2 pDiv (xV 4) (xV 1)) (xACons (xV 5) (xACons (xV 7) (xACons (xV 8) (xANil)))))))))
      (env := [some (.sh, .int n), some (.sh, .int W), some (.sh, .lst (H.map heapD)), some (.li (.li .sh), .lst (outD W N E0)), some (.sh, .int (i : Int)), x5, x6, x7, x8])
      (fun j env => ∃ x5 x6 x7 x8, env = [some (.sh, .int n), some (.sh, .int W), some (.sh, .lst (H.map heapD)), some (.li (.li .sh), .lst (outD W N (E0 ++ entH i (hp.take j)))), some (.sh, .int (i : Int)), x5, x6, x7, x8]) ⟨x5, x6, x7, x8, by simp [entH]⟩ (by
        rintro j env hj ⟨x5, x6, x7, x8, rfl⟩
        have hj2 : j < hp.length := by omega
        have hx : hp[j]? = some hp[j] := List.getElem?_eq_getElem hj2
        have hk := hH2 hp[j] (List.getElem_mem _)
        have es := entH_snoc i (hp.take j) hp[j]
        rw [List.take_append_getElem, List.length_take, Nat.min_eq_left (by omega)] at es
        rw [es, ← List.append_assoc]
        have hx2 : atI (hp.map cellD) (j : Int) = some (cellD hp[j]) := by rw [atI_cast, List.getElem?_map, hx]; rfl
        generalize hp[j] = x at *
        have ol : ((ofC x.1 (E0 ++ entH i (hp.take j))).map (entD W)).length < 100000 := by
          rw [List.length_map]
          have l1 := List.length_filter_le (fun e : Ent => e.2.2.1 == x.1) (E0 ++ entH i (hp.take j))
          have l2 : (entH i (hp.take j)).length ≤ 300 := by
            unfold entH
            rw [List.length_map, List.length_zipIdx, List.length_take]
            omega
          rw [List.length_append] at l1
          unfold ofC
          omega
        have st := seat_step n W (i : Int) (j : Int) x.1 (H.map heapD) (outD W N (E0 ++ entH i (hp.take j))) (hp.map cellD) ((ofC x.1 (E0 ++ entH i (hp.take j))).map (entD W)) x.2.1 x.2.2 x.1 i1 hx2 rfl (out_at hk) ol w0 w1 x5 x6 x7 x8
        refine ⟨_, st, some (.sh, .int (j : Int)), some (.sh, .int (x.1 : Int)), some (.sh, .bl x.2.1), some (.sh, .bl x.2.2), ?_⟩
        have l1 := out_snoc W N (E0 ++ entH i (hp.take j)) (i, j, x) hk
        rw [← l1]
        rfl)
    refine ⟨e2, ?_, ?_, ?_⟩
    · rw [← q1]
      generalize outD W N E0 = O at *
      have hg2 : (H.map heapD)[i]? = some (.lst (hp.map cellD)) := hg
      generalize H.map heapD = HD at *
      have ln : ((hp.map cellD).length : Int) = (hp.length : Int) := by rw [List.length_map]
      generalize hp.map cellD = HP at *
      generalize (hp.length : Int) = L at *
      simp [hg2, ln, b1, b2]
    · rw [Int.toNat_natCast, List.take_length] at q2
      exact ⟨_, _, _, _, _, q2⟩
    · rw [List.length_append]
      have l2 : (entH i hp).length = hp.length := by
        unfold entH
        rw [List.length_map, List.length_zipIdx]
      omega
  · rintro e2 ⟨⟨x4, x5, x6, x7, x8, rfl⟩, _⟩
    rw [show H.take ((H.length : Int)).toNat = H from by simp]
    simp
--@
end Fd
set_option Elab.async false
set_option linter.all false
set_option maxRecDepth 100000
set_option maxHeartbeats 8000000
/-! KB: the first fault, as the program and the law look for it. -/
namespace Fd
open Bk PySem L2
abbrev Pr := Nat × Nat × Bool
def natE (k : Nat) : D := .int (k : Int)
theorem rangeE (n : Int) : rangeD n = (List.range n.toNat).map natE := rfl
def badC (es : List Ent) (k : Nat) : Bool := decide ((ofC k es).length ≠ 1)
def tornB (S : Nat → Spot) (p : Pr) : Bool := !decide (MeetOk (S p.1) (S p.2.1) p.2.2)
def sameP (S : Nat → Spot) (p q : Pr) : Prop := p.2.2 = q.2.2 ∧ lineT (S p.1) p.2.2 = lineT (S q.1) q.2.2 ∧ ac p.2.2 (S p.1) = ac q.2.2 (S q.1)
instance (S : Nat → Spot) (p q : Pr) : Decidable (sameP S p q) := by unfold sameP; infer_instance
instance (S : Nat → Spot) (p q : Pr) : Decidable (NCp S p q) := by unfold NCp; infer_instance
def xB (S : Nat → Spot) (p q : Pr) : Bool := decide (sameP S p q) && !decide (NCp S p q)
def cellR (k : Nat) : D := .tup [.str "cell", .int (k : Int)]
def tornR (p : Pr) : D := .tup [.str "torn", .int (p.1 : Int), .int (p.2.1 : Int)]
def crR (p q : Pr) : D := .tup [.str "crossed", .int (p.1 : Int), .int (p.2.1 : Int), .int (q.1 : Int), .int (q.2.1 : Int)]
def qX (S : Nat → Spot) (L : List Pr) (k : Nat) : Bool := match L[k]? with
  | some p => (L.drop (k + 1)).any (xB S p)
  | none => false
def vX (S : Nat → Spot) (L : List Pr) (k : Nat) : D := match L[k]? with
  | some p => match (L.drop (k + 1)).find? (xB S p) with
    | some q => crR p q
    | none => .non
  | none => .non
def resR (W : Int) (es : List Ent) (c : Int) (N : Nat) : D := match (List.range N).find? (badC es) with
  | some k => cellR k
  | none => match (pairsT c N).find? (tornB (sS W es)) with
    | some p => tornR p
    | none => match (List.range (pairsT c N).length).find? (qX (sS W es) (pairsT c N)) with
      | some k => vX (sS W es) (pairsT c N) k
      | none => .non
theorem seat_bad {W : Int} {es : List Ent} {k : Nat} (h : badC es k = true) : seatG W es k = .non := by
  unfold badC at h
  unfold seatG
  have h : (ofC k es).length ≠ 1 := by simpa using h
  match ofC k es, h with
  | [], _ => rfl
  | [_], h => exact (h rfl).elim
  | _ :: _ :: _, _ => rfl
theorem seat_ok {W : Int} {es : List Ent} {k : Nat} (h : badC es k = false) : seatG W es k = spotD (sS W es k) := by
  unfold badC at h
  unfold seatG sS
  have h : (ofC k es).length = 1 := by simpa using h
  match ofC k es, h with
  | [e], _ => rfl
theorem inj_ok {W : Int} {H : List (List Cell)} {N : Nat} (h : ∀ k, k < N → badC (ents H) k = false) : ∀ j k, j < N → k < N → (sS W (ents H) j).x = (sS W (ents H) k).x → (sS W (ents H) j).y = (sS W (ents H) k).y → (sS W (ents H) j).l = (sS W (ents H) k).l → j = k := by
  intro j k hj hk h1 h2 h3
  have a := h j hj
  have b := h k hk
  unfold badC at a b
  exact sS_inj (by simpa using a) (by simpa using b) h1 h2 h3
--@ F_cross F_between
theorem ev_cross_all {c : Int} {N : Nat} {S : Nat → Spot} (hc : 1 ≤ c) {r : Int} (hN : c * r = (N : Int)) (inj : ∀ j k, j < N → k < N → (S j).x = (S k).x → (S j).y = (S k).y → (S j).l = (S k).l → j = k) (J : Joined c N S) {p q : Pr} (hp : p ∈ pairsT c N) (hq : q ∈ pairsT c N) (hne : p ≠ q) : F_cross [plD (S p.1) (S p.2.1) p.2.2, plD (S q.1) (S q.2.1) q.2.2] = .ok (.sh (.bl (xB S p q))) := by
  by_cases z : sameP S p q
  · have x := dst_inj hc hN inj J hp hq hne z.1 z.2.1 z.2.2
    have := cross_yes p.2.2 (lineT (S p.1) p.2.2) (ac p.2.2 (S p.1)) _ _ _ _ x
    have e : xB S p q = !decide (NCp S p q) := by
      unfold xB
      rw [decide_eq_true z]
      rfl
    rw [e]
    unfold plD
    unfold sameP at z
    rw [← z.2.1, ← z.2.2, ← z.1]
    exact this
  · have e : xB S p q = false := by
      unfold xB
      rw [decide_eq_false z]
      rfl
    rw [e]
    exact ev_cross_no _ _ _ _ _ _ z
--@ F_fault F_seated F_pairs F_meets F_cross F_between
theorem fault_turn {S : Nat → Spot} {p q : Pr} (ex : F_cross [plD (S p.1) (S p.2.1) p.2.2, plD (S q.1) (S q.2.1) q.2.2] = .ok (.sh (.bl (xB S p q)))) (LF : List D) (i : Nat) (f1 : LF[i]? = some (foundD S p)) (x0 x1 x2 x3 x4 x5 x6 x9 x10 x11 x12 x13 : Option (Ow × D)) :
    (xB S p q = true → stepO (.nm 13) (xIfS (xT (xCallB F_cross (xVCons (xOp2 pIx (xOp2 pIx (xV 7) (xV 8)) (xC (.int 2))) (xVCons (xOp2 pIx (xV 13) (xC (.int 2))) (xVNil))))) (xRet (xTup (xACons (xC (.str "crossed")) (xACons (xOp2 pIx (xOp2 pIx (xV 7) (xV 8)) (xC (.int 0))) (xACons (xOp2 pIx (xOp2 pIx (xV 7) (xV 8)) (xC (.int 1))) (xACons (xOp2 pIx (xV 13) (xC (.int 0))) (xACons (xOp2 pIx (xV 13) (xC (.int 1))) (xANil)))))))) (xSkip)) (foundD S q) [x0, x1, x2, x3, x4, x5, x6, some (.li .sh, .lst LF), some (.sh, .int (i : Int)), x9, x10, x11, x12, x13] = .ret (.sh (crR p q))) ∧
    (xB S p q = false → stepO (.nm 13) (xIfS (xT (xCallB F_cross (xVCons (xOp2 pIx (xOp2 pIx (xV 7) (xV 8)) (xC (.int 2))) (xVCons (xOp2 pIx (xV 13) (xC (.int 2))) (xVNil))))) (xRet (xTup (xACons (xC (.str "crossed")) (xACons (xOp2 pIx (xOp2 pIx (xV 7) (xV 8)) (xC (.int 0))) (xACons (xOp2 pIx (xOp2 pIx (xV 7) (xV 8)) (xC (.int 1))) (xACons (xOp2 pIx (xV 13) (xC (.int 0))) (xACons (xOp2 pIx (xV 13) (xC (.int 1))) (xANil)))))))) (xSkip)) (foundD S q) [x0, x1, x2, x3, x4, x5, x6, some (.li .sh, .lst LF), some (.sh, .int (i : Int)), x9, x10, x11, x12, x13] = .next [x0, x1, x2, x3, x4, x5, x6, some (.li .sh, .lst LF), some (.sh, .int (i : Int)), x9, x10, x11, x12, some (.sh, foundD S q)]) := by
  unfold foundD crR at *
  generalize plD (S p.1) (S p.2.1) p.2.2 = D1 at *
  generalize plD (S q.1) (S q.2.1) q.2.2 = D2 at *
  generalize xB S p q = b at *
  generalize (p.1 : Int) = pa at *
  generalize (p.2.1 : Int) = pb at *
  generalize (q.1 : Int) = qa at *
  generalize (q.2.1 : Int) = qb at *
  have f2 : atI LF (i : Int) = some (.tup [.int pa, .int pb, D1]) := by rw [atI_cast]; exact f1
  clear f1
  generalize (i : Int) = n at *
  exact ⟨fun h => by simp [f2, ex, h], fun h => by simp [f2, ex, h]⟩
theorem ev_fault_all {c r W h : Int} {H : D} {es : List Ent} (hc : 1 ≤ c) (hr : 1 ≤ r) (hcr : c * r ≤ 64) (hs : F_seated [.int c, .int r, .int W, H] = .ok ⟨.li .sh, false, .lst ((List.range (c * r).toNat).map (seatG W es))⟩)
    (inj : (∀ k, k < (c * r).toNat → badC es k = false) → ∀ j k, j < (c * r).toNat → k < (c * r).toNat → (sS W es j).x = (sS W es k).x → (sS W es j).y = (sS W es k).y → (sS W es j).l = (sS W es k).l → j = k) :
    F_fault [.int c, .int r, .int W, .int h, H] = .ok (.sh (resR W es c (c * r).toNat)) := by
  have bb := sizes_bnd hc hr hcr
  have ep := ev_pairs hc hr hcr
  have hN : c * r = (((c * r).toNat : Nat) : Int) := by omega
  have lt2 := fun p hp => pairs_lt2 (p := p) (r := r) hc hN hp
  have lt1 := fun p hp => (pair_cases (c := c) (N := (c * r).toNat) (p := p) hp).1
  have pl := pairs_len (c := c) (N := (c * r).toNat)
  have nd := List.pairwise_iff_getElem.mp (pairs_nd (c := c) (N := (c * r).toNat))
  generalize hNN : (c * r).toNat = N at *
  have atk : ∀ k, k < N → ((List.range N).map (seatG W es))[k]? = some (seatG W es k) := fun k hk => by simp [hk]
  have len : ((List.range N).map (seatG W es)).length = N := by simp
  generalize (List.range N).map (seatG W es) = LS at *
  have n1 : (N : Int) ≤ 100000 := by omega
  have n2 : -100000 ≤ (N : Int) := by omega
  unfold resR
  have s1 := for_first (tg := .nm 6) (bd := xIfS (xT (xOp2 pIs (xOp2 pIx (xV 5) (xV 6)) (xC .non))) (xRet (xTup (xACons (xC (.str "cell")) (xACons (xV 6) (xANil))))) (xSkip)) (enc := natE) (badC es) (fun k => .sh (cellR k))
    (fun _ env => ∃ u, env = [some (.sh, .int c), some (.sh, .int r), some (.sh, .int W), some (.sh, .int h), some (.sh, H), some (.li .sh, .lst LS), u, none, none, none, none, none, none, none]) (List.range N) 0 [some (.sh, .int c), some (.sh, .int r), some (.sh, .int W), some (.sh, .int h), some (.sh, H), some (.li .sh, .lst LS), none, none, none, none, none, none, none, none] ⟨none, rfl⟩ (by
      rintro i k env hx ⟨u, rfl⟩
      have hk : k < N := List.mem_range.mp (List.mem_of_getElem? hx)
      have a := atk k hk
      have a2 : atI LS (k : Int) = some (seatG W es k) := by rw [atI_cast]; exact a
      unfold natE cellR
      refine ⟨fun q => ?_, fun q => ?_⟩
      · rw [seat_bad q] at a2
        clear a hx
        generalize (k : Int) = n at *
        simp [a2]
      · rw [seat_ok q] at a2
        refine ⟨[some (.sh, .int c), some (.sh, .int r), some (.sh, .int W), some (.sh, .int h), some (.sh, H), some (.li .sh, .lst LS), some (.sh, .int (k : Int)), none, none, none, none, none, none, none], ?_, _, rfl⟩
        clear a hx
        generalize (k : Int) = n at *
        simp [a2, spotD])
  have rd : rangeD (N : Int) = (List.range N).map natE := by rw [rangeE, Int.toNat_natCast]
  cases q1 : (List.range N).find? (badC es) with
  | some k =>
    have e1 := s1.1 k q1
    simp [F_fault, hs, len, n1, n2, rd, e1]
  | none =>
    obtain ⟨e2, e1, u, rfl⟩ := s1.2 q1
    have ok1 : ∀ k, k < N → badC es k = false := fun k hk => by
      have := List.find?_eq_none.mp q1 k (List.mem_range.mpr hk)
      simpa using this
    have inj2 := inj ok1
    have atk2 : ∀ k, k < N → LS[k]? = some (spotD (sS W es k)) := fun k hk => by rw [atk k hk, seat_ok (ok1 k hk)]
    generalize sS W es = S at *
    dsimp only
    have s2 := for_first (tg := .tp [9, 10, 11]) (bd := xSeq (xSet 12 (xCall F_meets (xACons (xOp2 pIx (xV 5) (xV 9)) (xACons (xOp2 pIx (xV 5) (xV 10)) (xACons (xV 11) (xANil)))))) (
      xSeq (xIfS (xT (xOp2 pIs (xV 12) (xC .non))) (xRet (xTup (xACons (xC (.str "torn")) (xACons (xV 9) (xACons (xV 10) (xANil)))))) (xSkip)) (
      xApp 7 (xTup (xACons (xV 9) (xACons (xV 10) (xACons (xV 12) (xANil)))))))) (enc := pcD) (tornB S) (fun p => .sh (tornR p))
      (fun i env => ∃ f s l p, env = EF c r W h H (.lst LS) u (.lst (((pairsT c N).take i).map (foundD S))) none f s l p none) (pairsT c N) 0 (EF c r W h H (.lst LS) u (.lst []) none none none none none none) ⟨none, none, none, none, rfl⟩ (by
        rintro i p env hx ⟨f, s, l, pl0, rfl⟩
        rw [Nat.zero_add]
        have hm := List.mem_of_getElem? hx
        have s1 : atI LS (p.1 : Int) = some (spotD (S p.1)) := by rw [atI_cast]; exact atk2 p.1 (lt1 p hm)
        have s2 : atI LS (p.2.1 : Int) = some (spotD (S p.2.1)) := by rw [atI_cast]; exact atk2 p.2.1 (lt2 p hm)
        have em := ev_meets (S p.1) (S p.2.1) p.2.2
        have hi := (List.getElem?_eq_some_iff.mp hx).1
        have tk : ((pairsT c N).take (i + 1)).map (foundD S) = ((pairsT c N).take i).map (foundD S) ++ [foundD S p] := by
          rw [List.take_succ, hx, List.map_append]
          rfl
        have tl : (((pairsT c N).take i).map (foundD S)).length < 100000 := by
          rw [List.length_map, List.length_take]
          omega
        have tb : tornB S p = !decide (MeetOk (S p.1) (S p.2.1) p.2.2) := rfl
        have nn : (plD (S p.1) (S p.2.1) p.2.2).isNon = false := rfl
        rw [tk]
        unfold foundD tornR pcD at *
        generalize spotD (S p.1) = D1 at *
        generalize spotD (S p.2.1) = D2 at *
        generalize plD (S p.1) (S p.2.1) p.2.2 = D3 at *
        generalize ((pairsT c N).take i).map (fun p => D.tup [.int (p.1 : Int), .int (p.2.1 : Int), plD (S p.1) (S p.2.1) p.2.2]) = LF at *
        refine ⟨fun q => ?_, fun q => ?_⟩
        · rw [q] at tb
          have nm : ¬ MeetOk (S p.1) (S p.2.1) p.2.2 := by simpa using tb.symm
          rw [if_neg nm] at em
          clear tb nm hx hm atk atk2
          generalize (p.1 : Int) = pa at *
          generalize (p.2.1 : Int) = pb at *
          generalize p.2.2 = pv at *
          simp [s1, s2, em]
        · rw [q] at tb
          have nm : MeetOk (S p.1) (S p.2.1) p.2.2 := by simpa using tb.symm
          rw [if_pos nm] at em
          refine ⟨EF c r W h H (.lst LS) u (.lst (LF ++ [.tup [.int (p.1 : Int), .int (p.2.1 : Int), D3]])) none (some (.sh, .int (p.1 : Int))) (some (.sh, .int (p.2.1 : Int))) (some (.sh, .bl p.2.2)) (some (.sh, D3)) none, ?_, _, _, _, _, rfl⟩
          clear tb nm hx hm atk atk2 tk
          generalize (p.1 : Int) = pa at *
          generalize (p.2.1 : Int) = pb at *
          generalize p.2.2 = pv at *
          simp [s1, s2, em, nn, tl])
    cases q2 : (pairsT c N).find? (tornB S) with
    | some p =>
      have e3 := s2.1 p q2
      simp [F_fault, hs, len, n1, n2, rd, e1, ep, e3]
    | none =>
      obtain ⟨e4, e3, f, s, l, pl0, rfl⟩ := s2.2 q2
      rw [Nat.zero_add, List.take_length] at e3
      have J : Joined c N S := fun p hp => by
        have := List.find?_eq_none.mp q2 p hp
        unfold tornB at this
        simpa using this
      dsimp only
      have q3a : ((pairsT c N).length : Int) ≤ 100000 := by omega
      have q3b : -100000 ≤ ((pairsT c N).length : Int) := by omega
      have lf : ((pairsT c N).map (foundD S)).length = (pairsT c N).length := by rw [List.length_map]
      have s3 := for_first (tg := .nm 8) (bd := xFor (.nm 13) (xIList (xSl (xV 7) (xPSome (xOp2 pAdd (xV 8) (xC (.int 1)))) (xPNone))) (xIfS (xT (xCallB F_cross (xVCons (xOp2 pIx (xOp2 pIx (xV 7) (xV 8)) (xC (.int 2))) (xVCons (xOp2 pIx (xV 13) (xC (.int 2))) (xVNil))))) (xRet (xTup (xACons (xC (.str "crossed")) (xACons (xOp2 pIx (xOp2 pIx (xV 7) (xV 8)) (xC (.int 0))) (xACons (xOp2 pIx (xOp2 pIx (xV 7) (xV 8)) (xC (.int 1))) (xACons (xOp2 pIx (xV 13) (xC (.int 0))) (xACons (xOp2 pIx (xV 13) (xC (.int 1))) (xANil)))))))) (xSkip))) (enc := natE) (qX S (pairsT c N)) (fun k => .sh (vX S (pairsT c N) k))
        (fun _ env => ∃ k g, env = EF c r W h H (.lst LS) u (.lst ((pairsT c N).map (foundD S))) k f s l pl0 g) (List.range (pairsT c N).length) 0 (EF c r W h H (.lst LS) u (.lst ((pairsT c N).map (foundD S))) none f s l pl0 none) ⟨none, none, rfl⟩ (by
          rintro i0 i env hx ⟨k, g, rfl⟩
          have hi2 : i < (pairsT c N).length := List.mem_range.mp (List.mem_of_getElem? hx)
          have hp : (pairsT c N)[i]? = some (pairsT c N)[i] := List.getElem?_eq_getElem hi2
          have f1 : ((pairsT c N).map (foundD S))[i]? = some (foundD S (pairsT c N)[i]) := by rw [List.getElem?_map, hp]; rfl
          have hm := List.getElem_mem hi2
          have dr := cut_drop ((pairsT c N).map (foundD S)) (i + 1) (by simp; omega)
          rw [show (((i + 1 : Nat)) : Int) = (i : Int) + 1 from by omega, ← List.map_drop] at dr
          have nq : ∀ q ∈ (pairsT c N).drop (i + 1), q ∈ pairsT c N ∧ (pairsT c N)[i] ≠ q := fun q hq => by
            refine ⟨List.mem_of_mem_drop hq, ?_⟩
            obtain ⟨j, hj, e⟩ := List.getElem_of_mem hq
            rw [List.getElem_drop] at e
            rw [← e]
            rw [List.length_drop] at hj
            exact nd _ _ hi2 (by omega) (by omega)
          have eq_ : qX S (pairsT c N) i = ((pairsT c N).drop (i + 1)).any (xB S (pairsT c N)[i]) := by
            unfold qX
            rw [hp]
          have ev_ : vX S (pairsT c N) i = match ((pairsT c N).drop (i + 1)).find? (xB S (pairsT c N)[i]) with
              | some q => crR (pairsT c N)[i] q
              | none => .non := by
            unfold vX
            rw [hp]
          rw [eq_, ev_]
          generalize (pairsT c N)[i] = p at *
          have s4 := for_first (tg := .nm 13) (bd := xIfS (xT (xCallB F_cross (xVCons (xOp2 pIx (xOp2 pIx (xV 7) (xV 8)) (xC (.int 2))) (xVCons (xOp2 pIx (xV 13) (xC (.int 2))) (xVNil))))) (xRet (xTup (xACons (xC (.str "crossed")) (xACons (xOp2 pIx (xOp2 pIx (xV 7) (xV 8)) (xC (.int 0))) (xACons (xOp2 pIx (xOp2 pIx (xV 7) (xV 8)) (xC (.int 1))) (xACons (xOp2 pIx (xV 13) (xC (.int 0))) (xACons (xOp2 pIx (xV 13) (xC (.int 1))) (xANil)))))))) (xSkip)) (enc := foundD S) (xB S p) (fun q => .sh (crR p q))
            (fun _ env => ∃ g, env = EF c r W h H (.lst LS) u (.lst ((pairsT c N).map (foundD S))) (some (.sh, .int (i : Int))) f s l pl0 g) ((pairsT c N).drop (i + 1)) 0 (EF c r W h H (.lst LS) u (.lst ((pairsT c N).map (foundD S))) (some (.sh, .int (i : Int))) f s l pl0 g) ⟨g, rfl⟩ (by
              rintro j q env hq ⟨g, rfl⟩
              have hq2 := nq q (List.mem_of_getElem? hq)
              have ex := ev_cross_all hc hN inj2 J hm hq2.1 hq2.2
              have tn := fault_turn ex ((pairsT c N).map (foundD S)) i f1 (some (.sh, .int c)) (some (.sh, .int r)) (some (.sh, .int W)) (some (.sh, .int h)) (some (.sh, H)) (some (.li .sh, .lst LS)) u f s l pl0 g
              exact ⟨tn.1, fun z => ⟨_, tn.2 z, _, rfl⟩⟩)
          have opn : stepO (.nm 8) (xFor (.nm 13) (xIList (xSl (xV 7) (xPSome (xOp2 pAdd (xV 8) (xC (.int 1)))) (xPNone))) (xIfS (xT (xCallB F_cross (xVCons (xOp2 pIx (xOp2 pIx (xV 7) (xV 8)) (xC (.int 2))) (xVCons (xOp2 pIx (xV 13) (xC (.int 2))) (xVNil))))) (xRet (xTup (xACons (xC (.str "crossed")) (xACons (xOp2 pIx (xOp2 pIx (xV 7) (xV 8)) (xC (.int 0))) (xACons (xOp2 pIx (xOp2 pIx (xV 7) (xV 8)) (xC (.int 1))) (xACons (xOp2 pIx (xV 13) (xC (.int 0))) (xACons (xOp2 pIx (xV 13) (xC (.int 1))) (xANil)))))))) (xSkip))) (natE i) (EF c r W h H (.lst LS) u (.lst ((pairsT c N).map (foundD S))) k f s l pl0 g) =
              forGo (.nm 13) (xIfS (xT (xCallB F_cross (xVCons (xOp2 pIx (xOp2 pIx (xV 7) (xV 8)) (xC (.int 2))) (xVCons (xOp2 pIx (xV 13) (xC (.int 2))) (xVNil))))) (xRet (xTup (xACons (xC (.str "crossed")) (xACons (xOp2 pIx (xOp2 pIx (xV 7) (xV 8)) (xC (.int 0))) (xACons (xOp2 pIx (xOp2 pIx (xV 7) (xV 8)) (xC (.int 1))) (xACons (xOp2 pIx (xV 13) (xC (.int 0))) (xACons (xOp2 pIx (xV 13) (xC (.int 1))) (xANil)))))))) (xSkip)) (((pairsT c N).drop (i + 1)).map (foundD S)) (EF c r W h H (.lst LS) u (.lst ((pairsT c N).map (foundD S))) (some (.sh, .int (i : Int))) f s l pl0 g) := by
            rw [stepO_nm]
            unfold natE
            generalize (pairsT c N).map (foundD S) = LF at *
            generalize ((pairsT c N).drop (i + 1)).map (foundD S) = LD at *
            simp [dr]
          rw [opn]
          refine ⟨fun z => ?_, fun z => ?_⟩
          · obtain ⟨q, hq⟩ : ∃ q, ((pairsT c N).drop (i + 1)).find? (xB S p) = some q := by
              cases hf : ((pairsT c N).drop (i + 1)).find? (xB S p) with
              | some q => exact ⟨q, rfl⟩
              | none =>
                obtain ⟨q, h1, h2⟩ := List.any_eq_true.mp z
                exact absurd h2 (List.find?_eq_none.mp hf q h1)
            rw [hq]
            exact s4.1 q hq
          · have hf : ((pairsT c N).drop (i + 1)).find? (xB S p) = none := List.find?_eq_none.mpr fun q hq hz => by
              have := List.any_eq_false.mp z q hq
              exact this hz
            obtain ⟨e5, h5, g5, rfl⟩ := s4.2 hf
            exact ⟨_, h5, _, _, rfl⟩)
      have rd2 : rangeD ((pairsT c N).length : Int) = (List.range (pairsT c N).length).map natE := by rw [rangeE, Int.toNat_natCast]
      cases q3 : (List.range (pairsT c N).length).find? (qX S (pairsT c N)) with
      | some k =>
        have e5 := s3.1 k q3
        dsimp only
        generalize vX S (pairsT c N) k = RR at *
        generalize (pairsT c N).map (foundD S) = LF at *
        simp [F_fault, hs, len, n1, n2, rd, e1, ep, e3, lf, q3a, q3b, rd2, e5]
      | none =>
        obtain ⟨e6, e5, k, g, rfl⟩ := s3.2 q3
        generalize (pairsT c N).map (foundD S) = LF at *
        simp [F_fault, hs, len, n1, n2, rd, e1, ep, e3, lf, q3a, q3b, rd2, e5]
--@
end Fd
set_option Elab.async false
set_option linter.all false
set_option maxRecDepth 100000
set_option maxHeartbeats 8000000
/-! KC: the first fault as the law looks for it. -/
namespace Fd
open Bk PySem L2
theorem ev_law_line (s : Spot) (l : Int) (v : Bool) : F_law_line [seatD s l, .bl v] = .ok (.sh (.int (lineT s v))) := by
  obtain ⟨x, y, l2, e, n⟩ := s
  cases v <;> cases e <;> cases n <;> simp [F_law_line, seatD, lineT]
theorem ev_back (s : Spot) (l : Int) (v : Bool) : F_law_back_line [seatD s l, .bl v] = .ok (.sh (.int (backT s v))) := by
  obtain ⟨x, y, l2, e, n⟩ := s
  cases v <;> cases e <;> cases n <;> simp [F_law_back_line, seatD, backT]
theorem ev_meet_all (a b : Spot) (v : Bool) (la lb : Int) : F_law_meet [seatD a la, seatD b lb, .bl v] = .ok (.sh (.bl (decide (MeetOk a b v)))) := by
  have e1 := ev_law_line a la v
  have e2 := ev_back b lb v
  have mo : MeetOk a b v ↔ ((if v = true then a.x = b.x ∧ a.e = b.e else a.y = b.y ∧ a.n = b.n) ∧ lineT a v = backT b v) := Iff.rfl
  have dm : decide (MeetOk a b v) = decide ((if v = true then a.x = b.x ∧ a.e = b.e else a.y = b.y ∧ a.n = b.n) ∧ lineT a v = backT b v) := decide_eq_decide.mpr mo
  rw [dm]
  generalize lineT a v = L1 at *
  generalize backT b v = L2 at *
  clear mo dm
  obtain ⟨x, y, l2, e, n⟩ := a
  obtain ⟨x', y', l2', e', n'⟩ := b
  simp only [seatD] at e1 e2 ⊢
  cases v
  · by_cases q1 : y = y'
    · by_cases q2 : n = n'
      · subst q1 q2
        simp [F_law_meet, e1, e2]
      · have q3 : (n == n') = false := by simp [q2]
        simp [F_law_meet, q1, q2, q3]
    · simp [F_law_meet, q1]
  · by_cases q1 : x = x'
    · by_cases q2 : e = e'
      · subst q1 q2
        simp [F_law_meet, e1, e2]
      · have q3 : (e == e') = false := by simp [q2]
        simp [F_law_meet, q1, q2, q3]
    · simp [F_law_meet, q1]
def atD (S : Nat → Spot) (p : Pr) : D := .tup [.bl p.2.2, .int (lineT (S p.1) p.2.2), .int (ac p.2.2 (S p.1))]
def partD (S : Nat → Spot) (p : Pr) : D := .tup [.lst (sideT false (hi p.2.2 (lineT (S p.1) p.2.2) (S p.1)) (S p.1).l (hi p.2.2 (lineT (S p.1) p.2.2) (S p.2.1)) (S p.2.1).l), .lst (sideT true (hi p.2.2 (lineT (S p.1) p.2.2) (S p.1)) (S p.1).l (hi p.2.2 (lineT (S p.1) p.2.2) (S p.2.1)) (S p.2.1).l)]
def fDue (S : Nat → Spot) (p : Pr) : D := .tup [.int (p.1 : Int), .int (p.2.1 : Int), atD S p, partD S p]
theorem meet_sides {a b : Spot} {v : Bool} (h : MeetOk a b v) : (al v a = lineT a v ∨ al v a = lineT a v - 1) ∧ (al v b = lineT a v ∨ al v b = lineT a v - 1) := by
  have h1 := line_side a v
  have h2 := back_side b v
  have h3 := h.2
  exact ⟨h1, by omega⟩
theorem at_eq {S : Nat → Spot} (p q : Pr) (o o2 : Ow) (b b2 : Bool) : pEq ⟨o, b, atD S p⟩ ⟨o2, b2, atD S q⟩ = .ok (.sh (.bl (decide (sameP S p q)))) := by
  have e : decide (sameP S p q) = (p.2.2 == q.2.2 && (decide (lineT (S p.1) p.2.2 = lineT (S q.1) q.2.2) && (decide (ac p.2.2 (S p.1) = ac q.2.2 (S q.1)) && true))) := by
    rw [Bool.eq_iff_iff, decide_eq_true_eq]
    unfold sameP
    simp
  rw [e]
  unfold atD
  generalize lineT (S p.1) p.2.2 = l1
  generalize lineT (S q.1) q.2.2 = l2
  generalize ac p.2.2 (S p.1) = a1
  generalize ac q.2.2 (S q.1) = a2
  rfl
theorem through_all {c : Int} {N : Nat} {S : Nat → Spot} (hc : 1 ≤ c) {r : Int} (hN : c * r = (N : Int)) (inj : ∀ j k, j < N → k < N → (S j).x = (S k).x → (S j).y = (S k).y → (S j).l = (S k).l → j = k) (J : Joined c N S) {p q : Pr} (hp : p ∈ pairsT c N) (hq : q ∈ pairsT c N) (hne : p ≠ q) (z : sameP S p q) : F_law_through [partD S p, partD S q] = .ok (.sh (.bl (!decide (NCp S p q)))) := by
  have x := dst_inj hc hN inj J hp hq hne z.1 z.2.1 z.2.2
  have := ev_through x
  unfold partD
  unfold sameP at z
  rw [← z.2.1, ← z.1]
  exact this
theorem due_turn {S : Nat → Spot} {p q : Pr} (ex : sameP S p q → F_law_through [partD S p, partD S q] = .ok (.sh (.bl (!decide (NCp S p q))))) (LF : List D) (i : Nat) (f1 : LF[i]? = some (fDue S p)) (x0 x1 x2 x3 x4 x7 x8 x9 x10 x11 x12 x13 : Option (Ow × D)) :
    (xB S p q = true → stepO (.nm 11) (xIfS (xAnd (xT (xOp2 pEq (xOp2 pIx (xOp2 pIx (xV 6) (xV 5)) (xC (.int 2))) (xOp2 pIx (xV 11) (xC (.int 2))))) (xT (xCallB F_law_through (xVCons (xOp2 pIx (xOp2 pIx (xV 6) (xV 5)) (xC (.int 3))) (xVCons (xOp2 pIx (xV 11) (xC (.int 3))) (xVNil)))))) (xRet (xTup (xACons (xC (.str "crossed")) (xACons (xOp2 pIx (xOp2 pIx (xV 6) (xV 5)) (xC (.int 0))) (xACons (xOp2 pIx (xOp2 pIx (xV 6) (xV 5)) (xC (.int 1))) (xACons (xOp2 pIx (xV 11) (xC (.int 0))) (xACons (xOp2 pIx (xV 11) (xC (.int 1))) (xANil)))))))) (xSkip)) (fDue S q) [x0, x1, x2, x3, x4, some (.sh, .int (i : Int)), some (.li .sh, .lst LF), x7, x8, x9, x10, x11, x12, x13] = .ret (.sh (crR p q))) ∧
    (xB S p q = false → stepO (.nm 11) (xIfS (xAnd (xT (xOp2 pEq (xOp2 pIx (xOp2 pIx (xV 6) (xV 5)) (xC (.int 2))) (xOp2 pIx (xV 11) (xC (.int 2))))) (xT (xCallB F_law_through (xVCons (xOp2 pIx (xOp2 pIx (xV 6) (xV 5)) (xC (.int 3))) (xVCons (xOp2 pIx (xV 11) (xC (.int 3))) (xVNil)))))) (xRet (xTup (xACons (xC (.str "crossed")) (xACons (xOp2 pIx (xOp2 pIx (xV 6) (xV 5)) (xC (.int 0))) (xACons (xOp2 pIx (xOp2 pIx (xV 6) (xV 5)) (xC (.int 1))) (xACons (xOp2 pIx (xV 11) (xC (.int 0))) (xACons (xOp2 pIx (xV 11) (xC (.int 1))) (xANil)))))))) (xSkip)) (fDue S q) [x0, x1, x2, x3, x4, some (.sh, .int (i : Int)), some (.li .sh, .lst LF), x7, x8, x9, x10, x11, x12, x13] = .next [x0, x1, x2, x3, x4, some (.sh, .int (i : Int)), some (.li .sh, .lst LF), x7, x8, x9, x10, some (.sh, fDue S q), x12, x13]) := by
  have ae := fun o o2 b b2 => at_eq (S := S) p q o o2 b b2
  have xe : xB S p q = (decide (sameP S p q) && !decide (NCp S p q)) := rfl
  rw [xe]
  unfold fDue crR at *
  generalize atD S p = A1 at *
  generalize atD S q = A2 at *
  generalize partD S p = D1 at *
  generalize partD S q = D2 at *
  generalize decide (NCp S p q) = nc at *
  generalize (p.1 : Int) = pa at *
  generalize (p.2.1 : Int) = pb at *
  generalize (q.1 : Int) = qa at *
  generalize (q.2.1 : Int) = qb at *
  have f2 : atI LF (i : Int) = some (.tup [.int pa, .int pb, A1, D1]) := by rw [atI_cast]; exact f1
  clear f1 xe
  generalize (i : Int) = n at *
  by_cases z : sameP S p q
  · have e2 := ex z
    rw [decide_eq_true z] at ae ⊢
    cases nc
    · exact ⟨fun _ => by simp [f2, ae, e2], fun h => by simp at h⟩
    · exact ⟨fun h => by simp at h, fun _ => by simp [f2, ae, e2]⟩
  · rw [decide_eq_false z] at ae ⊢
    exact ⟨fun h => by simp at h, fun _ => by simp [f2, ae]⟩
end Fd
set_option Elab.async false
set_option linter.all false
set_option maxRecDepth 100000
set_option maxHeartbeats 8000000
/-! KG: the law's due. -/
namespace Fd
open Bk PySem L2
theorem one_ent {W : Int} {es : List Ent} {k : Nat} (h : badC es k = false) : (ofC k es).map (entD W) = [spotD (sS W es k)] := by
  unfold badC at h
  unfold sS
  have h : (ofC k es).length = 1 := by simpa using h
  match ofC k es, h with
  | [e], _ => rfl
abbrev EU (c r W : Int) (H : D) (LO : List D) (k : Option (Ow × D)) (fd : Option (Ow × D)) (a b d e f g h : Option (Ow × D)) : XEnv := [some (.sh, .int c), some (.sh, .int r), some (.sh, .int W), some (.sh, H), some (.sh, .lst LO), k, fd, a, b, d, e, f, g, h]
theorem due_pair {S : Nat → Spot} (c r W : Int) (H : D) (LO LF : List D) (p : Pr) (s1 : LO[p.1]? = some (.lst [spotD (S p.1)])) (s2 : LO[p.2.1]? = some (.lst [spotD (S p.2.1)])) (tl : LF.length < 100000) (k a b d e f g h : Option (Ow × D)) :
    (tornB S p = true → stepO (.tp [7, 8, 9]) (xSeq (xSet 10 (xOp2 pIx (xOp2 pIx (xV 4) (xV 7)) (xC (.int 0)))) (
  xSeq (xSet 11 (xOp2 pIx (xOp2 pIx (xV 4) (xV 8)) (xC (.int 0)))) (
  xSeq (xIfS (xNotB (xT (xCallB F_law_meet (xVCons (xV 10) (xVCons (xV 11) (xVCons (xV 9) (xVNil))))))) (xRet (xTup (xACons (xC (.str "torn")) (xACons (xV 7) (xACons (xV 8) (xANil)))))) (xSkip)) (
  xSeq (xSet 12 (xCallB F_law_line (xVCons (xV 10) (xVCons (xV 9) (xVNil))))) (
  xSeq (xSet 13 (xTup (xACons (xV 9) (xACons (xV 12) (xACons (xOp2 pIx (xV 10) (xOp2 pSub (xC (.int 1)) (xBlt pInt1 (xVCons (xV 9) (xVNil))))) (xANil)))))) (
  xApp 6 (xTup (xACons (xV 7) (xACons (xV 8) (xACons (xV 13) (xACons (xCall F_law_parts (xACons (xV 10) (xACons (xV 11) (xACons (xV 9) (xACons (xV 12) (xANil)))))) (xANil)))))))))))) (pcD p) (EU c r W H LO k (some (.li .sh, .lst LF)) a b d e f g h) = .ret (.sh (tornR p))) ∧
    (tornB S p = false → stepO (.tp [7, 8, 9]) (xSeq (xSet 10 (xOp2 pIx (xOp2 pIx (xV 4) (xV 7)) (xC (.int 0)))) (
  xSeq (xSet 11 (xOp2 pIx (xOp2 pIx (xV 4) (xV 8)) (xC (.int 0)))) (
  xSeq (xIfS (xNotB (xT (xCallB F_law_meet (xVCons (xV 10) (xVCons (xV 11) (xVCons (xV 9) (xVNil))))))) (xRet (xTup (xACons (xC (.str "torn")) (xACons (xV 7) (xACons (xV 8) (xANil)))))) (xSkip)) (
  xSeq (xSet 12 (xCallB F_law_line (xVCons (xV 10) (xVCons (xV 9) (xVNil))))) (
  xSeq (xSet 13 (xTup (xACons (xV 9) (xACons (xV 12) (xACons (xOp2 pIx (xV 10) (xOp2 pSub (xC (.int 1)) (xBlt pInt1 (xVCons (xV 9) (xVNil))))) (xANil)))))) (
  xApp 6 (xTup (xACons (xV 7) (xACons (xV 8) (xACons (xV 13) (xACons (xCall F_law_parts (xACons (xV 10) (xACons (xV 11) (xACons (xV 9) (xACons (xV 12) (xANil)))))) (xANil)))))))))))) (pcD p) (EU c r W H LO k (some (.li .sh, .lst LF)) a b d e f g h) = .next (EU c r W H LO k (some (.li .sh, .lst (LF ++ [fDue S p]))) (some (.sh, .int (p.1 : Int))) (some (.sh, .int (p.2.1 : Int))) (some (.sh, .bl p.2.2)) (some (.sh, spotD (S p.1))) (some (.sh, spotD (S p.2.1))) (some (.sh, .int (lineT (S p.1) p.2.2))) (some (.sh, atD S p)))) := by
  have em : F_law_meet [spotD (S p.1), spotD (S p.2.1), .bl p.2.2] = .ok (.sh (.bl (decide (MeetOk (S p.1) (S p.2.1) p.2.2)))) := ev_meet_all (S p.1) (S p.2.1) p.2.2 (S p.1).l (S p.2.1).l
  have el : F_law_line [spotD (S p.1), .bl p.2.2] = .ok (.sh (.int (lineT (S p.1) p.2.2))) := ev_law_line (S p.1) (S p.1).l p.2.2
  have t1 : atI LO (p.1 : Int) = some (.lst [spotD (S p.1)]) := by rw [atI_cast]; exact s1
  have t2 : atI LO (p.2.1 : Int) = some (.lst [spotD (S p.2.1)]) := by rw [atI_cast]; exact s2
  have tb : tornB S p = !decide (MeetOk (S p.1) (S p.2.1) p.2.2) := rfl
  have pc : pcD p = .tup [.int (p.1 : Int), .int (p.2.1 : Int), .bl p.2.2] := rfl
  have tr : tornR p = .tup [.str "torn", .int (p.1 : Int), .int (p.2.1 : Int)] := rfl
  rw [pc, tr]
  refine ⟨fun q => ?_, fun q => ?_⟩
  · rw [q] at tb
    have nm : decide (MeetOk (S p.1) (S p.2.1) p.2.2) = false := by simpa using tb.symm
    rw [nm] at em
    clear tb nm s1 s2 pc tr q
    generalize spotD (S p.1) = D1 at *
    generalize spotD (S p.2.1) = D2 at *
    generalize (p.1 : Int) = pa at *
    generalize (p.2.1 : Int) = pb at *
    generalize lineT (S p.1) p.2.2 = ln at *
    generalize p.2.2 = pv at *
    simp [t1, t2, em]
  · rw [q] at tb
    have nm : MeetOk (S p.1) (S p.2.1) p.2.2 := by simpa using tb.symm
    have ms := meet_sides nm
    have ep : F_law_parts [spotD (S p.1), spotD (S p.2.1), .bl p.2.2, .int (lineT (S p.1) p.2.2)] = .ok (.sh (partD S p)) := ev_parts (S p.1) (S p.2.1) (S p.1).l (S p.2.1).l p.2.2 _ ms.1 ms.2
    rw [decide_eq_true nm] at em
    have at_ : atD S p = .tup [.bl p.2.2, .int (lineT (S p.1) p.2.2), .int (ac p.2.2 (S p.1))] := rfl
    have fd : fDue S p = .tup [.int (p.1 : Int), .int (p.2.1 : Int), atD S p, partD S p] := rfl
    rw [fd, at_]
    generalize partD S p = PD at *
    have sp : spotD (S p.1) = .tup [.int (S p.1).x, .int (S p.1).y, .int (S p.1).l, .bl (S p.1).e, .bl (S p.1).n] := rfl
    have acx : ac p.2.2 (S p.1) = if p.2.2 = true then (S p.1).x else (S p.1).y := rfl
    rw [acx]
    rw [sp] at t1 em el ep ⊢
    clear tb nm s1 s2 pc tr q ms at_ fd sp acx
    generalize spotD (S p.2.1) = D2 at *
    generalize (p.1 : Int) = pa at *
    generalize (p.2.1 : Int) = pb at *
    generalize lineT (S p.1) p.2.2 = ln at *
    generalize (S p.1).x = sx at *
    generalize (S p.1).y = sy at *
    generalize (S p.1).l = sl at *
    generalize (S p.1).e = se at *
    generalize (S p.1).n = sn at *
    generalize p.2.2 = pv at *
    cases pv <;> simp [t1, t2, em, el, ep, tl]
theorem ev_due_all {c r W : Int} {H : D} {es : List Ent} (hc : 1 ≤ c) (hr : 1 ≤ r) (hcr : c * r ≤ 64) (hs : F_law_seated [.int (c * r), .int W, H] = .ok ⟨.li (.li .sh), false, .lst (outD W (c * r).toNat es)⟩)
    (inj : (∀ k, k < (c * r).toNat → badC es k = false) → ∀ j k, j < (c * r).toNat → k < (c * r).toNat → (sS W es j).x = (sS W es k).x → (sS W es j).y = (sS W es k).y → (sS W es j).l = (sS W es k).l → j = k) :
    F_law_due [.int c, .int r, .int W, H] = .ok (.sh (resR W es c (c * r).toNat)) := by
  have bb := sizes_bnd hc hr hcr
  have ep := ev_near hc hr hcr
  have hN : c * r = (((c * r).toNat : Nat) : Int) := by omega
  have lt2 := fun p hp => pairs_lt2 (p := p) (r := r) hc hN hp
  have lt1 := fun p hp => (pair_cases (c := c) (N := (c * r).toNat) (p := p) hp).1
  have pl := pairs_len (c := c) (N := (c * r).toNat)
  have nd := List.pairwise_iff_getElem.mp (pairs_nd (c := c) (N := (c * r).toNat))
  have b1 : -18446744073709551616 < c := by omega
  have b2 : c < 18446744073709551616 := by omega
  have n1 : c * r ≤ 100000 := by omega
  have n2 : -100000 ≤ c * r := by omega
  generalize hNN : (c * r).toNat = N at *
  have atk : ∀ k, k < N → (outD W N es)[k]? = some (.lst ((ofC k es).map (entD W))) := fun k hk => out_at hk
  generalize outD W N es = LO at *
  unfold resR
  have s1 := for_first (tg := .nm 5) (bd := xIfS (xT (xOp2 pNe (xBlt pLen (xVCons (xOp2 pIx (xV 4) (xV 5)) (xVNil))) (xC (.int 1)))) (xRet (xTup (xACons (xC (.str "cell")) (xACons (xV 5) (xANil))))) (xSkip)) (enc := natE) (badC es) (fun k => .sh (cellR k))
    (fun _ env => ∃ u, env = EU c r W H LO u none none none none none none none none) (List.range N) 0 (EU c r W H LO none none none none none none none none none) ⟨none, rfl⟩ (by
      rintro i k env hx ⟨u, rfl⟩
      have hk : k < N := List.mem_range.mp (List.mem_of_getElem? hx)
      have a2 : atI LO (k : Int) = some (.lst ((ofC k es).map (entD W))) := by rw [atI_cast]; exact atk k hk
      have ln : (((ofC k es).map (entD W)).length : Int) = ((ofC k es).length : Int) := by rw [List.length_map]
      have bd : badC es k = decide ((ofC k es).length ≠ 1) := rfl
      unfold natE cellR
      generalize (ofC k es).map (entD W) = OL at *
      refine ⟨fun q => ?_, fun q => ?_⟩
      · have l1 : ¬ (OL.length : Int) = 1 := by
          rw [q] at bd
          have : (ofC k es).length ≠ 1 := by simpa using bd.symm
          omega
        clear hx bd ln q hk
        generalize (k : Int) = n at *
        generalize hol : (OL.length : Int) = ol at *
        simp [a2, hol, l1]
      · have l1 : (OL.length : Int) = 1 := by
          rw [q] at bd
          have : (ofC k es).length = 1 := by simpa using bd.symm
          omega
        refine ⟨EU c r W H LO (some (.sh, .int (k : Int))) none none none none none none none none, ?_, _, rfl⟩
        clear hx bd ln q hk
        generalize (k : Int) = n at *
        simp [a2, l1])
  have rd : rangeD (c * r) = (List.range N).map natE := by rw [rangeE, hNN]
  cases q1 : (List.range N).find? (badC es) with
  | some k =>
    have e1 := s1.1 k q1
    simp [F_law_due, hs, b1, b2, n1, n2, rd, e1]
  | none =>
    obtain ⟨e2, e1, u, rfl⟩ := s1.2 q1
    have ok1 : ∀ k, k < N → badC es k = false := fun k hk => by
      have := List.find?_eq_none.mp q1 k (List.mem_range.mpr hk)
      simpa using this
    have inj2 := inj ok1
    have atk2 : ∀ k, k < N → LO[k]? = some (.lst [spotD (sS W es k)]) := fun k hk => by rw [atk k hk, one_ent (ok1 k hk)]
    generalize sS W es = S at *
    dsimp only
    have s2 := for_first (tg := .tp [7, 8, 9]) (bd := xSeq (xSet 10 (xOp2 pIx (xOp2 pIx (xV 4) (xV 7)) (xC (.int 0)))) (
  xSeq (xSet 11 (xOp2 pIx (xOp2 pIx (xV 4) (xV 8)) (xC (.int 0)))) (
  xSeq (xIfS (xNotB (xT (xCallB F_law_meet (xVCons (xV 10) (xVCons (xV 11) (xVCons (xV 9) (xVNil))))))) (xRet (xTup (xACons (xC (.str "torn")) (xACons (xV 7) (xACons (xV 8) (xANil)))))) (xSkip)) (
  xSeq (xSet 12 (xCallB F_law_line (xVCons (xV 10) (xVCons (xV 9) (xVNil))))) (
  xSeq (xSet 13 (xTup (xACons (xV 9) (xACons (xV 12) (xACons (xOp2 pIx (xV 10) (xOp2 pSub (xC (.int 1)) (xBlt pInt1 (xVCons (xV 9) (xVNil))))) (xANil)))))) (
  xApp 6 (xTup (xACons (xV 7) (xACons (xV 8) (xACons (xV 13) (xACons (xCall F_law_parts (xACons (xV 10) (xACons (xV 11) (xACons (xV 9) (xACons (xV 12) (xANil)))))) (xANil)))))))))))) (enc := pcD) (tornB S) (fun p => .sh (tornR p))
      (fun i env => ∃ a b d e f g h, env = EU c r W H LO u (some (.li .sh, .lst (((pairsT c N).take i).map (fDue S)))) a b d e f g h) (pairsT c N) 0 (EU c r W H LO u (some (.li .sh, .lst [])) none none none none none none none) ⟨none, none, none, none, none, none, none, rfl⟩ (by
        rintro i p env hx ⟨a, b, d, e, f, g, h, rfl⟩
        rw [Nat.zero_add]
        have hm := List.mem_of_getElem? hx
        have hi := (List.getElem?_eq_some_iff.mp hx).1
        have tk : ((pairsT c N).take (i + 1)).map (fDue S) = ((pairsT c N).take i).map (fDue S) ++ [fDue S p] := by
          rw [List.take_succ, hx, List.map_append]
          rfl
        have tl : (((pairsT c N).take i).map (fDue S)).length < 100000 := by
          rw [List.length_map, List.length_take]
          omega
        have st := due_pair (S := S) c r W H LO (((pairsT c N).take i).map (fDue S)) p (atk2 p.1 (lt1 p hm)) (atk2 p.2.1 (lt2 p hm)) tl u a b d e f g h
        rw [tk]
        exact ⟨st.1, fun q => ⟨_, st.2 q, some (.sh, .int (p.1 : Int)), some (.sh, .int (p.2.1 : Int)), some (.sh, .bl p.2.2), some (.sh, spotD (S p.1)), some (.sh, spotD (S p.2.1)), some (.sh, .int (lineT (S p.1) p.2.2)), some (.sh, atD S p), rfl⟩⟩)
    cases q2 : (pairsT c N).find? (tornB S) with
    | some p =>
      have e3 := s2.1 p q2
      simp [F_law_due, hs, b1, b2, n1, n2, rd, e1, ep, e3]
    | none =>
      obtain ⟨e4, e3, xa, xb, xd, xe, xf, xg, xh, rfl⟩ := s2.2 q2
      rw [Nat.zero_add, List.take_length] at e3
      have J : Joined c N S := fun p hp => by
        have := List.find?_eq_none.mp q2 p hp
        unfold tornB at this
        simpa using this
      dsimp only
      have q3a : ((pairsT c N).length : Int) ≤ 100000 := by omega
      have q3b : -100000 ≤ ((pairsT c N).length : Int) := by omega
      have lf : ((pairsT c N).map (fDue S)).length = (pairsT c N).length := by rw [List.length_map]
      have s3 := for_first (tg := .nm 5) (bd := xFor (.nm 11) (xIList (xSl (xV 6) (xPSome (xOp2 pAdd (xV 5) (xC (.int 1)))) (xPNone))) (xIfS (xAnd (xT (xOp2 pEq (xOp2 pIx (xOp2 pIx (xV 6) (xV 5)) (xC (.int 2))) (xOp2 pIx (xV 11) (xC (.int 2))))) (xT (xCallB F_law_through (xVCons (xOp2 pIx (xOp2 pIx (xV 6) (xV 5)) (xC (.int 3))) (xVCons (xOp2 pIx (xV 11) (xC (.int 3))) (xVNil)))))) (xRet (xTup (xACons (xC (.str "crossed")) (xACons (xOp2 pIx (xOp2 pIx (xV 6) (xV 5)) (xC (.int 0))) (xACons (xOp2 pIx (xOp2 pIx (xV 6) (xV 5)) (xC (.int 1))) (xACons (xOp2 pIx (xV 11) (xC (.int 0))) (xACons (xOp2 pIx (xV 11) (xC (.int 1))) (xANil)))))))) (xSkip))) (enc := natE) (qX S (pairsT c N)) (fun k => .sh (vX S (pairsT c N) k))
        (fun _ env => ∃ k g, env = EU c r W H LO k (some (.li .sh, .lst ((pairsT c N).map (fDue S)))) xa xb xd xe g xg xh) (List.range (pairsT c N).length) 0 (EU c r W H LO u (some (.li .sh, .lst ((pairsT c N).map (fDue S)))) xa xb xd xe xf xg xh) ⟨u, xf, rfl⟩ (by
          rintro i0 i env hx ⟨k, g, rfl⟩
          have hi2 : i < (pairsT c N).length := List.mem_range.mp (List.mem_of_getElem? hx)
          have hp : (pairsT c N)[i]? = some (pairsT c N)[i] := List.getElem?_eq_getElem hi2
          have f1 : ((pairsT c N).map (fDue S))[i]? = some (fDue S (pairsT c N)[i]) := by rw [List.getElem?_map, hp]; rfl
          have hm := List.getElem_mem hi2
          have dr := cut_drop ((pairsT c N).map (fDue S)) (i + 1) (by simp; omega)
          rw [show (((i + 1 : Nat)) : Int) = (i : Int) + 1 from by omega, ← List.map_drop] at dr
          have nq : ∀ q ∈ (pairsT c N).drop (i + 1), q ∈ pairsT c N ∧ (pairsT c N)[i] ≠ q := fun q hq => by
            refine ⟨List.mem_of_mem_drop hq, ?_⟩
            obtain ⟨j, hj, e⟩ := List.getElem_of_mem hq
            rw [List.getElem_drop] at e
            rw [← e]
            rw [List.length_drop] at hj
            exact nd _ _ hi2 (by omega) (by omega)
          have eq_ : qX S (pairsT c N) i = ((pairsT c N).drop (i + 1)).any (xB S (pairsT c N)[i]) := by
            unfold qX
            rw [hp]
          have ev_ : vX S (pairsT c N) i = match ((pairsT c N).drop (i + 1)).find? (xB S (pairsT c N)[i]) with
              | some q => crR (pairsT c N)[i] q
              | none => .non := by
            simp only [vX, hp] <;> rfl
          rw [eq_, ev_]
          generalize (pairsT c N)[i] = p at *
          have s4 := for_first (tg := .nm 11) (bd := xIfS (xAnd (xT (xOp2 pEq (xOp2 pIx (xOp2 pIx (xV 6) (xV 5)) (xC (.int 2))) (xOp2 pIx (xV 11) (xC (.int 2))))) (xT (xCallB F_law_through (xVCons (xOp2 pIx (xOp2 pIx (xV 6) (xV 5)) (xC (.int 3))) (xVCons (xOp2 pIx (xV 11) (xC (.int 3))) (xVNil)))))) (xRet (xTup (xACons (xC (.str "crossed")) (xACons (xOp2 pIx (xOp2 pIx (xV 6) (xV 5)) (xC (.int 0))) (xACons (xOp2 pIx (xOp2 pIx (xV 6) (xV 5)) (xC (.int 1))) (xACons (xOp2 pIx (xV 11) (xC (.int 0))) (xACons (xOp2 pIx (xV 11) (xC (.int 1))) (xANil)))))))) (xSkip)) (enc := fDue S) (xB S p) (fun q => .sh (crR p q))
            (fun _ env => ∃ g, env = EU c r W H LO (some (.sh, .int (i : Int))) (some (.li .sh, .lst ((pairsT c N).map (fDue S)))) xa xb xd xe g xg xh) ((pairsT c N).drop (i + 1)) 0 (EU c r W H LO (some (.sh, .int (i : Int))) (some (.li .sh, .lst ((pairsT c N).map (fDue S)))) xa xb xd xe g xg xh) ⟨g, rfl⟩ (by
              rintro j q env hq ⟨g, rfl⟩
              have hq2 := nq q (List.mem_of_getElem? hq)
              have tn := due_turn (fun z => through_all hc hN inj2 J hm hq2.1 hq2.2 z) ((pairsT c N).map (fDue S)) i f1 (some (.sh, .int c)) (some (.sh, .int r)) (some (.sh, .int W)) (some (.sh, H)) (some (.sh, .lst LO)) xa xb xd xe g xg xh
              exact ⟨tn.1, fun z => ⟨_, tn.2 z, _, rfl⟩⟩)
          have opn : stepO (.nm 5) (xFor (.nm 11) (xIList (xSl (xV 6) (xPSome (xOp2 pAdd (xV 5) (xC (.int 1)))) (xPNone))) (xIfS (xAnd (xT (xOp2 pEq (xOp2 pIx (xOp2 pIx (xV 6) (xV 5)) (xC (.int 2))) (xOp2 pIx (xV 11) (xC (.int 2))))) (xT (xCallB F_law_through (xVCons (xOp2 pIx (xOp2 pIx (xV 6) (xV 5)) (xC (.int 3))) (xVCons (xOp2 pIx (xV 11) (xC (.int 3))) (xVNil)))))) (xRet (xTup (xACons (xC (.str "crossed")) (xACons (xOp2 pIx (xOp2 pIx (xV 6) (xV 5)) (xC (.int 0))) (xACons (xOp2 pIx (xOp2 pIx (xV 6) (xV 5)) (xC (.int 1))) (xACons (xOp2 pIx (xV 11) (xC (.int 0))) (xACons (xOp2 pIx (xV 11) (xC (.int 1))) (xANil)))))))) (xSkip))) (natE i) (EU c r W H LO k (some (.li .sh, .lst ((pairsT c N).map (fDue S)))) xa xb xd xe g xg xh) =
              forGo (.nm 11) (xIfS (xAnd (xT (xOp2 pEq (xOp2 pIx (xOp2 pIx (xV 6) (xV 5)) (xC (.int 2))) (xOp2 pIx (xV 11) (xC (.int 2))))) (xT (xCallB F_law_through (xVCons (xOp2 pIx (xOp2 pIx (xV 6) (xV 5)) (xC (.int 3))) (xVCons (xOp2 pIx (xV 11) (xC (.int 3))) (xVNil)))))) (xRet (xTup (xACons (xC (.str "crossed")) (xACons (xOp2 pIx (xOp2 pIx (xV 6) (xV 5)) (xC (.int 0))) (xACons (xOp2 pIx (xOp2 pIx (xV 6) (xV 5)) (xC (.int 1))) (xACons (xOp2 pIx (xV 11) (xC (.int 0))) (xACons (xOp2 pIx (xV 11) (xC (.int 1))) (xANil)))))))) (xSkip)) (((pairsT c N).drop (i + 1)).map (fDue S)) (EU c r W H LO (some (.sh, .int (i : Int))) (some (.li .sh, .lst ((pairsT c N).map (fDue S)))) xa xb xd xe g xg xh) := by
            rw [stepO_nm]
            unfold natE
            generalize (pairsT c N).map (fDue S) = LF at *
            generalize ((pairsT c N).drop (i + 1)).map (fDue S) = LD at *
            simp [dr]
          rw [opn]
          refine ⟨fun z => ?_, fun z => ?_⟩
          · obtain ⟨q, hq⟩ : ∃ q, ((pairsT c N).drop (i + 1)).find? (xB S p) = some q := by
              cases hf : ((pairsT c N).drop (i + 1)).find? (xB S p) with
              | some q => exact ⟨q, rfl⟩
              | none =>
                obtain ⟨q, h1, h2⟩ := List.any_eq_true.mp z
                exact absurd h2 (List.find?_eq_none.mp hf q h1)
            rw [hq]
            exact s4.1 q hq
          · have hf : ((pairsT c N).drop (i + 1)).find? (xB S p) = none := List.find?_eq_none.mpr fun q hq hz => by
              have := List.any_eq_false.mp z q hq
              exact this hz
            obtain ⟨e5, h5, g5, rfl⟩ := s4.2 hf
            exact ⟨_, h5, _, _, rfl⟩)
      have rd2 : rangeD ((pairsT c N).length : Int) = (List.range (pairsT c N).length).map natE := by rw [rangeE, Int.toNat_natCast]
      cases q3 : (List.range (pairsT c N).length).find? (qX S (pairsT c N)) with
      | some k =>
        have e5 := s3.1 k q3
        dsimp only
        generalize vX S (pairsT c N) k = RR at *
        generalize (pairsT c N).map (fDue S) = LF at *
        simp [F_law_due, hs, b1, b2, n1, n2, rd, e1, ep, e3, lf, q3a, q3b, rd2, e5]
      | none =>
        obtain ⟨e6, e5, k, g, rfl⟩ := s3.2 q3
        generalize (pairsT c N).map (fDue S) = LF at *
        simp [F_law_due, hs, b1, b2, n1, n2, rd, e1, ep, e3, lf, q3a, q3b, rd2, e5]
end Fd
set_option Elab.async false
set_option linter.all false
set_option maxRecDepth 100000
set_option maxHeartbeats 8000000
/-! KH: what is alike; the law's heaps. -/
namespace Fd
open Bk PySem L2
theorem res_form (W : Int) (es : List Ent) (c : Int) (N : Nat) : resR W es c N = .non ∨ (∃ k, resR W es c N = cellR k) ∨ (∃ p, resR W es c N = tornR p) ∨ ∃ p q, resR W es c N = crR p q := by
  unfold resR
  cases q1 : (List.range N).find? (badC es) with
  | some k => exact .inr (.inl ⟨k, rfl⟩)
  | none =>
    dsimp only
    cases q2 : (pairsT c N).find? (tornB (sS W es)) with
    | some p => exact .inr (.inr (.inl ⟨p, rfl⟩))
    | none =>
      dsimp only
      cases q3 : (List.range (pairsT c N).length).find? (qX (sS W es) (pairsT c N)) with
      | none => exact .inl rfl
      | some k =>
        dsimp only
        unfold vX
        cases q4 : (pairsT c N)[k]? with
        | none => exact .inl rfl
        | some p =>
          dsimp only
          cases q5 : ((pairsT c N).drop (k + 1)).find? (xB (sS W es) p) with
          | none => exact .inl rfl
          | some q => exact .inr (.inr (.inr ⟨p, q, rfl⟩))
theorem cut1 {x : D} {xs : List D} : cut (x :: xs) (some 1) none = xs := by
  have := cut_drop (x :: xs) 1 (by simp)
  exact this
theorem slT1 {x y : D} {xs : List D} {b : Bool} : kSlT ⟨.sh, b, .tup (x :: y :: xs)⟩ (some 1) none = .ok (.sh (.tup (y :: xs))) := by
  unfold kSlT
  have n : ¬ (HT.sIx (x :: y :: xs).length 0 (some 1) = 0 ∧ HT.sIx (x :: y :: xs).length (x :: y :: xs).length none = (x :: y :: xs).length) := by
    rintro ⟨h, _⟩
    have e : HT.sIx (x :: y :: xs).length 0 (some ((1 : Nat) : Int)) = min 1 (x :: y :: xs).length := HT.sIx_nat ..
    rw [show (some ((1 : Nat) : Int)) = some (1 : Int) from rfl, h] at e
    simp at e
  show (if HT.sIx (x :: y :: xs).length 0 (some 1) = 0 ∧ HT.sIx (x :: y :: xs).length (x :: y :: xs).length none = (x :: y :: xs).length then Res.bad else Res.ok (Val.sh (.tup (cut (x :: y :: xs) (some 1) none)))) = _
  rw [if_neg n, cut1]
theorem ev_alike (W : Int) (es : List Ent) (c : Int) (N : Nat) : F_law_alike [resR W es c N, resR W es c N] = .ok (.sh (.bl true)) := by
  have ok1 : PyData.strOk (Str.ofString "cell") = true := by decide +kernel
  have ok2 : PyData.strOk (Str.ofString "torn") = true := by decide +kernel
  have ok3 : PyData.strOk (Str.ofString "crossed") = true := by decide +kernel
  have wh : ∀ i : Int, F_law_whole [.int i] = .ok (.sh (.bl true)) := fun i => by simp [F_law_whole]
  rcases res_form W es c N with e | ⟨k, e⟩ | ⟨p, e⟩ | ⟨p, q, e⟩ <;> rw [e]
  · simp [F_law_alike]
  · unfold cellR
    generalize (k : Int) = i
    simp [F_law_alike, slT1, wh, ok1, forGo_step]
  · unfold tornR
    generalize (p.1 : Int) = i
    generalize (p.2.1 : Int) = j
    simp [F_law_alike, slT1, wh, ok2, forGo_step]
  · unfold crR
    generalize (p.1 : Int) = i
    generalize (p.2.1 : Int) = j
    generalize (q.1 : Int) = i2
    generalize (q.2.1 : Int) = j2
    simp [F_law_alike, slT1, wh, ok3, forGo_step]
/-- heaps of cells that are there, none longer than b -/
def Wf (N b : Nat) (L : List (List Cell)) : Prop := ∀ h ∈ L, (∀ x ∈ h, x.1 < N) ∧ h.length ≤ b
theorem Wf.set {N b : Nat} {L : List (List Cell)} (w : Wf N b L) {j : Nat} {h : List Cell} (h1 : (∀ x ∈ h, x.1 < N) ∧ h.length ≤ b) : Wf N b (L.set j h) := by
  intro g hg
  rcases List.mem_or_eq_of_mem_set hg with z | z
  · exact w g z
  · rw [z]; exact h1
theorem Wf.mono {N b b2 : Nat} {L : List (List Cell)} (w : Wf N b L) (h : b ≤ b2) : Wf N b2 L := fun g hg => ⟨(w g hg).1, Nat.le_trans (w g hg).2 h⟩
theorem heaps_set {L : List (List Cell)} {j : Nat} {h : List Cell} : (L.map heapD).set j (heapD h) = (L.set j h).map heapD := by rw [List.map_set]
--@ F_law_heaps
theorem heaps_step (W hh : Int) (SD : D) (O os : List D) (LS : List D) (d y : Int) (k : Nat) (s : Spot) (j : Nat) (hs : LS[k]? = some (spotD s)) (hj : s.y * W + s.x = (j : Int)) (ho : O[j]? = some (.lst os)) (hl : os.length < 100000) (w1 : -18446744073709551616 < W) (w2 : W < 18446744073709551616) (x5 x4 x6 : Option (Ow × D)) :
    stepO (.tp [4, 5]) (xAppAt 3 (xOp2 pAdd (xOp2 pMul (xOp2 pIx (xOp2 pIx (xV 0) (xV 5)) (xC (.int 1))) (xV 1)) (xOp2 pIx (xOp2 pIx (xV 0) (xV 5)) (xC (.int 0)))) (xTup (xACons (xV 5) (xACons (xOp2 pIx (xOp2 pIx (xV 0) (xV 5)) (xC (.int 3))) (xACons (xOp2 pIx (xOp2 pIx (xV 0) (xV 5)) (xC (.int 4))) (xANil)))))) (.tup [.int d, .int (k : Int)]) [some (.sh, .lst LS), some (.sh, .int W), some (.sh, .int hh), some (.li (.li .sh), .lst O), x4, x5, x6] =
    .next [some (.sh, .lst LS), some (.sh, .int W), some (.sh, .int hh), some (.li (.li .sh), .lst (O.set j (.lst (os ++ [.tup [.int (k : Int), .bl s.e, .bl s.n]])))), some (.sh, .int d), some (.sh, .int (k : Int)), x6] := by
  have hjl : j < O.length := (List.getElem?_eq_some_iff.mp ho).1
  have ix : ixN O.length (s.y * W + s.x) = some j := by
    unfold ixN
    rw [if_pos (by omega), if_pos (by omega), hj]
    rfl
  have t1 : atI LS (k : Int) = some (spotD s) := by rw [atI_cast]; exact hs
  clear hs hj
  generalize (k : Int) = n at *
  obtain ⟨x, y2, l, e, nn⟩ := s
  simp only [spotD] at *
  simp [t1, ix, ho, hl, w1, w2]
theorem ev_law_heaps {P : PileT} {N : Nat} {S : Nat → Spot} (M : Mt P N S) : ∃ HL, F_law_heaps [spotsD N S] = .ok ⟨.li (.li .sh), false, .lst (HL.map heapD)⟩ ∧ HL.length = (P.wide * P.high).toNat ∧ Wf N N HL := by
  have n64 := M.n64
  have w1 := M.sh.w1
  have h1 := M.sh.h1
  have w64 := M.sh.w64
  have h64 := M.sh.h64
  have mx := M.maxx (.li .sh) false
  have my := M.maxy (.li .sh) false
  have lx := fun (env : XEnv) (h : 6 < env.length) => lc_x (N := N) (S := S) (env := env) (j := 6) h
  have ly := fun (env : XEnv) (h : 6 < env.length) => lc_y (N := N) (S := S) (env := env) (j := 6) h
  have nl : N ≤ 100000 := by omega
  have m0 : -18446744073709551616 < P.wide := by omega
  have m1 : P.wide < 18446744073709551616 := by omega
  have b0 : 0 ≤ P.wide * P.high := Int.mul_nonneg (by omega) (by omega)
  have b1 : P.wide * P.high ≤ 64 * 64 := Int.mul_le_mul w64 h64 (by omega) (by omega)
  have a1 : P.wide * P.high ≤ 100000 := by omega
  have a2 : -100000 ≤ P.wide * P.high := by omega
  have aN : (rangeD (P.wide * P.high)).length ≤ 100000 := by
    rw [rangeD_map, List.length_map, List.length_range]
    omega
  have c1 : (N : Int) ≤ 100000 := by omega
  have c2 : -100000 ≤ (N : Int) := by omega
  have cN : (rangeD (N : Int)).length ≤ 100000 := by
    rw [rangeD_map, List.length_map, List.length_range, Int.toNat_natCast]
    omega
  have lN : ∀ env : XEnv, lcGo (lcStepN (.nm 5) (xLst xANil) env) (rangeD (P.wide * P.high)) = .ok ((List.range (P.wide * P.high).toNat).map fun _ => .lst []) := fun env =>
    lc_range (step := lcStepN (.nm 5) (xLst xANil) env) (n := P.wide * P.high) (g := fun _ => .lst []) fun k hk => by simp [lcStepN]
  have sp : ∀ k, k < N → ((List.range N).map fun k => spotD (S k))[k]? = some (spotD (S k)) := fun k hk => by simp [hk]
  have lP : ∀ x1 x2 x3 x4 x5 x6, lcGo (lcStep (.nm 5) xYes (xTup (xACons (xOp2 pSub (xC (.int 0)) (xOp2 pIx (xOp2 pIx (xV 0) (xV 5)) (xC (.int 2)))) (xACons (xV 5) (xANil)))) [some (.sh, .lst ((List.range N).map fun k => spotD (S k))), x1, x2, x3, x4, x5, x6]) (rangeD (N : Int)) = .ok (((List.range N).map (kyD S)).map pairD) := fun x1 x2 x3 x4 x5 x6 => by
    rw [List.map_map]
    have := lc_range (step := lcStep (.nm 5) xYes (xTup (xACons (xOp2 pSub (xC (.int 0)) (xOp2 pIx (xOp2 pIx (xV 0) (xV 5)) (xC (.int 2)))) (xACons (xV 5) (xANil)))) [some (.sh, .lst ((List.range N).map fun k => spotD (S k))), x1, x2, x3, x4, x5, x6]) (n := (N : Int)) (g := pairD ∘ kyD S) fun k hk => by
      have s1 : atI ((List.range N).map fun k => spotD (S k)) (k : Int) = some (spotD (S k)) := by rw [atI_cast]; exact sp k (by omega)
      show _ = Res.ok (some (D.tup [.int (0 - (S k).l), .int (k : Int)]))
      generalize (List.range N).map (fun k => spotD (S k)) = LS at *
      generalize (k : Int) = n at *
      simp [lcStep, s1, spotD]
    rw [Int.toNat_natCast] at this
    exact this
  have srt : ∀ b, pSortP [⟨.li .sh, b, .lst (((List.range N).map (kyD S)).map pairD)⟩] = .ok ⟨.li .sh, false, .lst ((psort ((List.range N).map (kyD S))).map pairD)⟩ := fun b => by
    show (match D.pairs (((List.range N).map (kyD S)).map pairD) with
      | some ps => Res.ok (Val.mk (.li .sh) false (.lst ((psort ps).map pairD)))
      | none => .bad) = _
    rw [pairs_map]
  have pm := psort_perm ((List.range N).map (kyD S))
  have pl : (psort ((List.range N).map (kyD S))).length = N := by rw [pm.length_eq, List.length_map, List.length_range]
  have bnd := M.good.bnd
  suffices ∃ HL, (HL.length = (P.wide * P.high).toNat ∧ Wf N N HL) ∧ F_law_heaps [spotsD N S] = .ok ⟨.li (.li .sh), false, .lst (HL.map heapD)⟩ by
    obtain ⟨HL, hp, he⟩ := this
    exact ⟨HL, he, hp⟩
  obtain ⟨e2, q1, HL, x4, x5, q2, q3, q4⟩ := for_nx (tg := .tp [4, 5]) (bd := xAppAt 3 (xOp2 pAdd (xOp2 pMul (xOp2 pIx (xOp2 pIx (xV 0) (xV 5)) (xC (.int 1))) (xV 1)) (xOp2 pIx (xOp2 pIx (xV 0) (xV 5)) (xC (.int 0)))) (xTup (xACons (xV 5) (xACons (xOp2 pIx (xOp2 pIx (xV 0) (xV 5)) (xC (.int 3))) (xACons (xOp2 pIx (xOp2 pIx (xV 0) (xV 5)) (xC (.int 4))) (xANil))))))
    (ds := (psort ((List.range N).map (kyD S))).map pairD) (env := [some (.sh, .lst ((List.range N).map fun k => spotD (S k))), some (.sh, .int P.wide), some (.sh, .int P.high), some (.li (.li .sh), .lst ((List.range (P.wide * P.high).toNat).map fun _ => .lst [])), none, none, none]) (enc := pairD) (psort ((List.range N).map (kyD S)))
    (fun i env => ∃ HL x4 x5, env = [some (.sh, .lst ((List.range N).map fun k => spotD (S k))), some (.sh, .int P.wide), some (.sh, .int P.high), some (.li (.li .sh), .lst (HL.map heapD)), x4, x5, none] ∧ HL.length = (P.wide * P.high).toNat ∧ Wf N i HL) rfl
    ⟨(List.range (P.wide * P.high).toNat).map fun _ => [], none, none, by
      rw [List.map_map]
      rfl, by rw [List.length_map, List.length_range], fun h hh => by
        obtain ⟨_, _, rfl⟩ := List.mem_map.mp hh
        exact ⟨fun x hx => by simp at hx, Nat.le_refl _⟩⟩ (by
      rintro i p env hx ⟨HL, x4, x5, rfl, hlen, wf⟩
      have hi := (List.getElem?_eq_some_iff.mp hx).1
      have hm := pm.mem_iff.mp (List.mem_of_getElem? hx)
      obtain ⟨k, hk, rfl⟩ := List.mem_map.mp hm
      have hk := List.mem_range.mp hk
      have bk := bnd k hk
      have j0 : 0 ≤ (S k).y * P.wide + (S k).x := by
        have := Int.mul_nonneg bk.2.2.1 (show 0 ≤ P.wide by omega)
        omega
      have jb : (S k).y * P.wide + (S k).x < P.wide * P.high := by
        have h1 : ((S k).y + 1) * P.wide ≤ P.high * P.wide := Int.mul_le_mul_of_nonneg_right (by omega) (by omega)
        have h2 : ((S k).y + 1) * P.wide = (S k).y * P.wide + P.wide := by rw [Int.add_mul, Int.one_mul]
        have h3 : P.high * P.wide = P.wide * P.high := Int.mul_comm _ _
        omega
      have hj : (S k).y * P.wide + (S k).x = ((((S k).y * P.wide + (S k).x).toNat : Nat) : Int) := by omega
      have hjl : ((S k).y * P.wide + (S k).x).toNat < HL.length := by omega
      have ho : (HL.map heapD)[((S k).y * P.wide + (S k).x).toNat]? = some (.lst ((HL[((S k).y * P.wide + (S k).x).toNat]).map cellD)) := by
        rw [List.getElem?_map, List.getElem?_eq_getElem hjl]
        rfl
      have wj := wf _ (List.getElem_mem hjl)
      have st := heaps_step P.wide P.high .non (HL.map heapD) _ ((List.range N).map fun k => spotD (S k)) (0 - (S k).l) 0 k (S k) _ (sp k hk) hj ho (by rw [List.length_map]; omega) m0 m1 x5 x4 none
      refine ⟨_, st, HL.set ((S k).y * P.wide + (S k).x).toNat (HL[((S k).y * P.wide + (S k).x).toNat] ++ [cell S k]), some (.sh, .int (0 - (S k).l)), some (.sh, .int (k : Int)), ?_, by rw [List.length_set]; exact hlen, ?_⟩
      · rw [← heaps_set]
        unfold heapD
        rw [List.map_append]
        rfl
      · refine (wf.mono (Nat.le_succ i)).set ⟨fun x hx => ?_, ?_⟩
        · rcases List.mem_append.mp hx with hx | hx
          · exact wj.1 x hx
          · rw [List.mem_singleton] at hx
            rw [hx]
            exact hk
        · rw [List.length_append]
          have := wj.2
          show _ + 1 ≤ i + 1
          omega)
  refine ⟨HL, ⟨q3, by rw [pl] at q4; exact q4⟩, ?_⟩
  subst q2
  unfold spotsD
  have len : ((List.range N).map fun k => spotD (S k)).length = N := by rw [List.length_map, List.length_range]
  have lsl : ((psort ((List.range N).map (kyD S))).map pairD).length ≤ 100000 := by rw [List.length_map, pl]; exact nl
  generalize (psort ((List.range N).map (kyD S))).map pairD = SP at *
  generalize ((List.range N).map (kyD S)).map pairD = KP at *
  generalize hx : (List.range N).map (fun k => D.int (S k).x) = LX at *
  generalize hy : (List.range N).map (fun k => D.int (S k).y) = LY at *
  generalize (List.range N).map (fun k => spotD (S k)) = LS at *
  generalize (List.range (P.wide * P.high).toNat).map (fun _ => D.lst []) = LE at *
  generalize HL.map heapD = HD at *
  have ll : LS.length ≤ 100000 := by omega
  simp [F_law_heaps, ll, nl, lx, ly, mx, my, one_add, m0, m1, a1, a2, aN, lN, len, c1, c2, cN, lP, srt]
  rw [q1]
  simp
--@
end Fd
set_option Elab.async false
set_option linter.all false
set_option maxRecDepth 100000
set_option maxHeartbeats 4000000
/-! KS: the law's body, cut (printed by seg.py). -/
namespace Bk
open PySem L2
def ly7 : XS := (xRetV 4)
def ly6 : XS := xFz 3 (xSeq (xSetI 4 (xOp2 pMod (xOp2 pDiv (xV 1) (xC (.int 7))) (xBlt pLen (xVCons (xV 0) (xVNil)))) (xV 3)) (
  ly7))
def ly5 : XS := xSeq (xSet 4 (xLc [6] (xIList (xV 0)) (.nm 6) (xYes) (xBlt pList (xVCons (xV 6) (xVNil))))) (
  ly6)
def ly4 : XS := xSeq (xIfS (xT (xOp2 pEq (xV 2) (xC (.int 4)))) (xSeq (xSet 5 (xOp2 pMod (xV 1) (xBlt pLen (xVCons (xV 3) (xVNil))))) (xSet 3 (xOp2 pAdd (xSl (xV 3) (xPNone) (xPSome (xV 5))) (xSl (xV 3) (xPSome (xOp2 pAdd (xV 5) (xC (.int 1)))) (xPNone))))) (xSkip)) (
  ly5)
def ly3 : XS := xSeq (xIfS (xT (xOp2 pEq (xV 2) (xC (.int 6)))) (xSet 3 (xOp2 pAdd (xSl (xV 3) (xPSome (xC (.int 1))) (xPNone)) (xSl (xV 3) (xPNone) (xPSome (xC (.int 1)))))) (xSkip)) (
  ly4)
def ly2 : XS := xSeq (xIfS (xAnd (xT (xOp2 pEq (xV 2) (xC (.int 2)))) (xT (xOp2 pGt (xBlt pLen (xVCons (xV 3) (xVNil))) (xC (.int 1))))) (xSeq (xSet 5 (xOp2 pMod (xV 1) (xOp2 pSub (xBlt pLen (xVCons (xV 3) (xVNil))) (xC (.int 1))))) (xSet 3 (xOp2 pAdd (xOp2 pAdd (xSl (xV 3) (xPNone) (xPSome (xV 5))) (xLst (xACons (xOp2 pIx (xV 3) (xOp2 pAdd (xV 5) (xC (.int 1)))) (xACons (xOp2 pIx (xV 3) (xV 5)) (xANil))))) (xSl (xV 3) (xPSome (xOp2 pAdd (xV 5) (xC (.int 2)))) (xPNone))))) (xSkip)) (
  ly3)
def ly1 : XS := xSeq (xIfS (xT (xOp2 pEq (xV 3) (xLst (xANil)))) (xRetV 0) (xSkip)) (
  ly2)
def ly0 : XS := xSeq (xSet 3 (xOp2 pIx (xV 0) (xOp2 pMod (xOp2 pDiv (xV 1) (xC (.int 7))) (xBlt pLen (xVCons (xV 0) (xVNil)))))) (
  ly1)
/-- segment 0 with any rest -/
def lyT0 (T : XS) : XS := xSeq (xSet 3 (xOp2 pIx (xV 0) (xOp2 pMod (xOp2 pDiv (xV 1) (xC (.int 7))) (xBlt pLen (xVCons (xV 0) (xVNil)))))) (
  T)
theorem ly0_eq : ly0 = lyT0 ly1 := rfl
/-- segment 1 with any rest -/
def lyT1 (T : XS) : XS := xSeq (xIfS (xT (xOp2 pEq (xV 3) (xLst (xANil)))) (xRetV 0) (xSkip)) (
  T)
theorem ly1_eq : ly1 = lyT1 ly2 := rfl
/-- segment 2 with any rest -/
def lyT2 (T : XS) : XS := xSeq (xIfS (xAnd (xT (xOp2 pEq (xV 2) (xC (.int 2)))) (xT (xOp2 pGt (xBlt pLen (xVCons (xV 3) (xVNil))) (xC (.int 1))))) (xSeq (xSet 5 (xOp2 pMod (xV 1) (xOp2 pSub (xBlt pLen (xVCons (xV 3) (xVNil))) (xC (.int 1))))) (xSet 3 (xOp2 pAdd (xOp2 pAdd (xSl (xV 3) (xPNone) (xPSome (xV 5))) (xLst (xACons (xOp2 pIx (xV 3) (xOp2 pAdd (xV 5) (xC (.int 1)))) (xACons (xOp2 pIx (xV 3) (xV 5)) (xANil))))) (xSl (xV 3) (xPSome (xOp2 pAdd (xV 5) (xC (.int 2)))) (xPNone))))) (xSkip)) (
  T)
theorem ly2_eq : ly2 = lyT2 ly3 := rfl
/-- segment 3 with any rest -/
def lyT3 (T : XS) : XS := xSeq (xIfS (xT (xOp2 pEq (xV 2) (xC (.int 6)))) (xSet 3 (xOp2 pAdd (xSl (xV 3) (xPSome (xC (.int 1))) (xPNone)) (xSl (xV 3) (xPNone) (xPSome (xC (.int 1)))))) (xSkip)) (
  T)
theorem ly3_eq : ly3 = lyT3 ly4 := rfl
/-- segment 4 with any rest -/
def lyT4 (T : XS) : XS := xSeq (xIfS (xT (xOp2 pEq (xV 2) (xC (.int 4)))) (xSeq (xSet 5 (xOp2 pMod (xV 1) (xBlt pLen (xVCons (xV 3) (xVNil))))) (xSet 3 (xOp2 pAdd (xSl (xV 3) (xPNone) (xPSome (xV 5))) (xSl (xV 3) (xPSome (xOp2 pAdd (xV 5) (xC (.int 1)))) (xPNone))))) (xSkip)) (
  T)
theorem ly4_eq : ly4 = lyT4 ly5 := rfl
/-- segment 5 with any rest -/
def lyT5 (T : XS) : XS := xSeq (xSet 4 (xLc [6] (xIList (xV 0)) (.nm 6) (xYes) (xBlt pList (xVCons (xV 6) (xVNil))))) (
  T)
theorem ly5_eq : ly5 = lyT5 ly6 := rfl
/-- segment 6 with any rest -/
def lyT6 (T : XS) : XS := xFz 3 (xSeq (xSetI 4 (xOp2 pMod (xOp2 pDiv (xV 1) (xC (.int 7))) (xBlt pLen (xVCons (xV 0) (xVNil)))) (xV 3)) (
  T))
theorem ly6_eq : ly6 = lyT6 ly7 := rfl
theorem law_layers_seg (d0 d1 d2 : D) : F_law_layers [d0, d1, d2] = kFun (ly0 [some (.sh, d0), some (.sh, d1), some (.sh, d2), none, none, none, none]) := rfl
end Bk
set_option Elab.async false
set_option linter.all false
set_option maxRecDepth 100000
set_option maxHeartbeats 4000000
/-! KS: the law's body, cut (printed by seg.py). -/
namespace Bk
open PySem L2
def sp7 : XS := xFz 4 ((xRet (xCall F_law_layers (xACons (xV 4) (xACons (xV 1) (xACons (xV 2) (xANil)))))))
def sp6 : XS := xSeq (xIfS (xT (xOp2 pEq (xV 2) (xC (.int 7)))) (xSeq (xSet 10 (xOp2 pMod (xV 1) (xBlt pLen (xVCons (xV 4) (xVNil))))) (xSeq (xSet 11 (xOp2 pMod (xOp2 pDiv (xV 1) (xC (.int 29))) (xBlt pLen (xVCons (xV 4) (xVNil))))) (xFz 4 (xRet (xLc [16] (xIRange (xVCons (xBlt pLen (xVCons (xV 4) (xVNil))) (xVNil))) (.nm 16) (xYes) (xIf (xT (xOp2 pEq (xV 16) (xV 10))) (xOp2 pIx (xV 4) (xV 11)) (xIf (xT (xOp2 pEq (xV 16) (xV 11))) (xOp2 pIx (xV 4) (xV 10)) (xOp2 pIx (xV 4) (xV 16))))))))) (xSkip)) (
  sp7)
def sp5 : XS := xSeq (xIfS (xT (xOp2 pEq (xV 2) (xC (.int 5)))) (xSeq (xInsAt 4 (xOp2 pMod (xOp2 pDiv (xV 1) (xC (.int 7))) (xBlt pLen (xVCons (xV 4) (xVNil)))) (xOp2 pMul (xOp2 pMod (xV 1) (xC (.int 2))) (xBlt pLen (xVCons (xOp2 pIxO (xV 4) (xOp2 pMod (xOp2 pDiv (xV 1) (xC (.int 7))) (xBlt pLen (xVCons (xV 4) (xVNil))))) (xVNil)))) (xTup (xACons (xOp2 pMod (xV 1) (xV 3)) (xACons (xC (.bl false)) (xACons (xC (.bl true)) (xANil)))))) (xRetV 4)) (xSkip)) (
  sp6)
def sp4 : XS := xSeq (xIfS (xT (xOp2 pEq (xV 2) (xC (.int 9)))) (xSeq (xSetN 4 (xOp2 pMod (xOp2 pDiv (xV 1) (xC (.int 7))) (xBlt pLen (xVCons (xV 4) (xVNil)))) (xLst (xANil))) (xRetV 4)) (xSkip)) (
  sp5)
def sp3 : XS := xSeq (xIfS (xT (xOp2 pEq (xV 2) (xC (.int 8)))) (xSeq (xSet 5 (xOp2 pMod (xV 1) (xV 3))) (xSeq (xSet 6 (xOp2 pMod (xOp2 pDiv (xV 1) (xC (.int 29))) (xV 3))) (xFz 4 (xRet (xLc [13] (xIList (xV 4)) (.nm 13) (xYes) (xLc [12] (xIList (xV 13)) (.nm 12) (xYes) (xTup (xACons (xIf (xT (xOp2 pEq (xOp2 pIx (xV 12) (xC (.int 0))) (xV 6))) (xV 5) (xOp2 pIx (xV 12) (xC (.int 0)))) (xACons (xOp2 pIx (xV 12) (xC (.int 1))) (xACons (xOp2 pIx (xV 12) (xC (.int 2))) (xANil))))))))))) (xSkip)) (
  sp4)
def sp2 : XS := xSeq (xIfS (xT (xOp2 pEq (xV 2) (xC (.int 3)))) (xSeq (xSet 8 (xOp2 pMod (xV 1) (xV 3))) (xSeq (xSet 9 (xOp2 pEq (xOp2 pMod (xOp2 pDiv (xV 1) (xC (.int 29))) (xC (.int 2))) (xC (.int 1)))) (xFz 4 (xRet (xLc [13] (xIList (xV 4)) (.nm 13) (xYes) (xLc [10, 14, 15] (xIList (xV 13)) (.tp [10, 14, 15]) (xYes) (xTup (xACons (xV 10) (xACons (xOp2 pNe (xV 14) (xAndV (xOp2 pEq (xV 10) (xV 8)) (xV 9))) (xACons (xOp2 pNe (xV 15) (xAndV (xOp2 pEq (xV 10) (xV 8)) (xNotV (xV 9)))) (xANil))))))))))) (xSkip)) (
  sp3)
def sp1 : XS := xSeq (xIfS (xT (xOp2 pEq (xV 2) (xC (.int 1)))) (xSeq (xSet 5 (xOp2 pMod (xV 1) (xV 3))) (xSeq (xSet 6 (xOp2 pMod (xOp2 pDiv (xV 1) (xC (.int 29))) (xV 3))) (xSeq (xSet 7 (xLc [10] (xIRange (xVCons (xV 3) (xVNil))) (.nm 10) (xYes) (xIf (xT (xOp2 pEq (xV 10) (xV 5))) (xV 6) (xIf (xT (xOp2 pEq (xV 10) (xV 6))) (xV 5) (xV 10))))) (xFz 4 (xRet (xLc [13] (xIList (xV 4)) (.nm 13) (xYes) (xLc [12] (xIList (xV 13)) (.nm 12) (xYes) (xTup (xACons (xOp2 pIx (xV 7) (xOp2 pIx (xV 12) (xC (.int 0)))) (xACons (xOp2 pIx (xV 12) (xC (.int 1))) (xACons (xOp2 pIx (xV 12) (xC (.int 2))) (xANil)))))))))))) (xSkip)) (
  sp2)
def sp0 : XS := xSeq (xSet 4 (xLcN [12] (xIList (xV 0)) (.nm 12) (xBlt pList (xVCons (xV 12) (xVNil))))) (
  sp1)
/-- segment 0 with any rest -/
def spT0 (T : XS) : XS := xSeq (xSet 4 (xLcN [12] (xIList (xV 0)) (.nm 12) (xBlt pList (xVCons (xV 12) (xVNil))))) (
  T)
theorem sp0_eq : sp0 = spT0 sp1 := rfl
/-- segment 1 with any rest -/
def spT1 (T : XS) : XS := xSeq (xIfS (xT (xOp2 pEq (xV 2) (xC (.int 1)))) (xSeq (xSet 5 (xOp2 pMod (xV 1) (xV 3))) (xSeq (xSet 6 (xOp2 pMod (xOp2 pDiv (xV 1) (xC (.int 29))) (xV 3))) (xSeq (xSet 7 (xLc [10] (xIRange (xVCons (xV 3) (xVNil))) (.nm 10) (xYes) (xIf (xT (xOp2 pEq (xV 10) (xV 5))) (xV 6) (xIf (xT (xOp2 pEq (xV 10) (xV 6))) (xV 5) (xV 10))))) (xFz 4 (xRet (xLc [13] (xIList (xV 4)) (.nm 13) (xYes) (xLc [12] (xIList (xV 13)) (.nm 12) (xYes) (xTup (xACons (xOp2 pIx (xV 7) (xOp2 pIx (xV 12) (xC (.int 0)))) (xACons (xOp2 pIx (xV 12) (xC (.int 1))) (xACons (xOp2 pIx (xV 12) (xC (.int 2))) (xANil)))))))))))) (xSkip)) (
  T)
theorem sp1_eq : sp1 = spT1 sp2 := rfl
/-- segment 2 with any rest -/
def spT2 (T : XS) : XS := xSeq (xIfS (xT (xOp2 pEq (xV 2) (xC (.int 3)))) (xSeq (xSet 8 (xOp2 pMod (xV 1) (xV 3))) (xSeq (xSet 9 (xOp2 pEq (xOp2 pMod (xOp2 pDiv (xV 1) (xC (.int 29))) (xC (.int 2))) (xC (.int 1)))) (xFz 4 (xRet (xLc [13] (xIList (xV 4)) (.nm 13) (xYes) (xLc [10, 14, 15] (xIList (xV 13)) (.tp [10, 14, 15]) (xYes) (xTup (xACons (xV 10) (xACons (xOp2 pNe (xV 14) (xAndV (xOp2 pEq (xV 10) (xV 8)) (xV 9))) (xACons (xOp2 pNe (xV 15) (xAndV (xOp2 pEq (xV 10) (xV 8)) (xNotV (xV 9)))) (xANil))))))))))) (xSkip)) (
  T)
theorem sp2_eq : sp2 = spT2 sp3 := rfl
/-- segment 3 with any rest -/
def spT3 (T : XS) : XS := xSeq (xIfS (xT (xOp2 pEq (xV 2) (xC (.int 8)))) (xSeq (xSet 5 (xOp2 pMod (xV 1) (xV 3))) (xSeq (xSet 6 (xOp2 pMod (xOp2 pDiv (xV 1) (xC (.int 29))) (xV 3))) (xFz 4 (xRet (xLc [13] (xIList (xV 4)) (.nm 13) (xYes) (xLc [12] (xIList (xV 13)) (.nm 12) (xYes) (xTup (xACons (xIf (xT (xOp2 pEq (xOp2 pIx (xV 12) (xC (.int 0))) (xV 6))) (xV 5) (xOp2 pIx (xV 12) (xC (.int 0)))) (xACons (xOp2 pIx (xV 12) (xC (.int 1))) (xACons (xOp2 pIx (xV 12) (xC (.int 2))) (xANil))))))))))) (xSkip)) (
  T)
theorem sp3_eq : sp3 = spT3 sp4 := rfl
/-- segment 4 with any rest -/
def spT4 (T : XS) : XS := xSeq (xIfS (xT (xOp2 pEq (xV 2) (xC (.int 9)))) (xSeq (xSetN 4 (xOp2 pMod (xOp2 pDiv (xV 1) (xC (.int 7))) (xBlt pLen (xVCons (xV 4) (xVNil)))) (xLst (xANil))) (xRetV 4)) (xSkip)) (
  T)
theorem sp4_eq : sp4 = spT4 sp5 := rfl
/-- segment 5 with any rest -/
def spT5 (T : XS) : XS := xSeq (xIfS (xT (xOp2 pEq (xV 2) (xC (.int 5)))) (xSeq (xInsAt 4 (xOp2 pMod (xOp2 pDiv (xV 1) (xC (.int 7))) (xBlt pLen (xVCons (xV 4) (xVNil)))) (xOp2 pMul (xOp2 pMod (xV 1) (xC (.int 2))) (xBlt pLen (xVCons (xOp2 pIxO (xV 4) (xOp2 pMod (xOp2 pDiv (xV 1) (xC (.int 7))) (xBlt pLen (xVCons (xV 4) (xVNil))))) (xVNil)))) (xTup (xACons (xOp2 pMod (xV 1) (xV 3)) (xACons (xC (.bl false)) (xACons (xC (.bl true)) (xANil)))))) (xRetV 4)) (xSkip)) (
  T)
theorem sp5_eq : sp5 = spT5 sp6 := rfl
/-- segment 6 with any rest -/
def spT6 (T : XS) : XS := xSeq (xIfS (xT (xOp2 pEq (xV 2) (xC (.int 7)))) (xSeq (xSet 10 (xOp2 pMod (xV 1) (xBlt pLen (xVCons (xV 4) (xVNil))))) (xSeq (xSet 11 (xOp2 pMod (xOp2 pDiv (xV 1) (xC (.int 29))) (xBlt pLen (xVCons (xV 4) (xVNil))))) (xFz 4 (xRet (xLc [16] (xIRange (xVCons (xBlt pLen (xVCons (xV 4) (xVNil))) (xVNil))) (.nm 16) (xYes) (xIf (xT (xOp2 pEq (xV 16) (xV 10))) (xOp2 pIx (xV 4) (xV 11)) (xIf (xT (xOp2 pEq (xV 16) (xV 11))) (xOp2 pIx (xV 4) (xV 10)) (xOp2 pIx (xV 4) (xV 16))))))))) (xSkip)) (
  T)
theorem sp6_eq : sp6 = spT6 sp7 := rfl
theorem law_spoilt_seg (d0 d1 d2 d3 : D) : F_law_spoilt [d0, d1, d2, d3] = kFun (sp0 [some (.sh, d0), some (.sh, d1), some (.sh, d2), some (.sh, d3), none, none, none, none, none, none, none, none, none, none, none, none, none]) := rfl
end Bk
set_option Elab.async false
set_option linter.all false
set_option maxRecDepth 100000
set_option maxHeartbeats 8000000
/-! KI: heaps spoilt. -/
namespace Fd
open Bk PySem L2
theorem pigeon : ∀ (n : Nat) (L : List Nat), (∀ i, i < n → i ∈ L) → n ≤ L.length
  | 0, _, _ => Nat.zero_le _
  | n + 1, L, h => by
    have hn := h n (Nat.lt_succ_self n)
    have ih := pigeon n (L.erase n) fun i hi => (List.mem_erase_of_ne (by omega)).mpr (h i (by omega))
    rw [List.length_erase_of_mem hn] at ih
    have := List.length_pos_of_mem hn
    omega
theorem places_le {P : PileT} {N : Nat} {S : Nat → Spot} (M : Mt P N S) : (P.wide * P.high).toNat ≤ N ∧ 1 ≤ (P.wide * P.high).toNat := by
  have w1 := M.sh.w1
  have h1 := M.sh.h1
  have b0 : 1 ≤ P.wide * P.high := by
    have := Int.mul_le_mul w1 h1 (by omega) (by omega)
    omega
  refine ⟨?_, by omega⟩
  have := pigeon (P.wide * P.high).toNat ((List.range N).map fun k => ((S k).y * P.wide + (S k).x).toNat) fun i hi => by
    have q1 := Int.emod_nonneg (i : Int) (show P.wide ≠ 0 by omega)
    have q2 := Int.emod_lt_of_pos (i : Int) (show 0 < P.wide by omega)
    have q3 : (i : Int) / P.wide < P.high := Int.ediv_lt_of_lt_mul (by omega) (by rw [Int.mul_comm]; omega)
    have q4 : 0 ≤ (i : Int) / P.wide := Int.ediv_nonneg (by omega) (by omega)
    obtain ⟨k, hk, e1, e2⟩ := M.good.full _ _ q1 q2 q4 q3
    refine List.mem_map.mpr ⟨k, List.mem_range.mpr hk, ?_⟩
    rw [e1, e2]
    have := Int.mul_ediv_add_emod (i : Int) P.wide
    have e : (i : Int) / P.wide * P.wide = P.wide * ((i : Int) / P.wide) := Int.mul_comm _ _
    omega
  rw [List.length_map, List.length_range] at this
  exact this
theorem p_EqNil {xs : List D} {o o2 : Ow} {b b2 : Bool} (h : xs.all (D.fine 5) = true) : pEq ⟨o, b, .lst xs⟩ ⟨o2, b2, .lst []⟩ = .ok (.sh (.bl xs.isEmpty)) := by
  rw [p_EqLL, fine_l, fine_l, h]
  cases xs <;> rfl
theorem cells_fine (h : List Cell) : (h.map cellD).all (D.fine 5) = true := by
  rw [List.all_map, List.all_eq_true]
  intro f _
  simp [cellD]
theorem mem_cut {α : Type} {xs : List α} {l h : Option Int} {x : α} (hx : x ∈ cut xs l h) : x ∈ xs := by
  unfold cut at hx
  exact List.mem_of_mem_drop (List.mem_of_mem_take hx)
theorem ix_mod {n : Nat} (h1 : 1 ≤ n) (a : Int) : ∃ j : Nat, j < n ∧ a % (n : Int) = (j : Int) ∧ ixN n (a % (n : Int)) = some j := by
  have q1 := Int.emod_nonneg a (show (n : Int) ≠ 0 by omega)
  have q2 := Int.emod_lt_of_pos a (show 0 < (n : Int) by omega)
  refine ⟨(a % (n : Int)).toNat, by omega, by omega, ?_⟩
  unfold ixN
  rw [if_pos q1, if_pos (by omega)]
abbrev EL (HD : List D) (at_ way : Int) (x3 x4 x5 : Option (Ow × D)) : XEnv := [some (.sh, .lst HD), some (.sh, .int at_), some (.sh, .int way), x3, x4, x5, none]
theorem ly_tail {N : Nat} {HL : List (List Cell)} (h1 : 1 ≤ HL.length) (hl : HL.length ≤ 1000) (w : Wf N 300 HL) (at_ way : Int) (j : Nat) (hj : j < HL.length) (ea : at_ / 7 % (HL.length : Int) = (j : Int)) (h : List Cell) (hw : (∀ x ∈ h, x.1 < N) ∧ h.length ≤ 300) (o : Ow) (ho : o = .sh ∨ o = .li .sh) (x5 : Option (Ow × D)) :
    kFun (ly5 (EL (HL.map heapD) at_ way (some (o, .lst (h.map cellD))) none x5)) = .ok ⟨.li .sh, false, .lst ((HL.set j h).map heapD)⟩ := by
  have ix : ixN (HL.map heapD).length (j : Int) = some j := by
    unfold ixN
    rw [List.length_map, if_pos (by omega), if_pos (by omega)]
    rfl
  have lc : ∀ x0 x1 x2 x3 x4 x5 x6, lcGo (lcStep (.nm 6) xYes (xBlt pList (xVCons (xV 6) (xVNil))) [x0, x1, x2, x3, x4, x5, x6]) (HL.map heapD) = .ok (HL.map heapD) := fun x0 x1 x2 x3 x4 x5 x6 =>
    lcGo_map fun g _ => by
      unfold heapD
      simp [lcStep]
  have st : (HL.map heapD).set j (.lst (h.map cellD)) = (HL.set j h).map heapD := heaps_set
  have ln : ((HL.map heapD).length : Int) = (HL.length : Int) := by rw [List.length_map]
  have ll : (HL.map heapD).length ≤ 100000 := by rw [List.length_map]; omega
  have z1 : 0 < HL.length := by omega
  have z2 : (HL.length : Int) < 1073741824 := by omega
  generalize (HL.set j h).map heapD = R at *
  generalize HL.map heapD = HD at *
  generalize h.map cellD = HP at *
  have z3 : 0 < HD.length := by omega
  have z4 : (HD.length : Int) < 1073741824 := by omega
  rw [← ln] at ea
  unfold ly5 ly6 ly7
  rcases ho with rfl | rfl
  · simp [ll, lc, z3, z4, ea, ix, st]
  · simp [ll, lc, z3, z4, ea, ix, st]
theorem ev_law_layers {N : Nat} {HL : List (List Cell)} (h1 : 1 ≤ HL.length) (hl : HL.length ≤ 1000) (w : Wf N 100 HL) (at_ way : Int) : ∃ o HL', F_law_layers [.lst (HL.map heapD), .int at_, .int way] = .ok ⟨o, false, .lst (HL'.map heapD)⟩ ∧ (o = .sh ∨ o = .li .sh) ∧ HL'.length = HL.length ∧ Wf N 300 HL' := by
  obtain ⟨j, hj, ea, _⟩ := ix_mod h1 (at_ / 7)
  have wj := w _ (List.getElem_mem hj)
  have g1 : atI (HL.map heapD) (j : Int) = some (.lst (HL[j].map cellD)) := by
    rw [atI_cast, List.getElem?_map, List.getElem?_eq_getElem hj]
    rfl
  have ln : ((HL.map heapD).length : Int) = (HL.length : Int) := by rw [List.length_map]
  have z1 : 0 < (HL.map heapD).length := by rw [List.length_map]; omega
  have z2 : ((HL.map heapD).length : Int) < 1073741824 := by rw [ln]; omega
  have w3 : Wf N 300 HL := w.mono (by omega)
  have tail := fun h hw o ho x5 => ly_tail h1 hl w3 at_ way j hj ea h hw o ho x5
  generalize hh : HL[j] = h at *
  have pn := fun o b o2 b2 => p_EqNil (o := o) (o2 := o2) (b := b) (b2 := b2) (cells_fine h)
  rw [law_layers_seg]
  have S0 : ly0 (EL (HL.map heapD) at_ way none none none) = ly1 (EL (HL.map heapD) at_ way (some (.sh, .lst (h.map cellD))) none none) := by
    rw [ly0_eq]
    unfold lyT0
    generalize ly1 = T
    rw [← ln] at ea
    clear tail pn w w3 wj
    generalize HL.map heapD = HD at *
    generalize h.map cellD = HP at *
    simp [z1, z2, ea, g1]
  rw [S0]
  by_cases he : h = []
  · refine ⟨.sh, HL, ?_, .inl rfl, rfl, w3⟩
    rw [ly1_eq]
    unfold lyT1
    generalize ly2 = T
    subst he
    generalize HL.map heapD = HD at *
    simp
  · have S1 : ly1 (EL (HL.map heapD) at_ way (some (.sh, .lst (h.map cellD))) none none) = ly2 (EL (HL.map heapD) at_ way (some (.sh, .lst (h.map cellD))) none none) := by
      rw [ly1_eq]
      unfold lyT1
      generalize ly2 = T
      have em : (h.map cellD).isEmpty = false := by
        cases h with
        | nil => exact (he rfl).elim
        | cons _ _ => rfl
      rw [em] at pn
      generalize HL.map heapD = HD at *
      generalize h.map cellD = HP at *
      simp [pn]
    rw [S1]
    have hl1 : 1 ≤ h.length := by
      cases h with
      | nil => exact (he rfl).elim
      | cons _ _ => simp
    have l0 : (h.map cellD).length = h.length := List.length_map ..
    clear S0 S1 pn
    -- what the next statements make of the heap
    suffices ∃ (o : Ow) (h' : List Cell) (x5 : Option (Ow × D)), (o = .sh ∨ o = .li .sh) ∧ ((∀ x ∈ h', x.1 < N) ∧ h'.length ≤ 300) ∧ ly2 (EL (HL.map heapD) at_ way (some (.sh, .lst (h.map cellD))) none none) = ly5 (EL (HL.map heapD) at_ way (some (o, .lst (h'.map cellD))) none x5) by
      obtain ⟨o, h', x5, ho, hw, e⟩ := this
      rw [e, tail h' hw o ho x5]
      exact ⟨.li .sh, HL.set j h', rfl, .inr rfl, by rw [List.length_set], w3.set hw⟩
    have cl := fun (a b : Option Int) => cut_len h a b
    rw [ly2_eq]
    unfold lyT2
    rw [ly3_eq]
    unfold lyT3
    rw [ly4_eq]
    unfold lyT4
    generalize ly5 = T
    by_cases q2 : way = 2
    · by_cases qq : 1 < h.length
      · -- two layers exchanged
        obtain ⟨k, hk, ek, _⟩ := ix_mod (n := h.length - 1) (by omega) at_
        have m1 : ((h.length - 1 : Nat) : Int) = (h.length : Int) - 1 := by omega
        rw [m1] at ek
        have c1 : atI (h.map cellD) ((k : Int) + 1) = some (cellD (h[k + 1]'(by omega))) := by
          rw [show (k : Int) + 1 = ((k + 1 : Nat) : Int) from by omega, atI_cast, List.getElem?_map, List.getElem?_eq_getElem (by omega)]
          rfl
        have c2 : atI (h.map cellD) (k : Int) = some (cellD (h[k]'(by omega))) := by
          rw [atI_cast, List.getElem?_map, List.getElem?_eq_getElem (by omega)]
          rfl
        have d1 := cut_map cellD h none (some (k : Int))
        have d2 := cut_map cellD h (some ((k : Int) + 2)) none
        refine ⟨.li .sh, cut h none (some (k : Int)) ++ [h[k + 1]'(by omega), h[k]'(by omega)] ++ cut h (some ((k : Int) + 2)) none, some (.sh, .int (k : Int)), .inr rfl, ⟨fun x hx => ?_, ?_⟩, ?_⟩
        · rcases List.mem_append.mp hx with hx | hx
          · rcases List.mem_append.mp hx with hx | hx
            · exact wj.1 x (mem_cut hx)
            · simp at hx
              rcases hx with rfl | rfl
              · exact wj.1 _ (List.getElem_mem _)
              · exact wj.1 _ (List.getElem_mem _)
          · exact wj.1 x (mem_cut hx)
        · have := wj.2
          have a1 := cl none (some (k : Int))
          have a2 := cl (some ((k : Int) + 2)) none
          simp only [List.length_append, List.length_cons, List.length_nil]
          omega
        · rw [List.map_append, List.map_append, ← d1, ← d2]
          have e1 := cut_len (h.map cellD) none (some (k : Int))
          have e2 := cut_len (h.map cellD) (some ((k : Int) + 2)) none
          show _ = T (EL _ _ _ (some (.li .sh, .lst (cut (h.map cellD) none (some (k : Int)) ++ [cellD (h[k + 1]'(by omega)), cellD (h[k]'(by omega))] ++ cut (h.map cellD) (some ((k : Int) + 2)) none))) none _)
          have s1 : 1 < (h.map cellD).length := by omega
          have s2 : (0 : Int) < ((h.map cellD).length : Int) - 1 := by omega
          have s3 : ((h.map cellD).length : Int) - 1 < 1073741824 := by have := wj.2; omega
          have ek2 : at_ % (((h.map cellD).length : Int) - 1) = (k : Int) := by rw [l0]; exact ek
          have b1 : (cut (h.map cellD) none (some (k : Int))).length + 2 ≤ 100000 := by have := wj.2; omega
          have b2 : (cut (h.map cellD) none (some (k : Int))).length + 2 + (cut (h.map cellD) (some ((k : Int) + 2)) none).length ≤ 100000 := by have := wj.2; omega
          generalize cellD (h[k + 1]'(by omega)) = C1 at *
          generalize cellD (h[k]'(by omega)) = C2 at *
          clear d1 d2 tail w w3 wj cl e1 e2 g1 ek
          generalize h.map cellD = HP at *
          generalize HL.map heapD = HD at *
          generalize hA1 : cut HP none (some (k : Int)) = A1 at *
          generalize hA2 : cut HP (some ((k : Int) + 2)) none = A2 at *
          generalize (k : Int) = n at *
          have s4 : (1 : Int) < (HP.length : Int) := by omega
          simp [q2, s1, s2, s3, s4, ek2, c1, c2, b1, b2, hA1, hA2]
      · refine ⟨.sh, h, none, .inl rfl, ⟨wj.1, by have := wj.2; omega⟩, ?_⟩
        have s1 : ¬ (1 : Int) < ((h.map cellD).length : Int) := by omega
        generalize h.map cellD = HP at *
        generalize HL.map heapD = HD at *
        simp [q2, s1]
    · by_cases q6 : way = 6
      · have d1 := cut_map cellD h (some 1) none
        have d2 := cut_map cellD h none (some 1)
        refine ⟨.li .sh, cut h (some 1) none ++ cut h none (some 1), none, .inr rfl, ⟨fun x hx => ?_, ?_⟩, ?_⟩
        · rcases List.mem_append.mp hx with hx | hx
          · exact wj.1 x (mem_cut hx)
          · exact wj.1 x (mem_cut hx)
        · have := wj.2
          have a1 := cl none (some 1)
          have a2 := cl (some 1) none
          rw [List.length_append]
          omega
        · rw [List.map_append, ← d1, ← d2]
          have e1 := cut_len (h.map cellD) none (some 1)
          have e2 := cut_len (h.map cellD) (some 1) none
          have b1 : (cut (h.map cellD) (some 1) none).length + (cut (h.map cellD) none (some 1)).length ≤ 100000 := by have := wj.2; omega
          clear d1 d2 tail w w3 wj cl e1 e2 g1
          generalize h.map cellD = HP at *
          generalize HL.map heapD = HD at *
          generalize hA1 : cut HP none (some 1) = A1 at *
          generalize hA2 : cut HP (some 1) none = A2 at *
          simp [q6, b1, hA1, hA2]
      · by_cases q4 : way = 4
        · obtain ⟨k, hk, ek, _⟩ := ix_mod (n := h.length) (by omega) at_
          have d1 := cut_map cellD h none (some (k : Int))
          have d2 := cut_map cellD h (some ((k : Int) + 1)) none
          refine ⟨.li .sh, cut h none (some (k : Int)) ++ cut h (some ((k : Int) + 1)) none, some (.sh, .int (k : Int)), .inr rfl, ⟨fun x hx => ?_, ?_⟩, ?_⟩
          · rcases List.mem_append.mp hx with hx | hx
            · exact wj.1 x (mem_cut hx)
            · exact wj.1 x (mem_cut hx)
          · have := wj.2
            have a1 := cl none (some (k : Int))
            have a2 := cl (some ((k : Int) + 1)) none
            rw [List.length_append]
            omega
          · rw [List.map_append, ← d1, ← d2]
            have e1 := cut_len (h.map cellD) none (some (k : Int))
            have e2 := cut_len (h.map cellD) (some ((k : Int) + 1)) none
            have b1 : (cut (h.map cellD) none (some (k : Int))).length + (cut (h.map cellD) (some ((k : Int) + 1)) none).length ≤ 100000 := by have := wj.2; omega
            have s2 : 0 < (h.map cellD).length := by omega
            have s3 : ((h.map cellD).length : Int) < 1073741824 := by have := wj.2; omega
            have ek2 : at_ % ((h.map cellD).length : Int) = (k : Int) := by rw [l0]; exact ek
            clear d1 d2 tail w w3 wj cl e1 e2 g1 ek
            generalize h.map cellD = HP at *
            generalize HL.map heapD = HD at *
            generalize hA1 : cut HP none (some (k : Int)) = A1 at *
            generalize hA2 : cut HP (some ((k : Int) + 1)) none = A2 at *
            generalize (k : Int) = n at *
            simp [q4, s2, s3, ek2, b1, hA1, hA2]
        · refine ⟨.sh, h, none, .inl rfl, ⟨wj.1, by have := wj.2; omega⟩, ?_⟩
          generalize h.map cellD = HP at *
          generalize HL.map heapD = HD at *
          simp [q2, q6, q4]
end Fd
set_option Elab.async false
set_option linter.all false
set_option maxRecDepth 100000
set_option maxHeartbeats 8000000
/-! KJ: heaps spoilt, the ways. -/
namespace Fd
open Bk PySem L2
abbrev EW (HD : List D) (at_ way n : Int) (x4 x5 x6 x7 x8 x9 x10 x11 : Option (Ow × D)) : XEnv := [some (.sh, .lst HD), some (.sh, .int at_), some (.sh, .int way), some (.sh, .int n), x4, x5, x6, x7, x8, x9, x10, x11, none, none, none, none, none]
/-- heap by heap, cell by cell -/
theorem each_lc {N b : Nat} {HL : List (List Cell)} (w : Wf N b HL) {elt : XE} {env : XEnv} {vs : List Nat} {tg : Tg} (g : Cell → Cell) (h13 : 13 < env.length) (hb : b ≤ 100000)
    (hi : ∀ h : List Cell, (∀ x ∈ h, x.1 < N) → lcGo (lcStep tg xYes elt (wipeX (env.set 13 (some (.sh, heapD h))) vs)) (h.map cellD) = .ok ((h.map g).map cellD)) :
    lcGo (lcStep (.nm 13) xYes (xLc vs (xIList (xV 13)) tg xYes elt) env) (HL.map heapD) = .ok ((HL.map fun h => h.map g).map heapD) := by
  rw [List.map_map]
  refine lcGo_map fun h hh => ?_
  have wh := w h hh
  have e1 := hi h wh.1
  have e2 : (env.set 13 (some (.sh, heapD h)))[13]? = some (some (.sh, heapD h)) := List.getElem?_set_self h13
  have l1 : (h.map cellD).length ≤ 100000 := by rw [List.length_map]; omega
  show (match (xLc vs (xIList (xV 13)) tg xYes elt) (env.set 13 (some (.sh, heapD h))) with
    | .ok a => if a.b = true then Res.bad else .ok (some a.d)
    | _ => .bad) = _
  rw [e_Lc]
  have e3 : xIList (xV 13) (env.set 13 (some (.sh, heapD h))) = .ok (h.map cellD) := by
    unfold xIList
    rw [e_V, e2]
    rfl
  rw [e3]
  show (match (if (h.map cellD).length ≤ 100000 then kLc (lcGo (lcStep tg xYes elt (wipeX (env.set 13 (some (.sh, heapD h))) vs)) (h.map cellD)) else .bad) with
    | .ok a => if a.b = true then Res.bad else .ok (some a.d)
    | _ => .bad) = _
  rw [if_pos l1, e1]
  rfl
theorem Wf.each {N b : Nat} {HL : List (List Cell)} (w : Wf N b HL) {g : Cell → Cell} (hg : ∀ x : Cell, x.1 < N → (g x).1 < N) : Wf N b (HL.map fun h => h.map g) := by
  intro h hh
  obtain ⟨h0, h1, rfl⟩ := List.mem_map.mp hh
  have := w h0 h1
  refine ⟨fun x hx => ?_, by rw [List.length_map]; exact this.2⟩
  obtain ⟨y, hy, rfl⟩ := List.mem_map.mp hx
  exact hg y (this.1 y hy)
@[simp] theorem e_SetN (i : Nat) (fk f : XE) (env : XEnv) : xSetN i fk f env = match atNL env[i]? with
  | some xs => match f env with
    | .ok a => match freshL a with
      | some d => match fk env with
        | .ok k => match k.d with
          | .int n => match ixN xs.length n with
            | some j => .next (env.set i (some (.li (.li .sh), .lst (xs.set j d))))
            | none => .bad
          | _ => .bad
        | .exc n => .exc n env
        | .bad => .bad
      | none => .bad
    | .exc n => .exc n env
    | .bad => .bad
  | none => .bad := rfl
@[simp] theorem e_InsAt (i : Nat) (fk fi f : XE) (env : XEnv) : xInsAt i fk fi f env = match nestAt env[i]? with
  | some p => match fk env with
    | .ok k => match k.d with
      | .int n => match ixN p.2.length n with
        | some j => match p.2[j]? with
          | some (.lst xs) => match fi env with
            | .ok q => match q.d with
              | .int m => match f env with
                | .ok a => if a.b = true then .bad else if xs.length < 100000 ∧ 0 ≤ m ∧ m ≤ 100000 then .next (env.set i (some (p.1, nestD p.1 (p.2.set j (.lst (xs.take m.toNat ++ [a.d] ++ xs.drop m.toNat)))))) else .bad
                | .exc n => .exc n env
                | .bad => .bad
              | _ => .bad
            | .exc n => .exc n env
            | .bad => .bad
          | _ => .bad
        | none => .bad
      | _ => .bad
    | .exc n => .exc n env
    | .bad => .bad
  | none => .bad := rfl
theorem copies {HL : List (List Cell)} {env : XEnv} {j : Nat} (hj : j < env.length) : lcGo (lcStepN (.nm j) (xBlt pList (xVCons (xV j) (xVNil))) env) (HL.map heapD) = .ok (HL.map heapD) := by
  refine lcGo_map fun g _ => ?_
  have e2 : (env.set j (some (.sh, heapD g)))[j]? = some (some (.sh, heapD g)) := List.getElem?_set_self hj
  show (match (xBlt pList (xVCons (xV j) (xVNil))) (env.set j (some (.sh, heapD g))) with
    | .ok a => match freshL a with
      | some d => Res.ok (some d)
      | none => .bad
    | _ => .bad) = _
  have e3 : (xBlt pList (xVCons (xV j) (xVNil))) (env.set j (some (.sh, heapD g))) = .ok ⟨.li .sh, false, heapD g⟩ := by
    unfold heapD at *
    generalize env.set j (some (.sh, .lst (g.map cellD))) = e1 at *
    simp [e2]
  rw [e3]
  rfl
def swp (f o k : Nat) : Nat := if k = f then o else if k = o then f else k
theorem swp_lt {f o k N : Nat} (hf : f < N) (ho : o < N) (hk : k < N) : swp f o k < N := by
  unfold swp
  split
  · exact ho
  · split
    · exact hf
    · exact hk
section
variable {N b : Nat} {HL : List (List Cell)} {at_ way n : Int}
theorem way1 (hN : 1 ≤ N) (hN2 : N ≤ 1000) (hb : b ≤ 1000) (hl : HL.length ≤ 1000) (w : Wf N b HL) (hn : n = (N : Int)) (q : way = 1) (o4 : Ow) (ho : o4 = .sh ∨ o4 = .li (.li .sh)) : ∃ HL', kFun (sp1 (EW (HL.map heapD) at_ way n (some (o4, .lst (HL.map heapD))) none none none none none none none)) = .ok ⟨.li .sh, false, .lst (HL'.map heapD)⟩ ∧ HL'.length = HL.length ∧ Wf N b HL' := by
  obtain ⟨f, hf, ef, _⟩ := ix_mod hN at_
  obtain ⟨o, ho2, eo, _⟩ := ix_mod hN (at_ / 29)
  rw [← hn] at ef eo
  have n0 : 0 < n := by omega
  have n1 : n < 1073741824 := by omega
  have a1 : n ≤ 100000 := by omega
  have a2 : -100000 ≤ n := by omega
  have aN : (rangeD n).length ≤ 100000 := by
    rw [rangeD_map, List.length_map, List.length_range]
    omega
  refine ⟨HL.map fun h => h.map fun x => (swp f o x.1, x.2.1, x.2.2), ?_, by rw [List.length_map], w.each fun x hx => swp_lt hf ho2 hx⟩
  have lc1 : ∀ x0 x1 x2 x3 x4 x7 x8 x9 x10 x11 x12 x13 x14 x15 x16, lcGo (lcStep (.nm 10) xYes (xIf (xT (xOp2 pEq (xV 10) (xV 5))) (xV 6) (xIf (xT (xOp2 pEq (xV 10) (xV 6))) (xV 5) (xV 10))) [x0, x1, x2, x3, x4, some (.sh, .int (f : Int)), some (.sh, .int (o : Int)), x7, x8, x9, x10, x11, x12, x13, x14, x15, x16]) (rangeD n) = .ok ((List.range N).map fun k => natE (swp f o k)) := fun x0 x1 x2 x3 x4 x7 x8 x9 x10 x11 x12 x13 x14 x15 x16 => by
    have := lc_range (step := lcStep (.nm 10) xYes (xIf (xT (xOp2 pEq (xV 10) (xV 5))) (xV 6) (xIf (xT (xOp2 pEq (xV 10) (xV 6))) (xV 5) (xV 10))) [x0, x1, x2, x3, x4, some (.sh, .int (f : Int)), some (.sh, .int (o : Int)), x7, x8, x9, x10, x11, x12, x13, x14, x15, x16]) (n := n) (g := fun k => natE (swp f o k)) fun k hk => by
      unfold natE swp
      by_cases q1 : k = f
      · subst q1
        rw [if_pos rfl]
        generalize (k : Int) = kk
        generalize (o : Int) = oo
        simp [lcStep]
      · have q2 : ¬ (k : Int) = (f : Int) := by omega
        rw [if_neg q1]
        by_cases q3 : k = o
        · subst q3
          rw [if_pos rfl]
          generalize (k : Int) = kk at *
          generalize (f : Int) = ff at *
          simp [lcStep, q2]
        · have q4 : ¬ (k : Int) = (o : Int) := by omega
          rw [if_neg q3]
          generalize (k : Int) = kk at *
          generalize (f : Int) = ff at *
          generalize (o : Int) = oo at *
          simp [lcStep, q2, q4]
    rw [hn, Int.toNat_natCast] at this
    rw [hn]
    exact this
  have nat : ∀ k, k < N → atI ((List.range N).map fun k => natE (swp f o k)) (k : Int) = some (natE (swp f o k)) := fun k hk => by
    rw [atI_cast, List.getElem?_map, List.getElem?_range hk]
    rfl
  have lc2 : ∀ x0 x1 x2 x3 x4 x5 x6 x8 x9 x10 x11 x12 x13 x14 x15 x16, lcGo (lcStep (.nm 13) xYes (xLc [12] (xIList (xV 13)) (.nm 12) (xYes) (xTup (xACons (xOp2 pIx (xV 7) (xOp2 pIx (xV 12) (xC (.int 0)))) (xACons (xOp2 pIx (xV 12) (xC (.int 1))) (xACons (xOp2 pIx (xV 12) (xC (.int 2))) (xANil)))))) [x0, x1, x2, x3, x4, x5, x6, some (.li .sh, .lst ((List.range N).map fun k => natE (swp f o k))), x8, x9, x10, x11, x12, x13, x14, x15, x16]) (HL.map heapD) = .ok ((HL.map fun h => h.map fun x => (swp f o x.1, x.2.1, x.2.2)).map heapD) := fun x0 x1 x2 x3 x4 x5 x6 x8 x9 x10 x11 x12 x13 x14 x15 x16 =>
    each_lc w (fun x : Cell => (swp f o x.1, x.2.1, x.2.2)) (by simp) (by omega) fun h hh => by
      rw [List.map_map]
      refine lcGo_map fun x hx => ?_
      have nx := nat x.1 (hh x hx)
      show _ = Res.ok (some (D.tup [natE (swp f o x.1), .bl x.2.1, .bl x.2.2]))
      have cx : cellD x = .tup [.int (x.1 : Int), .bl x.2.1, .bl x.2.2] := rfl
      rw [cx]
      generalize (List.range N).map (fun k => natE (swp f o k)) = NM at *
      have ns : natE (swp f o x.1) = .int ((swp f o x.1 : Nat) : Int) := rfl
      rw [ns] at nx ⊢
      generalize heapD h = HH at *
      generalize (x.1 : Int) = xi at *
      generalize ((swp f o x.1 : Nat) : Int) = yi at *
      simp [lcStep, nx]
  have ll : (HL.map heapD).length ≤ 100000 := by rw [List.length_map]; omega
  rw [sp1_eq]
  unfold spT1
  generalize sp2 = T
  generalize (HL.map fun h => h.map fun x => (swp f o x.1, x.2.1, x.2.2)).map heapD = R at *
  generalize (List.range N).map (fun k => natE (swp f o k)) = NM at *
  generalize HL.map heapD = HD at *
  generalize (f : Int) = ff at *
  generalize (o : Int) = oo at *
  rcases ho with rfl | rfl
  · simp [q, ef, eo, n0, n1, a1, a2, aN, lc1, lc2, ll]
  · simp [q, ef, eo, n0, n1, a1, a2, aN, lc1, lc2, ll]
theorem way3 (hN : 1 ≤ N) (hN2 : N ≤ 1000) (hb : b ≤ 1000) (hl : HL.length ≤ 1000) (w : Wf N b HL) (hn : n = (N : Int)) (q : way = 3) (o4 : Ow) (ho : o4 = .sh ∨ o4 = .li (.li .sh)) : ∃ HL', kFun (sp2 (EW (HL.map heapD) at_ way n (some (o4, .lst (HL.map heapD))) none none none none none none none)) = .ok ⟨.li .sh, false, .lst (HL'.map heapD)⟩ ∧ HL'.length = HL.length ∧ Wf N b HL' := by
  obtain ⟨f, hf, ef, _⟩ := ix_mod hN at_
  rw [← hn] at ef
  have n0 : 0 < n := by omega
  have n1 : n < 1073741824 := by omega
  generalize htn : decide (at_ / 29 % 2 = 1) = tn
  refine ⟨HL.map fun h => h.map fun x => (x.1, !(x.2.1 == (decide (x.1 = f) && tn)), !(x.2.2 == (decide (x.1 = f) && !tn))), ?_, by rw [List.length_map], w.each (g := fun x : Cell => (x.1, !(x.2.1 == (decide (x.1 = f) && tn)), !(x.2.2 == (decide (x.1 = f) && !tn)))) fun x hx => hx⟩
  have lc2 : ∀ x0 x1 x2 x3 x4 x5 x6 x7 x10 x11 x12 x13 x14 x15 x16, lcGo (lcStep (.nm 13) xYes (xLc [10, 14, 15] (xIList (xV 13)) (.tp [10, 14, 15]) (xYes) (xTup (xACons (xV 10) (xACons (xOp2 pNe (xV 14) (xAndV (xOp2 pEq (xV 10) (xV 8)) (xV 9))) (xACons (xOp2 pNe (xV 15) (xAndV (xOp2 pEq (xV 10) (xV 8)) (xNotV (xV 9)))) (xANil)))))) [x0, x1, x2, x3, x4, x5, x6, x7, some (.sh, .int (f : Int)), some (.sh, .bl tn), x10, x11, x12, x13, x14, x15, x16]) (HL.map heapD) = .ok ((HL.map fun h => h.map fun x => (x.1, !(x.2.1 == (decide (x.1 = f) && tn)), !(x.2.2 == (decide (x.1 = f) && !tn)))).map heapD) := fun x0 x1 x2 x3 x4 x5 x6 x7 x10 x11 x12 x13 x14 x15 x16 =>
    each_lc w (fun x : Cell => (x.1, !(x.2.1 == (decide (x.1 = f) && tn)), !(x.2.2 == (decide (x.1 = f) && !tn)))) (by simp) (by omega) fun h hh => by
      rw [List.map_map]
      refine lcGo_map fun x hx => ?_
      show _ = Res.ok (some (D.tup [.int (x.1 : Int), .bl (!(x.2.1 == (decide (x.1 = f) && tn))), .bl (!(x.2.2 == (decide (x.1 = f) && !tn)))]))
      have cx : cellD x = .tup [.int (x.1 : Int), .bl x.2.1, .bl x.2.2] := rfl
      rw [cx]
      have de : decide (x.1 = f) = decide ((x.1 : Int) = (f : Int)) := by rw [decide_eq_decide]; omega
      rw [de]
      generalize heapD h = HH at *
      generalize (x.1 : Int) = xi at *
      generalize (f : Int) = ff at *
      generalize x.2.1 = b1
      generalize x.2.2 = b2
      by_cases z : xi = ff <;> cases tn <;> cases b1 <;> cases b2 <;> simp [lcStep, z]
  have ll : (HL.map heapD).length ≤ 100000 := by rw [List.length_map]; omega
  rw [sp2_eq]
  unfold spT2
  generalize sp3 = T
  generalize (HL.map fun h => h.map fun x => (x.1, !(x.2.1 == (decide (x.1 = f) && tn)), !(x.2.2 == (decide (x.1 = f) && !tn)))).map heapD = R at *
  generalize HL.map heapD = HD at *
  generalize (f : Int) = ff at *
  rcases ho with rfl | rfl
  · simp [q, ef, n0, n1, htn, lc2, ll]
  · simp [q, ef, n0, n1, htn, lc2, ll]
theorem way8 (hN : 1 ≤ N) (hN2 : N ≤ 1000) (hb : b ≤ 1000) (hl : HL.length ≤ 1000) (w : Wf N b HL) (hn : n = (N : Int)) (q : way = 8) (o4 : Ow) (ho : o4 = .sh ∨ o4 = .li (.li .sh)) : ∃ HL', kFun (sp3 (EW (HL.map heapD) at_ way n (some (o4, .lst (HL.map heapD))) none none none none none none none)) = .ok ⟨.li .sh, false, .lst (HL'.map heapD)⟩ ∧ HL'.length = HL.length ∧ Wf N b HL' := by
  obtain ⟨f, hf, ef, _⟩ := ix_mod hN at_
  obtain ⟨o, ho2, eo, _⟩ := ix_mod hN (at_ / 29)
  rw [← hn] at ef eo
  have n0 : 0 < n := by omega
  have n1 : n < 1073741824 := by omega
  refine ⟨HL.map fun h => h.map fun x => (if x.1 = o then f else x.1, x.2.1, x.2.2), ?_, by rw [List.length_map], w.each fun x hx => ?_⟩
  · have lc2 : ∀ x0 x1 x2 x3 x4 x7 x8 x9 x10 x11 x12 x13 x14 x15 x16, lcGo (lcStep (.nm 13) xYes (xLc [12] (xIList (xV 13)) (.nm 12) (xYes) (xTup (xACons (xIf (xT (xOp2 pEq (xOp2 pIx (xV 12) (xC (.int 0))) (xV 6))) (xV 5) (xOp2 pIx (xV 12) (xC (.int 0)))) (xACons (xOp2 pIx (xV 12) (xC (.int 1))) (xACons (xOp2 pIx (xV 12) (xC (.int 2))) (xANil)))))) [x0, x1, x2, x3, x4, some (.sh, .int (f : Int)), some (.sh, .int (o : Int)), x7, x8, x9, x10, x11, x12, x13, x14, x15, x16]) (HL.map heapD) = .ok ((HL.map fun h => h.map fun x => (if x.1 = o then f else x.1, x.2.1, x.2.2)).map heapD) := fun x0 x1 x2 x3 x4 x7 x8 x9 x10 x11 x12 x13 x14 x15 x16 =>
      each_lc w (fun x : Cell => (if x.1 = o then f else x.1, x.2.1, x.2.2)) (by simp) (by omega) fun h hh => by
        rw [List.map_map]
        refine lcGo_map fun x hx => ?_
        show _ = Res.ok (some (D.tup [.int ((if x.1 = o then f else x.1 : Nat) : Int), .bl x.2.1, .bl x.2.2]))
        have cx : cellD x = .tup [.int (x.1 : Int), .bl x.2.1, .bl x.2.2] := rfl
        rw [cx]
        by_cases z : x.1 = o
        · have z2 : (x.1 : Int) = (o : Int) := by omega
          rw [if_pos z]
          generalize heapD h = HH at *
          generalize (x.1 : Int) = xi at *
          generalize (f : Int) = ff at *
          generalize (o : Int) = oo at *
          simp [lcStep, z2]
        · have z2 : ¬ (x.1 : Int) = (o : Int) := by omega
          rw [if_neg z]
          generalize heapD h = HH at *
          generalize (x.1 : Int) = xi at *
          generalize (f : Int) = ff at *
          generalize (o : Int) = oo at *
          simp [lcStep, z2]
    have ll : (HL.map heapD).length ≤ 100000 := by rw [List.length_map]; omega
    rw [sp3_eq]
    unfold spT3
    generalize sp4 = T
    generalize (HL.map fun h => h.map fun x => (if x.1 = o then f else x.1, x.2.1, x.2.2)).map heapD = R at *
    generalize HL.map heapD = HD at *
    generalize (f : Int) = ff at *
    generalize (o : Int) = oo at *
    rcases ho with rfl | rfl
    · simp [q, ef, eo, n0, n1, lc2, ll]
    · simp [q, ef, eo, n0, n1, lc2, ll]
  · show (if x.1 = o then f else x.1) < N
    split <;> omega
theorem way9 (h1 : 1 ≤ HL.length) (hl : HL.length ≤ 1000) (w : Wf N b HL) (q : way = 9) : ∃ HL', kFun (sp4 (EW (HL.map heapD) at_ way n (some (.li (.li .sh), .lst (HL.map heapD))) none none none none none none none)) = .ok ⟨.li (.li .sh), false, .lst (HL'.map heapD)⟩ ∧ HL'.length = HL.length ∧ Wf N b HL' := by
  obtain ⟨j, hj, ej, ix⟩ := ix_mod h1 (at_ / 7)
  refine ⟨HL.set j [], ?_, by rw [List.length_set], w.set ⟨fun x hx => by simp at hx, Nat.zero_le _⟩⟩
  have st : (HL.map heapD).set j (.lst []) = (HL.set j []).map heapD := heaps_set (h := [])
  have ln : (HL.map heapD).length = HL.length := List.length_map ..
  have z1 : 0 < (HL.map heapD).length := by omega
  have z2 : ((HL.map heapD).length : Int) < 1073741824 := by omega
  rw [← ln] at ej ix
  rw [ej] at ix
  rw [sp4_eq]
  unfold spT4
  generalize sp5 = T
  generalize (HL.set j []).map heapD = R at *
  generalize HL.map heapD = HD at *
  generalize (j : Int) = jj at *
  simp [q, ej, z1, z2, ix, st]
theorem way5 (hN : 1 ≤ N) (hN2 : N ≤ 1000) (h1 : 1 ≤ HL.length) (hl : HL.length ≤ 1000) (hb : b ≤ 1000) (w : Wf N b HL) (hn : n = (N : Int)) (q : way = 5) : ∃ HL', kFun (sp5 (EW (HL.map heapD) at_ way n (some (.li (.li .sh), .lst (HL.map heapD))) none none none none none none none)) = .ok ⟨.li (.li .sh), false, .lst (HL'.map heapD)⟩ ∧ HL'.length = HL.length ∧ Wf N (b + 1) HL' := by
  obtain ⟨j, hj, ej, ix⟩ := ix_mod h1 (at_ / 7)
  obtain ⟨f, hf, ef, _⟩ := ix_mod hN at_
  rw [← hn] at ef
  have n0 : 0 < n := by omega
  have n1 : n < 1073741824 := by omega
  have wj := w _ (List.getElem_mem hj)
  generalize hh : HL[j] = h at *
  have m0 : 0 ≤ at_ % 2 * ((h.map cellD).length : Int) := Int.mul_nonneg (by omega) (by omega)
  have m1 : at_ % 2 * ((h.map cellD).length : Int) ≤ 1 * ((h.map cellD).length : Int) := Int.mul_le_mul_of_nonneg_right (by omega) (by omega)
  have l0 : (h.map cellD).length = h.length := List.length_map ..
  refine ⟨HL.set j (h.take (at_ % 2 * ((h.map cellD).length : Int)).toNat ++ [(f, false, true)] ++ h.drop (at_ % 2 * ((h.map cellD).length : Int)).toNat), ?_, by rw [List.length_set], (w.mono (Nat.le_succ b)).set ⟨fun x hx => ?_, ?_⟩⟩
  · have st : (HL.map heapD).set j (.lst ((h.map cellD).take (at_ % 2 * ((h.map cellD).length : Int)).toNat ++ [.tup [.int (f : Int), .bl false, .bl true]] ++ (h.map cellD).drop (at_ % 2 * ((h.map cellD).length : Int)).toNat)) = (HL.set j (h.take (at_ % 2 * ((h.map cellD).length : Int)).toNat ++ [(f, false, true)] ++ h.drop (at_ % 2 * ((h.map cellD).length : Int)).toNat)).map heapD := by
      rw [← heaps_set]
      unfold heapD
      rw [List.map_append, List.map_append, List.map_take, List.map_drop]
      rfl
    have g1 : (HL.map heapD)[j]? = some (.lst (h.map cellD)) := by
      rw [List.getElem?_map, List.getElem?_eq_getElem hj, hh]
      rfl
    have g2 : atI (HL.map heapD) (j : Int) = some (.lst (h.map cellD)) := by rw [atI_cast]; exact g1
    have ln : (HL.map heapD).length = HL.length := List.length_map ..
    have z1 : 0 < (HL.map heapD).length := by omega
    have z2 : ((HL.map heapD).length : Int) < 1073741824 := by omega
    have z3 : (h.map cellD).length < 100000 := by omega
    have z4 : at_ % 2 * ((h.map cellD).length : Int) ≤ 100000 := by omega
    have z5 : (-18446744073709551616 < at_ % 2 ∧ at_ % 2 < 18446744073709551616) := by omega
    rw [← ln] at ej ix
    rw [ej] at ix
    rw [sp5_eq]
    unfold spT5
    generalize sp6 = T
    clear wj w l0 m1
    generalize (HL.set j (h.take (at_ % 2 * ((h.map cellD).length : Int)).toNat ++ [(f, false, true)] ++ h.drop (at_ % 2 * ((h.map cellD).length : Int)).toNat)).map heapD = R at *
    generalize h.map cellD = HP at *
    generalize HL.map heapD = HD at *
    generalize (j : Int) = jj at *
    generalize (f : Int) = ff at *
    simp only [List.append_assoc, List.cons_append, List.nil_append] at st
    simp [q, ej, ef, n0, n1, z1, z2, z3, z4, z5, m0, ix, g1, g2, st]
  · rcases List.mem_append.mp hx with hx | hx
    · rcases List.mem_append.mp hx with hx | hx
      · exact wj.1 x (List.mem_of_mem_take hx)
      · rw [List.mem_singleton] at hx
        rw [hx]
        exact hf
    · exact wj.1 x (List.mem_of_mem_drop hx)
  · have := wj.2
    simp only [List.length_append, List.length_take, List.length_drop, List.length_cons, List.length_nil]
    omega
theorem way7 (h1 : 1 ≤ HL.length) (hl : HL.length ≤ 1000) (w : Wf N b HL) (q : way = 7) (o4 : Ow) (ho : o4 = .sh ∨ o4 = .li (.li .sh)) : ∃ HL', kFun (sp6 (EW (HL.map heapD) at_ way n (some (o4, .lst (HL.map heapD))) none none none none none none none)) = .ok ⟨.li .sh, false, .lst (HL'.map heapD)⟩ ∧ HL'.length = HL.length ∧ Wf N b HL' := by
  obtain ⟨k, hk, ek, _⟩ := ix_mod h1 at_
  obtain ⟨j, hj, ej, _⟩ := ix_mod h1 (at_ / 29)
  have sw : ∀ i, i < HL.length → swp k j i < HL.length := fun i hi => swp_lt hk hj hi
  refine ⟨(List.range HL.length).map fun i => HL.getD (swp k j i) [], ?_, by rw [List.length_map, List.length_range], fun h hh => ?_⟩
  · have g2 : ∀ i, i < HL.length → atI (HL.map heapD) (i : Int) = some (heapD (HL.getD i [])) := fun i hi => by
      rw [atI_cast, List.getElem?_map, List.getElem?_eq_getElem hi, List.getD_eq_getElem?_getD, List.getElem?_eq_getElem hi]
      rfl
    have ln : (HL.map heapD).length = HL.length := List.length_map ..
    have z1 : 0 < (HL.map heapD).length := by omega
    have z2 : ((HL.map heapD).length : Int) < 1073741824 := by omega
    have lc1 : ∀ x0 x1 x2 x3 x5 x6 x7 x8 x9 x12 x13 x14 x15 x16, lcGo (lcStep (.nm 16) xYes (xIf (xT (xOp2 pEq (xV 16) (xV 10))) (xOp2 pIx (xV 4) (xV 11)) (xIf (xT (xOp2 pEq (xV 16) (xV 11))) (xOp2 pIx (xV 4) (xV 10)) (xOp2 pIx (xV 4) (xV 16)))) [x0, x1, x2, x3, some (.sh, .lst (HL.map heapD)), x5, x6, x7, x8, x9, some (.sh, .int (k : Int)), some (.sh, .int (j : Int)), x12, x13, x14, x15, x16]) (rangeD ((HL.map heapD).length : Int)) = .ok (((List.range HL.length).map fun i => HL.getD (swp k j i) []).map heapD) := fun x0 x1 x2 x3 x5 x6 x7 x8 x9 x12 x13 x14 x15 x16 => by
      rw [List.map_map, ln]
      have := lc_range (step := lcStep (.nm 16) xYes (xIf (xT (xOp2 pEq (xV 16) (xV 10))) (xOp2 pIx (xV 4) (xV 11)) (xIf (xT (xOp2 pEq (xV 16) (xV 11))) (xOp2 pIx (xV 4) (xV 10)) (xOp2 pIx (xV 4) (xV 16)))) [x0, x1, x2, x3, some (.sh, .lst (HL.map heapD)), x5, x6, x7, x8, x9, some (.sh, .int (k : Int)), some (.sh, .int (j : Int)), x12, x13, x14, x15, x16]) (n := (HL.length : Int)) (g := heapD ∘ fun i => HL.getD (swp k j i) []) fun i hi => by
        show _ = Res.ok (some (heapD (HL.getD (swp k j i) [])))
        have gk := g2 k hk
        have gj := g2 j hj
        have gi := g2 i (by omega)
        unfold swp
        by_cases q1 : i = k
        · rw [if_pos q1]
          subst q1
          generalize HL.map heapD = HD at *
          generalize (i : Int) = ii at *
          generalize (j : Int) = jj at *
          simp [lcStep, gj]
        · have q2 : ¬ (i : Int) = (k : Int) := by omega
          rw [if_neg q1]
          by_cases q3 : i = j
          · rw [if_pos q3]
            subst q3
            generalize HL.map heapD = HD at *
            generalize (i : Int) = ii at *
            generalize (k : Int) = kk at *
            simp [lcStep, gk, q2]
          · have q4 : ¬ (i : Int) = (j : Int) := by omega
            rw [if_neg q3]
            generalize HL.map heapD = HD at *
            generalize (i : Int) = ii at *
            generalize (k : Int) = kk at *
            generalize (j : Int) = jj at *
            simp [lcStep, gi, q2, q4]
      rw [Int.toNat_natCast] at this
      exact this
    have a1 : ((HL.map heapD).length : Int) ≤ 100000 := by omega
    have a2 : -100000 ≤ ((HL.map heapD).length : Int) := by omega
    have aN : (rangeD ((HL.map heapD).length : Int)).length ≤ 100000 := by
      rw [rangeD_map, List.length_map, List.length_range]
      omega
    rw [← ln] at ek ej
    rw [sp6_eq]
    unfold spT6
    generalize sp7 = T
    generalize ((List.range HL.length).map fun i => HL.getD (swp k j i) []).map heapD = R at *
    have ll : (HL.map heapD).length ≤ 100000 := by omega
    clear g2
    generalize HL.map heapD = HD at *
    generalize (k : Int) = kk at *
    generalize (j : Int) = jj at *
    rcases ho with rfl | rfl
    · simp [q, ek, ej, z1, z2, a1, a2, aN, ll, lc1]
    · simp [q, ek, ej, z1, z2, a1, a2, aN, ll, lc1]
  · obtain ⟨i, hi, rfl⟩ := List.mem_map.mp hh
    have si := sw i (List.mem_range.mp hi)
    rw [List.getD_eq_getElem?_getD, List.getElem?_eq_getElem si]
    exact w _ (List.getElem_mem si)
end
end Fd
set_option Elab.async false
set_option linter.all false
set_option maxRecDepth 100000
set_option maxHeartbeats 8000000
/-! KL: heaps spoilt, the end. -/
namespace Fd
open Bk PySem L2
section
variable {HD : List D} {at_ way n : Int} {o4 : Ow}
theorem sk1 (q : ¬ way = 1) : sp1 (EW HD at_ way n (some (o4, .lst HD)) none none none none none none none) = sp2 (EW HD at_ way n (some (o4, .lst HD)) none none none none none none none) := by
  rw [sp1_eq]
  unfold spT1
  generalize sp2 = T
  simp [q]
theorem sk2 (q : ¬ way = 3) : sp2 (EW HD at_ way n (some (o4, .lst HD)) none none none none none none none) = sp3 (EW HD at_ way n (some (o4, .lst HD)) none none none none none none none) := by
  rw [sp2_eq]
  unfold spT2
  generalize sp3 = T
  simp [q]
theorem sk3 (q : ¬ way = 8) : sp3 (EW HD at_ way n (some (o4, .lst HD)) none none none none none none none) = sp4 (EW HD at_ way n (some (o4, .lst HD)) none none none none none none none) := by
  rw [sp3_eq]
  unfold spT3
  generalize sp4 = T
  simp [q]
theorem sk4 (q : ¬ way = 9) : sp4 (EW HD at_ way n (some (o4, .lst HD)) none none none none none none none) = sp5 (EW HD at_ way n (some (o4, .lst HD)) none none none none none none none) := by
  rw [sp4_eq]
  unfold spT4
  generalize sp5 = T
  simp [q]
theorem sk5 (q : ¬ way = 5) : sp5 (EW HD at_ way n (some (o4, .lst HD)) none none none none none none none) = sp6 (EW HD at_ way n (some (o4, .lst HD)) none none none none none none none) := by
  rw [sp5_eq]
  unfold spT5
  generalize sp6 = T
  simp [q]
theorem sk6 (q : ¬ way = 7) : sp6 (EW HD at_ way n (some (o4, .lst HD)) none none none none none none none) = sp7 (EW HD at_ way n (some (o4, .lst HD)) none none none none none none none) := by
  rw [sp6_eq]
  unfold spT6
  generalize sp7 = T
  simp [q]
end
theorem ev_law_spoilt {N : Nat} {HL : List (List Cell)} (hN : 1 ≤ N) (hN2 : N ≤ 64) (h1 : 1 ≤ HL.length) (hl : HL.length ≤ 1000) (w : Wf N 64 HL) (at_ way n : Int) (hn : n = (N : Int)) :
    ∃ o HL', F_law_spoilt [.lst (HL.map heapD), .int at_, .int way, .int n] = .ok ⟨o, false, .lst (HL'.map heapD)⟩ ∧ (o = .sh ∨ o = .li .sh ∨ o = .li (.li .sh)) ∧ HL'.length = HL.length ∧ Wf N 300 HL' := by
  rw [law_spoilt_seg]
  have S0 : sp0 (EW (HL.map heapD) at_ way n none none none none none none none none) = sp1 (EW (HL.map heapD) at_ way n (some (.li (.li .sh), .lst (HL.map heapD))) none none none none none none none) := by
    rw [sp0_eq]
    unfold spT0
    generalize sp1 = T
    have ll : (HL.map heapD).length ≤ 100000 := by rw [List.length_map]; omega
    have cp : ∀ x0 x1 x2 x3 x4 x5 x6 x7 x8 x9 x10 x11 x12 x13 x14 x15 x16, lcGo (lcStepN (.nm 12) (xBlt pList (xVCons (xV 12) (xVNil))) [x0, x1, x2, x3, x4, x5, x6, x7, x8, x9, x10, x11, x12, x13, x14, x15, x16]) (HL.map heapD) = .ok (HL.map heapD) := fun x0 x1 x2 x3 x4 x5 x6 x7 x8 x9 x10 x11 x12 x13 x14 x15 x16 => copies (by simp)
    generalize HL.map heapD = HD at *
    simp [ll, cp]
  show ∃ o HL', kFun (sp0 (EW (HL.map heapD) at_ way n none none none none none none none none)) = _ ∧ _
  rw [S0]
  have N2 : N ≤ 1000 := by omega
  by_cases q1 : way = 1
  · obtain ⟨H2, a, b, c⟩ := way1 (at_ := at_) hN N2 (by omega) hl w hn q1 _ (.inr rfl)
    exact ⟨_, H2, a, .inr (.inl rfl), b, c.mono (by omega)⟩
  rw [sk1 q1]
  by_cases q2 : way = 3
  · obtain ⟨H2, a, b, c⟩ := way3 (at_ := at_) hN N2 (by omega) hl w hn q2 _ (.inr rfl)
    exact ⟨_, H2, a, .inr (.inl rfl), b, c.mono (by omega)⟩
  rw [sk2 q2]
  by_cases q3 : way = 8
  · obtain ⟨H2, a, b, c⟩ := way8 (at_ := at_) hN N2 (by omega) hl w hn q3 _ (.inr rfl)
    exact ⟨_, H2, a, .inr (.inl rfl), b, c.mono (by omega)⟩
  rw [sk3 q3]
  by_cases q4 : way = 9
  · obtain ⟨H2, a, b, c⟩ := way9 (at_ := at_) (n := n) h1 hl w q4
    exact ⟨_, H2, a, .inr (.inr rfl), b, c.mono (by omega)⟩
  rw [sk4 q4]
  by_cases q5 : way = 5
  · obtain ⟨H2, a, b, c⟩ := way5 (at_ := at_) hN N2 h1 hl (by omega) w hn q5
    exact ⟨_, H2, a, .inr (.inr rfl), b, c.mono (by omega)⟩
  rw [sk5 q5]
  by_cases q6 : way = 7
  · obtain ⟨H2, a, b, c⟩ := way7 (at_ := at_) (n := n) h1 hl w q6 _ (.inr rfl)
    exact ⟨_, H2, a, .inr (.inl rfl), b, c.mono (by omega)⟩
  rw [sk6 q6]
  obtain ⟨o, H2, a, b, c, d⟩ := ev_law_layers h1 hl (w.mono (show 64 ≤ 100 by omega)) at_ way
  refine ⟨o, H2, ?_, ?_, c, d⟩
  · unfold sp7
    generalize H2.map heapD = R at *
    generalize HL.map heapD = HD at *
    rcases b with rfl | rfl
    · simp [a]
    · simp [a]
  · rcases b with rfl | rfl
    · exact .inl rfl
    · exact .inr (.inl rfl)
end Fd
set_option Elab.async false
set_option linter.all false
set_option maxRecDepth 100000
set_option maxHeartbeats 4000000
/-! KS: the law's body, cut (printed by seg.py). -/
namespace Bk
open PySem L2
def wi2 : XS := (xRet (xTup (xACons (xV 1) (xACons (xV 2) (xACons (xV 0) (xANil))))))
def wi1 : XS := xSeq (xIfS (xT (xOp2 pEq (xOp2 pMod (xV 3) (xC (.int 4))) (xC (.int 3)))) (xSeq (xSet 4 (xIf (xT (xOp2 pEq (xOp2 pMod (xOp2 pDiv (xV 3) (xC (.int 4))) (xC (.int 2))) (xC (.int 1)))) (xOp2 pMod (xOp2 pDiv (xV 3) (xC (.int 8))) (xOp2 pAdd (xV 2) (xC (.int 1)))) (xV 2))) (xRet (xTup (xACons (xV 1) (xACons (xOp2 pAdd (xV 2) (xC (.int 1))) (xACons (xOp2 pAdd (xOp2 pAdd (xSl (xV 0) (xPNone) (xPSome (xOp2 pMul (xV 4) (xV 1)))) (xLc [8] (xIRange (xVCons (xV 1) (xVNil))) (.nm 8) (xYes) (xLst (xANil)))) (xSl (xV 0) (xPSome (xOp2 pMul (xV 4) (xV 1))) (xPNone))) (xANil))))))) (xSkip)) (
  wi2)
def wi0 : XS := xSeq (xIfS (xT (xOp2 pEq (xOp2 pMod (xV 3) (xC (.int 4))) (xC (.int 1)))) (xSeq (xSet 4 (xIf (xT (xOp2 pEq (xOp2 pMod (xOp2 pDiv (xV 3) (xC (.int 4))) (xC (.int 2))) (xC (.int 1)))) (xOp2 pMod (xOp2 pDiv (xV 3) (xC (.int 8))) (xOp2 pAdd (xV 1) (xC (.int 1)))) (xV 1))) (xSeq (xSet 5 (xLst (xANil))) (xSeq (xFor (.nm 6) (xIRange (xVCons (xV 2) (xVNil))) (xSeq (xSet 7 (xSl (xV 0) (xPSome (xOp2 pMul (xV 6) (xV 1))) (xPSome (xOp2 pAdd (xOp2 pMul (xV 6) (xV 1)) (xV 1))))) (xSet 5 (xOp2 pAdd (xOp2 pAdd (xOp2 pAdd (xV 5) (xSl (xV 7) (xPNone) (xPSome (xV 4)))) (xLst (xACons (xLst (xANil)) (xANil)))) (xSl (xV 7) (xPSome (xV 4)) (xPNone)))))) (xFz 5 (xRet (xTup (xACons (xOp2 pAdd (xV 1) (xC (.int 1))) (xACons (xV 2) (xACons (xV 5) (xANil)))))))))) (xSkip)) (
  wi1)
/-- segment 0 with any rest -/
def wiT0 (T : XS) : XS := xSeq (xIfS (xT (xOp2 pEq (xOp2 pMod (xV 3) (xC (.int 4))) (xC (.int 1)))) (xSeq (xSet 4 (xIf (xT (xOp2 pEq (xOp2 pMod (xOp2 pDiv (xV 3) (xC (.int 4))) (xC (.int 2))) (xC (.int 1)))) (xOp2 pMod (xOp2 pDiv (xV 3) (xC (.int 8))) (xOp2 pAdd (xV 1) (xC (.int 1)))) (xV 1))) (xSeq (xSet 5 (xLst (xANil))) (xSeq (xFor (.nm 6) (xIRange (xVCons (xV 2) (xVNil))) (xSeq (xSet 7 (xSl (xV 0) (xPSome (xOp2 pMul (xV 6) (xV 1))) (xPSome (xOp2 pAdd (xOp2 pMul (xV 6) (xV 1)) (xV 1))))) (xSet 5 (xOp2 pAdd (xOp2 pAdd (xOp2 pAdd (xV 5) (xSl (xV 7) (xPNone) (xPSome (xV 4)))) (xLst (xACons (xLst (xANil)) (xANil)))) (xSl (xV 7) (xPSome (xV 4)) (xPNone)))))) (xFz 5 (xRet (xTup (xACons (xOp2 pAdd (xV 1) (xC (.int 1))) (xACons (xV 2) (xACons (xV 5) (xANil)))))))))) (xSkip)) (
  T)
theorem wi0_eq : wi0 = wiT0 wi1 := rfl
/-- segment 1 with any rest -/
def wiT1 (T : XS) : XS := xSeq (xIfS (xT (xOp2 pEq (xOp2 pMod (xV 3) (xC (.int 4))) (xC (.int 3)))) (xSeq (xSet 4 (xIf (xT (xOp2 pEq (xOp2 pMod (xOp2 pDiv (xV 3) (xC (.int 4))) (xC (.int 2))) (xC (.int 1)))) (xOp2 pMod (xOp2 pDiv (xV 3) (xC (.int 8))) (xOp2 pAdd (xV 2) (xC (.int 1)))) (xV 2))) (xRet (xTup (xACons (xV 1) (xACons (xOp2 pAdd (xV 2) (xC (.int 1))) (xACons (xOp2 pAdd (xOp2 pAdd (xSl (xV 0) (xPNone) (xPSome (xOp2 pMul (xV 4) (xV 1)))) (xLc [8] (xIRange (xVCons (xV 1) (xVNil))) (.nm 8) (xYes) (xLst (xANil)))) (xSl (xV 0) (xPSome (xOp2 pMul (xV 4) (xV 1))) (xPNone))) (xANil))))))) (xSkip)) (
  T)
theorem wi1_eq : wi1 = wiT1 wi2 := rfl
theorem law_wider_seg (d0 d1 d2 d3 : D) : F_law_wider [d0, d1, d2, d3] = kFun (wi0 [some (.sh, d0), some (.sh, d1), some (.sh, d2), some (.sh, d3), none, none, none, none, none]) := rfl
end Bk
set_option Elab.async false
set_option linter.all false
set_option maxRecDepth 100000
set_option maxHeartbeats 4000000
/-! KS: the law's body, cut (printed by seg.py). -/
namespace Bk
open PySem L2
def sg14 : XS := (xRet (xOp2 pEq (xV 8) (xV 7)))
def sg13 : XS := xFz 7 (xSeq (xIfS (xNotB (xT (xCallB F_law_alike (xVCons (xV 9) (xVCons (xCall F_law_due (xACons (xV 10) (xACons (xV 11) (xACons (xV 4) (xACons (xV 7) (xANil)))))) (xVNil)))))) (xRet (xC (.bl false))) (xSkip)) (
  sg14))
def sg12 : XS := xFz 8 (xSeq (xSet 9 (xCall F_fault (xACons (xV 10) (xACons (xV 11) (xACons (xV 4) (xACons (xV 5) (xACons (xV 8) (xANil)))))))) (
  sg13))
def sg11 : XS := xFz 7 (xSeq (xSet 8 (xLc [12] (xIList (xV 7)) (.nm 12) (xYes) (xBlt pList (xVCons (xV 12) (xVNil))))) (
  sg12))
def sg10 : XS := xFz 7 (xSeq (xUnp [4, 5, 7] (xCall F_law_wider (xACons (xV 7) (xACons (xV 4) (xACons (xV 5) (xACons (xOp2 pMod (xCallB F_law_cell_at (xVCons (xV 0) (xVCons (xC (.int 11)) (xVNil)))) (xOp2 pPow (xC (.int 10)) (xC (.int 9)))) (xANil))))))) (
  sg11))
def sg9 : XS := xSeq (xIfS (xT (xOp2 pGt (xV 6) (xC (.int 0)))) (xFz 7 (xSet 7 (xCall F_law_spoilt (xACons (xV 7) (xACons (xOp2 pMod (xCallB F_law_cell_at (xVCons (xV 0) (xVCons (xC (.int 2)) (xVNil)))) (xOp2 pPow (xC (.int 10)) (xC (.int 9)))) (xACons (xV 6) (xACons (xOp2 pMul (xV 10) (xV 11)) (xANil)))))))) (xSkip)) (
  sg10)
def sg8 : XS := xFz 1 (xSeq (xSet 7 (xCall F_law_heaps (xACons (xV 1) (xANil)))) (
  sg9))
def sg7 : XS := xSeq (xSet 6 (xOp2 pMod (xCallB F_law_cell_at (xVCons (xV 0) (xVCons (xC (.int 1)) (xVNil)))) (xC (.int 10)))) (
  sg8)
def sg6 : XS := xFz 1 (xSeq (xSet 5 (xOp2 pAdd (xC (.int 1)) (xBlt pMax1 (xVCons (xLc [12] (xIList (xV 1)) (.nm 12) (xYes) (xOp2 pIx (xV 12) (xC (.int 1)))) (xVNil))))) (
  sg7))
def sg5 : XS := xFz 1 (xSeq (xSet 4 (xOp2 pAdd (xC (.int 1)) (xBlt pMax1 (xVCons (xLc [12] (xIList (xV 1)) (.nm 12) (xYes) (xOp2 pIx (xV 12) (xC (.int 0)))) (xVNil))))) (
  sg6))
def sg4 : XS := xFz 2 (xSeq (xFor (.nm 3) (xIList (xV 2)) (xFz 1 (xSeq (xSet 4 (xOp2 pAdd (xC (.int 1)) (xBlt pMax1 (xVCons (xLc [12] (xIList (xV 1)) (.nm 12) (xYes) (xOp2 pIx (xV 12) (xC (.int 0)))) (xVNil))))) (xFz 1 (xSeq (xSet 5 (xOp2 pAdd (xC (.int 1)) (xBlt pMax1 (xVCons (xLc [12] (xIList (xV 1)) (.nm 12) (xYes) (xOp2 pIx (xV 12) (xC (.int 1)))) (xVNil))))) (xIfS (xT (xOp2 pGt (xOp2 pMul (xV 4) (xV 5)) (xC (.int 1)))) (xFz 1 (xSet 1 (xCall F_law_folded (xACons (xV 1) (xACons (xCall F_law_fold_by (xACons (xV 3) (xACons (xV 4) (xACons (xV 5) (xANil))))) (xANil)))))) (xSkip))))))) (
  sg5))
def sg3 : XS := xSeq (xIfS (xT (xOp2 pEq (xOp2 pMod (xCallB F_law_cell_at (xVCons (xV 0) (xVCons (xC (.int 12)) (xVNil)))) (xC (.int 4))) (xC (.int 1)))) (xSeq (xPar 10 11 (xACons (xC (.int 2)) (xACons (xOp2 pAdd (xC (.int 2)) (xOp2 pMod (xOp2 pDiv (xCallB F_law_cell_at (xVCons (xV 0) (xVCons (xC (.int 12)) (xVNil)))) (xC (.int 4))) (xC (.int 3)))) (xANil)))) (xSeq (xSet 1 (xCall F_law_folded (xACons (xCall F_law_flat (xACons (xV 10) (xACons (xV 11) (xANil)))) (xACons (xTup (xACons (xC (.str "west")) (xACons (xC (.bl true)) (xACons (xC (.int 1)) (xANil))))) (xANil))))) (xSet 2 (xLst (xANil))))) (xSkip)) (
  sg4)
def sg2 : XS := xSeq (xSet 2 (xSl (xV 0) (xPSome (xC (.int 3))) (xPSome (xC (.int 11))))) (
  sg3)
def sg1 : XS := xSeq (xSet 1 (xCall F_law_flat (xACons (xV 10) (xACons (xV 11) (xANil))))) (
  sg2)
def sg0 : XS := xSeq (xUnp [10, 11] (xCall F_law_sheet_by (xACons (xCallB F_law_cell_at (xVCons (xV 0) (xVCons (xC (.int 0)) (xVNil)))) (xANil)))) (
  sg1)
/-- segment 0 with any rest -/
def sgT0 (T : XS) : XS := xSeq (xUnp [10, 11] (xCall F_law_sheet_by (xACons (xCallB F_law_cell_at (xVCons (xV 0) (xVCons (xC (.int 0)) (xVNil)))) (xANil)))) (
  T)
theorem sg0_eq : sg0 = sgT0 sg1 := rfl
/-- segment 1 with any rest -/
def sgT1 (T : XS) : XS := xSeq (xSet 1 (xCall F_law_flat (xACons (xV 10) (xACons (xV 11) (xANil))))) (
  T)
theorem sg1_eq : sg1 = sgT1 sg2 := rfl
/-- segment 2 with any rest -/
def sgT2 (T : XS) : XS := xSeq (xSet 2 (xSl (xV 0) (xPSome (xC (.int 3))) (xPSome (xC (.int 11))))) (
  T)
theorem sg2_eq : sg2 = sgT2 sg3 := rfl
/-- segment 3 with any rest -/
def sgT3 (T : XS) : XS := xSeq (xIfS (xT (xOp2 pEq (xOp2 pMod (xCallB F_law_cell_at (xVCons (xV 0) (xVCons (xC (.int 12)) (xVNil)))) (xC (.int 4))) (xC (.int 1)))) (xSeq (xPar 10 11 (xACons (xC (.int 2)) (xACons (xOp2 pAdd (xC (.int 2)) (xOp2 pMod (xOp2 pDiv (xCallB F_law_cell_at (xVCons (xV 0) (xVCons (xC (.int 12)) (xVNil)))) (xC (.int 4))) (xC (.int 3)))) (xANil)))) (xSeq (xSet 1 (xCall F_law_folded (xACons (xCall F_law_flat (xACons (xV 10) (xACons (xV 11) (xANil)))) (xACons (xTup (xACons (xC (.str "west")) (xACons (xC (.bl true)) (xACons (xC (.int 1)) (xANil))))) (xANil))))) (xSet 2 (xLst (xANil))))) (xSkip)) (
  T)
theorem sg3_eq : sg3 = sgT3 sg4 := rfl
/-- segment 4 with any rest -/
def sgT4 (T : XS) : XS := xFz 2 (xSeq (xFor (.nm 3) (xIList (xV 2)) (xFz 1 (xSeq (xSet 4 (xOp2 pAdd (xC (.int 1)) (xBlt pMax1 (xVCons (xLc [12] (xIList (xV 1)) (.nm 12) (xYes) (xOp2 pIx (xV 12) (xC (.int 0)))) (xVNil))))) (xFz 1 (xSeq (xSet 5 (xOp2 pAdd (xC (.int 1)) (xBlt pMax1 (xVCons (xLc [12] (xIList (xV 1)) (.nm 12) (xYes) (xOp2 pIx (xV 12) (xC (.int 1)))) (xVNil))))) (xIfS (xT (xOp2 pGt (xOp2 pMul (xV 4) (xV 5)) (xC (.int 1)))) (xFz 1 (xSet 1 (xCall F_law_folded (xACons (xV 1) (xACons (xCall F_law_fold_by (xACons (xV 3) (xACons (xV 4) (xACons (xV 5) (xANil))))) (xANil)))))) (xSkip))))))) (
  T))
theorem sg4_eq : sg4 = sgT4 sg5 := rfl
/-- segment 5 with any rest -/
def sgT5 (T : XS) : XS := xFz 1 (xSeq (xSet 4 (xOp2 pAdd (xC (.int 1)) (xBlt pMax1 (xVCons (xLc [12] (xIList (xV 1)) (.nm 12) (xYes) (xOp2 pIx (xV 12) (xC (.int 0)))) (xVNil))))) (
  T))
theorem sg5_eq : sg5 = sgT5 sg6 := rfl
/-- segment 6 with any rest -/
def sgT6 (T : XS) : XS := xFz 1 (xSeq (xSet 5 (xOp2 pAdd (xC (.int 1)) (xBlt pMax1 (xVCons (xLc [12] (xIList (xV 1)) (.nm 12) (xYes) (xOp2 pIx (xV 12) (xC (.int 1)))) (xVNil))))) (
  T))
theorem sg6_eq : sg6 = sgT6 sg7 := rfl
/-- segment 7 with any rest -/
def sgT7 (T : XS) : XS := xSeq (xSet 6 (xOp2 pMod (xCallB F_law_cell_at (xVCons (xV 0) (xVCons (xC (.int 1)) (xVNil)))) (xC (.int 10)))) (
  T)
theorem sg7_eq : sg7 = sgT7 sg8 := rfl
/-- segment 8 with any rest -/
def sgT8 (T : XS) : XS := xFz 1 (xSeq (xSet 7 (xCall F_law_heaps (xACons (xV 1) (xANil)))) (
  T))
theorem sg8_eq : sg8 = sgT8 sg9 := rfl
/-- segment 9 with any rest -/
def sgT9 (T : XS) : XS := xSeq (xIfS (xT (xOp2 pGt (xV 6) (xC (.int 0)))) (xFz 7 (xSet 7 (xCall F_law_spoilt (xACons (xV 7) (xACons (xOp2 pMod (xCallB F_law_cell_at (xVCons (xV 0) (xVCons (xC (.int 2)) (xVNil)))) (xOp2 pPow (xC (.int 10)) (xC (.int 9)))) (xACons (xV 6) (xACons (xOp2 pMul (xV 10) (xV 11)) (xANil)))))))) (xSkip)) (
  T)
theorem sg9_eq : sg9 = sgT9 sg10 := rfl
/-- segment 10 with any rest -/
def sgT10 (T : XS) : XS := xFz 7 (xSeq (xUnp [4, 5, 7] (xCall F_law_wider (xACons (xV 7) (xACons (xV 4) (xACons (xV 5) (xACons (xOp2 pMod (xCallB F_law_cell_at (xVCons (xV 0) (xVCons (xC (.int 11)) (xVNil)))) (xOp2 pPow (xC (.int 10)) (xC (.int 9)))) (xANil))))))) (
  T))
theorem sg10_eq : sg10 = sgT10 sg11 := rfl
/-- segment 11 with any rest -/
def sgT11 (T : XS) : XS := xFz 7 (xSeq (xSet 8 (xLc [12] (xIList (xV 7)) (.nm 12) (xYes) (xBlt pList (xVCons (xV 12) (xVNil))))) (
  T))
theorem sg11_eq : sg11 = sgT11 sg12 := rfl
/-- segment 12 with any rest -/
def sgT12 (T : XS) : XS := xFz 8 (xSeq (xSet 9 (xCall F_fault (xACons (xV 10) (xACons (xV 11) (xACons (xV 4) (xACons (xV 5) (xACons (xV 8) (xANil)))))))) (
  T))
theorem sg12_eq : sg12 = sgT12 sg13 := rfl
/-- segment 13 with any rest -/
def sgT13 (T : XS) : XS := xFz 7 (xSeq (xIfS (xNotB (xT (xCallB F_law_alike (xVCons (xV 9) (xVCons (xCall F_law_due (xACons (xV 10) (xACons (xV 11) (xACons (xV 4) (xACons (xV 7) (xANil)))))) (xVNil)))))) (xRet (xC (.bl false))) (xSkip)) (
  T))
theorem sg13_eq : sg13 = sgT13 sg14 := rfl
theorem law_seg (d0 : D) : F_law [d0] = kFun (sg0 [some (.sh, d0), none, none, none, none, none, none, none, none, none, none, none, none]) := rfl
end Bk
set_option Elab.async false
set_option linter.all false
set_option maxRecDepth 100000
set_option maxHeartbeats 8000000
/-! KW: wider. -/
namespace Fd
open Bk PySem L2
theorem cut_split_len {α : Type} (xs : List α) (a : Nat) : (cut xs none (some (a : Int))).length + (cut xs (some (a : Int)) none).length = xs.length := by
  unfold cut
  rw [HT.sIx_nat, HT.sIx_nat]
  have e1 : HT.sIx xs.length 0 none = 0 := rfl
  have e2 : HT.sIx xs.length xs.length none = xs.length := rfl
  rw [e1, e2]
  simp only [List.length_take, List.length_drop]
  omega
theorem cut_span {α : Type} (xs : List α) (k w : Nat) : (cut xs (some ((k : Int) * (w : Int))) (some ((k : Int) * (w : Int) + (w : Int)))).length ≤ w := by
  have e1 : (k : Int) * (w : Int) = ((k * w : Nat) : Int) := (Int.natCast_mul k w).symm
  have e2 : ((k * w : Nat) : Int) + (w : Int) = ((k * w + w : Nat) : Int) := (Int.natCast_add _ _).symm
  rw [e1, e2]
  unfold cut
  rw [HT.sIx_nat, HT.sIx_nat]
  simp only [List.length_take, List.length_drop]
  generalize k * w = m
  omega
abbrev EWi (HD : List D) (W Hh cell : Int) (x4 x5 x6 x7 : Option (Ow × D)) : XEnv := [some (.sh, .lst HD), some (.sh, .int W), some (.sh, .int Hh), some (.sh, .int cell), x4, x5, x6, x7, none]
theorem wider_step {HD O A R B : List D} {W Hh cell at_ y : Int} {x6 x7 : Option (Ow × D)} (w1 : -18446744073709551616 < W) (w2 : W < 18446744073709551616)
    (hR : cut HD (some (y * W)) (some (y * W + W)) = R) (hA : cut R none (some at_) = A) (hB : cut R (some at_) none = B) (hl : O.length + A.length + 1 + B.length ≤ 100000) :
    stepO (.nm 6) (xSeq (xSet 7 (xSl (xV 0) (xPSome (xOp2 pMul (xV 6) (xV 1))) (xPSome (xOp2 pAdd (xOp2 pMul (xV 6) (xV 1)) (xV 1))))) (
  xSet 5 (xOp2 pAdd (xOp2 pAdd (xOp2 pAdd (xV 5) (xSl (xV 7) (xPNone) (xPSome (xV 4)))) (xLst (xACons (xLst (xANil)) (xANil)))) (xSl (xV 7) (xPSome (xV 4)) (xPNone))))) (.int y) (EWi HD W Hh cell (some (.sh, .int at_)) (some (.li .sh, .lst O)) x6 x7) = .next (EWi HD W Hh cell (some (.sh, .int at_)) (some (.li .sh, .lst (O ++ A ++ [.lst []] ++ B))) (some (.sh, .int y)) (some (.li .sh, .lst R))) := by
  have l1 : O.length + A.length ≤ 100000 := by omega
  have l2 : O.length + A.length + 1 ≤ 100000 := by omega
  have l3 : O.length + (A.length + 1) + B.length ≤ 100000 := by omega
  simp [w1, w2, hR, hA, hB, l1, l2, l3, hl]
theorem wf_cut {N b : Nat} {HL : List (List Cell)} (w : Wf N b HL) (lo hi : Option Int) : Wf N b (cut HL lo hi) := fun h hh => w h (mem_cut hh)
theorem wf_app {N b : Nat} {A B : List (List Cell)} (wa : Wf N b A) (wb : Wf N b B) : Wf N b (A ++ B) := fun h hh => (List.mem_append.mp hh).elim (wa h) (wb h)
theorem wf_nil {N b : Nat} : Wf N b [[]] := fun h hh => by
  rw [List.mem_singleton] at hh
  subst hh
  exact ⟨fun x hx => by simp at hx, Nat.zero_le _⟩
theorem ev_law_wider {N : Nat} {HL : List (List Cell)} {W Hh : Int} (hW : 1 ≤ W) (hH : 1 ≤ Hh) (hW2 : W ≤ 64) (hH2 : Hh ≤ 64) (hs : W * Hh ≤ 64) (hl : (HL.length : Int) = W * Hh) (w : Wf N 300 HL) (cell : Int) :
    ∃ W2 H2 HL2, F_law_wider [.lst (HL.map heapD), .int W, .int Hh, .int cell] = .ok (.sh (.tup [.int W2, .int H2, .lst (HL2.map heapD)])) ∧ 1 ≤ W2 ∧ W2 ≤ 65 ∧ HL2.length ≤ 300 ∧ Wf N 300 HL2 := by
  rw [law_wider_seg]
  have m0 : -18446744073709551616 < W := by omega
  have m1 : W < 18446744073709551616 := by omega
  have z1 : (0 : Int) < W + 1 := by omega
  have z2 : W + 1 < 1073741824 := by omega
  have z3 : (0 : Int) < Hh + 1 := by omega
  have z4 : Hh + 1 < 1073741824 := by omega
  show ∃ W2 H2 HL2, kFun (wi0 (EWi (HL.map heapD) W Hh cell none none none none)) = _ ∧ _
  rw [wi0_eq]
  unfold wiT0
  by_cases q1 : cell % 4 = 1
  · generalize wi1 = T
    -- where the new column stands
    obtain ⟨at_, ha, hat⟩ : ∃ at_ : Nat, (if cell / 4 % 2 = 1 then cell / 8 % (W + 1) else W) = (at_ : Int) ∧ True := by
      have := Int.emod_nonneg (cell / 8) (show W + 1 ≠ 0 by omega)
      by_cases q2 : cell / 4 % 2 = 1
      · exact ⟨(cell / 8 % (W + 1)).toNat, by rw [if_pos q2]; omega, trivial⟩
      · exact ⟨W.toNat, by rw [if_neg q2]; omega, trivial⟩
    obtain ⟨wn, rfl⟩ : ∃ wn : Nat, W = (wn : Int) := ⟨W.toNat, by omega⟩
    have fin : ∀ x6 x7, ∃ e2, forGo (.nm 6) (xSeq (xSet 7 (xSl (xV 0) (xPSome (xOp2 pMul (xV 6) (xV 1))) (xPSome (xOp2 pAdd (xOp2 pMul (xV 6) (xV 1)) (xV 1))))) (
  xSet 5 (xOp2 pAdd (xOp2 pAdd (xOp2 pAdd (xV 5) (xSl (xV 7) (xPNone) (xPSome (xV 4)))) (xLst (xACons (xLst (xANil)) (xANil)))) (xSl (xV 7) (xPSome (xV 4)) (xPNone))))) (rangeD Hh) (EWi (HL.map heapD) (wn : Int) Hh cell (some (.sh, .int (at_ : Int))) (some (.li .sh, .lst [])) x6 x7) = .next e2 ∧
        ∃ HL2 x6 x7, e2 = EWi (HL.map heapD) (wn : Int) Hh cell (some (.sh, .int (at_ : Int))) (some (.li .sh, .lst (HL2.map heapD))) x6 x7 ∧ HL2.length ≤ Hh.toNat * (wn + 1) ∧ Wf N 300 HL2 := fun x6 x7 => by
      refine rng_nx (fun i env => ∃ HL2 x6 x7, env = EWi (HL.map heapD) (wn : Int) Hh cell (some (.sh, .int (at_ : Int))) (some (.li .sh, .lst (HL2.map heapD))) x6 x7 ∧ HL2.length ≤ i * (wn + 1) ∧ Wf N 300 HL2) ⟨[], x6, x7, rfl, Nat.zero_le _, fun h hh => by simp at hh⟩ ?_
      rintro i env hi ⟨HL2, x6, x7, rfl, hlen, wf⟩
      have rl := cut_span HL i wn
      have sp := cut_split_len (cut HL (some ((i : Int) * (wn : Int))) (some ((i : Int) * (wn : Int) + (wn : Int)))) at_
      generalize hR : cut HL (some ((i : Int) * (wn : Int))) (some ((i : Int) * (wn : Int) + (wn : Int))) = R at *
      have hR2 : cut (HL.map heapD) (some ((i : Int) * (wn : Int))) (some ((i : Int) * (wn : Int) + (wn : Int))) = R.map heapD := by rw [cut_map, hR]
      have e3 : (i + 1) * (wn + 1) = i * (wn + 1) + (wn + 1) := Nat.succ_mul i (wn + 1)
      have e4 : i * (wn + 1) ≤ 64 * 65 := Nat.mul_le_mul (by omega) (by omega)
      have st := wider_step (HD := HL.map heapD) (O := HL2.map heapD) (Hh := Hh) (cell := cell) (x6 := x6) (x7 := x7) m0 m1 hR2 (cut_map heapD R none (some (at_ : Int))) (cut_map heapD R (some (at_ : Int)) none) (by simp only [List.length_map]; omega)
      refine ⟨_, st, HL2 ++ cut R none (some (at_ : Int)) ++ [[]] ++ cut R (some (at_ : Int)) none, some (.sh, .int (i : Int)), some (.li .sh, .lst (R.map heapD)), ?_, ?_, ?_⟩
      · rw [List.map_append, List.map_append, List.map_append]
        rfl
      · simp only [List.length_append, List.length_cons, List.length_nil]
        rw [e3]
        omega
      · have wr : Wf N 300 R := hR ▸ wf_cut w _ _
        exact wf_app (wf_app (wf_app wf (wf_cut wr _ _)) wf_nil) (wf_cut wr _ _)
    obtain ⟨e2, g1, HL2, x6, x7, g2, g3, g4⟩ := fin none none
    subst g2
    refine ⟨(wn : Int) + 1, Hh, HL2, ?_, by omega, by omega, ?_, g4⟩
    · have a1 : Hh ≤ 100000 := by omega
      have a2 : -100000 ≤ Hh := by omega
      have aN : (rangeD Hh).length ≤ 100000 := by
        rw [rangeD_map, List.length_map, List.length_range]
        omega
      clear fin
      generalize HL2.map heapD = R at *
      generalize HL.map heapD = HD at *
      generalize (wn : Int) = W at *
      generalize (at_ : Int) = aa at *
      by_cases q2 : cell / 4 % 2 = 1
      · rw [if_pos q2] at ha
        simp [q1, q2, z1, z2, ha, a1, a2, aN]
        rw [g1]
        simp
      · rw [if_neg q2] at ha
        subst ha
        simp [q1, q2, z1, z2, a1, a2, aN]
        rw [g1]
        simp
    · have : wn * Hh.toNat ≤ 64 := by
        have e : (wn : Int) * Hh = ((wn * Hh.toNat : Nat) : Int) := by rw [Int.natCast_mul, Int.toNat_of_nonneg (by omega)]
        omega
      have e5 : Hh.toNat * (wn + 1) = wn * Hh.toNat + Hh.toNat := by rw [Nat.mul_add, Nat.mul_comm, Nat.mul_one]
      omega
  · have S0 : (wiT0 wi1) (EWi (HL.map heapD) W Hh cell none none none none) = wi1 (EWi (HL.map heapD) W Hh cell none none none none) := by
      unfold wiT0
      generalize wi1 = T
      generalize HL.map heapD = HD
      simp [q1]
    show ∃ W2 H2 HL2, kFun ((wiT0 wi1) (EWi (HL.map heapD) W Hh cell none none none none)) = _ ∧ _
    rw [S0]
    by_cases q3 : cell % 4 = 3
    · obtain ⟨p, hp⟩ : ∃ p : Int, (if cell / 4 % 2 = 1 then cell / 8 % (Hh + 1) else Hh) = p := ⟨_, rfl⟩
      have d1 := cut_map heapD HL none (some (p * W))
      have d2 := cut_map heapD HL (some (p * W)) none
      have c1 := cut_len HL none (some (p * W))
      have c2 := cut_len HL (some (p * W)) none
      have lc : ∀ env : XEnv, lcGo (lcStep (.nm 8) xYes (xLst xANil) env) (rangeD W) = .ok (((List.range W.toNat).map fun _ => ([] : List Cell)).map heapD) := fun env => by
        rw [List.map_map]
        exact lc_range (step := lcStep (.nm 8) xYes (xLst xANil) env) (n := W) (g := heapD ∘ fun _ => ([] : List Cell)) fun k hk => by simp [lcStep, heapD]
      have rl : ((List.range W.toNat).map fun _ => ([] : List Cell)).length = W.toNat := by rw [List.length_map, List.length_range]
      have wr : Wf N 300 ((List.range W.toNat).map fun _ => ([] : List Cell)) := fun h hh => by
        obtain ⟨_, _, rfl⟩ := List.mem_map.mp hh
        exact ⟨fun x hx => by simp at hx, Nat.zero_le _⟩
      have a1 : W ≤ 100000 := by omega
      have a2 : -100000 ≤ W := by omega
      have aN : (rangeD W).length ≤ 100000 := by
        rw [rangeD_map, List.length_map, List.length_range]
        omega
      refine ⟨W, Hh + 1, cut HL none (some (p * W)) ++ ((List.range W.toNat).map fun _ => []) ++ cut HL (some (p * W)) none, ?_, hW, by omega, ?_, wf_app (wf_app (wf_cut w _ _) wr) (wf_cut w _ _)⟩
      · rw [List.map_append, List.map_append, ← d1, ← d2]
        rw [← List.length_map (f := heapD)] at rl c1 c2
        rw [← d1] at c1
        rw [← d2] at c2
        generalize ((List.range W.toNat).map fun _ => ([] : List Cell)).map heapD = RD at *
        clear d1 d2 S0
        have b0 : (HL.length : Int) ≤ 64 := by omega
        generalize HL.length = n at *
        generalize HL.map heapD = HD at *
        generalize hA1 : cut HD none (some (p * W)) = A1 at *
        generalize hA2 : cut HD (some (p * W)) none = A2 at *
        have l1 : A1.length + RD.length ≤ 100000 := by omega
        have l2 : A1.length + RD.length + A2.length ≤ 100000 := by omega
        rw [wi1_eq]
        unfold wiT1
        generalize wi2 = T
        by_cases q2 : cell / 4 % 2 = 1
        · rw [if_pos q2] at hp
          simp [q3, q2, z3, z4, hp, m0, m1, a1, a2, aN, lc, hA1, hA2, l1, l2]
        · rw [if_neg q2] at hp
          subst hp
          simp [q3, q2, z3, z4, m0, m1, a1, a2, aN, lc, hA1, hA2, l1, l2]
      · simp only [List.length_append]
        omega
    · refine ⟨W, Hh, HL, ?_, hW, by omega, by omega, w⟩
      rw [wi1_eq]
      unfold wiT1 wi2
      generalize HL.map heapD = HD
      simp [q3]
end Fd
set_option Elab.async false
set_option linter.all false
set_option maxRecDepth 100000
set_option maxHeartbeats 8000000
/-! KN: the law's own statements. -/
namespace Fd
open Bk PySem L2
theorem heaps_fine (hs : List (List Cell)) : (hs.map heapD).all (D.fine 5) = true := by
  rw [List.all_map, List.all_eq_true]
  intro h _
  show (h.map cellD).all (D.fine 4) = true
  rw [List.all_map, List.all_eq_true]
  intro x _
  simp [cellD]
abbrev Q (NS : D) (x1 x2 x3 x4 x5 x6 x7 x8 x9 x10 x11 x12 : Option (Ow × D)) : XEnv := [some (.sh, NS), x1, x2, x3, x4, x5, x6, x7, x8, x9, x10, x11, x12]
/-- the law as its first statements leave it: a pile and its spots, the cells that fold it -/
theorem start (ns : List Int) (hl : ns.length ≤ 63) : ∃ (c r : Int) (P : PileT) (S : Nat → Spot) (xs : List Int), 1 ≤ c ∧ 1 ≤ r ∧ c * r ≤ 64 ∧ Mt P (c * r).toNat S ∧ xs.length ≤ 63 ∧
    sg0 (Q (.fz (ns.map .int)) none none none none none none none none none none none none) = sg4 (Q (.fz (ns.map .int)) (some (.li .sh, spotsD (c * r).toNat S)) (some (.li .sh, .lst (xs.map .int))) none none none none none none none (some (.sh, .int c)) (some (.sh, .int r)) none) := by
  obtain ⟨c, r, es, hc, hr, hcr⟩ := ev_sheet_by (ns.getD 0 0)
  have cc : ∀ n : Nat, F_law_cell_at [.fz (ns.map .int), .int (n : Int)] = .ok (.sh (.int (ns.getD n 0))) := ev_cell_at ns
  have c0' : F_law_cell_at [.fz (ns.map .int), .int 0] = .ok (.sh (.int (ns.getD 0 0))) := cc 0
  have c12 : F_law_cell_at [.fz (ns.map .int), .int 12] = .ok (.sh (.int (ns.getD 12 0))) := cc 12
  have ef := ev_flat hc hr hcr
  have cl := cut_len ns (some 3) (some 11)
  have cm := cut_map D.int ns (some 3) (some 11)
  by_cases q : ns.getD 12 0 % 4 = 1
  · have r0 := Int.emod_nonneg (ns.getD 12 0 / 4) (show (3 : Int) ≠ 0 by omega)
    have r1 := Int.emod_lt_of_pos (ns.getD 12 0 / 4) (show (0 : Int) < 3 by omega)
    have ef2 := ev_flat (c := 2) (r := 2 + ns.getD 12 0 / 4 % 3) (by omega) (by omega) (by omega)
    have M := Mt.laid (c := 2) (r := 2 + ns.getD 12 0 / 4 % 3) (by omega) (by omega) (by omega)
    have p1 : (1 : Int) ≤ (laidT 2 (2 + ns.getD 12 0 / 4 % 3)).wide := show (1 : Int) ≤ 2 by omega
    have p2 : (1 : Int) ≤ (laidT 2 (2 + ns.getD 12 0 / 4 % 3)).high := show (1 : Int) ≤ 2 + ns.getD 12 0 / 4 % 3 by omega
    obtain ⟨top, low, L, eL⟩ := ev_law_folded M.good p1 p2 (by have := M.n64; omega) ⟨.west, true, 1⟩
    have M2 := M.fold (f := ⟨.west, true, 1⟩) L (show (1 : Int) ≤ 1 by omega) (show (1 : Int) < 2 by omega)
    refine ⟨2, 2 + ns.getD 12 0 / 4 % 3, _, _, [], by omega, by omega, by omega, M2, by simp, ?_⟩
    clear M2 L M p1 p2
    have fd : foldD ⟨.west, true, 1⟩ = .tup [.str (Str.ofString "west"), .bl true, .int 1] := rfl
    rw [fd] at eL
    generalize spotsD (2 * (2 + ns.getD 12 0 / 4 % 3)).toNat (fun k => spotF ⟨.west, true, 1⟩ (grownF ⟨.west, true, 1⟩ (laidT 2 (2 + ns.getD 12 0 / 4 % 3)).wide (laidT 2 (2 + ns.getD 12 0 / 4 % 3)).high) top low (flatI 2 k)) = R at *
    rw [sg0_eq]
    unfold sgT0
    rw [sg1_eq]
    unfold sgT1
    rw [sg2_eq]
    unfold sgT2
    rw [sg3_eq]
    unfold sgT3
    generalize sg4 = T
    generalize spotsD (2 * (2 + ns.getD 12 0 / 4 % 3)).toNat (flatI 2) = F at *
    generalize spotsD (c * r).toNat (flatI c) = F2 at *
    clear cm cl
    generalize ns.getD 12 0 = n12 at *
    generalize ns.getD 0 0 = n0 at *
    have cl2 : (ns.map D.int).length ≤ 63 := by rw [List.length_map]; exact hl
    generalize ns.map D.int = NS at *
    simp [c0', c12, es, ef, ef2, eL, q]
  · refine ⟨c, r, laidT c r, flatI c, cut ns (some 3) (some 11), hc, hr, hcr, Mt.laid hc hr hcr, by omega, ?_⟩
    rw [← cm]
    rw [sg0_eq]
    unfold sgT0
    rw [sg1_eq]
    unfold sgT1
    rw [sg2_eq]
    unfold sgT2
    rw [sg3_eq]
    unfold sgT3
    generalize sg4 = T
    generalize spotsD (c * r).toNat (flatI c) = F2 at *
    generalize ns.getD 12 0 = n12 at *
    generalize ns.getD 0 0 = n0 at *
    have cl2 : (ns.map D.int).length ≤ 63 := by rw [List.length_map]; exact hl
    generalize ns.map D.int = NS at *
    simp [c0', c12, es, ef, q]
end Fd
set_option Elab.async false
set_option linter.all false
set_option maxRecDepth 100000
set_option maxHeartbeats 8000000
/-! KO: the folds. -/
namespace Fd
open Bk PySem L2
theorem folds_loop {NS : D} {c r : Int} {P : PileT} {S : Nat → Spot} {xs : List Int} (hx : xs.length ≤ 63) (M : Mt P (c * r).toNat S) {R : Res Val}
    (k : ∀ (P : PileT) (S : Nat → Spot) (o1 : Ow) (x3 x4 x5 : Option (Ow × D)), (o1 = .sh ∨ o1 = .li .sh) → Mt P (c * r).toNat S → kFun (sg5 (Q NS (some (o1, spotsD (c * r).toNat S)) (some (.sh, .lst (xs.map .int))) x3 x4 x5 none none none none (some (.sh, .int c)) (some (.sh, .int r)) none)) = R) :
    kFun (sg4 (Q NS (some (.li .sh, spotsD (c * r).toNat S)) (some (.li .sh, .lst (xs.map .int))) none none none none none none none (some (.sh, .int c)) (some (.sh, .int r)) none)) = R := by
  generalize (c * r).toNat = N at *
  have hl : (xs.map D.int).length ≤ 100000 := by rw [List.length_map]; omega
  rw [sg4_eq]
  unfold sgT4
  generalize sg5 = T at *
  simp [hl]
  refine for_fun (enc := fun i : Int => D.int i) xs (fun i env => ∃ P S o1 x3 x4 x5, env = Q NS (some (o1, spotsD N S)) (some (.sh, .lst (xs.map .int))) x3 x4 x5 none none none none (some (.sh, .int c)) (some (.sh, .int r)) none ∧
    (o1 = .sh ∨ o1 = .li .sh) ∧ Mt P N S) rfl
    ⟨P, S, .li .sh, none, none, none, rfl, .inr rfl, M⟩ ?_ ?_
  · rintro i x env hx ⟨P, S, o1, x3, x4, x5, rfl, ho, M⟩
    have w1 := M.sh.w1
    have h1 := M.sh.h1
    have w64 := M.sh.w64
    have m0 : -18446744073709551616 < P.wide := by omega
    have m1 : P.wide < 18446744073709551616 := by omega
    have nl : N ≤ 100000 := by have := M.n64; omega
    have mx := M.maxx (.li .sh) false
    have my := M.maxy (.li .sh) false
    generalize D.lst (xs.map D.int) = XS
    by_cases q : P.wide = 1 ∧ P.high = 1
    · refine ⟨Q NS (some (.sh, spotsD N S)) (some (.sh, XS)) (some (.sh, .int x)) (some (.sh, .int P.wide)) (some (.sh, .int P.high)) none none none none (some (.sh, .int c)) (some (.sh, .int r)) none, ?_, P, S, .sh, _, _, _, rfl, .inl rfl, M⟩
      rcases ho with rfl | rfl <;> simp [spotsD, nl, lc_x, lc_y, mx, my, one_add, m0, m1, q]
    · have qq : 1 < P.wide * P.high := by
        by_cases z : P.wide = 1
        · rw [z]
          omega
        · have := Int.mul_le_mul_of_nonneg_left h1 (show 0 ≤ P.wide by omega)
          omega
      have efb := ev_fold_by (cell := x) w1 h1 q
      have fok := foldByT_ok (cell := x) w1 h1 q
      generalize foldByT x P.wide P.high = f at *
      obtain ⟨top, low, L, eL⟩ := ev_law_folded M.good w1 h1 (by have := M.n64; omega) f
      have M2 := M.fold L fok.1 fok.2
      generalize hS2 : (fun k => spotF f (grownF f P.wide P.high) top low (S k)) = S2 at *
      refine ⟨Q NS (some (.li .sh, spotsD N S2)) (some (.sh, XS)) (some (.sh, .int x)) (some (.sh, .int P.wide)) (some (.sh, .int P.high)) none none none none (some (.sh, .int c)) (some (.sh, .int r)) none, ?_, _, S2, .li .sh, _, _, _, rfl, .inr rfl, M2⟩
      generalize foldD f = FD at *
      simp only [spotsD] at eL
      rcases ho with rfl | rfl <;> simp [spotsD, nl, lc_x, lc_y, mx, my, one_add, m0, m1, qq, efb, eL]
  · rintro e2 ⟨P, S, o1, x3, x4, x5, rfl, ho, M⟩
    exact k P S o1 x3 x4 x5 ho M
end Fd
set_option Elab.async false
set_option linter.all false
set_option maxRecDepth 100000
set_option maxHeartbeats 8000000
/-! KM: the law. -/
namespace Fd
open Bk PySem L2
theorem judged {NS : D} {c r W Hh way : Int} {HL : List (List Cell)} (hc : 1 ≤ c) (hr : 1 ≤ r) (hcr : c * r ≤ 64) (w1 : 1 ≤ W) (w2 : W ≤ 65) (hl : HL.length ≤ 300) (w : Wf (c * r).toNat 300 HL) (x1 x2 x3 x12 : Option (Ow × D)) :
    kFun (sg11 (Q NS x1 x2 x3 (some (.sh, .int W)) (some (.sh, .int Hh)) (some (.sh, .int way)) (some (.sh, .lst (HL.map heapD))) none none (some (.sh, .int c)) (some (.sh, .int r)) x12)) = .ok (.sh (.bl true)) := by
  have bb := sizes_bnd hc hr hcr
  have pos : 1 ≤ c * r := by have := Int.mul_le_mul hc hr (by omega) (by omega); omega
  have hN : c * r = (((c * r).toNat : Nat) : Int) := by omega
  have hH : ∀ h ∈ HL, ∀ x ∈ h, x.1 < (c * r).toNat := fun h hh => (w h hh).1
  have hh : ∀ h ∈ HL, h.length ≤ 300 := fun h hh => (w h hh).2
  have es := ev_seated (c := c) (r := r) (W := W) (H := HL) hN (by omega) (by omega) (by omega) (by omega) (by omega) hH (by omega)
  have ef := ev_fault_all (h := Hh) hc hr hcr es inj_ok
  have ls := ev_law_seated (W := W) (H := HL) (by omega) (by omega) (by omega) hH hl hh (c * r) hN
  have ed := ev_due_all hc hr hcr ls inj_ok
  have ea := ev_alike W (ents HL) c (c * r).toNat
  have hf := heaps_fine HL
  have pe := fun o o2 b b2 => p_EqSelf (o := o) (o2 := o2) (b := b) (b2 := b2) hf
  have ll : (HL.map heapD).length ≤ 100000 := by rw [List.length_map]; omega
  have lc : ∀ x0 x1 x2 x3 x4 x5 x6 x7 x8 x9 x10 x11 x12, lcGo (lcStep (.nm 12) xYes (xBlt pList (xVCons (xV 12) (xVNil))) [x0, x1, x2, x3, x4, x5, x6, x7, x8, x9, x10, x11, x12]) (HL.map heapD) = .ok (HL.map heapD) := fun x0 x1 x2 x3 x4 x5 x6 x7 x8 x9 x10 x11 x12 =>
    lcGo_map fun g _ => by
      unfold heapD
      simp [lcStep]
  generalize resR W (ents HL) c (c * r).toNat = RR at *
  clear es ls hf hh hH w
  generalize HL.map heapD = HD at *
  rw [sg11_eq]
  unfold sgT11
  rw [sg12_eq]
  unfold sgT12
  rw [sg13_eq]
  unfold sgT13 sg14
  simp [ll, lc, ef, ed, ea, pe]
theorem widened {NS : D} {c r W Hh way n11 : Int} {HL : List (List Cell)} (c11 : F_law_cell_at [NS, .int 11] = .ok (.sh (.int n11))) (hc : 1 ≤ c) (hr : 1 ≤ r) (hcr : c * r ≤ 64) (w1 : 1 ≤ W) (w2 : W ≤ 64) (h1 : 1 ≤ Hh) (h2 : Hh ≤ 64) (hs : W * Hh ≤ 64) (hl : (HL.length : Int) = W * Hh) (w : Wf (c * r).toNat 300 HL) (o : Ow) (ho : o = .sh ∨ o = .li .sh ∨ o = .li (.li .sh)) (x1 x2 x3 x12 : Option (Ow × D)) :
    kFun (sg10 (Q NS x1 x2 x3 (some (.sh, .int W)) (some (.sh, .int Hh)) (some (.sh, .int way)) (some (o, .lst (HL.map heapD))) none none (some (.sh, .int c)) (some (.sh, .int r)) x12)) = .ok (.sh (.bl true)) := by
  obtain ⟨W2, H2, HL2, e, a1, a2, a3, a4⟩ := ev_law_wider w1 h1 w2 h2 hs hl w (n11 % 1000000000)
  have J := judged (NS := NS) (Hh := H2) (way := way) hc hr hcr a1 a2 a3 a4 x1 x2 x3 x12
  rw [sg10_eq]
  unfold sgT10
  generalize sg11 = T at *
  generalize HL2.map heapD = R at *
  generalize HL.map heapD = HD at *
  rcases ho with rfl | rfl | rfl
  · simp [c11, e, J]
  · simp [c11, e, J]
  · simp [c11, e, J]
theorem law_true (ns : List Int) (hl : ns.length ≤ 63) : F_law [.fz (ns.map .int)] = .ok (.sh (.bl true)) := by
  obtain ⟨c, r, P, S, xs, hc, hr, hcr, M, hx, e0⟩ := start ns hl
  have cc : ∀ n : Nat, F_law_cell_at [.fz (ns.map .int), .int (n : Int)] = .ok (.sh (.int (ns.getD n 0))) := ev_cell_at ns
  have c1 : F_law_cell_at [.fz (ns.map .int), .int 1] = .ok (.sh (.int (ns.getD 1 0))) := cc 1
  have c2 : F_law_cell_at [.fz (ns.map .int), .int 2] = .ok (.sh (.int (ns.getD 2 0))) := cc 2
  have c11 : F_law_cell_at [.fz (ns.map .int), .int 11] = .ok (.sh (.int (ns.getD 11 0))) := cc 11
  rw [law_seg]
  show kFun (sg0 (Q (.fz (ns.map .int)) none none none none none none none none none none none none)) = _
  rw [e0]
  refine folds_loop hx M ?_
  clear M e0
  intro P S o1 x3 x4 x5 ho M
  generalize ns.getD 1 0 = n1 at *
  generalize ns.getD 2 0 = n2 at *
  generalize ns.getD 11 0 = n11 at *
  clear cc
  generalize D.fz (ns.map .int) = NS at *
  generalize D.lst (xs.map .int) = XS at *
  obtain ⟨HL, eh, ehl, wf⟩ := ev_law_heaps M
  have pl := places_le M
  have w1 := M.sh.w1
  have h1 := M.sh.h1
  have w64 := M.sh.w64
  have h64 := M.sh.h64
  have mx := M.maxx (.li .sh) false
  have my := M.maxy (.li .sh) false
  have bb := sizes_bnd hc hr hcr
  have hN : c * r = (((c * r).toNat : Nat) : Int) := by omega
  have n64 := M.n64
  have wh : (HL.length : Int) = P.wide * P.high := by omega
  have wh2 : P.wide * P.high ≤ 64 := by omega
  have m0 : -18446744073709551616 < c := by omega
  have m1 : c < 18446744073709551616 := by omega
  -- the sheet's sizes, the way, the heaps
  have S5 : sg5 (Q NS (some (o1, spotsD (c * r).toNat S)) (some (.sh, XS)) x3 x4 x5 none none none none (some (.sh, .int c)) (some (.sh, .int r)) none) = sg9 (Q NS (some (.sh, spotsD (c * r).toNat S)) (some (.sh, XS)) x3 (some (.sh, .int P.wide)) (some (.sh, .int P.high)) (some (.sh, .int (n1 % 10))) (some (.li (.li .sh), .lst (HL.map heapD))) none none (some (.sh, .int c)) (some (.sh, .int r)) none) := by
    rw [sg5_eq]
    unfold sgT5
    rw [sg6_eq]
    unfold sgT6
    rw [sg7_eq]
    unfold sgT7
    rw [sg8_eq]
    unfold sgT8
    generalize sg9 = T
    generalize HL.map heapD = HD at *
    clear wf ehl wh bb hN pl
    have nl : (c * r).toNat ≤ 100000 := by omega
    clear hcr n64
    generalize (c * r).toNat = N at *
    simp only [spotsD] at eh
    rcases ho with rfl | rfl <;> simp [spotsD, nl, lc_x, lc_y, mx, my, one_add, c1, eh]
  rw [S5]
  by_cases q : 0 < n1 % 10
  · obtain ⟨o, HL2, es, eo, el, ew⟩ := ev_law_spoilt (N := (c * r).toNat) (HL := HL) (by omega) (by omega) (by omega) (by omega) (wf.mono (by omega)) (n2 % 1000000000) (n1 % 10) (c * r) hN
    have wd := widened (NS := NS) (way := n1 % 10) c11 hc hr hcr w1 w64 h1 h64 wh2 (by omega) ew o eo (some (.sh, spotsD (c * r).toNat S)) (some (.sh, XS)) x3 none
    rw [sg9_eq]
    unfold sgT9
    generalize sg10 = T at *
    clear S5 eh
    generalize HL.map heapD = HD at *
    generalize HL2.map heapD = R at *
    generalize spotsD (c * r).toNat S = SP at *
    clear wf ehl wh bb hN pl hcr n64
    simp [q, c2, m0, m1, es, wd]
  · have wd := widened (NS := NS) (way := n1 % 10) c11 hc hr hcr w1 w64 h1 h64 wh2 wh (wf.mono (by omega)) (.li (.li .sh)) (.inr (.inr rfl)) (some (.sh, spotsD (c * r).toNat S)) (some (.sh, XS)) x3 none
    rw [sg9_eq]
    unfold sgT9
    generalize sg10 = T at *
    clear S5 eh
    generalize HL.map heapD = HD at *
    generalize spotsD (c * r).toNat S = SP at *
    simp [q, wd]
end Fd
set_option Elab.async false
set_option linter.all false
set_option maxRecDepth 100000
set_option maxHeartbeats 8000000
/-! KD: each def of the text does what its function says; the head; the end (printed by gen.py). -/
namespace Bk
open PySem L2 PySem.Spec PyProof.Rows

def top (i : Nat) : Stmt := PySem.Challenge.pw_leaffold_k08_fault.main.body.getD i (.Pass ⟨0, 0, 0, 0⟩)
def exn : Nat → Str
  | 0 => "NoSheet"
  | 1 => "NoFold"
  | 2 => "NoPlace"
  | 3 => "Ajar"
  | 4 => "Severed"
  | 5 => "Bolted"
  | 6 => "Loose"
  | 7 => "NoWord"
  | _ => "LeafError"
abbrev cT (K : PySem.W.Frag) : Ct := ⟨K, He.ga K "Pile", fun k => He.ga K (exn k), fun _ _ => False, fun _ => False⟩
structure Tp (K : PySem.W.Frag) (mg : Str → Option Value) : Prop where
  b_bool : mg "bool" = none
  b_int : mg "int" = none
  b_isinstance : mg "isinstance" = none
  b_len : mg "len" = none
  b_list : mg "list" = none
  b_max : mg "max" = none
  b_min : mg "min" = none
  b_range : mg "range" = none
  b_sorted : mg "sorted" = none
  b_str : mg "str" = none
  b_tuple : mg "tuple" = none
abbrev s_law_sheet_by : Stmt := top 11
theorem sc_law_sheet_by : FnScope ["cell", "way", "more"] ["cell"] (defScope s_law_sheet_by) := ⟨rfl, rfl, rfl, by decide +kernel, rfl, by decide +kernel, by decide +kernel⟩
theorem ok_law_sheet_by {P : Program} {w : World} {K : PySem.W.Frag} {mg : Str → Option Value} {base : Heap} {f : Addr} {fd : FuncData} (T : Tp K mg) (Fn : Fun K "_law_sheet_by" "_law_sheet_by" s_law_sheet_by f fd) : FnOk P w K mg base (L2.CX P w) 1 f fd ["cell"] (spOf (cT K) F_law_sheet_by) :=
  fn_ok Fn sc_law_sheet_by (by decide) fun cdv A outer s H E F hr =>
    sss_cons (ss_set 1 sc_law_sheet_by.nd (se_op v2_mod op_mod (se_v 0) (se_int))) (
    sss_cons (ss_set 2 sc_law_sheet_by.nd (se_op v2_div op_fdiv (se_v 0) (se_int))) (
    sss_cons (ss_if (sb_cmp v2_lt op_lt (se_v 1) (se_int)) (sss_one (ss_ret (se_tup (sa_cons (se_op v2_add op_addA (se_int) (se_op v2_mod op_mod (se_v 2) (se_int))) (sa_cons (se_op v2_add op_addA (se_int) (se_op v2_mod op_mod (se_op v2_div op_fdiv (se_v 2) (se_int)) (se_int))) (sa_nil)))))) (sss_nil)) (
    sss_cons (ss_if (sb_cmp v2_eq (op_eqA hr.units) (se_v 1) (se_int)) (sss_one (ss_ret (se_tup (sa_cons (se_op v2_add op_addA (se_int) (se_op v2_mod op_mod (se_v 2) (se_int))) (sa_cons (se_int) (sa_nil)))))) (sss_nil)) (
    sss_cons (ss_if (sb_cmp v2_eq (op_eqA hr.units) (se_v 1) (se_int)) (sss_one (ss_ret (se_tup (sa_cons (se_int) (sa_cons (se_op v2_add op_addA (se_int) (se_op v2_mod op_mod (se_v 2) (se_int))) (sa_nil)))))) (sss_nil)) (
    sss_one (ss_ret (se_ix v2_ix ix_seq (se_lst (sa_cons (se_tup (sa_cons (se_int) (sa_cons (se_int) (sa_nil)))) (sa_cons (se_tup (sa_cons (se_int) (sa_cons (se_int) (sa_nil)))) (sa_cons (se_tup (sa_cons (se_int) (sa_cons (se_int) (sa_nil)))) (sa_cons (se_tup (sa_cons (se_int) (sa_cons (se_int) (sa_nil)))) (sa_nil)))))) (se_op v2_mod op_mod (se_v 2) (se_int)))))))))
abbrev s_law_flat : Stmt := top 12
theorem sc_law_flat : FnScope ["columns", "rows", "k"] ["columns", "rows"] (defScope s_law_flat) := ⟨rfl, rfl, rfl, by decide +kernel, rfl, by decide +kernel, by decide +kernel⟩
theorem ok_law_flat {P : Program} {w : World} {K : PySem.W.Frag} {mg : Str → Option Value} {base : Heap} {f : Addr} {fd : FuncData} (T : Tp K mg) (Fn : Fun K "_law_flat" "_law_flat" s_law_flat f fd) : FnOk P w K mg base (L2.CX P w) 1 f fd ["columns", "rows"] (spOf (cT K) F_law_flat) :=
  fn_ok Fn sc_law_flat (by decide) fun cdv A outer s H E F hr =>
    sss_one (ss_ret (se_lc [("k", 2)] rfl sc_law_flat.nd (si_range rfl T.b_range (sv_cons (se_op v2_mul op_mul (se_v 0) (se_v 1)) (sv_nil))) (blkOk_by (by kernel_rfl)) (fun _ _ _ _ _ => pg_nm 2 sc_law_flat.nd) (fun _ _ _ _ _ => spt_nil) (fun _ _ _ _ _ => se_tup (sa_cons (se_op v2_mod op_mod (se_v 2) (se_v 0)) (sa_cons (se_op v2_div op_fdiv (se_v 2) (se_v 0)) (sa_cons (se_int) (sa_cons (se_bl) (sa_cons (se_bl) (sa_nil)))))))))
abbrev s_law_heaps : Stmt := top 16
theorem sc_law_heaps : FnScope ["spots", "wide", "high", "out", "depth", "k", "one"] ["spots"] (defScope s_law_heaps) := ⟨rfl, rfl, rfl, by decide +kernel, rfl, by decide +kernel, by decide +kernel⟩
theorem ok_law_heaps {P : Program} {w : World} {K : PySem.W.Frag} {mg : Str → Option Value} {base : Heap} {f : Addr} {fd : FuncData} (T : Tp K mg) (Fn : Fun K "_law_heaps" "_law_heaps" s_law_heaps f fd) : FnOk P w K mg base (L2.CX P w) 1 f fd ["spots"] (spOf (cT K) F_law_heaps) :=
  fn_ok Fn sc_law_heaps (by decide) fun cdv A outer s H E F hr =>
    sss_cons (ss_set 1 sc_law_heaps.nd (se_op v2_add op_addA (se_int) (se_blt vn_max1 (cr_max rfl) rfl T.b_max (by decide +kernel) (sv_cons (se_lc [("one", 6)] rfl sc_law_heaps.nd (si_list rfl (se_v 0)) (blkOk_by (by kernel_rfl)) (fun _ _ _ _ _ => pg_nm 6 sc_law_heaps.nd) (fun _ _ _ _ _ => spt_nil) (fun _ _ _ _ _ => se_ix v2_ix ix_seq (se_v 6) (se_int))) (sv_nil))))) (
    sss_cons (ss_set 2 sc_law_heaps.nd (se_op v2_add op_addA (se_int) (se_blt vn_max1 (cr_max rfl) rfl T.b_max (by decide +kernel) (sv_cons (se_lc [("one", 6)] rfl sc_law_heaps.nd (si_list rfl (se_v 0)) (blkOk_by (by kernel_rfl)) (fun _ _ _ _ _ => pg_nm 6 sc_law_heaps.nd) (fun _ _ _ _ _ => spt_nil) (fun _ _ _ _ _ => se_ix v2_ix ix_seq (se_v 6) (se_int))) (sv_nil))))) (
    sss_cons (ss_setLcN 3 [("k", 5)] rfl sc_law_heaps.nd (si_range rfl T.b_range (sv_cons (se_op v2_mul op_mul (se_v 1) (se_v 2)) (sv_nil))) (blkOk_by (by kernel_rfl)) (fun _ _ _ _ _ => pg_nm 5 sc_law_heaps.nd) (fun _ _ _ _ _ => se_lst (sa_nil))) (
    sss_cons (ss_for (.tp [4, 5]) (passes_of rfl) rfl (si_list rfl (se_blt vn_sortP cr_sortedPO rfl T.b_sorted (by decide +kernel) (sv_cons (se_lc [("k", 5)] rfl sc_law_heaps.nd (si_range rfl T.b_range (sv_cons (se_blt vn_len call_lenA rfl T.b_len PySem.boot_len (sv_cons (se_v 0) (sv_nil))) (sv_nil))) (blkOk_by (by kernel_rfl)) (fun _ _ _ _ _ => pg_nm 5 sc_law_heaps.nd) (fun _ _ _ _ _ => spt_nil) (fun _ _ _ _ _ => se_tup (sa_cons (se_op v2_sub op_sub (se_int) (se_ix v2_ix ix_seq (se_ix v2_ix ix_seq (se_v 0) (se_v 5)) (se_int))) (sa_cons (se_v 5) (sa_nil))))) (sv_nil)))) (pg_tp [4, 5] rfl (pgn_cons 4 sc_law_heaps.nd (pgn_cons 5 sc_law_heaps.nd pgn_nil))) (sss_one (ss_appAt (ps_expr (pe_bm PySem.F.plainAttrs_list PySem.F.slot_list_append PySem.F.type_list_append mt_append (pe_ix ix_seq (pv 3) (se_op v2_add op_addA (se_op v2_mul op_mul (se_ix v2_ix ix_seq (se_ix v2_ix ix_seq (se_v 0) (se_v 5)) (se_int)) (se_v 1)) (se_ix v2_ix ix_seq (se_ix v2_ix ix_seq (se_v 0) (se_v 5)) (se_int))) (fun _ _ => rfl)) (pa_cons (se_tup (sa_cons (se_v 5) (sa_cons (se_ix v2_ix ix_seq (se_ix v2_ix ix_seq (se_v 0) (se_v 5)) (se_int)) (sa_cons (se_ix v2_ix ix_seq (se_ix v2_ix ix_seq (se_v 0) (se_v 5)) (se_int)) (sa_nil))))) pa_nil)))))) (
    sss_one (ss_retV 3)))))
abbrev s_law_wider : Stmt := top 27
theorem sc_law_wider : FnScope ["heaps", "wide", "high", "cell", "at", "out", "y", "row", "k"] ["heaps", "wide", "high", "cell"] (defScope s_law_wider) := ⟨rfl, rfl, rfl, by decide +kernel, rfl, by decide +kernel, by decide +kernel⟩
theorem ok_law_wider {P : Program} {w : World} {K : PySem.W.Frag} {mg : Str → Option Value} {base : Heap} {f : Addr} {fd : FuncData} (T : Tp K mg) (Fn : Fun K "_law_wider" "_law_wider" s_law_wider f fd) : FnOk P w K mg base (L2.CX P w) 1 f fd ["heaps", "wide", "high", "cell"] (spOf (cT K) F_law_wider) :=
  fn_ok Fn sc_law_wider (by decide) fun cdv A outer s H E F hr =>
    sss_cons (ss_if (sb_cmp v2_eq (op_eqA hr.units) (se_op v2_mod op_mod (se_v 3) (se_int)) (se_int)) (sss_cons (ss_set 4 sc_law_wider.nd (se_if (sb_cmp v2_eq (op_eqA hr.units) (se_op v2_mod op_mod (se_op v2_div op_fdiv (se_v 3) (se_int)) (se_int)) (se_int)) (se_op v2_mod op_mod (se_op v2_div op_fdiv (se_v 3) (se_int)) (se_op v2_add op_addA (se_v 1) (se_int))) (se_v 1))) (
    sss_cons (ss_set 5 sc_law_wider.nd (se_lst (sa_nil))) (
    sss_cons (ss_for (.nm 6) (passes_of rfl) rfl (si_range rfl T.b_range (sv_cons (se_v 2) (sv_nil))) (pg_nm 6 sc_law_wider.nd) (sss_cons (ss_set 7 sc_law_wider.nd (se_slice rfl (se_v 0) (spo_some (se_op v2_mul op_mul (se_v 6) (se_v 1))) (spo_some (se_op v2_add op_addA (se_op v2_mul op_mul (se_v 6) (se_v 1)) (se_v 1))))) (
    sss_one (ss_set 5 sc_law_wider.nd (se_op v2_add op_addA (se_op v2_add op_addA (se_op v2_add op_addA (se_v 5) (se_slice rfl (se_v 7) (spo_none) (spo_some (se_v 4)))) (se_lst (sa_cons (se_lst (sa_nil)) (sa_nil)))) (se_slice rfl (se_v 7) (spo_some (se_v 4)) (spo_none))))))) (
    sss_fz 5 (sss_one (ss_ret (se_tup (sa_cons (se_op v2_add op_addA (se_v 1) (se_int)) (sa_cons (se_v 2) (sa_cons (se_v 5) (sa_nil))))))))))) (sss_nil)) (
    sss_cons (ss_if (sb_cmp v2_eq (op_eqA hr.units) (se_op v2_mod op_mod (se_v 3) (se_int)) (se_int)) (sss_cons (ss_set 4 sc_law_wider.nd (se_if (sb_cmp v2_eq (op_eqA hr.units) (se_op v2_mod op_mod (se_op v2_div op_fdiv (se_v 3) (se_int)) (se_int)) (se_int)) (se_op v2_mod op_mod (se_op v2_div op_fdiv (se_v 3) (se_int)) (se_op v2_add op_addA (se_v 2) (se_int))) (se_v 2))) (
    sss_one (ss_ret (se_tup (sa_cons (se_v 1) (sa_cons (se_op v2_add op_addA (se_v 2) (se_int)) (sa_cons (se_op v2_add op_addA (se_op v2_add op_addA (se_slice rfl (se_v 0) (spo_none) (spo_some (se_op v2_mul op_mul (se_v 4) (se_v 1)))) (se_lc [("k", 8)] rfl sc_law_wider.nd (si_range rfl T.b_range (sv_cons (se_v 1) (sv_nil))) (blkOk_by (by kernel_rfl)) (fun _ _ _ _ _ => pg_nm 8 sc_law_wider.nd) (fun _ _ _ _ _ => spt_nil) (fun _ _ _ _ _ => se_lst (sa_nil)))) (se_slice rfl (se_v 0) (spo_some (se_op v2_mul op_mul (se_v 4) (se_v 1))) (spo_none))) (sa_nil)))))))) (sss_nil)) (
    sss_one (ss_ret (se_tup (sa_cons (se_v 1) (sa_cons (se_v 2) (sa_cons (se_v 0) (sa_nil))))))))
abbrev s_seated : Stmt := top 3
theorem sc_seated : FnScope ["columns", "rows", "wide", "heaps", "out", "times", "place", "layer", "cell", "east", "north", "k"] ["columns", "rows", "wide", "heaps"] (defScope s_seated) := ⟨rfl, rfl, rfl, by decide +kernel, rfl, by decide +kernel, by decide +kernel⟩
theorem ok_seated {P : Program} {w : World} {K : PySem.W.Frag} {mg : Str → Option Value} {base : Heap} {f : Addr} {fd : FuncData} (T : Tp K mg) (Fn : Fun K "seated" "seated" s_seated f fd) : FnOk P w K mg base (L2.CX P w) 1 f fd ["columns", "rows", "wide", "heaps"] (spOf (cT K) F_seated) :=
  fn_ok Fn sc_seated (by decide) fun cdv A outer s H E F hr =>
    sss_cons (ss_set 4 sc_seated.nd (se_lc [("k", 11)] rfl sc_seated.nd (si_range rfl T.b_range (sv_cons (se_op v2_mul op_mul (se_v 0) (se_v 1)) (sv_nil))) (blkOk_by (by kernel_rfl)) (fun _ _ _ _ _ => pg_nm 11 sc_seated.nd) (fun _ _ _ _ _ => spt_nil) (fun _ _ _ _ _ => se_non))) (
    sss_cons (ss_set 5 sc_seated.nd (se_lc [("k", 11)] rfl sc_seated.nd (si_range rfl T.b_range (sv_cons (se_op v2_mul op_mul (se_v 0) (se_v 1)) (sv_nil))) (blkOk_by (by kernel_rfl)) (fun _ _ _ _ _ => pg_nm 11 sc_seated.nd) (fun _ _ _ _ _ => spt_nil) (fun _ _ _ _ _ => se_int))) (
    sss_cons (ss_for (.nm 6) (passes_of rfl) rfl (si_range rfl T.b_range (sv_cons (se_blt vn_len call_lenA rfl T.b_len PySem.boot_len (sv_cons (se_v 3) (sv_nil))) (sv_nil))) (pg_nm 6 sc_seated.nd) (sss_cons (ss_set 7 sc_seated.nd (se_int)) (
    sss_one (ss_for (.tp [8, 9, 10]) (passes_of rfl) rfl (si_list rfl (se_ix v2_ix ix_seq (se_v 3) (se_v 6))) (pg_tp [8, 9, 10] rfl (pgn_cons 8 sc_seated.nd (pgn_cons 9 sc_seated.nd (pgn_cons 10 sc_seated.nd pgn_nil)))) (sss_cons (ss_setI (ps_asg (se_tup (sa_cons (se_op v2_sub op_sub (se_v 6) (se_op v2_mul op_mul (se_op v2_div op_fdiv (se_v 6) (se_v 2)) (se_v 2))) (sa_cons (se_op v2_div op_fdiv (se_v 6) (se_v 2)) (sa_cons (se_v 7) (sa_cons (se_v 9) (sa_cons (se_v 10) (sa_nil))))))) (pg_sub (pv 4) (se_v 8) set_list))) (
    sss_cons (ss_setI (ps_asg (se_op v2_add op_addA (se_ix v2_ix ix_seq (se_v 5) (se_v 8)) (se_int)) (pg_sub (pv 5) (se_v 8) set_list))) (
    sss_one (ss_set 7 sc_seated.nd (se_op v2_add op_addA (se_v 7) (se_int)))))))))) (
    sss_one (ss_ret (se_lc [("k", 11)] rfl sc_seated.nd (si_range rfl T.b_range (sv_cons (se_blt vn_len call_lenA rfl T.b_len PySem.boot_len (sv_cons (se_v 4) (sv_nil))) (sv_nil))) (blkOk_by (by kernel_rfl)) (fun _ _ _ _ _ => pg_nm 11 sc_seated.nd) (fun _ _ _ _ _ => spt_nil) (fun _ _ _ _ _ => se_if (sb_cmp v2_eq (op_eqA hr.units) (se_ix v2_ix ix_seq (se_v 5) (se_v 11)) (se_int)) (se_ix v2_ix ix_seq (se_v 4) (se_v 11)) (se_non)))))))
abbrev s_pairs : Stmt := top 1
theorem sc_pairs : FnScope ["columns", "rows", "out", "cell"] ["columns", "rows"] (defScope s_pairs) := ⟨rfl, rfl, rfl, by decide +kernel, rfl, by decide +kernel, by decide +kernel⟩
theorem ok_pairs {P : Program} {w : World} {K : PySem.W.Frag} {mg : Str → Option Value} {base : Heap} {f : Addr} {fd : FuncData} (T : Tp K mg) (Fn : Fun K "pairs" "pairs" s_pairs f fd) : FnOk P w K mg base (L2.CX P w) 1 f fd ["columns", "rows"] (spOf (cT K) F_pairs) :=
  fn_ok Fn sc_pairs (by decide) fun cdv A outer s H E F hr =>
    sss_cons (ss_set 2 sc_pairs.nd (se_lst (sa_nil))) (
    sss_cons (ss_for (.nm 3) (passes_of rfl) rfl (si_range rfl T.b_range (sv_cons (se_op v2_mul op_mul (se_v 0) (se_v 1)) (sv_nil))) (pg_nm 3 sc_pairs.nd) (sss_cons (ss_if (sb_cmp v2_eq (op_eqA hr.units) (se_op v2_div op_fdiv (se_op v2_add op_addA (se_v 3) (se_int)) (se_v 0)) (se_op v2_div op_fdiv (se_v 3) (se_v 0))) (sss_one (ss_app (ps_expr (pe_bm PySem.F.plainAttrs_list PySem.F.slot_list_append PySem.F.type_list_append mt_append (pv 2) (pa_cons (se_tup (sa_cons (se_v 3) (sa_cons (se_op v2_add op_addA (se_v 3) (se_int)) (sa_cons (se_bl) (sa_nil))))) pa_nil))))) (sss_nil)) (
    sss_one (ss_if (sb_cmp v2_lt op_lt (se_op v2_add op_addA (se_v 3) (se_v 0)) (se_op v2_mul op_mul (se_v 0) (se_v 1))) (sss_one (ss_app (ps_expr (pe_bm PySem.F.plainAttrs_list PySem.F.slot_list_append PySem.F.type_list_append mt_append (pv 2) (pa_cons (se_tup (sa_cons (se_v 3) (sa_cons (se_op v2_add op_addA (se_v 3) (se_v 0)) (sa_cons (se_bl) (sa_nil))))) pa_nil))))) (sss_nil))))) (
    sss_one (ss_retV 2)))
abbrev s_meets : Stmt := top 4
theorem sc_meets : FnScope ["one", "other", "level", "along", "turn", "line", "low", "high", "seat"] ["one", "other", "level"] (defScope s_meets) := ⟨rfl, rfl, rfl, by decide +kernel, rfl, by decide +kernel, by decide +kernel⟩
theorem ok_meets {P : Program} {w : World} {K : PySem.W.Frag} {mg : Str → Option Value} {base : Heap} {f : Addr} {fd : FuncData} (T : Tp K mg) (Fn : Fun K "meets" "meets" s_meets f fd) : FnOk P w K mg base (L2.CX P w) 1 f fd ["one", "other", "level"] (spOf (cT K) F_meets) :=
  fn_ok Fn sc_meets (by decide) fun cdv A outer s H E F hr =>
    sss_cons (ss_set 3 sc_meets.nd (se_int)) (
    sss_cons (ss_set 4 sc_meets.nd (se_int)) (
    sss_cons (ss_if (sb_val (se_v 2)) (sss_cons (ss_set 3 sc_meets.nd (se_int)) (
    sss_one (ss_set 4 sc_meets.nd (se_int)))) (sss_nil)) (
    sss_cons (ss_if (sb_w (sw_or (sb_cmp v2_ne (op_neA hr.units) (se_ix v2_ix ix_seq (se_v 0) (se_op v2_sub op_sub (se_int) (se_v 3))) (se_ix v2_ix ix_seq (se_v 1) (se_op v2_sub op_sub (se_int) (se_v 3)))) (sw_or1 (sb_cmp v2_ne (op_neA hr.units) (se_ix v2_ix ix_seq (se_v 0) (se_op v2_sub op_sub (se_int) (se_v 4))) (se_ix v2_ix ix_seq (se_v 1) (se_op v2_sub op_sub (se_int) (se_v 4))))))) (sss_one (ss_ret (se_non))) (sss_nil)) (
    sss_cons (ss_set 5 sc_meets.nd (se_op v2_add op_addA (se_ix v2_ix ix_seq (se_v 0) (se_v 3)) (se_bty vn_int1 call_int1 rfl T.b_int (by decide +kernel) (sv_cons (se_not (se_ix v2_ix ix_seq (se_v 0) (se_v 4))) (sv_nil))))) (
    sss_cons (ss_if (sb_cmp v2_ne (op_neA hr.units) (se_v 5) (se_op v2_add op_addA (se_ix v2_ix ix_seq (se_v 1) (se_v 3)) (se_bty vn_int1 call_int1 rfl T.b_int (by decide +kernel) (sv_cons (se_ix v2_ix ix_seq (se_v 1) (se_v 4)) (sv_nil))))) (sss_one (ss_ret (se_non))) (sss_nil)) (
    sss_cons (ss_set 6 sc_meets.nd (se_blt vn_sortI cr_sortedI rfl T.b_sorted (by decide +kernel) (sv_cons (se_lc [("seat", 8)] rfl sc_meets.nd (si_tup (se_tup (sa_cons (se_v 0) (sa_cons (se_v 1) (sa_nil))))) (blkOk_by (by kernel_rfl)) (fun _ _ _ _ _ => pg_nm 8 sc_meets.nd) (fun _ _ _ _ _ => spt_one (sb_cmp v2_lt op_lt (se_ix v2_ix ix_seq (se_v 8) (se_v 3)) (se_v 5))) (fun _ _ _ _ _ => se_ix v2_ix ix_seq (se_v 8) (se_int))) (sv_nil)))) (
    sss_cons (ss_set 7 sc_meets.nd (se_blt vn_sortI cr_sortedI rfl T.b_sorted (by decide +kernel) (sv_cons (se_lc [("seat", 8)] rfl sc_meets.nd (si_tup (se_tup (sa_cons (se_v 0) (sa_cons (se_v 1) (sa_nil))))) (blkOk_by (by kernel_rfl)) (fun _ _ _ _ _ => pg_nm 8 sc_meets.nd) (fun _ _ _ _ _ => spt_one (sb_cmp v2_ge op_ge (se_ix v2_ix ix_seq (se_v 8) (se_v 3)) (se_v 5))) (fun _ _ _ _ _ => se_ix v2_ix ix_seq (se_v 8) (se_int))) (sv_nil)))) (
    sss_fz 6 (sss_fz 7 (sss_one (ss_ret (se_tup (sa_cons (se_v 2) (sa_cons (se_v 5) (sa_cons (se_ix v2_ix ix_seq (se_v 0) (se_op v2_sub op_sub (se_int) (se_v 3))) (sa_cons (se_v 6) (sa_cons (se_v 7) (sa_nil))))))))))))))))))
abbrev s_between : Stmt := top 5
theorem sc_between : FnScope ["layer", "bend"] ["layer", "bend"] (defScope s_between) := ⟨rfl, rfl, rfl, by decide +kernel, rfl, by decide +kernel, by decide +kernel⟩
theorem ok_between {P : Program} {w : World} {K : PySem.W.Frag} {mg : Str → Option Value} {base : Heap} {f : Addr} {fd : FuncData} (T : Tp K mg) (Fn : Fun K "between" "between" s_between f fd) : FnOk P w K mg base (L2.CX P w) 1 f fd ["layer", "bend"] (spOf (cT K) F_between) :=
  fn_ok Fn sc_between (by decide) fun cdv A outer s H E F hr =>
    sss_one (ss_ret (se_chain v2_lt v2_lt op_lt op_lt (se_ix v2_ix ix_seq (se_v 1) (se_int)) (se_v 0) (se_ix v2_ix ix_seq (se_v 1) (se_int))))
abbrev s_cross : Stmt := top 6
theorem sc_cross : FnScope ["one", "other", "side"] ["one", "other"] (defScope s_cross) := ⟨rfl, rfl, rfl, by decide +kernel, rfl, by decide +kernel, by decide +kernel⟩
theorem ok_cross {P : Program} {w : World} {K : PySem.W.Frag} {mg : Str → Option Value} {base : Heap} {f : Addr} {fd : FuncData} (T : Tp K mg) (g_between : Gf P w K mg base (cT K) "between" 1 ["layer", "bend"] F_between) (Fn : Fun K "cross" "cross" s_cross f fd) : FnOk P w K mg base (L2.CX P w) 2 f fd ["one", "other"] (spOf (cT K) F_cross) :=
  fn_ok Fn sc_cross (by decide) fun cdv A outer s H E F hr =>
    sss_cons (ss_if (sb_w (sw_or (sb_cmp v2_ne (op_neA hr.units) (se_ix v2_ix ix_seq (se_v 0) (se_int)) (se_ix v2_ix ix_seq (se_v 1) (se_int))) (sw_or (sb_cmp v2_ne (op_neA hr.units) (se_ix v2_ix ix_seq (se_v 0) (se_int)) (se_ix v2_ix ix_seq (se_v 1) (se_int))) (sw_or1 (sb_cmp v2_ne (op_neA hr.units) (se_ix v2_ix ix_seq (se_v 0) (se_int)) (se_ix v2_ix ix_seq (se_v 1) (se_int))))))) (sss_one (ss_ret (se_bl))) (sss_nil)) (
    sss_cons (ss_if (sb_w (sw_and (sb_cmp v2_eq (op_eqA hr.units) (se_blt vn_len call_lenA rfl T.b_len PySem.boot_len (sv_cons (se_ix v2_ix ix_seq (se_v 0) (se_int)) (sv_nil))) (se_int)) (sw_and1 (sb_cmp v2_eq (op_eqA hr.units) (se_blt vn_len call_lenA rfl T.b_len PySem.boot_len (sv_cons (se_ix v2_ix ix_seq (se_v 1) (se_int)) (sv_nil))) (se_int))))) (sss_one (ss_ret (se_cmp v2_ne (op_neA hr.units) (se_cmp v2_lt op_lt (se_ix v2_ix ix_seq (se_ix v2_ix ix_seq (se_v 0) (se_int)) (se_int)) (se_ix v2_ix ix_seq (se_ix v2_ix ix_seq (se_v 1) (se_int)) (se_int))) (se_cmp v2_lt op_lt (se_ix v2_ix ix_seq (se_ix v2_ix ix_seq (se_v 0) (se_int)) (se_int)) (se_ix v2_ix ix_seq (se_ix v2_ix ix_seq (se_v 1) (se_int)) (se_int)))))) (sss_nil)) (
    sss_cons (ss_for (.nm 2) (passes_of rfl) rfl (si_tup (se_tup (sa_cons (se_int) (sa_cons (se_int) (sa_nil))))) (pg_nm 2 sc_cross.nd) (sss_cons (ss_if (sb_w (sw_and (sb_cmp v2_eq (op_eqA hr.units) (se_blt vn_len call_lenA rfl T.b_len PySem.boot_len (sv_cons (se_ix v2_ix ix_seq (se_v 0) (se_v 2)) (sv_nil))) (se_int)) (sw_and1 (sb_cmp v2_eq (op_eqA hr.units) (se_blt vn_len call_lenA rfl T.b_len PySem.boot_len (sv_cons (se_ix v2_ix ix_seq (se_v 1) (se_v 2)) (sv_nil))) (se_int))))) (sss_one (ss_if (sb_cmp v2_ne (op_neA hr.units) (se_callB g_between (hr.mono (by decide)) (takes_of rfl rfl rfl rfl) rfl (sv_cons (se_ix v2_ix ix_seq (se_ix v2_ix ix_seq (se_v 1) (se_v 2)) (se_int)) (sv_cons (se_ix v2_ix ix_seq (se_v 0) (se_v 2)) (sv_nil)))) (se_callB g_between (hr.mono (by decide)) (takes_of rfl rfl rfl rfl) rfl (sv_cons (se_ix v2_ix ix_seq (se_ix v2_ix ix_seq (se_v 1) (se_v 2)) (se_int)) (sv_cons (se_ix v2_ix ix_seq (se_v 0) (se_v 2)) (sv_nil))))) (sss_one (ss_ret (se_bl))) (sss_nil))) (sss_nil)) (
    sss_cons (ss_if (sb_w (sw_and (sb_cmp v2_eq (op_eqA hr.units) (se_blt vn_len call_lenA rfl T.b_len PySem.boot_len (sv_cons (se_ix v2_ix ix_seq (se_v 0) (se_v 2)) (sv_nil))) (se_int)) (sw_and (sb_cmp v2_eq (op_eqA hr.units) (se_blt vn_len call_lenA rfl T.b_len PySem.boot_len (sv_cons (se_ix v2_ix ix_seq (se_v 1) (se_v 2)) (sv_nil))) (se_int)) (sw_and1 (sb_val (se_callB g_between (hr.mono (by decide)) (takes_of rfl rfl rfl rfl) rfl (sv_cons (se_ix v2_ix ix_seq (se_ix v2_ix ix_seq (se_v 1) (se_v 2)) (se_int)) (sv_cons (se_ix v2_ix ix_seq (se_v 0) (se_v 2)) (sv_nil))))))))) (sss_one (ss_ret (se_bl))) (sss_nil)) (
    sss_one (ss_if (sb_w (sw_and (sb_cmp v2_eq (op_eqA hr.units) (se_blt vn_len call_lenA rfl T.b_len PySem.boot_len (sv_cons (se_ix v2_ix ix_seq (se_v 0) (se_v 2)) (sv_nil))) (se_int)) (sw_and (sb_cmp v2_eq (op_eqA hr.units) (se_blt vn_len call_lenA rfl T.b_len PySem.boot_len (sv_cons (se_ix v2_ix ix_seq (se_v 1) (se_v 2)) (sv_nil))) (se_int)) (sw_and1 (sb_val (se_callB g_between (hr.mono (by decide)) (takes_of rfl rfl rfl rfl) rfl (sv_cons (se_ix v2_ix ix_seq (se_ix v2_ix ix_seq (se_v 0) (se_v 2)) (se_int)) (sv_cons (se_ix v2_ix ix_seq (se_v 1) (se_v 2)) (sv_nil))))))))) (sss_one (ss_ret (se_bl))) (sss_nil)))))) (
    sss_one (ss_ret (se_bl)))))
abbrev s_fault : Stmt := top 7
theorem sc_fault : FnScope ["columns", "rows", "wide", "high", "heaps", "at", "cell", "found", "k", "first", "second", "level", "place", "other"] ["columns", "rows", "wide", "high", "heaps"] (defScope s_fault) := ⟨rfl, rfl, rfl, by decide +kernel, rfl, by decide +kernel, by decide +kernel⟩
theorem ok_fault {P : Program} {w : World} {K : PySem.W.Frag} {mg : Str → Option Value} {base : Heap} {f : Addr} {fd : FuncData} (T : Tp K mg) (g_seated : Gf P w K mg base (cT K) "seated" 1 ["columns", "rows", "wide", "heaps"] F_seated) (g_pairs : Gf P w K mg base (cT K) "pairs" 1 ["columns", "rows"] F_pairs) (g_meets : Gf P w K mg base (cT K) "meets" 1 ["one", "other", "level"] F_meets) (g_cross : Gf P w K mg base (cT K) "cross" 2 ["one", "other"] F_cross) (Fn : Fun K "fault" "fault" s_fault f fd) : FnOk P w K mg base (L2.CX P w) 3 f fd ["columns", "rows", "wide", "high", "heaps"] (spOf (cT K) F_fault) :=
  fn_ok Fn sc_fault (by decide) fun cdv A outer s H E F hr =>
    sss_cons (ss_set 5 sc_fault.nd (se_call g_seated (hr.mono (by decide)) (takes_of rfl rfl rfl rfl) rfl (sa_cons (se_v 0) (sa_cons (se_v 1) (sa_cons (se_v 2) (sa_cons (se_v 4) (sa_nil))))))) (
    sss_cons (ss_for (.nm 6) (passes_of rfl) rfl (si_range rfl T.b_range (sv_cons (se_blt vn_len call_lenA rfl T.b_len PySem.boot_len (sv_cons (se_v 5) (sv_nil))) (sv_nil))) (pg_nm 6 sc_fault.nd) (sss_one (ss_if (sb_cmp v2_is op_isA (se_ix v2_ix ix_seq (se_v 5) (se_v 6)) (se_non)) (sss_one (ss_ret (se_tup (sa_cons (se_str) (sa_cons (se_v 6) (sa_nil)))))) (sss_nil)))) (
    sss_cons (ss_set 7 sc_fault.nd (se_lst (sa_nil))) (
    sss_cons (ss_for (.tp [9, 10, 11]) (passes_of rfl) rfl (si_list rfl (se_call g_pairs (hr.mono (by decide)) (takes_of rfl rfl rfl rfl) rfl (sa_cons (se_v 0) (sa_cons (se_v 1) (sa_nil))))) (pg_tp [9, 10, 11] rfl (pgn_cons 9 sc_fault.nd (pgn_cons 10 sc_fault.nd (pgn_cons 11 sc_fault.nd pgn_nil)))) (sss_cons (ss_set 12 sc_fault.nd (se_call g_meets (hr.mono (by decide)) (takes_of rfl rfl rfl rfl) rfl (sa_cons (se_ix v2_ix ix_seq (se_v 5) (se_v 9)) (sa_cons (se_ix v2_ix ix_seq (se_v 5) (se_v 10)) (sa_cons (se_v 11) (sa_nil)))))) (
    sss_cons (ss_if (sb_cmp v2_is op_isA (se_v 12) (se_non)) (sss_one (ss_ret (se_tup (sa_cons (se_str) (sa_cons (se_v 9) (sa_cons (se_v 10) (sa_nil))))))) (sss_nil)) (
    sss_one (ss_app (ps_expr (pe_bm PySem.F.plainAttrs_list PySem.F.slot_list_append PySem.F.type_list_append mt_append (pv 7) (pa_cons (se_tup (sa_cons (se_v 9) (sa_cons (se_v 10) (sa_cons (se_v 12) (sa_nil))))) pa_nil)))))))) (
    sss_cons (ss_for (.nm 8) (passes_of rfl) rfl (si_range rfl T.b_range (sv_cons (se_blt vn_len call_lenA rfl T.b_len PySem.boot_len (sv_cons (se_v 7) (sv_nil))) (sv_nil))) (pg_nm 8 sc_fault.nd) (sss_one (ss_for (.nm 13) (passes_of rfl) rfl (si_list rfl (se_slice rfl (se_v 7) (spo_some (se_op v2_add op_addA (se_v 8) (se_int))) (spo_none))) (pg_nm 13 sc_fault.nd) (sss_one (ss_if (sb_val (se_callB g_cross (hr.mono (by decide)) (takes_of rfl rfl rfl rfl) rfl (sv_cons (se_ix v2_ix ix_seq (se_ix v2_ix ix_seq (se_v 7) (se_v 8)) (se_int)) (sv_cons (se_ix v2_ix ix_seq (se_v 13) (se_int)) (sv_nil))))) (sss_one (ss_ret (se_tup (sa_cons (se_str) (sa_cons (se_ix v2_ix ix_seq (se_ix v2_ix ix_seq (se_v 7) (se_v 8)) (se_int)) (sa_cons (se_ix v2_ix ix_seq (se_ix v2_ix ix_seq (se_v 7) (se_v 8)) (se_int)) (sa_cons (se_ix v2_ix ix_seq (se_v 13) (se_int)) (sa_cons (se_ix v2_ix ix_seq (se_v 13) (se_int)) (sa_nil))))))))) (sss_nil)))))) (
    sss_one (ss_ret (se_non)))))))
abbrev s_law_cell_at : Stmt := top 9
theorem sc_law_cell_at : FnScope ["script", "k"] ["script", "k"] (defScope s_law_cell_at) := ⟨rfl, rfl, rfl, by decide +kernel, rfl, by decide +kernel, by decide +kernel⟩
theorem ok_law_cell_at {P : Program} {w : World} {K : PySem.W.Frag} {mg : Str → Option Value} {base : Heap} {f : Addr} {fd : FuncData} (T : Tp K mg) (Fn : Fun K "_law_cell_at" "_law_cell_at" s_law_cell_at f fd) : FnOk P w K mg base (L2.CX P w) 1 f fd ["script", "k"] (spOf (cT K) F_law_cell_at) :=
  fn_ok Fn sc_law_cell_at (by decide) fun cdv A outer s H E F hr =>
    sss_cons (ss_if (sb_cmp v2_lt op_lt (se_v 1) (se_blt vn_len call_lenA rfl T.b_len PySem.boot_len (sv_cons (se_v 0) (sv_nil)))) (sss_one (ss_ret (se_ix v2_ix ix_seq (se_v 0) (se_v 1)))) (sss_nil)) (
    sss_one (ss_ret (se_int)))
abbrev s_law_spot : Stmt := top 13
theorem sc_law_spot : FnScope ["one", "fold", "grown", "top", "low", "along", "far", "gap", "place", "spot", "side", "over", "crease"] ["one", "fold", "grown", "top", "low"] (defScope s_law_spot) := ⟨rfl, rfl, rfl, by decide +kernel, rfl, by decide +kernel, by decide +kernel⟩
theorem ok_law_spot {P : Program} {w : World} {K : PySem.W.Frag} {mg : Str → Option Value} {base : Heap} {f : Addr} {fd : FuncData} (T : Tp K mg) (Fn : Fun K "_law_spot" "_law_spot" s_law_spot f fd) : FnOk P w K mg base (L2.CX P w) 1 f fd ["one", "fold", "grown", "top", "low"] (spOf (cT K) F_law_spot) :=
  fn_ok Fn sc_law_spot (by decide) fun cdv A outer s H E F hr =>
    sss_cons (ss_unp [10, 11, 12] (se_v 1) (pg_tp [10, 11, 12] rfl (pgn_cons 10 sc_law_spot.nd (pgn_cons 11 sc_law_spot.nd (pgn_cons 12 sc_law_spot.nd pgn_nil))))) (
    sss_cons (ss_set 5 sc_law_spot.nd (se_bty vn_int1 call_int1 rfl T.b_int (by decide +kernel) (sv_cons (se_cmp v2_in (op_inA (hu65 hr)) (se_v 10) (se_tup (sa_cons (se_str) (sa_cons (se_str) (sa_nil))))) (sv_nil)))) (
    sss_cons (ss_set 6 sc_law_spot.nd (se_cmp v2_in (op_inA (hu65 hr)) (se_v 10) (se_tup (sa_cons (se_str) (sa_cons (se_str) (sa_nil)))))) (
    sss_cons (ss_set 7 sc_law_spot.nd (se_op v2_sub op_sub (se_op v2_sub op_sub (se_v 12) (se_int)) (se_ix v2_ix ix_seq (se_v 0) (se_v 5)))) (
    sss_cons (ss_if (sb_cmp v2_ge op_ge (se_ix v2_ix ix_seq (se_v 0) (se_v 5)) (se_v 12)) (sss_one (ss_set 7 sc_law_spot.nd (se_op v2_sub op_sub (se_ix v2_ix ix_seq (se_v 0) (se_v 5)) (se_v 12)))) (sss_nil)) (
    sss_cons (ss_set 8 sc_law_spot.nd (se_if (sb_val (se_v 6)) (se_op v2_sub op_sub (se_op v2_sub op_sub (se_v 2) (se_int)) (se_v 7)) (se_v 7))) (
    sss_cons (ss_set 9 sc_law_spot.nd (se_lst (sa_cons (se_ix v2_ix ix_seq (se_v 0) (se_int)) (sa_cons (se_ix v2_ix ix_seq (se_v 0) (se_int)) (sa_cons (se_ix v2_ix ix_seq (se_v 0) (se_int)) (sa_cons (se_ix v2_ix ix_seq (se_v 0) (se_int)) (sa_cons (se_ix v2_ix ix_seq (se_v 0) (se_int)) (sa_nil)))))))) (
    sss_cons (ss_setI (ps_asg (se_v 8) (pg_sub (pv 9) (se_v 5) set_list))) (
    sss_cons (ss_if (sb_cmp v2_eq (op_eqA hr.units) (se_cmp v2_ge op_ge (se_ix v2_ix ix_seq (se_v 0) (se_v 5)) (se_v 12)) (se_v 6)) (sss_cons (ss_setI (ps_asg (se_if (sb_val (se_v 11)) (se_op v2_sub op_sub (se_op v2_add op_addA (se_op v2_mul op_mul (se_int) (se_v 3)) (se_int)) (se_ix v2_ix ix_seq (se_v 0) (se_int))) (se_op v2_sub op_sub (se_op v2_sub op_sub (se_op v2_mul op_mul (se_int) (se_v 4)) (se_int)) (se_ix v2_ix ix_seq (se_v 0) (se_int)))) (pg_sub (pv 9) (se_int) set_list))) (
    sss_one (ss_setI (ps_asg (se_not (se_ix v2_ix ix_seq (se_v 0) (se_op v2_add op_addA (se_int) (se_v 5)))) (pg_sub (pv 9) (se_op v2_add op_addA (se_int) (se_v 5)) set_list))))) (sss_nil)) (
    sss_one (ss_ret (se_tup (sa_cons (se_ix v2_ix ix_seq (se_v 9) (se_int)) (sa_cons (se_ix v2_ix ix_seq (se_v 9) (se_int)) (sa_cons (se_ix v2_ix ix_seq (se_v 9) (se_int)) (sa_cons (se_ix v2_ix ix_seq (se_v 9) (se_int)) (sa_cons (se_ix v2_ix ix_seq (se_v 9) (se_int)) (sa_nil)))))))))))))))))
abbrev s_law_folded : Stmt := top 14
theorem sc_law_folded : FnScope ["spots", "fold", "along", "extent", "grown", "top", "low", "one"] ["spots", "fold"] (defScope s_law_folded) := ⟨rfl, rfl, rfl, by decide +kernel, rfl, by decide +kernel, by decide +kernel⟩
theorem ok_law_folded {P : Program} {w : World} {K : PySem.W.Frag} {mg : Str → Option Value} {base : Heap} {f : Addr} {fd : FuncData} (T : Tp K mg) (g_law_spot : Gf P w K mg base (cT K) "_law_spot" 1 ["one", "fold", "grown", "top", "low"] F_law_spot) (Fn : Fun K "_law_folded" "_law_folded" s_law_folded f fd) : FnOk P w K mg base (L2.CX P w) 2 f fd ["spots", "fold"] (spOf (cT K) F_law_folded) :=
  fn_ok Fn sc_law_folded (by decide) fun cdv A outer s H E F hr =>
    sss_cons (ss_set 2 sc_law_folded.nd (se_bty vn_int1 call_int1 rfl T.b_int (by decide +kernel) (sv_cons (se_cmp v2_in (op_inA (hu65 hr)) (se_ix v2_ix ix_seq (se_v 1) (se_int)) (se_tup (sa_cons (se_str) (sa_cons (se_str) (sa_nil))))) (sv_nil)))) (
    sss_cons (ss_set 3 sc_law_folded.nd (se_op v2_add op_addA (se_int) (se_blt vn_max1 (cr_max rfl) rfl T.b_max (by decide +kernel) (sv_cons (se_lc [("one", 7)] rfl sc_law_folded.nd (si_list rfl (se_v 0)) (blkOk_by (by kernel_rfl)) (fun _ _ _ _ _ => pg_nm 7 sc_law_folded.nd) (fun _ _ _ _ _ => spt_nil) (fun _ _ _ _ _ => se_ix v2_ix ix_seq (se_v 7) (se_v 2))) (sv_nil))))) (
    sss_cons (ss_set 4 sc_law_folded.nd (se_blt vn_max2 (call_max2 rfl) rfl T.b_max (by decide +kernel) (sv_cons (se_ix v2_ix ix_seq (se_v 1) (se_int)) (sv_cons (se_op v2_sub op_sub (se_v 3) (se_ix v2_ix ix_seq (se_v 1) (se_int))) (sv_nil))))) (
    sss_cons (ss_set 5 sc_law_folded.nd (se_blt vn_max1 (cr_max rfl) rfl T.b_max (by decide +kernel) (sv_cons (se_lc [("one", 7)] rfl sc_law_folded.nd (si_list rfl (se_v 0)) (blkOk_by (by kernel_rfl)) (fun _ _ _ _ _ => pg_nm 7 sc_law_folded.nd) (fun _ _ _ _ _ => spt_nil) (fun _ _ _ _ _ => se_ix v2_ix ix_seq (se_v 7) (se_int))) (sv_nil)))) (
    sss_cons (ss_set 6 sc_law_folded.nd (se_blt vn_min1 (cr_min rfl) rfl T.b_min (by decide +kernel) (sv_cons (se_lc [("one", 7)] rfl sc_law_folded.nd (si_list rfl (se_v 0)) (blkOk_by (by kernel_rfl)) (fun _ _ _ _ _ => pg_nm 7 sc_law_folded.nd) (fun _ _ _ _ _ => spt_nil) (fun _ _ _ _ _ => se_ix v2_ix ix_seq (se_v 7) (se_int))) (sv_nil)))) (
    sss_one (ss_ret (se_lc [("one", 7)] rfl sc_law_folded.nd (si_list rfl (se_v 0)) (blkOk_by (by kernel_rfl)) (fun _ _ _ _ _ => pg_nm 7 sc_law_folded.nd) (fun _ _ _ _ _ => spt_nil) (fun _ _ _ _ _ => se_call g_law_spot (hr.mono (by decide)) takesF rfl (sa_cons (se_v 7) (sa_cons (se_v 1) (sa_cons (se_v 4) (sa_cons (se_v 5) (sa_cons (se_v 6) (sa_nil))))))))))))))
abbrev s_law_layers : Stmt := top 25
theorem sc_law_layers : FnScope ["heaps", "at", "way", "heap", "out", "k", "one"] ["heaps", "at", "way"] (defScope s_law_layers) := ⟨rfl, rfl, rfl, by decide +kernel, rfl, by decide +kernel, by decide +kernel⟩
theorem ok_law_layers {P : Program} {w : World} {K : PySem.W.Frag} {mg : Str → Option Value} {base : Heap} {f : Addr} {fd : FuncData} (T : Tp K mg) (Fn : Fun K "_law_layers" "_law_layers" s_law_layers f fd) : FnOk P w K mg base (L2.CX P w) 1 f fd ["heaps", "at", "way"] (spOf (cT K) F_law_layers) :=
  fn_ok Fn sc_law_layers (by decide) fun cdv A outer s H E F hr =>
    sss_cons (ss_set 3 sc_law_layers.nd (se_ix v2_ix ix_seq (se_v 0) (se_op v2_mod op_mod (se_op v2_div op_fdiv (se_v 1) (se_int)) (se_blt vn_len call_lenA rfl T.b_len PySem.boot_len (sv_cons (se_v 0) (sv_nil)))))) (
    sss_cons (ss_if (sb_cmp v2_eq (op_eqA hr.units) (se_v 3) (se_lst (sa_nil))) (sss_one (ss_retV 0)) (sss_nil)) (
    sss_cons (ss_if (sb_w (sw_and (sb_cmp v2_eq (op_eqA hr.units) (se_v 2) (se_int)) (sw_and1 (sb_cmp v2_gt op_gt (se_blt vn_len call_lenA rfl T.b_len PySem.boot_len (sv_cons (se_v 3) (sv_nil))) (se_int))))) (sss_cons (ss_set 5 sc_law_layers.nd (se_op v2_mod op_mod (se_v 1) (se_op v2_sub op_sub (se_blt vn_len call_lenA rfl T.b_len PySem.boot_len (sv_cons (se_v 3) (sv_nil))) (se_int)))) (
    sss_one (ss_set 3 sc_law_layers.nd (se_op v2_add op_addA (se_op v2_add op_addA (se_slice rfl (se_v 3) (spo_none) (spo_some (se_v 5))) (se_lst (sa_cons (se_ix v2_ix ix_seq (se_v 3) (se_op v2_add op_addA (se_v 5) (se_int))) (sa_cons (se_ix v2_ix ix_seq (se_v 3) (se_v 5)) (sa_nil))))) (se_slice rfl (se_v 3) (spo_some (se_op v2_add op_addA (se_v 5) (se_int))) (spo_none)))))) (sss_nil)) (
    sss_cons (ss_if (sb_cmp v2_eq (op_eqA hr.units) (se_v 2) (se_int)) (sss_one (ss_set 3 sc_law_layers.nd (se_op v2_add op_addA (se_slice rfl (se_v 3) (spo_some (se_int)) (spo_none)) (se_slice rfl (se_v 3) (spo_none) (spo_some (se_int)))))) (sss_nil)) (
    sss_cons (ss_if (sb_cmp v2_eq (op_eqA hr.units) (se_v 2) (se_int)) (sss_cons (ss_set 5 sc_law_layers.nd (se_op v2_mod op_mod (se_v 1) (se_blt vn_len call_lenA rfl T.b_len PySem.boot_len (sv_cons (se_v 3) (sv_nil))))) (
    sss_one (ss_set 3 sc_law_layers.nd (se_op v2_add op_addA (se_slice rfl (se_v 3) (spo_none) (spo_some (se_v 5))) (se_slice rfl (se_v 3) (spo_some (se_op v2_add op_addA (se_v 5) (se_int))) (spo_none)))))) (sss_nil)) (
    sss_cons (ss_setLc 4 [("one", 6)] rfl sc_law_layers.nd (si_list rfl (se_v 0)) (blkOk_by (by kernel_rfl)) (fun _ _ _ _ _ => pg_nm 6 sc_law_layers.nd) (fun _ _ _ _ _ => spt_nil) (fun _ _ _ _ _ => se_bty vn_list call_list_of rfl T.b_list (by decide +kernel) (sv_cons (se_v 6) (sv_nil)))) (
    sss_fz 3 (sss_cons (ss_setI (ps_asg (se_v 3) (pg_sub (pv 4) (se_op v2_mod op_mod (se_op v2_div op_fdiv (se_v 1) (se_int)) (se_blt vn_len call_lenA rfl T.b_len PySem.boot_len (sv_cons (se_v 0) (sv_nil)))) set_list))) (
    sss_one (ss_retV 4)))))))))
abbrev s_law_spoilt : Stmt := top 26
theorem sc_law_spoilt : FnScope ["heaps", "at", "way", "count", "out", "first", "other", "names", "odd", "turn", "k", "j", "one", "heap", "a", "b", "n"] ["heaps", "at", "way", "count"] (defScope s_law_spoilt) := ⟨rfl, rfl, rfl, by decide +kernel, rfl, by decide +kernel, by decide +kernel⟩
theorem ok_law_spoilt {P : Program} {w : World} {K : PySem.W.Frag} {mg : Str → Option Value} {base : Heap} {f : Addr} {fd : FuncData} (T : Tp K mg) (g_law_layers : Gf P w K mg base (cT K) "_law_layers" 1 ["heaps", "at", "way"] F_law_layers) (Fn : Fun K "_law_spoilt" "_law_spoilt" s_law_spoilt f fd) : FnOk P w K mg base (L2.CX P w) 2 f fd ["heaps", "at", "way", "count"] (spOf (cT K) F_law_spoilt) :=
  fn_ok Fn sc_law_spoilt (by decide) fun cdv A outer s H E F hr =>
    sss_cons (ss_set 4 sc_law_spoilt.nd (se_lcN [("one", 12)] rfl sc_law_spoilt.nd (si_list rfl (se_v 0)) (blkOk_by (by kernel_rfl)) (fun _ _ _ _ _ => pg_nm 12 sc_law_spoilt.nd) (fun _ _ _ _ _ => se_bty vn_list call_list_of rfl T.b_list (by decide +kernel) (sv_cons (se_v 12) (sv_nil))))) (
    sss_cons (ss_if (sb_cmp v2_eq (op_eqA hr.units) (se_v 2) (se_int)) (sss_cons (ss_set 5 sc_law_spoilt.nd (se_op v2_mod op_mod (se_v 1) (se_v 3))) (
    sss_cons (ss_set 6 sc_law_spoilt.nd (se_op v2_mod op_mod (se_op v2_div op_fdiv (se_v 1) (se_int)) (se_v 3))) (
    sss_cons (ss_set 7 sc_law_spoilt.nd (se_lc [("k", 10)] rfl sc_law_spoilt.nd (si_range rfl T.b_range (sv_cons (se_v 3) (sv_nil))) (blkOk_by (by kernel_rfl)) (fun _ _ _ _ _ => pg_nm 10 sc_law_spoilt.nd) (fun _ _ _ _ _ => spt_nil) (fun _ _ _ _ _ => se_if (sb_cmp v2_eq (op_eqA hr.units) (se_v 10) (se_v 5)) (se_v 6) (se_if (sb_cmp v2_eq (op_eqA hr.units) (se_v 10) (se_v 6)) (se_v 5) (se_v 10))))) (
    sss_fz 4 (sss_one (ss_ret (se_lc [("heap", 13)] rfl sc_law_spoilt.nd (si_list rfl (se_v 4)) (blkOk_by (by kernel_rfl)) (fun _ _ _ _ _ => pg_nm 13 sc_law_spoilt.nd) (fun _ _ _ _ _ => spt_nil) (fun _ _ _ _ _ => se_lc [("one", 12)] rfl sc_law_spoilt.nd (si_list rfl (se_v 13)) (blkOk_by (by kernel_rfl)) (fun _ _ _ _ _ => pg_nm 12 sc_law_spoilt.nd) (fun _ _ _ _ _ => spt_nil) (fun _ _ _ _ _ => se_tup (sa_cons (se_ix v2_ix ix_seq (se_v 7) (se_ix v2_ix ix_seq (se_v 12) (se_int))) (sa_cons (se_ix v2_ix ix_seq (se_v 12) (se_int)) (sa_cons (se_ix v2_ix ix_seq (se_v 12) (se_int)) (sa_nil))))))))))))) (sss_nil)) (
    sss_cons (ss_if (sb_cmp v2_eq (op_eqA hr.units) (se_v 2) (se_int)) (sss_cons (ss_set 8 sc_law_spoilt.nd (se_op v2_mod op_mod (se_v 1) (se_v 3))) (
    sss_cons (ss_set 9 sc_law_spoilt.nd (se_cmp v2_eq (op_eqA hr.units) (se_op v2_mod op_mod (se_op v2_div op_fdiv (se_v 1) (se_int)) (se_int)) (se_int))) (
    sss_fz 4 (sss_one (ss_ret (se_lc [("heap", 13)] rfl sc_law_spoilt.nd (si_list rfl (se_v 4)) (blkOk_by (by kernel_rfl)) (fun _ _ _ _ _ => pg_nm 13 sc_law_spoilt.nd) (fun _ _ _ _ _ => spt_nil) (fun _ _ _ _ _ => se_lc [("k", 10), ("a", 14), ("b", 15)] rfl sc_law_spoilt.nd (si_list rfl (se_v 13)) (blkOk_by (by kernel_rfl)) (fun _ _ _ _ _ => pg_tp [10, 14, 15] rfl (pgn_cons 10 sc_law_spoilt.nd (pgn_cons 14 sc_law_spoilt.nd (pgn_cons 15 sc_law_spoilt.nd pgn_nil)))) (fun _ _ _ _ _ => spt_nil) (fun _ _ _ _ _ => se_tup (sa_cons (se_v 10) (sa_cons (se_cmp v2_ne (op_neA hr.units) (se_v 14) (se_and (se_cmp v2_eq (op_eqA hr.units) (se_v 10) (se_v 8)) (se_one (se_v 9)))) (sa_cons (se_cmp v2_ne (op_neA hr.units) (se_v 15) (se_and (se_cmp v2_eq (op_eqA hr.units) (se_v 10) (se_v 8)) (se_one (se_not (se_v 9))))) (sa_nil)))))))))))) (sss_nil)) (
    sss_cons (ss_if (sb_cmp v2_eq (op_eqA hr.units) (se_v 2) (se_int)) (sss_cons (ss_set 5 sc_law_spoilt.nd (se_op v2_mod op_mod (se_v 1) (se_v 3))) (
    sss_cons (ss_set 6 sc_law_spoilt.nd (se_op v2_mod op_mod (se_op v2_div op_fdiv (se_v 1) (se_int)) (se_v 3))) (
    sss_fz 4 (sss_one (ss_ret (se_lc [("heap", 13)] rfl sc_law_spoilt.nd (si_list rfl (se_v 4)) (blkOk_by (by kernel_rfl)) (fun _ _ _ _ _ => pg_nm 13 sc_law_spoilt.nd) (fun _ _ _ _ _ => spt_nil) (fun _ _ _ _ _ => se_lc [("one", 12)] rfl sc_law_spoilt.nd (si_list rfl (se_v 13)) (blkOk_by (by kernel_rfl)) (fun _ _ _ _ _ => pg_nm 12 sc_law_spoilt.nd) (fun _ _ _ _ _ => spt_nil) (fun _ _ _ _ _ => se_tup (sa_cons (se_if (sb_cmp v2_eq (op_eqA hr.units) (se_ix v2_ix ix_seq (se_v 12) (se_int)) (se_v 6)) (se_v 5) (se_ix v2_ix ix_seq (se_v 12) (se_int))) (sa_cons (se_ix v2_ix ix_seq (se_v 12) (se_int)) (sa_cons (se_ix v2_ix ix_seq (se_v 12) (se_int)) (sa_nil)))))))))))) (sss_nil)) (
    sss_cons (ss_if (sb_cmp v2_eq (op_eqA hr.units) (se_v 2) (se_int)) (sss_cons (ss_setN (ps_asg (se_lst (sa_nil)) (pg_sub (pv 4) (se_op v2_mod op_mod (se_op v2_div op_fdiv (se_v 1) (se_int)) (se_blt vn_len call_lenA rfl T.b_len PySem.boot_len (sv_cons (se_v 4) (sv_nil)))) set_list))) (
    sss_one (ss_retV 4))) (sss_nil)) (
    sss_cons (ss_if (sb_cmp v2_eq (op_eqA hr.units) (se_v 2) (se_int)) (sss_cons (ss_insAt (ps_expr (pe_bm PySem.F.plainAttrs_list PySem.F.slot_list_insert PySem.F.type_list_insert mt_insert (pe_ix ix_seq (pv 4) (se_op v2_mod op_mod (se_op v2_div op_fdiv (se_v 1) (se_int)) (se_blt vn_len call_lenA rfl T.b_len PySem.boot_len (sv_cons (se_v 4) (sv_nil)))) (fun _ _ => rfl)) (pa_cons (se_op v2_mul op_mul (se_op v2_mod op_mod (se_v 1) (se_int)) (se_blt vn_len call_lenA rfl T.b_len PySem.boot_len (sv_cons (se_ix v2_ixO ix_seq (se_v 4) (se_op v2_mod op_mod (se_op v2_div op_fdiv (se_v 1) (se_int)) (se_blt vn_len call_lenA rfl T.b_len PySem.boot_len (sv_cons (se_v 4) (sv_nil))))) (sv_nil)))) (pa_cons (se_tup (sa_cons (se_op v2_mod op_mod (se_v 1) (se_v 3)) (sa_cons (se_bl) (sa_cons (se_bl) (sa_nil))))) pa_nil))))) (
    sss_one (ss_retV 4))) (sss_nil)) (
    sss_cons (ss_if (sb_cmp v2_eq (op_eqA hr.units) (se_v 2) (se_int)) (sss_cons (ss_set 10 sc_law_spoilt.nd (se_op v2_mod op_mod (se_v 1) (se_blt vn_len call_lenA rfl T.b_len PySem.boot_len (sv_cons (se_v 4) (sv_nil))))) (
    sss_cons (ss_set 11 sc_law_spoilt.nd (se_op v2_mod op_mod (se_op v2_div op_fdiv (se_v 1) (se_int)) (se_blt vn_len call_lenA rfl T.b_len PySem.boot_len (sv_cons (se_v 4) (sv_nil))))) (
    sss_fz 4 (sss_one (ss_ret (se_lc [("n", 16)] rfl sc_law_spoilt.nd (si_range rfl T.b_range (sv_cons (se_blt vn_len call_lenA rfl T.b_len PySem.boot_len (sv_cons (se_v 4) (sv_nil))) (sv_nil))) (blkOk_by (by kernel_rfl)) (fun _ _ _ _ _ => pg_nm 16 sc_law_spoilt.nd) (fun _ _ _ _ _ => spt_nil) (fun _ _ _ _ _ => se_if (sb_cmp v2_eq (op_eqA hr.units) (se_v 16) (se_v 10)) (se_ix v2_ix ix_seq (se_v 4) (se_v 11)) (se_if (sb_cmp v2_eq (op_eqA hr.units) (se_v 16) (se_v 11)) (se_ix v2_ix ix_seq (se_v 4) (se_v 10)) (se_ix v2_ix ix_seq (se_v 4) (se_v 16)))))))))) (sss_nil)) (
    sss_fz 4 (sss_one (ss_ret (se_call g_law_layers (hr.mono (by decide)) (takes_of rfl rfl rfl rfl) rfl (sa_cons (se_v 4) (sa_cons (se_v 1) (sa_cons (se_v 2) (sa_nil))))))))))))))
abbrev s_law_whole : Stmt := top 10
theorem sc_law_whole : FnScope ["found"] ["found"] (defScope s_law_whole) := ⟨rfl, rfl, rfl, by decide +kernel, rfl, by decide +kernel, by decide +kernel⟩
theorem ok_law_whole {P : Program} {w : World} {K : PySem.W.Frag} {mg : Str → Option Value} {base : Heap} {f : Addr} {fd : FuncData} (T : Tp K mg) (Fn : Fun K "_law_whole" "_law_whole" s_law_whole f fd) : FnOk P w K mg base (L2.CX P w) 1 f fd ["found"] (spOf (cT K) F_law_whole) :=
  fn_ok Fn sc_law_whole (by decide) fun cdv A outer s H E F hr =>
    sss_one (ss_ret (se_and (se_isi rfl T.b_isinstance T.b_int (by decide) (se_v 0) rfl rfl (by decide +kernel)) (se_one (se_not (se_isi rfl T.b_isinstance T.b_bool (by decide) (se_v 0) rfl rfl (by decide +kernel))))))
abbrev s_law_alike : Stmt := top 30
theorem sc_law_alike : FnScope ["found", "due", "part"] ["found", "due"] (defScope s_law_alike) := ⟨rfl, rfl, rfl, by decide +kernel, rfl, by decide +kernel, by decide +kernel⟩
theorem ok_law_alike {P : Program} {w : World} {K : PySem.W.Frag} {mg : Str → Option Value} {base : Heap} {f : Addr} {fd : FuncData} (T : Tp K mg) (g_law_whole : Gf P w K mg base (cT K) "_law_whole" 1 ["found"] F_law_whole) (Fn : Fun K "_law_alike" "_law_alike" s_law_alike f fd) : FnOk P w K mg base (L2.CX P w) 2 f fd ["found", "due"] (spOf (cT K) F_law_alike) :=
  fn_ok Fn sc_law_alike (by decide) fun cdv A outer s H E F hr =>
    sss_cons (ss_if (sb_w (sw_or (sb_cmp v2_is op_isA (se_v 1) (se_non)) (sw_or (sb_not (sb_val (se_isi rfl T.b_isinstance T.b_tuple (by decide) (se_v 0) rfl rfl (by decide +kernel)))) (sw_or1 (sb_cmp v2_ne (op_neA hr.units) (se_blt vn_len call_lenA rfl T.b_len PySem.boot_len (sv_cons (se_v 0) (sv_nil))) (se_blt vn_len call_lenA rfl T.b_len PySem.boot_len (sv_cons (se_v 1) (sv_nil)))))))) (sss_one (ss_ret (se_and (se_cmp v2_is op_isA (se_v 1) (se_non)) (se_one (se_cmp v2_is op_isA (se_v 0) (se_non)))))) (sss_nil)) (
    sss_cons (ss_for (.nm 2) (passes_of rfl) rfl (si_tup (se_slT (se_v 0) (spo_some (se_int)) (spo_none))) (pg_nm 2 sc_law_alike.nd) (sss_one (ss_if (sb_not (sb_val (se_callB g_law_whole (hr.mono (by decide)) (takes_of rfl rfl rfl rfl) rfl (sv_cons (se_v 2) (sv_nil))))) (sss_one (ss_ret (se_bl))) (sss_nil)))) (
    sss_one (ss_ret (se_and (se_isi rfl T.b_isinstance T.b_str (by decide) (se_ix v2_ix ix_seq (se_v 0) (se_int)) rfl rfl (by decide +kernel)) (se_one (se_cmp v2_eq (op_eqA hr.units) (se_v 0) (se_v 1)))))))
abbrev s_law_seated : Stmt := top 28
theorem sc_law_seated : FnScope ["count", "wide", "heaps", "out", "place", "layer", "k", "east", "north"] ["count", "wide", "heaps"] (defScope s_law_seated) := ⟨rfl, rfl, rfl, by decide +kernel, rfl, by decide +kernel, by decide +kernel⟩
theorem ok_law_seated {P : Program} {w : World} {K : PySem.W.Frag} {mg : Str → Option Value} {base : Heap} {f : Addr} {fd : FuncData} (T : Tp K mg) (Fn : Fun K "_law_seated" "_law_seated" s_law_seated f fd) : FnOk P w K mg base (L2.CX P w) 1 f fd ["count", "wide", "heaps"] (spOf (cT K) F_law_seated) :=
  fn_ok Fn sc_law_seated (by decide) fun cdv A outer s H E F hr =>
    sss_cons (ss_setLcN 3 [("k", 6)] rfl sc_law_seated.nd (si_range rfl T.b_range (sv_cons (se_v 0) (sv_nil))) (blkOk_by (by kernel_rfl)) (fun _ _ _ _ _ => pg_nm 6 sc_law_seated.nd) (fun _ _ _ _ _ => se_lst (sa_nil))) (
    sss_cons (ss_for (.nm 4) (passes_of rfl) rfl (si_range rfl T.b_range (sv_cons (se_blt vn_len call_lenA rfl T.b_len PySem.boot_len (sv_cons (se_v 2) (sv_nil))) (sv_nil))) (pg_nm 4 sc_law_seated.nd) (sss_one (ss_for (.nm 5) (passes_of rfl) rfl (si_range rfl T.b_range (sv_cons (se_blt vn_len call_lenA rfl T.b_len PySem.boot_len (sv_cons (se_ix v2_ix ix_seq (se_v 2) (se_v 4)) (sv_nil))) (sv_nil))) (pg_nm 5 sc_law_seated.nd) (sss_cons (ss_unp [6, 7, 8] (se_ix v2_ix ix_seq (se_ix v2_ix ix_seq (se_v 2) (se_v 4)) (se_v 5)) (pg_tp [6, 7, 8] rfl (pgn_cons 6 sc_law_seated.nd (pgn_cons 7 sc_law_seated.nd (pgn_cons 8 sc_law_seated.nd pgn_nil))))) (
    sss_one (ss_appAt (ps_expr (pe_bm PySem.F.plainAttrs_list PySem.F.slot_list_append PySem.F.type_list_append mt_append (pe_ix ix_seq (pv 3) (se_v 6) (fun _ _ => rfl)) (pa_cons (se_tup (sa_cons (se_op v2_mod op_mod (se_v 4) (se_v 1)) (sa_cons (se_op v2_div op_fdiv (se_v 4) (se_v 1)) (sa_cons (se_v 5) (sa_cons (se_v 7) (sa_cons (se_v 8) (sa_nil))))))) pa_nil))))))))) (
    sss_one (ss_retV 3)))
abbrev s_law_near : Stmt := top 17
theorem sc_law_near : FnScope ["columns", "rows", "out", "k"] ["columns", "rows"] (defScope s_law_near) := ⟨rfl, rfl, rfl, by decide +kernel, rfl, by decide +kernel, by decide +kernel⟩
theorem ok_law_near {P : Program} {w : World} {K : PySem.W.Frag} {mg : Str → Option Value} {base : Heap} {f : Addr} {fd : FuncData} (T : Tp K mg) (Fn : Fun K "_law_near" "_law_near" s_law_near f fd) : FnOk P w K mg base (L2.CX P w) 1 f fd ["columns", "rows"] (spOf (cT K) F_law_near) :=
  fn_ok Fn sc_law_near (by decide) fun cdv A outer s H E F hr =>
    sss_cons (ss_set 2 sc_law_near.nd (se_lst (sa_nil))) (
    sss_cons (ss_for (.nm 3) (passes_of rfl) rfl (si_range rfl T.b_range (sv_cons (se_op v2_mul op_mul (se_v 0) (se_v 1)) (sv_nil))) (pg_nm 3 sc_law_near.nd) (sss_cons (ss_if (sb_cmp v2_lt op_lt (se_op v2_mod op_mod (se_v 3) (se_v 0)) (se_op v2_sub op_sub (se_v 0) (se_int))) (sss_one (ss_app (ps_expr (pe_bm PySem.F.plainAttrs_list PySem.F.slot_list_append PySem.F.type_list_append mt_append (pv 2) (pa_cons (se_tup (sa_cons (se_v 3) (sa_cons (se_op v2_add op_addA (se_v 3) (se_int)) (sa_cons (se_bl) (sa_nil))))) pa_nil))))) (sss_nil)) (
    sss_one (ss_if (sb_cmp v2_lt op_lt (se_op v2_div op_fdiv (se_v 3) (se_v 0)) (se_op v2_sub op_sub (se_v 1) (se_int))) (sss_one (ss_app (ps_expr (pe_bm PySem.F.plainAttrs_list PySem.F.slot_list_append PySem.F.type_list_append mt_append (pv 2) (pa_cons (se_tup (sa_cons (se_v 3) (sa_cons (se_op v2_add op_addA (se_v 3) (se_v 0)) (sa_cons (se_bl) (sa_nil))))) pa_nil))))) (sss_nil))))) (
    sss_one (ss_retV 2)))
abbrev s_law_line : Stmt := top 18
theorem sc_law_line : FnScope ["one", "level"] ["one", "level"] (defScope s_law_line) := ⟨rfl, rfl, rfl, by decide +kernel, rfl, by decide +kernel, by decide +kernel⟩
theorem ok_law_line {P : Program} {w : World} {K : PySem.W.Frag} {mg : Str → Option Value} {base : Heap} {f : Addr} {fd : FuncData} (T : Tp K mg) (Fn : Fun K "_law_line" "_law_line" s_law_line f fd) : FnOk P w K mg base (L2.CX P w) 1 f fd ["one", "level"] (spOf (cT K) F_law_line) :=
  fn_ok Fn sc_law_line (by decide) fun cdv A outer s H E F hr =>
    sss_cons (ss_if (sb_val (se_v 1)) (sss_one (ss_ret (se_if (sb_val (se_ix v2_ix ix_seq (se_v 0) (se_int))) (se_ix v2_ix ix_seq (se_v 0) (se_int)) (se_op v2_add op_addA (se_ix v2_ix ix_seq (se_v 0) (se_int)) (se_int))))) (sss_nil)) (
    sss_one (ss_ret (se_if (sb_val (se_ix v2_ix ix_seq (se_v 0) (se_int))) (se_ix v2_ix ix_seq (se_v 0) (se_int)) (se_op v2_add op_addA (se_ix v2_ix ix_seq (se_v 0) (se_int)) (se_int)))))
abbrev s_law_back_line : Stmt := top 19
theorem sc_law_back_line : FnScope ["one", "level"] ["one", "level"] (defScope s_law_back_line) := ⟨rfl, rfl, rfl, by decide +kernel, rfl, by decide +kernel, by decide +kernel⟩
theorem ok_law_back_line {P : Program} {w : World} {K : PySem.W.Frag} {mg : Str → Option Value} {base : Heap} {f : Addr} {fd : FuncData} (T : Tp K mg) (Fn : Fun K "_law_back_line" "_law_back_line" s_law_back_line f fd) : FnOk P w K mg base (L2.CX P w) 1 f fd ["one", "level"] (spOf (cT K) F_law_back_line) :=
  fn_ok Fn sc_law_back_line (by decide) fun cdv A outer s H E F hr =>
    sss_cons (ss_if (sb_val (se_v 1)) (sss_one (ss_ret (se_if (sb_val (se_ix v2_ix ix_seq (se_v 0) (se_int))) (se_op v2_add op_addA (se_ix v2_ix ix_seq (se_v 0) (se_int)) (se_int)) (se_ix v2_ix ix_seq (se_v 0) (se_int))))) (sss_nil)) (
    sss_one (ss_ret (se_if (sb_val (se_ix v2_ix ix_seq (se_v 0) (se_int))) (se_op v2_add op_addA (se_ix v2_ix ix_seq (se_v 0) (se_int)) (se_int)) (se_ix v2_ix ix_seq (se_v 0) (se_int)))))
abbrev s_law_meet : Stmt := top 20
theorem sc_law_meet : FnScope ["one", "other", "level"] ["one", "other", "level"] (defScope s_law_meet) := ⟨rfl, rfl, rfl, by decide +kernel, rfl, by decide +kernel, by decide +kernel⟩
theorem ok_law_meet {P : Program} {w : World} {K : PySem.W.Frag} {mg : Str → Option Value} {base : Heap} {f : Addr} {fd : FuncData} (T : Tp K mg) (g_law_line : Gf P w K mg base (cT K) "_law_line" 1 ["one", "level"] F_law_line) (g_law_back_line : Gf P w K mg base (cT K) "_law_back_line" 1 ["one", "level"] F_law_back_line) (Fn : Fun K "_law_meet" "_law_meet" s_law_meet f fd) : FnOk P w K mg base (L2.CX P w) 2 f fd ["one", "other", "level"] (spOf (cT K) F_law_meet) :=
  fn_ok Fn sc_law_meet (by decide) fun cdv A outer s H E F hr =>
    sss_cons (ss_if (sb_w (sw_and (sb_val (se_v 2)) (sw_and1 (sb_w (sw_or (sb_cmp v2_ne (op_neA hr.units) (se_ix v2_ix ix_seq (se_v 0) (se_int)) (se_ix v2_ix ix_seq (se_v 1) (se_int))) (sw_or1 (sb_cmp v2_ne (op_neA hr.units) (se_ix v2_ix ix_seq (se_v 0) (se_int)) (se_ix v2_ix ix_seq (se_v 1) (se_int))))))))) (sss_one (ss_ret (se_bl))) (sss_nil)) (
    sss_cons (ss_if (sb_w (sw_and (sb_not (sb_val (se_v 2))) (sw_and1 (sb_w (sw_or (sb_cmp v2_ne (op_neA hr.units) (se_ix v2_ix ix_seq (se_v 0) (se_int)) (se_ix v2_ix ix_seq (se_v 1) (se_int))) (sw_or1 (sb_cmp v2_ne (op_neA hr.units) (se_ix v2_ix ix_seq (se_v 0) (se_int)) (se_ix v2_ix ix_seq (se_v 1) (se_int))))))))) (sss_one (ss_ret (se_bl))) (sss_nil)) (
    sss_one (ss_ret (se_cmp v2_eq (op_eqA hr.units) (se_callB g_law_line (hr.mono (by decide)) (takes_of rfl rfl rfl rfl) rfl (sv_cons (se_v 0) (sv_cons (se_v 2) (sv_nil)))) (se_callB g_law_back_line (hr.mono (by decide)) (takes_of rfl rfl rfl rfl) rfl (sv_cons (se_v 1) (sv_cons (se_v 2) (sv_nil))))))))
abbrev s_law_parts : Stmt := top 21
theorem sc_law_parts : FnScope ["one", "other", "level", "line", "along", "low", "high", "spot"] ["one", "other", "level", "line"] (defScope s_law_parts) := ⟨rfl, rfl, rfl, by decide +kernel, rfl, by decide +kernel, by decide +kernel⟩
theorem ok_law_parts {P : Program} {w : World} {K : PySem.W.Frag} {mg : Str → Option Value} {base : Heap} {f : Addr} {fd : FuncData} (T : Tp K mg) (Fn : Fun K "_law_parts" "_law_parts" s_law_parts f fd) : FnOk P w K mg base (L2.CX P w) 1 f fd ["one", "other", "level", "line"] (spOf (cT K) F_law_parts) :=
  fn_ok Fn sc_law_parts (by decide) fun cdv A outer s H E F hr =>
    sss_cons (ss_set 4 sc_law_parts.nd (se_bty vn_int1 call_int1 rfl T.b_int (by decide +kernel) (sv_cons (se_v 2) (sv_nil)))) (
    sss_cons (ss_setLc 5 [("spot", 7)] rfl sc_law_parts.nd (si_tup (se_tup (sa_cons (se_v 0) (sa_cons (se_v 1) (sa_nil))))) (blkOk_by (by kernel_rfl)) (fun _ _ _ _ _ => pg_nm 7 sc_law_parts.nd) (fun _ _ _ _ _ => spt_one (sb_cmp v2_eq (op_eqA hr.units) (se_ix v2_ix ix_seq (se_v 7) (se_v 4)) (se_op v2_sub op_sub (se_v 3) (se_int)))) (fun _ _ _ _ _ => se_ix v2_ix ix_seq (se_v 7) (se_int))) (
    sss_cons (ss_setLc 6 [("spot", 7)] rfl sc_law_parts.nd (si_tup (se_tup (sa_cons (se_v 0) (sa_cons (se_v 1) (sa_nil))))) (blkOk_by (by kernel_rfl)) (fun _ _ _ _ _ => pg_nm 7 sc_law_parts.nd) (fun _ _ _ _ _ => spt_one (sb_cmp v2_eq (op_eqA hr.units) (se_ix v2_ix ix_seq (se_v 7) (se_v 4)) (se_v 3))) (fun _ _ _ _ _ => se_ix v2_ix ix_seq (se_v 7) (se_int))) (
    sss_fz 5 (sss_fz 6 (sss_one (ss_ret (se_tup (sa_cons (se_v 5) (sa_cons (se_v 6) (sa_nil))))))))))
abbrev s_law_inside : Stmt := top 22
theorem sc_law_inside : FnScope ["layer", "bend"] ["layer", "bend"] (defScope s_law_inside) := ⟨rfl, rfl, rfl, by decide +kernel, rfl, by decide +kernel, by decide +kernel⟩
theorem ok_law_inside {P : Program} {w : World} {K : PySem.W.Frag} {mg : Str → Option Value} {base : Heap} {f : Addr} {fd : FuncData} (T : Tp K mg) (Fn : Fun K "_law_inside" "_law_inside" s_law_inside f fd) : FnOk P w K mg base (L2.CX P w) 1 f fd ["layer", "bend"] (spOf (cT K) F_law_inside) :=
  fn_ok Fn sc_law_inside (by decide) fun cdv A outer s H E F hr =>
    sss_one (ss_ret (se_chain v2_lt v2_lt op_lt op_lt (se_blt vn_min1 (cr_min rfl) rfl T.b_min (by decide +kernel) (sv_cons (se_v 1) (sv_nil))) (se_v 0) (se_blt vn_max1 (cr_max rfl) rfl T.b_max (by decide +kernel) (sv_cons (se_v 1) (sv_nil)))))
abbrev s_law_bends : Stmt := top 23
theorem sc_law_bends : FnScope ["low", "other"] ["low", "other"] (defScope s_law_bends) := ⟨rfl, rfl, rfl, by decide +kernel, rfl, by decide +kernel, by decide +kernel⟩
theorem ok_law_bends {P : Program} {w : World} {K : PySem.W.Frag} {mg : Str → Option Value} {base : Heap} {f : Addr} {fd : FuncData} (T : Tp K mg) (g_law_inside : Gf P w K mg base (cT K) "_law_inside" 1 ["layer", "bend"] F_law_inside) (Fn : Fun K "_law_bends" "_law_bends" s_law_bends f fd) : FnOk P w K mg base (L2.CX P w) 2 f fd ["low", "other"] (spOf (cT K) F_law_bends) :=
  fn_ok Fn sc_law_bends (by decide) fun cdv A outer s H E F hr =>
    sss_cons (ss_if (sb_w (sw_and (sb_cmp v2_eq (op_eqA hr.units) (se_blt vn_len call_lenA rfl T.b_len PySem.boot_len (sv_cons (se_v 0) (sv_nil))) (se_int)) (sw_and1 (sb_cmp v2_eq (op_eqA hr.units) (se_blt vn_len call_lenA rfl T.b_len PySem.boot_len (sv_cons (se_v 1) (sv_nil))) (se_int))))) (sss_one (ss_ret (se_cmp v2_ne (op_neA hr.units) (se_callB g_law_inside (hr.mono (by decide)) (takes_of rfl rfl rfl rfl) rfl (sv_cons (se_ix v2_ix ix_seq (se_v 1) (se_int)) (sv_cons (se_v 0) (sv_nil)))) (se_callB g_law_inside (hr.mono (by decide)) (takes_of rfl rfl rfl rfl) rfl (sv_cons (se_ix v2_ix ix_seq (se_v 1) (se_int)) (sv_cons (se_v 0) (sv_nil))))))) (sss_nil)) (
    sss_cons (ss_if (sb_w (sw_and (sb_cmp v2_eq (op_eqA hr.units) (se_blt vn_len call_lenA rfl T.b_len PySem.boot_len (sv_cons (se_v 0) (sv_nil))) (se_int)) (sw_and1 (sb_cmp v2_eq (op_eqA hr.units) (se_blt vn_len call_lenA rfl T.b_len PySem.boot_len (sv_cons (se_v 1) (sv_nil))) (se_int))))) (sss_one (ss_ret (se_callB g_law_inside (hr.mono (by decide)) (takes_of rfl rfl rfl rfl) rfl (sv_cons (se_ix v2_ix ix_seq (se_v 1) (se_int)) (sv_cons (se_v 0) (sv_nil)))))) (sss_nil)) (
    sss_one (ss_ret (se_and (se_cmp v2_eq (op_eqA hr.units) (se_blt vn_len call_lenA rfl T.b_len PySem.boot_len (sv_cons (se_v 0) (sv_nil))) (se_int)) (se_and (se_cmp v2_eq (op_eqA hr.units) (se_blt vn_len call_lenA rfl T.b_len PySem.boot_len (sv_cons (se_v 1) (sv_nil))) (se_int)) (se_one (se_callB g_law_inside (hr.mono (by decide)) (takes_of rfl rfl rfl rfl) rfl (sv_cons (se_ix v2_ix ix_seq (se_v 0) (se_int)) (sv_cons (se_v 1) (sv_nil))))))))))
abbrev s_law_through : Stmt := top 24
theorem sc_law_through : FnScope ["one", "other"] ["one", "other"] (defScope s_law_through) := ⟨rfl, rfl, rfl, by decide +kernel, rfl, by decide +kernel, by decide +kernel⟩
theorem ok_law_through {P : Program} {w : World} {K : PySem.W.Frag} {mg : Str → Option Value} {base : Heap} {f : Addr} {fd : FuncData} (T : Tp K mg) (g_law_bends : Gf P w K mg base (cT K) "_law_bends" 2 ["low", "other"] F_law_bends) (Fn : Fun K "_law_through" "_law_through" s_law_through f fd) : FnOk P w K mg base (L2.CX P w) 3 f fd ["one", "other"] (spOf (cT K) F_law_through) :=
  fn_ok Fn sc_law_through (by decide) fun cdv A outer s H E F hr =>
    sss_cons (ss_if (sb_w (sw_and (sb_cmp v2_eq (op_eqA hr.units) (se_blt vn_len call_lenA rfl T.b_len PySem.boot_len (sv_cons (se_ix v2_ix ix_seq (se_v 0) (se_int)) (sv_nil))) (se_int)) (sw_and1 (sb_cmp v2_eq (op_eqA hr.units) (se_blt vn_len call_lenA rfl T.b_len PySem.boot_len (sv_cons (se_ix v2_ix ix_seq (se_v 1) (se_int)) (sv_nil))) (se_int))))) (sss_one (ss_ret (se_cmp v2_eq (op_eqA hr.units) (se_cmp v2_lt op_lt (se_ix v2_ix ix_seq (se_ix v2_ix ix_seq (se_v 0) (se_int)) (se_int)) (se_ix v2_ix ix_seq (se_ix v2_ix ix_seq (se_v 1) (se_int)) (se_int))) (se_cmp v2_gt op_gt (se_ix v2_ix ix_seq (se_ix v2_ix ix_seq (se_v 0) (se_int)) (se_int)) (se_ix v2_ix ix_seq (se_ix v2_ix ix_seq (se_v 1) (se_int)) (se_int)))))) (sss_nil)) (
    sss_one (ss_ret (se_or (se_callB g_law_bends (hr.mono (by decide)) (takes_of rfl rfl rfl rfl) rfl (sv_cons (se_ix v2_ix ix_seq (se_v 0) (se_int)) (sv_cons (se_ix v2_ix ix_seq (se_v 1) (se_int)) (sv_nil)))) (se_one (se_callB g_law_bends (hr.mono (by decide)) (takes_of rfl rfl rfl rfl) rfl (sv_cons (se_ix v2_ix ix_seq (se_v 0) (se_int)) (sv_cons (se_ix v2_ix ix_seq (se_v 1) (se_int)) (sv_nil))))))))
abbrev s_law_due : Stmt := top 29
theorem sc_law_due : FnScope ["columns", "rows", "wide", "heaps", "spots", "k", "found", "first", "second", "level", "one", "other", "line", "place"] ["columns", "rows", "wide", "heaps"] (defScope s_law_due) := ⟨rfl, rfl, rfl, by decide +kernel, rfl, by decide +kernel, by decide +kernel⟩
theorem ok_law_due {P : Program} {w : World} {K : PySem.W.Frag} {mg : Str → Option Value} {base : Heap} {f : Addr} {fd : FuncData} (T : Tp K mg) (g_law_seated : Gf P w K mg base (cT K) "_law_seated" 1 ["count", "wide", "heaps"] F_law_seated) (g_law_near : Gf P w K mg base (cT K) "_law_near" 1 ["columns", "rows"] F_law_near) (g_law_line : Gf P w K mg base (cT K) "_law_line" 1 ["one", "level"] F_law_line) (g_law_meet : Gf P w K mg base (cT K) "_law_meet" 2 ["one", "other", "level"] F_law_meet) (g_law_parts : Gf P w K mg base (cT K) "_law_parts" 1 ["one", "other", "level", "line"] F_law_parts) (g_law_through : Gf P w K mg base (cT K) "_law_through" 3 ["one", "other"] F_law_through) (Fn : Fun K "_law_due" "_law_due" s_law_due f fd) : FnOk P w K mg base (L2.CX P w) 4 f fd ["columns", "rows", "wide", "heaps"] (spOf (cT K) F_law_due) :=
  fn_ok Fn sc_law_due (by decide) fun cdv A outer s H E F hr =>
    sss_cons (ss_set 4 sc_law_due.nd (se_call g_law_seated (hr.mono (by decide)) (takes_of rfl rfl rfl rfl) rfl (sa_cons (se_op v2_mul op_mul (se_v 0) (se_v 1)) (sa_cons (se_v 2) (sa_cons (se_v 3) (sa_nil)))))) (
    sss_fz 4 (sss_cons (ss_for (.nm 5) (passes_of rfl) rfl (si_range rfl T.b_range (sv_cons (se_op v2_mul op_mul (se_v 0) (se_v 1)) (sv_nil))) (pg_nm 5 sc_law_due.nd) (sss_one (ss_if (sb_cmp v2_ne (op_neA hr.units) (se_blt vn_len call_lenA rfl T.b_len PySem.boot_len (sv_cons (se_ix v2_ix ix_seq (se_v 4) (se_v 5)) (sv_nil))) (se_int)) (sss_one (ss_ret (se_tup (sa_cons (se_str) (sa_cons (se_v 5) (sa_nil)))))) (sss_nil)))) (
    sss_cons (ss_set 6 sc_law_due.nd (se_lst (sa_nil))) (
    sss_cons (ss_for (.tp [7, 8, 9]) (passes_of rfl) rfl (si_list rfl (se_call g_law_near (hr.mono (by decide)) (takes_of rfl rfl rfl rfl) rfl (sa_cons (se_v 0) (sa_cons (se_v 1) (sa_nil))))) (pg_tp [7, 8, 9] rfl (pgn_cons 7 sc_law_due.nd (pgn_cons 8 sc_law_due.nd (pgn_cons 9 sc_law_due.nd pgn_nil)))) (sss_cons (ss_set 10 sc_law_due.nd (se_ix v2_ix ix_seq (se_ix v2_ix ix_seq (se_v 4) (se_v 7)) (se_int))) (
    sss_cons (ss_set 11 sc_law_due.nd (se_ix v2_ix ix_seq (se_ix v2_ix ix_seq (se_v 4) (se_v 8)) (se_int))) (
    sss_cons (ss_if (sb_not (sb_val (se_callB g_law_meet (hr.mono (by decide)) (takes_of rfl rfl rfl rfl) rfl (sv_cons (se_v 10) (sv_cons (se_v 11) (sv_cons (se_v 9) (sv_nil))))))) (sss_one (ss_ret (se_tup (sa_cons (se_str) (sa_cons (se_v 7) (sa_cons (se_v 8) (sa_nil))))))) (sss_nil)) (
    sss_cons (ss_set 12 sc_law_due.nd (se_callB g_law_line (hr.mono (by decide)) (takes_of rfl rfl rfl rfl) rfl (sv_cons (se_v 10) (sv_cons (se_v 9) (sv_nil))))) (
    sss_cons (ss_set 13 sc_law_due.nd (se_tup (sa_cons (se_v 9) (sa_cons (se_v 12) (sa_cons (se_ix v2_ix ix_seq (se_v 10) (se_op v2_sub op_sub (se_int) (se_bty vn_int1 call_int1 rfl T.b_int (by decide +kernel) (sv_cons (se_v 9) (sv_nil))))) (sa_nil)))))) (
    sss_one (ss_app (ps_expr (pe_bm PySem.F.plainAttrs_list PySem.F.slot_list_append PySem.F.type_list_append mt_append (pv 6) (pa_cons (se_tup (sa_cons (se_v 7) (sa_cons (se_v 8) (sa_cons (se_v 13) (sa_cons (se_call g_law_parts (hr.mono (by decide)) (takes_of rfl rfl rfl rfl) rfl (sa_cons (se_v 10) (sa_cons (se_v 11) (sa_cons (se_v 9) (sa_cons (se_v 12) (sa_nil)))))) (sa_nil)))))) pa_nil))))))))))) (
    sss_cons (ss_for (.nm 5) (passes_of rfl) rfl (si_range rfl T.b_range (sv_cons (se_blt vn_len call_lenA rfl T.b_len PySem.boot_len (sv_cons (se_v 6) (sv_nil))) (sv_nil))) (pg_nm 5 sc_law_due.nd) (sss_one (ss_for (.nm 11) (passes_of rfl) rfl (si_list rfl (se_slice rfl (se_v 6) (spo_some (se_op v2_add op_addA (se_v 5) (se_int))) (spo_none))) (pg_nm 11 sc_law_due.nd) (sss_one (ss_if (sb_w (sw_and (sb_cmp v2_eq (op_eqA hr.units) (se_ix v2_ix ix_seq (se_ix v2_ix ix_seq (se_v 6) (se_v 5)) (se_int)) (se_ix v2_ix ix_seq (se_v 11) (se_int))) (sw_and1 (sb_val (se_callB g_law_through (hr.mono (by decide)) (takes_of rfl rfl rfl rfl) rfl (sv_cons (se_ix v2_ix ix_seq (se_ix v2_ix ix_seq (se_v 6) (se_v 5)) (se_int)) (sv_cons (se_ix v2_ix ix_seq (se_v 11) (se_int)) (sv_nil)))))))) (sss_one (ss_ret (se_tup (sa_cons (se_str) (sa_cons (se_ix v2_ix ix_seq (se_ix v2_ix ix_seq (se_v 6) (se_v 5)) (se_int)) (sa_cons (se_ix v2_ix ix_seq (se_ix v2_ix ix_seq (se_v 6) (se_v 5)) (se_int)) (sa_cons (se_ix v2_ix ix_seq (se_v 11) (se_int)) (sa_cons (se_ix v2_ix ix_seq (se_v 11) (se_int)) (sa_nil))))))))) (sss_nil)))))) (
    sss_one (ss_ret (se_non))))))))
abbrev s_law_fold_by : Stmt := top 15
theorem sc_law_fold_by : FnScope ["cell", "wide", "high", "level", "extent", "sides"] ["cell", "wide", "high"] (defScope s_law_fold_by) := ⟨rfl, rfl, rfl, by decide +kernel, rfl, by decide +kernel, by decide +kernel⟩
theorem ok_law_fold_by {P : Program} {w : World} {K : PySem.W.Frag} {mg : Str → Option Value} {base : Heap} {f : Addr} {fd : FuncData} (T : Tp K mg) (Fn : Fun K "_law_fold_by" "_law_fold_by" s_law_fold_by f fd) : FnOk P w K mg base (L2.CX P w) 1 f fd ["cell", "wide", "high"] (spOf (cT K) F_law_fold_by) :=
  fn_ok Fn sc_law_fold_by (by decide) fun cdv A outer s H E F hr =>
    sss_cons (ss_set 3 sc_law_fold_by.nd (se_or (se_cmp v2_eq (op_eqA hr.units) (se_v 1) (se_int)) (se_one (se_and (se_cmp v2_gt op_gt (se_v 2) (se_int)) (se_one (se_cmp v2_eq (op_eqA hr.units) (se_op v2_mod op_mod (se_v 0) (se_int)) (se_int))))))) (
    sss_cons (ss_set 4 sc_law_fold_by.nd (se_if (sb_val (se_v 3)) (se_v 2) (se_v 1))) (
    sss_cons (ss_set 5 sc_law_fold_by.nd (se_if (sb_val (se_v 3)) (se_lst (sa_cons (se_str) (sa_cons (se_str) (sa_nil)))) (se_lst (sa_cons (se_str) (sa_cons (se_str) (sa_nil)))))) (
    sss_one (ss_ret (se_tup (sa_cons (se_ix v2_ix ix_seq (se_v 5) (se_op v2_mod op_mod (se_op v2_div op_fdiv (se_v 0) (se_int)) (se_int))) (sa_cons (se_cmp v2_eq (op_eqA hr.units) (se_op v2_mod op_mod (se_op v2_div op_fdiv (se_v 0) (se_int)) (se_int)) (se_int)) (sa_cons (se_op v2_add op_addA (se_int) (se_op v2_mod op_mod (se_op v2_div op_fdiv (se_v 0) (se_int)) (se_op v2_sub op_sub (se_v 4) (se_int)))) (sa_nil)))))))))
abbrev s_law : Stmt := top 31
theorem sc_law : FnScope ["script", "spots", "cells", "cell", "wide", "high", "way", "heaps", "handed", "found", "columns", "rows", "one"] ["script"] (defScope s_law) := ⟨rfl, rfl, rfl, by decide +kernel, rfl, by decide +kernel, by decide +kernel⟩
theorem ok_law {P : Program} {w : World} {K : PySem.W.Frag} {mg : Str → Option Value} {base : Heap} {f : Addr} {fd : FuncData} (T : Tp K mg) (g_law_sheet_by : Gf P w K mg base (cT K) "_law_sheet_by" 1 ["cell"] F_law_sheet_by) (g_law_flat : Gf P w K mg base (cT K) "_law_flat" 1 ["columns", "rows"] F_law_flat) (g_law_heaps : Gf P w K mg base (cT K) "_law_heaps" 1 ["spots"] F_law_heaps) (g_law_wider : Gf P w K mg base (cT K) "_law_wider" 1 ["heaps", "wide", "high", "cell"] F_law_wider) (g_fault : Gf P w K mg base (cT K) "fault" 3 ["columns", "rows", "wide", "high", "heaps"] F_fault) (g_law_cell_at : Gf P w K mg base (cT K) "_law_cell_at" 1 ["script", "k"] F_law_cell_at) (g_law_folded : Gf P w K mg base (cT K) "_law_folded" 2 ["spots", "fold"] F_law_folded) (g_law_spoilt : Gf P w K mg base (cT K) "_law_spoilt" 2 ["heaps", "at", "way", "count"] F_law_spoilt) (g_law_alike : Gf P w K mg base (cT K) "_law_alike" 2 ["found", "due"] F_law_alike) (g_law_due : Gf P w K mg base (cT K) "_law_due" 4 ["columns", "rows", "wide", "heaps"] F_law_due) (g_law_fold_by : Gf P w K mg base (cT K) "_law_fold_by" 1 ["cell", "wide", "high"] F_law_fold_by) (Fn : Fun K "law" "law" s_law f fd) : FnOk P w K mg base (L2.CX P w) 5 f fd ["script"] (spOf (cT K) F_law) :=
  fn_ok Fn sc_law (by decide) fun cdv A outer s H E F hr =>
    sss_cons (ss_unp [10, 11] (se_call g_law_sheet_by (hr.mono (by decide)) (takes_of rfl rfl rfl rfl) rfl (sa_cons (se_callB g_law_cell_at (hr.mono (by decide)) (takes_of rfl rfl rfl rfl) rfl (sv_cons (se_v 0) (sv_cons (se_int) (sv_nil)))) (sa_nil))) (pg_tp [10, 11] rfl (pgn_cons 10 sc_law.nd (pgn_cons 11 sc_law.nd pgn_nil)))) (
    sss_cons (ss_set 1 sc_law.nd (se_call g_law_flat (hr.mono (by decide)) (takes_of rfl rfl rfl rfl) rfl (sa_cons (se_v 10) (sa_cons (se_v 11) (sa_nil))))) (
    sss_cons (ss_set 2 sc_law.nd (se_slice rfl (se_v 0) (spo_some (se_int)) (spo_some (se_int)))) (
    sss_cons (ss_if (sb_cmp v2_eq (op_eqA hr.units) (se_op v2_mod op_mod (se_callB g_law_cell_at (hr.mono (by decide)) (takes_of rfl rfl rfl rfl) rfl (sv_cons (se_v 0) (sv_cons (se_int) (sv_nil)))) (se_int)) (se_int)) (sss_cons (ss_par 10 11 sc_law.nd (sa_cons (se_int) (sa_cons (se_op v2_add op_addA (se_int) (se_op v2_mod op_mod (se_op v2_div op_fdiv (se_callB g_law_cell_at (hr.mono (by decide)) (takes_of rfl rfl rfl rfl) rfl (sv_cons (se_v 0) (sv_cons (se_int) (sv_nil)))) (se_int)) (se_int))) (sa_nil)))) (
    sss_cons (ss_set 1 sc_law.nd (se_call g_law_folded (hr.mono (by decide)) (takes_of rfl rfl rfl rfl) rfl (sa_cons (se_call g_law_flat (hr.mono (by decide)) (takes_of rfl rfl rfl rfl) rfl (sa_cons (se_v 10) (sa_cons (se_v 11) (sa_nil)))) (sa_cons (se_tup (sa_cons (se_str) (sa_cons (se_bl) (sa_cons (se_int) (sa_nil))))) (sa_nil))))) (
    sss_one (ss_set 2 sc_law.nd (se_lst (sa_nil)))))) (sss_nil)) (
    sss_fz 2 (sss_cons (ss_for (.nm 3) (passes_of rfl) rfl (si_list rfl (se_v 2)) (pg_nm 3 sc_law.nd) (sss_fz 1 (sss_cons (ss_set 4 sc_law.nd (se_op v2_add op_addA (se_int) (se_blt vn_max1 (cr_max rfl) rfl T.b_max (by decide +kernel) (sv_cons (se_lc [("one", 12)] rfl sc_law.nd (si_list rfl (se_v 1)) (blkOk_by (by kernel_rfl)) (fun _ _ _ _ _ => pg_nm 12 sc_law.nd) (fun _ _ _ _ _ => spt_nil) (fun _ _ _ _ _ => se_ix v2_ix ix_seq (se_v 12) (se_int))) (sv_nil))))) (
    sss_fz 1 (sss_cons (ss_set 5 sc_law.nd (se_op v2_add op_addA (se_int) (se_blt vn_max1 (cr_max rfl) rfl T.b_max (by decide +kernel) (sv_cons (se_lc [("one", 12)] rfl sc_law.nd (si_list rfl (se_v 1)) (blkOk_by (by kernel_rfl)) (fun _ _ _ _ _ => pg_nm 12 sc_law.nd) (fun _ _ _ _ _ => spt_nil) (fun _ _ _ _ _ => se_ix v2_ix ix_seq (se_v 12) (se_int))) (sv_nil))))) (
    sss_one (ss_if (sb_cmp v2_gt op_gt (se_op v2_mul op_mul (se_v 4) (se_v 5)) (se_int)) (sss_fz 1 (sss_one (ss_set 1 sc_law.nd (se_call g_law_folded (hr.mono (by decide)) (takes_of rfl rfl rfl rfl) rfl (sa_cons (se_v 1) (sa_cons (se_call g_law_fold_by (hr.mono (by decide)) (takes_of rfl rfl rfl rfl) rfl (sa_cons (se_v 3) (sa_cons (se_v 4) (sa_cons (se_v 5) (sa_nil))))) (sa_nil))))))) (sss_nil)))))))) (
    sss_fz 1 (sss_cons (ss_set 4 sc_law.nd (se_op v2_add op_addA (se_int) (se_blt vn_max1 (cr_max rfl) rfl T.b_max (by decide +kernel) (sv_cons (se_lc [("one", 12)] rfl sc_law.nd (si_list rfl (se_v 1)) (blkOk_by (by kernel_rfl)) (fun _ _ _ _ _ => pg_nm 12 sc_law.nd) (fun _ _ _ _ _ => spt_nil) (fun _ _ _ _ _ => se_ix v2_ix ix_seq (se_v 12) (se_int))) (sv_nil))))) (
    sss_fz 1 (sss_cons (ss_set 5 sc_law.nd (se_op v2_add op_addA (se_int) (se_blt vn_max1 (cr_max rfl) rfl T.b_max (by decide +kernel) (sv_cons (se_lc [("one", 12)] rfl sc_law.nd (si_list rfl (se_v 1)) (blkOk_by (by kernel_rfl)) (fun _ _ _ _ _ => pg_nm 12 sc_law.nd) (fun _ _ _ _ _ => spt_nil) (fun _ _ _ _ _ => se_ix v2_ix ix_seq (se_v 12) (se_int))) (sv_nil))))) (
    sss_cons (ss_set 6 sc_law.nd (se_op v2_mod op_mod (se_callB g_law_cell_at (hr.mono (by decide)) (takes_of rfl rfl rfl rfl) rfl (sv_cons (se_v 0) (sv_cons (se_int) (sv_nil)))) (se_int))) (
    sss_fz 1 (sss_cons (ss_set 7 sc_law.nd (se_call g_law_heaps (hr.mono (by decide)) (takes_of rfl rfl rfl rfl) rfl (sa_cons (se_v 1) (sa_nil)))) (
    sss_cons (ss_if (sb_cmp v2_gt op_gt (se_v 6) (se_int)) (sss_fz 7 (sss_one (ss_set 7 sc_law.nd (se_call g_law_spoilt (hr.mono (by decide)) (takes_of rfl rfl rfl rfl) rfl (sa_cons (se_v 7) (sa_cons (se_op v2_mod op_mod (se_callB g_law_cell_at (hr.mono (by decide)) (takes_of rfl rfl rfl rfl) rfl (sv_cons (se_v 0) (sv_cons (se_int) (sv_nil)))) (se_op v2_pow op_pow (se_int) (se_int))) (sa_cons (se_v 6) (sa_cons (se_op v2_mul op_mul (se_v 10) (se_v 11)) (sa_nil))))))))) (sss_nil)) (
    sss_fz 7 (sss_cons (ss_unp [4, 5, 7] (se_call g_law_wider (hr.mono (by decide)) (takes_of rfl rfl rfl rfl) rfl (sa_cons (se_v 7) (sa_cons (se_v 4) (sa_cons (se_v 5) (sa_cons (se_op v2_mod op_mod (se_callB g_law_cell_at (hr.mono (by decide)) (takes_of rfl rfl rfl rfl) rfl (sv_cons (se_v 0) (sv_cons (se_int) (sv_nil)))) (se_op v2_pow op_pow (se_int) (se_int))) (sa_nil)))))) (pg_tp [4, 5, 7] rfl (pgn_cons 4 sc_law.nd (pgn_cons 5 sc_law.nd (pgn_cons 7 sc_law.nd pgn_nil))))) (
    sss_fz 7 (sss_cons (ss_setLc 8 [("one", 12)] rfl sc_law.nd (si_list rfl (se_v 7)) (blkOk_by (by kernel_rfl)) (fun _ _ _ _ _ => pg_nm 12 sc_law.nd) (fun _ _ _ _ _ => spt_nil) (fun _ _ _ _ _ => se_bty vn_list call_list_of rfl T.b_list (by decide +kernel) (sv_cons (se_v 12) (sv_nil)))) (
    sss_fz 8 (sss_cons (ss_set 9 sc_law.nd (se_call g_fault (hr.mono (by decide)) (takes_of rfl rfl rfl rfl) rfl (sa_cons (se_v 10) (sa_cons (se_v 11) (sa_cons (se_v 4) (sa_cons (se_v 5) (sa_cons (se_v 8) (sa_nil)))))))) (
    sss_fz 7 (sss_cons (ss_if (sb_not (sb_val (se_callB g_law_alike (hr.mono (by decide)) (takes_of rfl rfl rfl rfl) rfl (sv_cons (se_v 9) (sv_cons (se_call g_law_due (hr.mono (by decide)) (takes_of rfl rfl rfl rfl) rfl (sa_cons (se_v 10) (sa_cons (se_v 11) (sa_cons (se_v 4) (sa_cons (se_v 7) (sa_nil)))))) (sv_nil)))))) (sss_one (ss_ret (se_bl))) (sss_nil)) (
    sss_one (ss_ret (se_cmp v2_eq (op_eqA hr.units) (se_v 8) (se_v 7)))))))))))))))))))))))))
end Bk
set_option Elab.async false
set_option linter.all false
set_option maxRecDepth 100000
set_option maxHeartbeats 0
/-! KE: the head and the end (printed by gen.py). -/
namespace Bk
open PySem L2 PySem.Spec PyProof.Rows
def d_law_sheet_by : He.FnD := ⟨("_law_sheet_by", none), "_law_sheet_by", "_law_sheet_by", defArgs s_law_sheet_by, defBody s_law_sheet_by, defScope s_law_sheet_by⟩
def d_law_flat : He.FnD := ⟨("_law_flat", none), "_law_flat", "_law_flat", defArgs s_law_flat, defBody s_law_flat, defScope s_law_flat⟩
def d_law_heaps : He.FnD := ⟨("_law_heaps", none), "_law_heaps", "_law_heaps", defArgs s_law_heaps, defBody s_law_heaps, defScope s_law_heaps⟩
def d_law_wider : He.FnD := ⟨("_law_wider", none), "_law_wider", "_law_wider", defArgs s_law_wider, defBody s_law_wider, defScope s_law_wider⟩
def d_seated : He.FnD := ⟨("seated", none), "seated", "seated", defArgs s_seated, defBody s_seated, defScope s_seated⟩
def d_pairs : He.FnD := ⟨("pairs", none), "pairs", "pairs", defArgs s_pairs, defBody s_pairs, defScope s_pairs⟩
def d_meets : He.FnD := ⟨("meets", none), "meets", "meets", defArgs s_meets, defBody s_meets, defScope s_meets⟩
def d_between : He.FnD := ⟨("between", none), "between", "between", defArgs s_between, defBody s_between, defScope s_between⟩
def d_cross : He.FnD := ⟨("cross", none), "cross", "cross", defArgs s_cross, defBody s_cross, defScope s_cross⟩
def d_fault : He.FnD := ⟨("fault", none), "fault", "fault", defArgs s_fault, defBody s_fault, defScope s_fault⟩
def d_law_cell_at : He.FnD := ⟨("_law_cell_at", none), "_law_cell_at", "_law_cell_at", defArgs s_law_cell_at, defBody s_law_cell_at, defScope s_law_cell_at⟩
def d_law_spot : He.FnD := ⟨("_law_spot", none), "_law_spot", "_law_spot", defArgs s_law_spot, defBody s_law_spot, defScope s_law_spot⟩
def d_law_folded : He.FnD := ⟨("_law_folded", none), "_law_folded", "_law_folded", defArgs s_law_folded, defBody s_law_folded, defScope s_law_folded⟩
def d_law_layers : He.FnD := ⟨("_law_layers", none), "_law_layers", "_law_layers", defArgs s_law_layers, defBody s_law_layers, defScope s_law_layers⟩
def d_law_spoilt : He.FnD := ⟨("_law_spoilt", none), "_law_spoilt", "_law_spoilt", defArgs s_law_spoilt, defBody s_law_spoilt, defScope s_law_spoilt⟩
def d_law_whole : He.FnD := ⟨("_law_whole", none), "_law_whole", "_law_whole", defArgs s_law_whole, defBody s_law_whole, defScope s_law_whole⟩
def d_law_alike : He.FnD := ⟨("_law_alike", none), "_law_alike", "_law_alike", defArgs s_law_alike, defBody s_law_alike, defScope s_law_alike⟩
def d_law_seated : He.FnD := ⟨("_law_seated", none), "_law_seated", "_law_seated", defArgs s_law_seated, defBody s_law_seated, defScope s_law_seated⟩
def d_law_near : He.FnD := ⟨("_law_near", none), "_law_near", "_law_near", defArgs s_law_near, defBody s_law_near, defScope s_law_near⟩
def d_law_line : He.FnD := ⟨("_law_line", none), "_law_line", "_law_line", defArgs s_law_line, defBody s_law_line, defScope s_law_line⟩
def d_law_back_line : He.FnD := ⟨("_law_back_line", none), "_law_back_line", "_law_back_line", defArgs s_law_back_line, defBody s_law_back_line, defScope s_law_back_line⟩
def d_law_meet : He.FnD := ⟨("_law_meet", none), "_law_meet", "_law_meet", defArgs s_law_meet, defBody s_law_meet, defScope s_law_meet⟩
def d_law_parts : He.FnD := ⟨("_law_parts", none), "_law_parts", "_law_parts", defArgs s_law_parts, defBody s_law_parts, defScope s_law_parts⟩
def d_law_inside : He.FnD := ⟨("_law_inside", none), "_law_inside", "_law_inside", defArgs s_law_inside, defBody s_law_inside, defScope s_law_inside⟩
def d_law_bends : He.FnD := ⟨("_law_bends", none), "_law_bends", "_law_bends", defArgs s_law_bends, defBody s_law_bends, defScope s_law_bends⟩
def d_law_through : He.FnD := ⟨("_law_through", none), "_law_through", "_law_through", defArgs s_law_through, defBody s_law_through, defScope s_law_through⟩
def d_law_due : He.FnD := ⟨("_law_due", none), "_law_due", "_law_due", defArgs s_law_due, defBody s_law_due, defScope s_law_due⟩
def d_law_fold_by : He.FnD := ⟨("_law_fold_by", none), "_law_fold_by", "_law_fold_by", defArgs s_law_fold_by, defBody s_law_fold_by, defScope s_law_fold_by⟩
def d_law : He.FnD := ⟨("law", none), "law", "law", defArgs s_law, defBody s_law, defScope s_law⟩
def fnL : List He.FnD := [d_law_sheet_by, d_law_flat, d_law_heaps, d_law_wider, d_seated, d_pairs, d_meets, d_between, d_cross, d_fault, d_law_cell_at, d_law_spot, d_law_folded, d_law_layers, d_law_spoilt, d_law_whole, d_law_alike, d_law_seated, d_law_near, d_law_line, d_law_back_line, d_law_meet, d_law_parts, d_law_inside, d_law_bends, d_law_through, d_law_due, d_law_fold_by, d_law]
def faL0 : List He.Fa := [.glo "_law_sheet_by", .keep "_law_sheet_by", .glo "_law_flat", .keep "_law_flat", .glo "_law_heaps", .keep "_law_heaps", .glo "_law_wider", .keep "_law_wider", .glo "seated", .keep "seated", .glo "pairs", .keep "pairs", .glo "meets", .keep "meets", .glo "between", .keep "between", .glo "cross", .keep "cross", .glo "fault", .keep "fault", .glo "_law_cell_at", .keep "_law_cell_at", .glo "_law_spot", .keep "_law_spot", .glo "_law_folded", .keep "_law_folded", .glo "_law_layers", .keep "_law_layers", .glo "_law_spoilt", .keep "_law_spoilt"]
def faL1 : List He.Fa := [.glo "_law_whole", .keep "_law_whole", .glo "_law_alike", .keep "_law_alike", .glo "_law_seated", .keep "_law_seated", .glo "_law_near", .keep "_law_near", .glo "_law_line", .keep "_law_line", .glo "_law_back_line", .keep "_law_back_line", .glo "_law_meet", .keep "_law_meet", .glo "_law_parts", .keep "_law_parts", .glo "_law_inside", .keep "_law_inside", .glo "_law_bends", .keep "_law_bends", .glo "_law_through", .keep "_law_through", .glo "_law_due", .keep "_law_due", .glo "_law_fold_by", .keep "_law_fold_by", .glo "law", .keep "law", .free "bool", .free "int"]
def faL2 : List He.Fa := [.free "isinstance", .free "len", .free "list", .free "max", .free "min", .free "range", .free "sorted", .free "str", .free "tuple"]
def faL : List He.Fa := faL0 ++ faL1 ++ faL2
abbrev lawR : PySem.W.OpenRow := PySem.W.OpenLaw.row PySem.Challenge.rw_leaffold_k08_fault
abbrev lawHk : PySem.W.Hook := He.hookE 4 faL fnL
def lawOb (s : PySem.W.SharedT) : He.Al := He.obsG 4 faL fnL (HandSHeadRun.getT s)
theorem lawOb_eq (s : PySem.W.SharedT) : lawOb s = lawHk.obs s.abs := He.obsG_eq (HandSHeadRun.getT_eq s)
def lawNm0 : List Str := ["pairs", "seated", "meets", "between", "cross", "fault", "_law_cell_at", "_law_whole", "_law_sheet_by", "_law_flat", "_law_spot", "_law_folded", "_law_fold_by", "_law_heaps", "_law_near", "_law_line", "_law_back_line", "_law_meet", "_law_parts", "_law_inside", "_law_bends", "_law_through", "_law_layers", "_law_spoilt", "_law_wider", "_law_seated", "_law_due", "_law_alike"]
def lawNm : List Str := lawNm0
theorem lawRun (w : World) : HandSHeadRun.RunEq lawR (PySem.W.view lawR.prog [31]) lawHk lawOb 4000 lawNm w := by
  intro os
  kernel_rfl
theorem tp_of {K : PySem.W.Frag} {h : Heap} {mg : Str → Option Value} (X : K.In h) (G : h.Ns mainGlobals mg) (cc : He.SaysE faL fnL K) : Tp K mg where
  b_bool := He.free_ok X G (cc.fact 58)
  b_int := He.free_ok X G (cc.fact 59)
  b_isinstance := He.free_ok X G (cc.fact 60)
  b_len := He.free_ok X G (cc.fact 61)
  b_list := He.free_ok X G (cc.fact 62)
  b_max := He.free_ok X G (cc.fact 63)
  b_min := He.free_ok X G (cc.fact 64)
  b_range := He.free_ok X G (cc.fact 65)
  b_sorted := He.free_ok X G (cc.fact 66)
  b_str := He.free_ok X G (cc.fact 67)
  b_tuple := He.free_ok X G (cc.fact 68)
theorem lawFacts {P : Program} {w : World} {K : PySem.W.Frag} {h : Heap} {mg : Str → Option Value} {f : Addr} (X : K.In h) (G : h.Ns mainGlobals mg) (hfa : mg ("law" : Str) = some (.ref f)) (cc : He.SaysE faL fnL K) :
    ∃ fd : FuncData, (∀ (s : Shared) (v : Value), BindsTo s fd ⟨[v], []⟩ [("script", v)]) ∧ ∀ base : Heap, K.In base → base.Ns mainGlobals mg → FnOk P w K mg base CX0 5 f fd ["script"] (fun vs H Q _ => spOf (cT K) F_law vs H Q E0) := by
  have T := tp_of X G cc
  have e := hfa.symm.trans (He.glo_ok X G (cc.fact 56))
  cases e
  obtain ⟨fd_law_sheet_by, Fn_law_sheet_by⟩ := fun_of (st := s_law_sheet_by) cc 0 rfl (He.keep_ok (cc.fact 1))
  obtain ⟨fd_law_flat, Fn_law_flat⟩ := fun_of (st := s_law_flat) cc 1 rfl (He.keep_ok (cc.fact 3))
  obtain ⟨fd_law_heaps, Fn_law_heaps⟩ := fun_of (st := s_law_heaps) cc 2 rfl (He.keep_ok (cc.fact 5))
  obtain ⟨fd_law_wider, Fn_law_wider⟩ := fun_of (st := s_law_wider) cc 3 rfl (He.keep_ok (cc.fact 7))
  obtain ⟨fd_seated, Fn_seated⟩ := fun_of (st := s_seated) cc 4 rfl (He.keep_ok (cc.fact 9))
  obtain ⟨fd_pairs, Fn_pairs⟩ := fun_of (st := s_pairs) cc 5 rfl (He.keep_ok (cc.fact 11))
  obtain ⟨fd_meets, Fn_meets⟩ := fun_of (st := s_meets) cc 6 rfl (He.keep_ok (cc.fact 13))
  obtain ⟨fd_between, Fn_between⟩ := fun_of (st := s_between) cc 7 rfl (He.keep_ok (cc.fact 15))
  obtain ⟨fd_cross, Fn_cross⟩ := fun_of (st := s_cross) cc 8 rfl (He.keep_ok (cc.fact 17))
  obtain ⟨fd_fault, Fn_fault⟩ := fun_of (st := s_fault) cc 9 rfl (He.keep_ok (cc.fact 19))
  obtain ⟨fd_law_cell_at, Fn_law_cell_at⟩ := fun_of (st := s_law_cell_at) cc 10 rfl (He.keep_ok (cc.fact 21))
  obtain ⟨fd_law_spot, Fn_law_spot⟩ := fun_of (st := s_law_spot) cc 11 rfl (He.keep_ok (cc.fact 23))
  obtain ⟨fd_law_folded, Fn_law_folded⟩ := fun_of (st := s_law_folded) cc 12 rfl (He.keep_ok (cc.fact 25))
  obtain ⟨fd_law_layers, Fn_law_layers⟩ := fun_of (st := s_law_layers) cc 13 rfl (He.keep_ok (cc.fact 27))
  obtain ⟨fd_law_spoilt, Fn_law_spoilt⟩ := fun_of (st := s_law_spoilt) cc 14 rfl (He.keep_ok (cc.fact 29))
  obtain ⟨fd_law_whole, Fn_law_whole⟩ := fun_of (st := s_law_whole) cc 15 rfl (He.keep_ok (cc.fact 31))
  obtain ⟨fd_law_alike, Fn_law_alike⟩ := fun_of (st := s_law_alike) cc 16 rfl (He.keep_ok (cc.fact 33))
  obtain ⟨fd_law_seated, Fn_law_seated⟩ := fun_of (st := s_law_seated) cc 17 rfl (He.keep_ok (cc.fact 35))
  obtain ⟨fd_law_near, Fn_law_near⟩ := fun_of (st := s_law_near) cc 18 rfl (He.keep_ok (cc.fact 37))
  obtain ⟨fd_law_line, Fn_law_line⟩ := fun_of (st := s_law_line) cc 19 rfl (He.keep_ok (cc.fact 39))
  obtain ⟨fd_law_back_line, Fn_law_back_line⟩ := fun_of (st := s_law_back_line) cc 20 rfl (He.keep_ok (cc.fact 41))
  obtain ⟨fd_law_meet, Fn_law_meet⟩ := fun_of (st := s_law_meet) cc 21 rfl (He.keep_ok (cc.fact 43))
  obtain ⟨fd_law_parts, Fn_law_parts⟩ := fun_of (st := s_law_parts) cc 22 rfl (He.keep_ok (cc.fact 45))
  obtain ⟨fd_law_inside, Fn_law_inside⟩ := fun_of (st := s_law_inside) cc 23 rfl (He.keep_ok (cc.fact 47))
  obtain ⟨fd_law_bends, Fn_law_bends⟩ := fun_of (st := s_law_bends) cc 24 rfl (He.keep_ok (cc.fact 49))
  obtain ⟨fd_law_through, Fn_law_through⟩ := fun_of (st := s_law_through) cc 25 rfl (He.keep_ok (cc.fact 51))
  obtain ⟨fd_law_due, Fn_law_due⟩ := fun_of (st := s_law_due) cc 26 rfl (He.keep_ok (cc.fact 53))
  obtain ⟨fd_law_fold_by, Fn_law_fold_by⟩ := fun_of (st := s_law_fold_by) cc 27 rfl (He.keep_ok (cc.fact 55))
  obtain ⟨fd_law, Fn_law⟩ := fun_of (st := s_law) cc 28 rfl (He.keep_ok (cc.fact 57))
  refine ⟨fd_law, binds_law Fn_law fun _ _ _ _ _ _ _ => rfl, fun base _ _ => ?_⟩
  have g_law_sheet_by : Gf P w K mg base (cT K) "_law_sheet_by" 1 ["cell"] F_law_sheet_by := gf_mk Fn_law_sheet_by (ok_law_sheet_by T Fn_law_sheet_by) (He.glo_ok X G (cc.fact 0)) (Fn_law_sheet_by.binds (ps := ["cell"]) fun _ _ _ _ _ _ us hl => match us, hl with | [_], _ => rfl)
  have g_law_flat : Gf P w K mg base (cT K) "_law_flat" 1 ["columns", "rows"] F_law_flat := gf_mk Fn_law_flat (ok_law_flat T Fn_law_flat) (He.glo_ok X G (cc.fact 2)) (Fn_law_flat.binds (ps := ["columns", "rows"]) fun _ _ _ _ _ _ us hl => match us, hl with | [_, _], _ => rfl)
  have g_law_heaps : Gf P w K mg base (cT K) "_law_heaps" 1 ["spots"] F_law_heaps := gf_mk Fn_law_heaps (ok_law_heaps T Fn_law_heaps) (He.glo_ok X G (cc.fact 4)) (Fn_law_heaps.binds (ps := ["spots"]) fun _ _ _ _ _ _ us hl => match us, hl with | [_], _ => rfl)
  have g_law_wider : Gf P w K mg base (cT K) "_law_wider" 1 ["heaps", "wide", "high", "cell"] F_law_wider := gf_mk Fn_law_wider (ok_law_wider T Fn_law_wider) (He.glo_ok X G (cc.fact 6)) (Fn_law_wider.binds (ps := ["heaps", "wide", "high", "cell"]) fun _ _ _ _ _ _ us hl => match us, hl with | [_, _, _, _], _ => rfl)
  have g_seated : Gf P w K mg base (cT K) "seated" 1 ["columns", "rows", "wide", "heaps"] F_seated := gf_mk Fn_seated (ok_seated T Fn_seated) (He.glo_ok X G (cc.fact 8)) (Fn_seated.binds (ps := ["columns", "rows", "wide", "heaps"]) fun _ _ _ _ _ _ us hl => match us, hl with | [_, _, _, _], _ => rfl)
  have g_pairs : Gf P w K mg base (cT K) "pairs" 1 ["columns", "rows"] F_pairs := gf_mk Fn_pairs (ok_pairs T Fn_pairs) (He.glo_ok X G (cc.fact 10)) (Fn_pairs.binds (ps := ["columns", "rows"]) fun _ _ _ _ _ _ us hl => match us, hl with | [_, _], _ => rfl)
  have g_meets : Gf P w K mg base (cT K) "meets" 1 ["one", "other", "level"] F_meets := gf_mk Fn_meets (ok_meets T Fn_meets) (He.glo_ok X G (cc.fact 12)) (Fn_meets.binds (ps := ["one", "other", "level"]) fun _ _ _ _ _ _ us hl => match us, hl with | [_, _, _], _ => rfl)
  have g_between : Gf P w K mg base (cT K) "between" 1 ["layer", "bend"] F_between := gf_mk Fn_between (ok_between T Fn_between) (He.glo_ok X G (cc.fact 14)) (Fn_between.binds (ps := ["layer", "bend"]) fun _ _ _ _ _ _ us hl => match us, hl with | [_, _], _ => rfl)
  have g_cross : Gf P w K mg base (cT K) "cross" 2 ["one", "other"] F_cross := gf_mk Fn_cross (ok_cross T g_between Fn_cross) (He.glo_ok X G (cc.fact 16)) (Fn_cross.binds (ps := ["one", "other"]) fun _ _ _ _ _ _ us hl => match us, hl with | [_, _], _ => rfl)
  have g_fault : Gf P w K mg base (cT K) "fault" 3 ["columns", "rows", "wide", "high", "heaps"] F_fault := gf_mk Fn_fault (ok_fault T g_seated g_pairs g_meets g_cross Fn_fault) (He.glo_ok X G (cc.fact 18)) (Fn_fault.binds (ps := ["columns", "rows", "wide", "high", "heaps"]) fun _ _ _ _ _ _ us hl => match us, hl with | [_, _, _, _, _], _ => rfl)
  have g_law_cell_at : Gf P w K mg base (cT K) "_law_cell_at" 1 ["script", "k"] F_law_cell_at := gf_mk Fn_law_cell_at (ok_law_cell_at T Fn_law_cell_at) (He.glo_ok X G (cc.fact 20)) (Fn_law_cell_at.binds (ps := ["script", "k"]) fun _ _ _ _ _ _ us hl => match us, hl with | [_, _], _ => rfl)
  have g_law_spot : Gf P w K mg base (cT K) "_law_spot" 1 ["one", "fold", "grown", "top", "low"] F_law_spot := gf_mk Fn_law_spot (ok_law_spot T Fn_law_spot) (He.glo_ok X G (cc.fact 22)) (Fn_law_spot.binds (ps := ["one", "fold", "grown", "top", "low"]) fun _ _ _ _ _ _ us hl => match us, hl with | [_, _, _, _, _], _ => rfl)
  have g_law_folded : Gf P w K mg base (cT K) "_law_folded" 2 ["spots", "fold"] F_law_folded := gf_mk Fn_law_folded (ok_law_folded T g_law_spot Fn_law_folded) (He.glo_ok X G (cc.fact 24)) (Fn_law_folded.binds (ps := ["spots", "fold"]) fun _ _ _ _ _ _ us hl => match us, hl with | [_, _], _ => rfl)
  have g_law_layers : Gf P w K mg base (cT K) "_law_layers" 1 ["heaps", "at", "way"] F_law_layers := gf_mk Fn_law_layers (ok_law_layers T Fn_law_layers) (He.glo_ok X G (cc.fact 26)) (Fn_law_layers.binds (ps := ["heaps", "at", "way"]) fun _ _ _ _ _ _ us hl => match us, hl with | [_, _, _], _ => rfl)
  have g_law_spoilt : Gf P w K mg base (cT K) "_law_spoilt" 2 ["heaps", "at", "way", "count"] F_law_spoilt := gf_mk Fn_law_spoilt (ok_law_spoilt T g_law_layers Fn_law_spoilt) (He.glo_ok X G (cc.fact 28)) (Fn_law_spoilt.binds (ps := ["heaps", "at", "way", "count"]) fun _ _ _ _ _ _ us hl => match us, hl with | [_, _, _, _], _ => rfl)
  have g_law_whole : Gf P w K mg base (cT K) "_law_whole" 1 ["found"] F_law_whole := gf_mk Fn_law_whole (ok_law_whole T Fn_law_whole) (He.glo_ok X G (cc.fact 30)) (Fn_law_whole.binds (ps := ["found"]) fun _ _ _ _ _ _ us hl => match us, hl with | [_], _ => rfl)
  have g_law_alike : Gf P w K mg base (cT K) "_law_alike" 2 ["found", "due"] F_law_alike := gf_mk Fn_law_alike (ok_law_alike T g_law_whole Fn_law_alike) (He.glo_ok X G (cc.fact 32)) (Fn_law_alike.binds (ps := ["found", "due"]) fun _ _ _ _ _ _ us hl => match us, hl with | [_, _], _ => rfl)
  have g_law_seated : Gf P w K mg base (cT K) "_law_seated" 1 ["count", "wide", "heaps"] F_law_seated := gf_mk Fn_law_seated (ok_law_seated T Fn_law_seated) (He.glo_ok X G (cc.fact 34)) (Fn_law_seated.binds (ps := ["count", "wide", "heaps"]) fun _ _ _ _ _ _ us hl => match us, hl with | [_, _, _], _ => rfl)
  have g_law_near : Gf P w K mg base (cT K) "_law_near" 1 ["columns", "rows"] F_law_near := gf_mk Fn_law_near (ok_law_near T Fn_law_near) (He.glo_ok X G (cc.fact 36)) (Fn_law_near.binds (ps := ["columns", "rows"]) fun _ _ _ _ _ _ us hl => match us, hl with | [_, _], _ => rfl)
  have g_law_line : Gf P w K mg base (cT K) "_law_line" 1 ["one", "level"] F_law_line := gf_mk Fn_law_line (ok_law_line T Fn_law_line) (He.glo_ok X G (cc.fact 38)) (Fn_law_line.binds (ps := ["one", "level"]) fun _ _ _ _ _ _ us hl => match us, hl with | [_, _], _ => rfl)
  have g_law_back_line : Gf P w K mg base (cT K) "_law_back_line" 1 ["one", "level"] F_law_back_line := gf_mk Fn_law_back_line (ok_law_back_line T Fn_law_back_line) (He.glo_ok X G (cc.fact 40)) (Fn_law_back_line.binds (ps := ["one", "level"]) fun _ _ _ _ _ _ us hl => match us, hl with | [_, _], _ => rfl)
  have g_law_meet : Gf P w K mg base (cT K) "_law_meet" 2 ["one", "other", "level"] F_law_meet := gf_mk Fn_law_meet (ok_law_meet T g_law_line g_law_back_line Fn_law_meet) (He.glo_ok X G (cc.fact 42)) (Fn_law_meet.binds (ps := ["one", "other", "level"]) fun _ _ _ _ _ _ us hl => match us, hl with | [_, _, _], _ => rfl)
  have g_law_parts : Gf P w K mg base (cT K) "_law_parts" 1 ["one", "other", "level", "line"] F_law_parts := gf_mk Fn_law_parts (ok_law_parts T Fn_law_parts) (He.glo_ok X G (cc.fact 44)) (Fn_law_parts.binds (ps := ["one", "other", "level", "line"]) fun _ _ _ _ _ _ us hl => match us, hl with | [_, _, _, _], _ => rfl)
  have g_law_inside : Gf P w K mg base (cT K) "_law_inside" 1 ["layer", "bend"] F_law_inside := gf_mk Fn_law_inside (ok_law_inside T Fn_law_inside) (He.glo_ok X G (cc.fact 46)) (Fn_law_inside.binds (ps := ["layer", "bend"]) fun _ _ _ _ _ _ us hl => match us, hl with | [_, _], _ => rfl)
  have g_law_bends : Gf P w K mg base (cT K) "_law_bends" 2 ["low", "other"] F_law_bends := gf_mk Fn_law_bends (ok_law_bends T g_law_inside Fn_law_bends) (He.glo_ok X G (cc.fact 48)) (Fn_law_bends.binds (ps := ["low", "other"]) fun _ _ _ _ _ _ us hl => match us, hl with | [_, _], _ => rfl)
  have g_law_through : Gf P w K mg base (cT K) "_law_through" 3 ["one", "other"] F_law_through := gf_mk Fn_law_through (ok_law_through T g_law_bends Fn_law_through) (He.glo_ok X G (cc.fact 50)) (Fn_law_through.binds (ps := ["one", "other"]) fun _ _ _ _ _ _ us hl => match us, hl with | [_, _], _ => rfl)
  have g_law_due : Gf P w K mg base (cT K) "_law_due" 4 ["columns", "rows", "wide", "heaps"] F_law_due := gf_mk Fn_law_due (ok_law_due T g_law_seated g_law_near g_law_line g_law_meet g_law_parts g_law_through Fn_law_due) (He.glo_ok X G (cc.fact 52)) (Fn_law_due.binds (ps := ["columns", "rows", "wide", "heaps"]) fun _ _ _ _ _ _ us hl => match us, hl with | [_, _, _, _], _ => rfl)
  have g_law_fold_by : Gf P w K mg base (cT K) "_law_fold_by" 1 ["cell", "wide", "high"] F_law_fold_by := gf_mk Fn_law_fold_by (ok_law_fold_by T Fn_law_fold_by) (He.glo_ok X G (cc.fact 54)) (Fn_law_fold_by.binds (ps := ["cell", "wide", "high"]) fun _ _ _ _ _ _ us hl => match us, hl with | [_, _, _], _ => rfl)
  exact fn_cx0 (ok_law T g_law_sheet_by g_law_flat g_law_heaps g_law_wider g_fault g_law_cell_at g_law_folded g_law_spoilt g_law_alike g_law_due g_law_fold_by Fn_law)
end Bk
open PySem PySem.W PySem.Calls PyProof.Rows
theorem Bk.lawEnd (hF : ∀ ns : List Int, ns.length ≤ 63 → Bk.F_law [.fz (ns.map .int)] = .ok (.sh (.bl true))) : PySem.Challenge.rw_leaffold_k08_fault.Holds := by
  w_on; o_law
  refine HandSHeadRun.head_any (r := OpenLaw.row PySem.Challenge.rw_leaffold_k08_fault) (q := view (OpenLaw.row PySem.Challenge.rw_leaffold_k08_fault).prog [31]) (H := Bk.lawHk) (ob := Bk.lawOb) (M := 4000) (loose := Bk.lawNm) (d := HandSHeadRun.topDef (OpenLaw.row PySem.Challenge.rw_leaffold_k08_fault).prog 31) (kwd := []) Bk.lawOb_eq
    (by kernel_rfl) (fun s => by kernel_rfl) Bk.lawRun (by kernel_rfl) (by kernel_rfl) (by kernel_rfl) (by rfl) (by first | assumption | decide +kernel) (by decide +kernel) ⟨rfl, rfl, rfl, rfl, rfl, by decide +kernel⟩ ?hw ?hc
  case hw => w_witness2
  case hc =>
    refine L2.walk_ofE (l := PySem.Challenge.rw_leaffold_k08_fault) (n := 63) (k := 5) (x := "script") (CX := L2.CX0) rfl (by decide) (by kernel_rfl) ⟨rfl, by decide, by decide⟩ ?F (fun _ _ _ _ z => z)
    intro w mg fa h Y G hmg0
    obtain ⟨K, KX, c⟩ := Y
    have hmg : mg ("law" : PySem.Str) = some (.ref fa) := by
      have e : (HandSHeadRun.topDef (OpenLaw.row PySem.Challenge.rw_leaffold_k08_fault).prog 31).name = ("law" : PySem.Str) := by kernel_rfl
      rw [← e]
      exact hmg0
    obtain ⟨fd, hb, hG⟩ := Bk.lawFacts (P := (PySem.Challenge.rw_leaffold_k08_fault).prog) (w := w) KX G hmg c
    exact ⟨K, fd, fun vs H Q _ => Bk.spOf (Bk.cT K) Bk.F_law vs H Q L2.E0, KX, hb, fun H a ns hl _ hS => Bk.law_sp (c := Bk.cT K) hS (hF ns hl), hG⟩
theorem PySem.Challenge.cw_leaffold_k08_fault_holds : PySem.Challenge.rw_leaffold_k08_fault.Holds :=
  Bk.lawEnd Fd.law_true
