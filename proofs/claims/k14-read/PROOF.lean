import PyProof.Rows.All
import Wide.All
import OpenK.AllK
import Wide.FinOn
import HandS.ForMost
import HandS.ForExc
import HandS.Evl
import HandS.IsInst
import HandS.Style
import HandS.Deep
import HandS.SortInts
import HandS.Comp
import HandS.Iter
import HandS.RevRange
import HandS.TryOnly
import HandS.SortRule
import HandS.Head0
import HandS.Head1
import HandS.Head2
import HandS.HeadEnd
import HandS.HeadHook1
import PyProof.EqAt
import PyProof.EqKinds
import HandS.ExcIs
import HandS.HotCalls
import HandS.Conv
import HandS.Text
import HandS.SetFor
import HandS.Strs
import HandS.Dict
import HandS.More
import HandS.ExcOwn
import KE.GoesRaise
import HandS.ReplaceLit
import HandS.ReplaceList
import PySem.Challenge.RW_leaffold_k14_read
set_option Elab.async false
set_option linter.all false
set_option maxRecDepth 100000
set_option maxHeartbeats 2000000
/-! BkA: plain data D, what a value stands for (Rep), owned lists (Own), the state's bond (Si), what is left of an expression, a statement. -/
namespace Bk
open PySem L2

inductive D where
  | non | bl (b : Bool) | int (i : Int) | str (x : Str) | lst (xs : List D) | tup (xs : List D) | obj (xs : List D) | dic (ks : List Int) (xs : List D) | fz (xs : List D) | exn (k : Nat)
  deriving Inhabited
/-- how a thing is held: shared, an owned list (of e), a tuple of owned things, an owned dict -/
inductive Ow where
  | sh | li (e : Ow) | tu (e : Ow) | di | io
/-- a value: its data, how it is held; b: it is only looked at, a slot holds it -/
structure Val where
  o : Ow
  b : Bool
  d : D
abbrev Val.sh (d : D) : Val := ⟨.sh, false, d⟩
inductive Res (α : Type) where
  | ok (a : α) | exc (k : Nat) | bad
def Res.bind {α β : Type} (r : Res α) (f : α → Res β) : Res β := match r with
  | .ok a => f a
  | .exc k => .exc k
  | .bad => .bad
instance : Monad Res where
  pure := Res.ok
  bind := Res.bind
abbrev XEnv := List (Option (Ow × D))
/-- behind a statement -/
inductive Out where
  | next (e : XEnv) | ret (v : Val) | brk (e : XEnv) | cont (e : XEnv) | exc (k : Nat) (e : XEnv) | bad | rete (d : D) (e : XEnv)
abbrev XE := XEnv → Res Val
abbrev XB := XEnv → Res Bool
abbrev XA := XEnv → Res (List D)
abbrev XS := XEnv → Out
abbrev XF := List D → Res Val

/-- what the top says: the written part, Pile's class, the errors' classes -/
structure Ct where
  K : PySem.W.Frag
  C : Addr
  ea : Nat → Addr
  px : Addr → Nat → Prop := fun _ _ => False
  ix : Addr → Prop := fun _ => False

def pileFs (vs : List V) : List (Str × V) := (["columns", "rows", "wide", "high", "heaps", "folds", "cuts"] : List Str).zip vs

mutual
inductive Rep (c : Ct) (F : Hp) : V → D → Prop
  | non : Rep c F .non .non
  | bl {b} : Rep c F (.bl b) (.bl b)
  | int {i} : Rep c F (.int i) (.int i)
  | str {x} : Rep c F (.str x) (.str x)
  | lst {a vs xs} : F a = some (.lst vs) → Reps c F vs xs → Rep c F (.ref a) (.lst xs)
  | fz {a vs xs} : SqL c.K F a vs → Reps c F vs xs → Rep c F (.ref a) (.fz xs)
  | tup {a vs xs} : F a = some (.tup vs) → Reps c F vs xs → Rep c F (.ref a) (.tup xs)
  | obj {a dx vs xs} : F a = some (.ins c.C dx (pileFs vs)) → Reps c F vs xs → vs.length = 7 → Rep c F (.ref a) (.obj xs)
  | dic {a kvs ks xs} : F a = some (.dK kvs) → kvs.map (·.1) = ks.map Sum.inl → Reps c F (kvs.map (·.2)) xs → Rep c F (.ref a) (.dic ks xs)
  | exn {a k} : c.px a k → Rep c F (.ref a) (.exn k)
inductive Reps (c : Ct) (F : Hp) : List V → List D → Prop
  | nil : Reps c F [] []
  | cons {v d vs ds} : Rep c F v d → Reps c F vs ds → Reps c F (v :: vs) (d :: ds)
end

abbrev Ex (H H' : Hp) : Prop := Evl.Ex H H'

mutual
theorem Rep.mono {c : Ct} {F F' : Hp} (e : Ex F F') : ∀ {v : V} {d : D}, Rep c F v d → Rep c F' v d
  | _, _, .non => .non
  | _, _, .bl => .bl
  | _, _, .int => .int
  | _, _, .str => .str
  | _, _, .lst h r => .lst (e _ _ h) (Reps.mono e r)
  | _, _, .fz h r => .fz (Evl.ex_l e h) (Reps.mono e r)
  | _, _, .tup h r => .tup (e _ _ h) (Reps.mono e r)
  | _, _, .obj h r l => .obj (e _ _ h) (Reps.mono e r) l
  | _, _, .dic h k r => .dic (e _ _ h) k (Reps.mono e r)
  | _, _, .exn h => .exn h
theorem Reps.mono {c : Ct} {F F' : Hp} (e : Ex F F') : ∀ {vs : List V} {ds : List D}, Reps c F vs ds → Reps c F' vs ds
  | _, _, .nil => .nil
  | _, _, .cons h r => .cons (Rep.mono e h) (Reps.mono e r)
end

section
variable {c : Ct} {F H : Hp}
theorem Reps.length : ∀ {vs : List V} {ds : List D}, Reps c F vs ds → vs.length = ds.length
  | _, _, .nil => rfl
  | _, _, .cons _ r => by rw [List.length_cons, List.length_cons, Reps.length r]
theorem Reps.get : ∀ {vs : List V} {ds : List D} {i : Nat} {v : V}, Reps c F vs ds → vs[i]? = some v → ∃ d, ds[i]? = some d ∧ Rep c F v d
  | _, _, _, _, .nil, e => by simp at e
  | _, _, 0, _, .cons h r, e => by simp at e; subst e; exact ⟨_, rfl, h⟩
  | _, _, i + 1, v, .cons h r, e => by
    obtain ⟨d, h1, h2⟩ := Reps.get (i := i) (v := v) r (by simpa using e)
    exact ⟨d, by simpa using h1, h2⟩
theorem Reps.getD : ∀ {vs : List V} {ds : List D} {i : Nat} {d : D}, Reps c F vs ds → ds[i]? = some d → ∃ v, vs[i]? = some v ∧ Rep c F v d
  | _, _, _, _, .nil, e => by simp at e
  | _, _, 0, _, .cons h r, e => by simp at e; subst e; exact ⟨_, rfl, h⟩
  | _, _, i + 1, v, .cons h r, e => by
    obtain ⟨d, h1, h2⟩ := Reps.getD (i := i) (d := v) r (by simpa using e)
    exact ⟨d, by simpa using h1, h2⟩
theorem Reps.append : ∀ {vs us : List V} {ds es : List D}, Reps c F vs ds → Reps c F us es → Reps c F (vs ++ us) (ds ++ es)
  | _, _, _, _, .nil, s => s
  | _, _, _, _, .cons h r, s => .cons h (Reps.append r s)
theorem Reps.take : ∀ {vs : List V} {ds : List D} (n : Nat), Reps c F vs ds → Reps c F (vs.take n) (ds.take n)
  | _, _, 0, _ => .nil
  | _, _, _ + 1, .nil => .nil
  | _, _, n + 1, .cons h r => .cons h (Reps.take n r)
theorem Reps.drop : ∀ {vs : List V} {ds : List D} (n : Nat), Reps c F vs ds → Reps c F (vs.drop n) (ds.drop n)
  | _, _, 0, r => r
  | _, _, _ + 1, .nil => .nil
  | _, _, n + 1, .cons _ r => Reps.drop n r
theorem Reps.set {v : V} {d : D} (h : Rep c F v d) : ∀ {vs : List V} {ds : List D} (i : Nat), Reps c F vs ds → Reps c F (vs.set i v) (ds.set i d)
  | _, _, _, .nil => .nil
  | _, _, 0, .cons _ r => .cons h r
  | _, _, i + 1, .cons q r => .cons q (Reps.set h i r)
theorem Reps.reverse : ∀ {vs : List V} {ds : List D}, Reps c F vs ds → Reps c F vs.reverse ds.reverse
  | _, _, .nil => .nil
  | _, _, .cons h r => by
    rw [List.reverse_cons, List.reverse_cons]
    exact (Reps.reverse r).append (.cons h .nil)
theorem Reps.all {vs : List V} {ds : List D} (hl : vs.length = ds.length) (h : ∀ (i : Nat) v d, vs[i]? = some v → ds[i]? = some d → Rep c F v d) : Reps c F vs ds := by
  induction vs generalizing ds with
  | nil =>
    cases ds with
    | nil => exact .nil
    | cons d ds => simp at hl
  | cons v vs ih =>
    cases ds with
    | nil => simp at hl
    | cons d ds => exact .cons (h 0 v d rfl rfl) (ih (by simpa using hl) fun i u e hu he => h (i + 1) u e (by simpa using hu) (by simpa using he))
end

/-- an owned thing: S holds its own lists' places -/
def Own (c : Ct) (F H : Hp) : Ow → V → D → (Addr → Prop) → Prop
  | .sh, v, d, _ => Rep c F v d
  | .li e, v, d, S => ∃ a vs xs, v = .ref a ∧ d = .lst xs ∧ S a ∧ H a = some (.lst vs) ∧ vs.length = xs.length ∧
      ∃ T : Nat → Addr → Prop, (∀ k b, T k b → S b ∧ b ≠ a) ∧ (∀ k j b, T k b → T j b → k = j) ∧ ∀ k u x, vs[k]? = some u → xs[k]? = some x → Own c F H e u x (T k)
  | .tu e, v, d, S => ∃ a vs xs, v = .ref a ∧ d = .tup xs ∧ H a = some (.tup vs) ∧ vs.length = xs.length ∧ F a = none ∧ S a ∧
      ∃ T : Nat → Addr → Prop, (∀ k b, T k b → S b ∧ b ≠ a) ∧ (∀ k j b, T k b → T j b → k = j) ∧ ∀ k u x, vs[k]? = some u → xs[k]? = some x → Own c F H e u x (T k)
  | .di, v, d, S => ∃ a kvs ks xs, v = .ref a ∧ d = .dic ks xs ∧ S a ∧ H a = some (.dK kvs) ∧ kvs.map (·.1) = ks.map Sum.inl ∧ Reps c F (kvs.map (·.2)) xs
  | .io, v, d, S => ∃ a vs xs, v = .ref a ∧ d = .lst xs ∧ S a ∧ c.ix a ∧ H a = some (.lst vs) ∧ Reps c F vs xs

theorem Own.frame {c : Ct} {F F' H H' : Hp} (eF : Ex F F') : ∀ {o : Ow} {v : V} {d : D} {S : Addr → Prop}, (∀ a, S a → H' a = H a) → (∀ a, S a → F' a = none) → Own c F H o v d S → Own c F' H' o v d S
  | .sh, _, _, _, _, _, h => Rep.mono eF h
  | .li e, v, d, S, hs, hf, h => by
    obtain ⟨a, vs, xs, e1, e2, sa, ha, hl, T, t1, t2, t3⟩ := h
    exact ⟨a, vs, xs, e1, e2, sa, (hs a sa).trans ha, hl, T, t1, t2, fun k u x hu hx => Own.frame eF (fun b hb => hs b (t1 k b hb).1) (fun b hb => hf b (t1 k b hb).1) (t3 k u x hu hx)⟩
  | .tu e, v, d, S, hs, hf, h => by
    obtain ⟨a, vs, xs, e1, e2, ha, hl, fa, sa, T, t1, t2, t3⟩ := h
    exact ⟨a, vs, xs, e1, e2, (hs a sa).trans ha, hl, hf a sa, sa, T, t1, t2, fun k u x hu hx => Own.frame eF (fun b hb => hs b (t1 k b hb).1) (fun b hb => hf b (t1 k b hb).1) (t3 k u x hu hx)⟩
  | .di, v, d, S, hs, hf, h => by
    obtain ⟨a, kvs, ks, xs, e1, e2, sa, ha, hk, r⟩ := h
    exact ⟨a, kvs, ks, xs, e1, e2, sa, (hs a sa).trans ha, hk, r.mono eF⟩
  | .io, v, d, S, hs, hf, h => by
    obtain ⟨a, vs, xs, e1, e2, sa, hi, ha, r⟩ := h
    exact ⟨a, vs, xs, e1, e2, sa, hi, (hs a sa).trans ha, r.mono eF⟩
/-- what is owned stands for its data in any heap that has F and its places -/
theorem Own.rep {c : Ct} {F H G : Hp} (eF : Ex F G) : ∀ {o : Ow} {v : V} {d : D} {S : Addr → Prop}, (∀ a o, S a → H a = some o → G a = some o) → Own c F H o v d S → Rep c G v d
  | .sh, _, _, _, _, h => Rep.mono eF h
  | .li e, v, d, S, hs, h => by
    obtain ⟨a, vs, xs, e1, e2, sa, ha, hl, T, t1, t2, t3⟩ := h
    subst e1 e2
    exact .lst (hs a _ sa ha) (Reps.all hl fun k u x hu hx => Own.rep eF (fun b o hb => hs b o (t1 k b hb).1) (t3 k u x hu hx))
  | .tu e, v, d, S, hs, h => by
    obtain ⟨a, vs, xs, e1, e2, ha, hl, fa, sa, T, t1, t2, t3⟩ := h
    subst e1 e2
    exact .tup (hs a _ sa ha) (Reps.all hl fun k u x hu hx => Own.rep eF (fun b o hb => hs b o (t1 k b hb).1) (t3 k u x hu hx))
  | .di, v, d, S, hs, h => by
    obtain ⟨a, kvs, ks, xs, e1, e2, sa, ha, hk, r⟩ := h
    subst e1 e2
    exact .dic (hs a _ sa ha) hk (r.mono eF)
  | .io, v, d, S, hs, h => by
    obtain ⟨a, vs, xs, e1, e2, sa, hi, ha, r⟩ := h
    subst e1 e2
    exact .lst (hs a _ sa ha) (r.mono eF)
theorem Own.sub {c : Ct} {F H : Hp} : ∀ {o : Ow} {v : V} {d : D} {S S' : Addr → Prop}, (∀ a, S a → S' a) → Own c F H o v d S → Own c F H o v d S'
  | .sh, _, _, _, _, _, h => h
  | .li e, v, d, S, S', hs, h => by
    obtain ⟨a, vs, xs, e1, e2, sa, ha, hl, T, t1, t2, t3⟩ := h
    exact ⟨a, vs, xs, e1, e2, hs a sa, ha, hl, T, fun k b hb => ⟨hs b (t1 k b hb).1, (t1 k b hb).2⟩, t2, t3⟩
  | .tu e, v, d, S, S', hs, h => by
    obtain ⟨a, vs, xs, e1, e2, ha, hl, fa, sa, T, t1, t2, t3⟩ := h
    exact ⟨a, vs, xs, e1, e2, ha, hl, fa, hs a sa, T, fun k b hb => ⟨hs b (t1 k b hb).1, (t1 k b hb).2⟩, t2, t3⟩
  | .di, v, d, S, S', hs, h => by
    obtain ⟨a, kvs, ks, xs, e1, e2, sa, ha, hk, r⟩ := h
    exact ⟨a, kvs, ks, xs, e1, e2, hs a sa, ha, hk, r⟩
  | .io, v, d, S, S', hs, h => by
    obtain ⟨a, vs, xs, e1, e2, sa, hi, ha, r⟩ := h
    exact ⟨a, vs, xs, e1, e2, hs a sa, hi, ha, r⟩

/-- F, H grow from F0, H0: what was tracked stays, what is newly shared was not there -/
structure Wd (F0 H0 F H : Hp) : Prop where
  f : Ex F0 F
  fh : Ex F H
  h : Ex H0 H
  n : ∀ a, F0 a = none → F a ≠ none → H0 a = none
section
variable {F0 H0 F H F1 H1 : Hp}
theorem Wd.refl (e : Ex F H) : Wd F H F H := ⟨Evl.Ex.refl F, e, Evl.Ex.refl H, fun a h1 h2 => absurd h1 h2⟩
theorem Wd.trans (a : Wd F0 H0 F H) (b : Wd F H F1 H1) : Wd F0 H0 F1 H1 := by
  refine ⟨a.f.trans b.f, b.fh, a.h.trans b.h, fun x h1 h2 => ?_⟩
  cases hf : F x with
  | none => exact Evl.fresh_back a.h (b.n x hf h2)
  | some o => exact a.n x h1 (by rw [hf]; exact fun z => by cases z)
/-- only the heap grows -/
theorem Wd.heap (w : Wd F0 H0 F H) (e : Ex H H1) : Wd F0 H0 F H1 := ⟨w.f, w.fh.trans e, w.h.trans e, w.n⟩
end

/-- a value that has come out of F, H as F', H' -/
def Rv (c : Ct) (H F' H' : Hp) (u : V) (r : Val) : Prop := ∃ S : Addr → Prop, Own c F' H' r.o u r.d S ∧ ∀ a, S a → (r.b = false → H a = none) ∧ F' a = none ∧ H' a ≠ none
section
variable {c : Ct} {F H F' H' F2 H2 H0 : Hp} {u : V} {r : Val} {d : D}
theorem Rv.sh (h : Rep c F' u d) : Rv c H F' H' u (.sh d) := ⟨fun _ => False, h, fun _ z => z.elim⟩
theorem Rv.rep (e : Ex F' H') (h : Rv c H F' H' u r) : Rep c H' u r.d := by
  obtain ⟨S, h1, h2⟩ := h
  exact h1.rep e fun a o _ q => q
theorem Rv.repF {b : Bool} (h : Rv c H F' H' u ⟨.sh, b, d⟩) : Rep c F' u d := by
  obtain ⟨S, h1, h2⟩ := h
  exact h1
theorem Rv.weak (e : Ex H0 H) (h : Rv c H F' H' u r) : Rv c H0 F' H' u r := by
  obtain ⟨S, h1, h2⟩ := h
  exact ⟨S, h1, fun a sa => ⟨fun z => Evl.fresh_back e ((h2 a sa).1 z), (h2 a sa).2⟩⟩
/-- .. as the heap grows further -/
theorem Rv.grow (w : Wd F' H' F2 H2) (h : Rv c H F' H' u r) : Rv c H F2 H2 u r := by
  obtain ⟨S, h1, h2⟩ := h
  have hn : ∀ a, S a → F2 a = none := fun a sa => by
    cases q : F2 a with
    | none => rfl
    | some x => exact absurd (w.n a (h2 a sa).2.1 (by rw [q]; exact fun z => by cases z)) (h2 a sa).2.2
  have hs : ∀ a, S a → H2 a = H' a := fun a sa => by
    cases q : H' a with
    | none => exact absurd q (h2 a sa).2.2
    | some x => exact w.h a x q
  refine ⟨S, h1.frame w.f hs hn, fun a sa => ⟨(h2 a sa).1, hn a sa, ?_⟩⟩
  rw [hs a sa]
  exact (h2 a sa).2.2
open Classical in
/-- F with the places of S shared, as they stand in H -/
noncomputable def shareF (F H : Hp) (S : Addr → Prop) : Hp := fun a => if S a then H a else F a
theorem shareF_ex {S : Addr → Prop} (hs : ∀ a, S a → F a = none) : Ex F (shareF F H S) := fun a o h => by
  unfold shareF
  by_cases q : S a
  · rw [hs a q] at h
    cases h
  · rw [if_neg q]
    exact h
theorem shareF_exH {S : Addr → Prop} (e : Ex F H) : Ex (shareF F H S) H := fun a o h => by
  unfold shareF at h
  by_cases q : S a
  · rw [if_pos q] at h
    exact h
  · rw [if_neg q] at h
    exact e a o h
theorem shareF_out {S : Addr → Prop} {a : Addr} (h : ¬ S a) : shareF F H S a = F a := by
  unfold shareF
  rw [if_neg h]
theorem shareF_in {S : Addr → Prop} {a : Addr} (h : S a) : shareF F H S a = H a := by
  unfold shareF
  rw [if_pos h]
/-- a value is shared -/
theorem Rv.share {o : Ow} (w : Wd F H F' H') (h : Rv c H F' H' u ⟨o, false, d⟩) : ∃ F2, Wd F H F2 H' ∧ Wd F' H F2 H' ∧ Rep c F2 u d := by
  obtain ⟨S, h1, h2⟩ := h
  have e1 : Ex F' (shareF F' H' S) := shareF_ex fun a sa => (h2 a sa).2.1
  have e2 : Ex (shareF F' H' S) H' := shareF_exH w.fh
  refine ⟨shareF F' H' S, ⟨w.f.trans e1, e2, w.h, fun a n1 n2 => ?_⟩, ⟨e1, e2, w.h, fun a n1 n2 => ?_⟩, h1.rep e1 fun a o sa q => by rw [shareF_in sa]; exact q⟩
  · by_cases q : S a
    · exact (h2 a q).1 rfl
    · rw [shareF_out q] at n2
      exact w.n a n1 n2
  · by_cases q : S a
    · exact (h2 a q).1 rfl
    · rw [shareF_out q] at n2
      exact absurd n1 n2
end
end Bk
set_option Elab.async false
set_option linter.all false
set_option maxRecDepth 100000
set_option maxHeartbeats 2000000
/-! BkB: the state's bond, what is left of an expression, a test, arguments, a statement; the judgements. -/
namespace Bk
open PySem L2

abbrev XK := L2.XK
abbrev XVs := XEnv → Res (List Val)
/-- slots sg stand for env: F is shared, each owned thing has its own places -/
structure Si (c : Ct) (F0 H0 F H : Hp) (sg : L2.St) (env : XEnv) : Prop where
  wd : Wd F0 H0 F H
  len : sg.length = env.length
  own : ∃ S : Nat → Addr → Prop, (∀ i j a, S i a → S j a → i = j) ∧ (∀ i a, S i a → H0 a = none ∧ F a = none ∧ H a ≠ none) ∧
    ∀ i o d, env[i]? = some (some (o, d)) → ∃ v, sg[i]? = some (some v) ∧ Own c F H o v d (S i)

section
variable {c : Ct} {F0 H0 F H F' H' : Hp} {sg : L2.St} {env : XEnv}
theorem wd_none (w : Wd F H F' H') {a : Addr} (h1 : F a = none) (h2 : H a ≠ none) : F' a = none := by
  cases q : F' a with
  | none => rfl
  | some x => exact absurd (w.n a h1 (by rw [q]; exact fun z => by cases z)) h2
theorem wd_same (w : Wd F H F' H') {a : Addr} (h2 : H a ≠ none) : H' a = H a := by
  cases q : H a with
  | none => exact absurd q h2
  | some x => exact w.h a x q
theorem Si.grow (s : Si c F0 H0 F H sg env) (w : Wd F H F' H') : Si c F0 H0 F' H' sg env := by
  obtain ⟨S, s1, s2, s3⟩ := s.own
  refine ⟨s.wd.trans w, s.len, S, s1, fun i a sa => ⟨(s2 i a sa).1, wd_none w (s2 i a sa).2.1 (s2 i a sa).2.2, by rw [wd_same w (s2 i a sa).2.2]; exact (s2 i a sa).2.2⟩, fun i o d e => ?_⟩
  obtain ⟨v, h1, h2⟩ := s3 i o d e
  exact ⟨v, h1, h2.frame w.f (fun a sa => wd_same w (s2 i a sa).2.2) (fun a sa => wd_none w (s2 i a sa).2.1 (s2 i a sa).2.2)⟩
/-- a slot's thing, looked at -/
theorem Si.look (s : Si c F0 H0 F H sg env) {i : Nat} {o : Ow} {d : D} (e : env[i]? = some (some (o, d))) : ∃ v, sg[i]? = some (some v) ∧ Rep c H v d := by
  obtain ⟨S, s1, s2, s3⟩ := s.own
  obtain ⟨v, h1, h2⟩ := s3 i o d e
  exact ⟨v, h1, h2.rep s.wd.fh fun a o _ q => q⟩
theorem Si.shared (s : Si c F0 H0 F H sg env) {i : Nat} {d : D} (e : env[i]? = some (some (.sh, d))) : ∃ v, sg[i]? = some (some v) ∧ Rep c F v d := by
  obtain ⟨S, s1, s2, s3⟩ := s.own
  obtain ⟨v, h1, h2⟩ := s3 i .sh d e
  exact ⟨v, h1, h2⟩
/-- a value is stored in a slot -/
theorem Si.store {u : V} {o : Ow} {d : D} (s : Si c F0 H0 F H sg env) (w : Wd F H F' H') (r : Rv c H F' H' u ⟨o, false, d⟩) (i : Nat) : Si c F0 H0 F' H' (sg.set i (some u)) (env.set i (some (o, d))) := by
  have s' := s.grow w
  obtain ⟨S, s1, s2, s3⟩ := s.own
  obtain ⟨T, t1, t2⟩ := r
  have sH : ∀ j a, S j a → ¬ T a := fun j a sa ta => (s2 j a sa).2.2 ((t2 a ta).1 rfl)
  have hw : ∀ j a, S j a → H0 a = none ∧ F' a = none ∧ H' a ≠ none := fun j a sa => ⟨(s2 j a sa).1, wd_none w (s2 j a sa).2.1 (s2 j a sa).2.2, by rw [wd_same w (s2 j a sa).2.2]; exact (s2 j a sa).2.2⟩
  refine ⟨s'.wd, by rw [List.length_set, List.length_set]; exact s.len, fun j a => if j = i then T a else S j a, fun j k a hj hk => ?_, fun j a hj => ?_, fun j o2 d2 e => ?_⟩
  · by_cases q1 : j = i
    · by_cases q2 : k = i
      · rw [q1, q2]
      · simp only [if_pos q1] at hj
        simp only [if_neg q2] at hk
        exact absurd hj (sH k a hk)
    · by_cases q2 : k = i
      · simp only [if_neg q1] at hj
        simp only [if_pos q2] at hk
        exact absurd hk (sH j a hj)
      · simp only [if_neg q1] at hj
        simp only [if_neg q2] at hk
        exact s1 j k a hj hk
  · by_cases q : j = i
    · simp only [if_pos q] at hj
      exact ⟨Evl.fresh_back s.wd.h ((t2 a hj).1 rfl), (t2 a hj).2⟩
    · simp only [if_neg q] at hj
      exact hw j a hj
  · by_cases q : j = i
    · subst q
      have hl : j < env.length := by
        have := (List.getElem?_eq_some_iff.mp e).1
        rw [List.length_set] at this
        exact this
      rw [List.getElem?_set_self hl] at e
      cases e
      refine ⟨u, List.getElem?_set_self (by rw [s.len]; exact hl), ?_⟩
      simp only [if_pos]
      exact t1
    · rw [List.getElem?_set_ne (Ne.symm q)] at e
      obtain ⟨v, h1, h2⟩ := s3 j o2 d2 e
      refine ⟨v, by rw [List.getElem?_set_ne (Ne.symm q)]; exact h1, ?_⟩
      simp only [if_neg q]
      exact h2.frame w.f (fun a sa => wd_same w (s2 j a sa).2.2) (fun a sa => wd_none w (s2 j a sa).2.1 (s2 j a sa).2.2)
/-- a slot is forgotten -/
theorem Si.drop (s : Si c F0 H0 F H sg env) (i : Nat) (x : Option V) : Si c F0 H0 F H (sg.set i x) (env.set i none) := by
  obtain ⟨S, s1, s2, s3⟩ := s.own
  refine ⟨s.wd, by rw [List.length_set, List.length_set]; exact s.len, S, s1, s2, fun j o d e => ?_⟩
  by_cases q : j = i
  · subst q
    by_cases hl : j < env.length
    · rw [List.getElem?_set_self hl] at e
      cases e
    · rw [List.getElem?_eq_none_iff.mpr (by rw [List.length_set]; omega)] at e
      cases e
  · rw [List.getElem?_set_ne (Ne.symm q)] at e
    obtain ⟨v, h1, h2⟩ := s3 j o d e
    exact ⟨v, by rw [List.getElem?_set_ne (Ne.symm q)]; exact h1, h2⟩
/-- an owned slot is shared from here on -/
theorem Si.freeze (s : Si c F0 H0 F H sg env) {i : Nat} {o : Ow} {d : D} (e : env[i]? = some (some (o, d))) : ∃ F', Wd F0 H0 F' H ∧ Ex F F' ∧ Si c F0 H0 F' H sg (env.set i (some (.sh, d))) := by
  obtain ⟨S, s1, s2, s3⟩ := s.own
  obtain ⟨v, h1, h2⟩ := s3 i o d e
  have e1 : Ex F (shareF F H (S i)) := shareF_ex fun a sa => (s2 i a sa).2.1
  have e2 : Ex (shareF F H (S i)) H := shareF_exH s.wd.fh
  have w1 : Wd F0 H0 (shareF F H (S i)) H := ⟨s.wd.f.trans e1, e2, s.wd.h, fun a n1 n2 => by
    by_cases q : S i a
    · exact (s2 i a q).1
    · rw [shareF_out q] at n2
      exact s.wd.n a n1 n2⟩
  refine ⟨_, w1, e1, w1, by rw [List.length_set]; exact s.len, fun j a => if j = i then False else S j a, fun j k a hj hk => ?_, fun j a hj => ?_, fun j o2 d2 e3 => ?_⟩
  · by_cases q1 : j = i
    · simp only [if_pos q1] at hj
    · by_cases q2 : k = i
      · simp only [if_pos q2] at hk
      · simp only [if_neg q1] at hj
        simp only [if_neg q2] at hk
        exact s1 j k a hj hk
  · by_cases q : j = i
    · simp only [if_pos q] at hj
    · simp only [if_neg q] at hj
      refine ⟨(s2 j a hj).1, ?_, (s2 j a hj).2.2⟩
      rw [shareF_out fun z => q (s1 j i a hj z)]
      exact (s2 j a hj).2.1
  · by_cases q : j = i
    · subst q
      have hl : j < env.length := (List.getElem?_eq_some_iff.mp e).1
      rw [List.getElem?_set_self hl] at e3
      cases e3
      exact ⟨v, h1, h2.rep e1 fun a o sa q => by rw [shareF_in sa]; exact q⟩
    · rw [List.getElem?_set_ne (Ne.symm q)] at e3
      obtain ⟨v2, h3, h4⟩ := s3 j o2 d2 e3
      refine ⟨v2, h3, ?_⟩
      simp only [if_neg q]
      refine h4.frame e1 (fun a _ => rfl) fun a sa => ?_
      rw [shareF_out fun z => q (s1 j i a sa z)]
      exact (s2 j a sa).2.1
end

/-- what is known of a value as it stands -/
def Rw (c : Ct) (F H : Hp) (u : V) (r : Val) : Prop := ∃ S : Addr → Prop, Own c F H r.o u r.d S ∧ ∀ a, S a → F a = none ∧ H a ≠ none
section
variable {c : Ct} {F H F1 H1 H0 : Hp} {u : V} {r : Val}
theorem Rv.rw (h : Rv c H0 F H u r) : Rw c F H u r := by
  obtain ⟨S, h1, h2⟩ := h
  exact ⟨S, h1, fun a sa => (h2 a sa).2⟩
theorem Rw.rep (h : Rw c F H u r) (e : Ex F H) : Rep c H u r.d := by
  obtain ⟨S, h1, h2⟩ := h
  exact h1.rep e fun a o _ q => q
theorem Rw.grow (h : Rw c F H u r) (w : Wd F H F1 H1) : Rw c F1 H1 u r := by
  obtain ⟨S, h1, h2⟩ := h
  refine ⟨S, h1.frame w.f (fun a sa => wd_same w (h2 a sa).2) (fun a sa => wd_none w (h2 a sa).1 (h2 a sa).2), fun a sa => ⟨wd_none w (h2 a sa).1 (h2 a sa).2, ?_⟩⟩
  rw [wd_same w (h2 a sa).2]
  exact (h2 a sa).2
/-- the shared items of a list -/
def Val.its (r : Val) : Option (List D) := match r.o, r.d with
  | .sh, .lst xs => some xs
  | .li .sh, .lst xs => some xs
  | _, _ => none
theorem Rw.items (h : Rw c F H u r) (e : Ex F H) {xs : List D} (hx : r.its = some xs) : r.d = .lst xs ∧ ∃ a vs, u = .ref a ∧ H a = some (.lst vs) ∧ Reps c F vs xs := by
  obtain ⟨o, b, d⟩ := r
  obtain ⟨S, h1, h2⟩ := h
  cases o with
  | sh =>
    have h1 : Rep c F u d := h1
    cases h1 with
    | lst ha hr =>
      have e1 := Option.some.inj hx
      subst e1
      exact ⟨rfl, _, _, rfl, e _ _ ha, hr⟩
    | _ => exact nomatch hx
  | li o =>
    cases o with
    | sh =>
      obtain ⟨a, vs, ys, e1, e2, sa, ha, hl, T, t1, t2, t3⟩ := h1
      dsimp only at e1 e2
      subst e1 e2
      have e1 := Option.some.inj hx
      subst e1
      exact ⟨rfl, a, vs, rfl, ha, Reps.all hl fun k u x hu hx => t3 k u x hu hx⟩
    | _ => cases d <;> exact nomatch hx
  | _ => cases d <;> exact nomatch hx
end

/-- values as they stand -/
inductive Rws (c : Ct) (F H : Hp) : List V → List Val → Prop
  | nil : Rws c F H [] []
  | cons {u r us rs} : Rw c F H u r → Rws c F H us rs → Rws c F H (u :: us) (r :: rs)
theorem Rws.grow {c : Ct} {F H F1 H1 : Hp} (w : Wd F H F1 H1) : ∀ {us : List V} {rs : List Val}, Rws c F H us rs → Rws c F1 H1 us rs
  | _, _, .nil => .nil
  | _, _, .cons h r => .cons (h.grow w) (r.grow w)
/-! ### what is left -/
abbrev WX := Value → Option Addr → L2.St → Hp → Prop
section
variable (c : Ct) (W : WX) (sg : L2.St) (F H : Hp)
def Aft (Q : VK) : Res Val → Prop
  | .ok r => ∀ F' H' u, Wd F H F' H' → Rv c H F' H' u r → Q u H'
  | .exc k => ∀ F' H', Wd F H F' H' → W (.ref (c.ea k)) none sg H'
  | .bad => False
def AftB (Q : Bool → Hp → Prop) : Res Bool → Prop
  | .ok b => ∀ F' H', Wd F H F' H' → Q b H'
  | .exc k => ∀ F' H', Wd F H F' H' → W (.ref (c.ea k)) none sg H'
  | .bad => False
/-- arguments that are handed on (shared), that are only looked at -/
def AftA (Q : List V → Hp → Prop) : Res (List D) → Prop
  | .ok ds => ∀ F' H' us, Wd F H F' H' → Reps c F' us ds → Q us H'
  | .exc k => ∀ F' H', Wd F H F' H' → W (.ref (c.ea k)) none sg H'
  | .bad => False
def AftV (Q : List V → Hp → Prop) : Res (List Val) → Prop
  | .ok ds => ∀ F' H' us, Wd F H F' H' → Rws c F' H' us ds → Q us H'
  | .exc k => ∀ F' H', Wd F H F' H' → W (.ref (c.ea k)) none sg H'
  | .bad => False
end
section
variable (c : Ct) (W : WX) (F0 H0 : Hp)
def AftS (F : Hp) (D : Ends) : Out → Prop
  | .next e => ∀ F' H' sg', Ex F F' → Si c F0 H0 F' H' sg' e → D.nx sg' H'
  | .ret r => r.b = false ∧ ∀ F' H' u, Ex F F' → Wd F0 H0 F' H' → Rv c H0 F' H' u r → D.rt u H'
  | .brk e => ∀ F' H' sg', Ex F F' → Si c F0 H0 F' H' sg' e → D.bk sg' H'
  | .cont e => ∀ F' H' sg', Ex F F' → Si c F0 H0 F' H' sg' e → D.ct sg' H'
  | .exc k e => ∀ F' H' sg', Ex F F' → Si c F0 H0 F' H' sg' e → W (.ref (c.ea k)) none sg' H'
  | .bad => False
  | .rete d e => ∀ F' H' sg' u, Ex F F' → Si c F0 H0 F' H' sg' e → Rep c F' u d → D.rt u H'
def tX (f : XE) : TE := fun sg H Q => ∃ F env, Si c F0 H0 F H sg env ∧ Aft c W sg F H Q (f env)
def tXB (f : XB) : TT := fun sg H Q => ∃ F env, Si c F0 H0 F H sg env ∧ AftB c W sg F H Q (f env)
def tXA (f : XA) : TA := fun sg H Q => ∃ F env, Si c F0 H0 F H sg env ∧ AftA c W sg F H Q (f env)
def tXV (f : XVs) : TA := fun sg H Q => ∃ F env, Si c F0 H0 F H sg env ∧ AftV c W sg F H Q (f env)
def tXS (g : XS) : TS := fun D sg H => ∃ F env, Si c F0 H0 F H sg env ∧ AftS c W F0 H0 F D (g env)
end
section
variable {c : Ct} {W : WX} {sg : L2.St} {F H F1 H1 F0 H0 : Hp}
theorem Aft.grow {Q : VK} {r : Res Val} (w : Wd F H F1 H1) (h : Aft c W sg F H Q r) : Aft c W sg F1 H1 Q r := by
  cases r with
  | ok r => exact fun F' H' u w' rv => h F' H' u (w.trans w') (rv.weak w.h)
  | exc k => exact fun F' H' w' => h F' H' (w.trans w')
  | bad => exact h
theorem Aft.mono {Q Q' : VK} {r : Res Val} (h : Aft c W sg F H Q r) (k : ∀ u H', Q u H' → Q' u H') : Aft c W sg F H Q' r := by
  cases r with
  | ok r => exact fun F' H' u w' rv => k u H' (h F' H' u w' rv)
  | exc k => exact h
  | bad => exact h
theorem AftB.grow {Q : Bool → Hp → Prop} {r : Res Bool} (w : Wd F H F1 H1) (h : AftB c W sg F H Q r) : AftB c W sg F1 H1 Q r := by
  cases r with
  | ok r => exact fun F' H' w' => h F' H' (w.trans w')
  | exc k => exact fun F' H' w' => h F' H' (w.trans w')
  | bad => exact h
theorem AftA.grow {Q : List V → Hp → Prop} {r : Res (List D)} (w : Wd F H F1 H1) (h : AftA c W sg F H Q r) : AftA c W sg F1 H1 Q r := by
  cases r with
  | ok r => exact fun F' H' us w' rv => h F' H' us (w.trans w') rv
  | exc k => exact fun F' H' w' => h F' H' (w.trans w')
  | bad => exact h
theorem AftV.grow {Q : List V → Hp → Prop} {r : Res (List Val)} (w : Wd F H F1 H1) (h : AftV c W sg F H Q r) : AftV c W sg F1 H1 Q r := by
  cases r with
  | ok r => exact fun F' H' us w' rv => h F' H' us (w.trans w') rv
  | exc k => exact fun F' H' w' => h F' H' (w.trans w')
  | bad => exact h
/-- one after another -/
theorem aft_bind {Q : VK} {f : Res Val} {g : Val → Res Val} (h : Aft c W sg F H Q (f.bind g)) : Aft c W sg F H (fun x Hx => ∃ F1 a, Wd F H F1 Hx ∧ Rv c H F1 Hx x a ∧ Aft c W sg F1 Hx Q (g a)) f := by
  cases f with
  | ok a => exact fun F1 H1 u w rv => ⟨F1, a, w, rv, Aft.grow w h⟩
  | exc k => exact h
  | bad => exact h
theorem aft_bindB {Q : Bool → Hp → Prop} {f : Res Val} {g : Val → Res Bool} (h : AftB c W sg F H Q (f.bind g)) : Aft c W sg F H (fun x Hx => ∃ F1 a, Wd F H F1 Hx ∧ Rv c H F1 Hx x a ∧ AftB c W sg F1 Hx Q (g a)) f := by
  cases f with
  | ok a => exact fun F1 H1 u w rv => ⟨F1, a, w, rv, AftB.grow w h⟩
  | exc k => exact h
  | bad => exact h
theorem aft_bindBB {Q : Bool → Hp → Prop} {f : Res Bool} {g : Bool → Res Bool} (h : AftB c W sg F H Q (f.bind g)) : AftB c W sg F H (fun b Hx => ∃ F1, Wd F H F1 Hx ∧ AftB c W sg F1 Hx Q (g b)) f := by
  cases f with
  | ok a => exact fun F1 H1 w => ⟨F1, w, AftB.grow w h⟩
  | exc k => exact h
  | bad => exact h
theorem aft_bindBX {Q : VK} {f : Res Bool} {g : Bool → Res Val} (h : Aft c W sg F H Q (f.bind g)) : AftB c W sg F H (fun b Hx => ∃ F1, Wd F H F1 Hx ∧ Aft c W sg F1 Hx Q (g b)) f := by
  cases f with
  | ok a => exact fun F1 H1 w => ⟨F1, w, Aft.grow w h⟩
  | exc k => exact h
  | bad => exact h
theorem aft_bindA {Q : VK} {f : Res (List D)} {g : List D → Res Val} (h : Aft c W sg F H Q (f.bind g)) : AftA c W sg F H (fun us Hx => ∃ F1 ds, Wd F H F1 Hx ∧ Reps c F1 us ds ∧ f = .ok ds ∧ Aft c W sg F1 Hx Q (g ds)) f := by
  cases f with
  | ok a => exact fun F1 H1 us w rv => ⟨F1, a, w, rv, rfl, Aft.grow w h⟩
  | exc k => exact h
  | bad => exact h
theorem aft_bindV {Q : VK} {f : Res (List Val)} {g : List Val → Res Val} (h : Aft c W sg F H Q (f.bind g)) : AftV c W sg F H (fun us Hx => ∃ F1 ds, Wd F H F1 Hx ∧ Rws c F1 Hx us ds ∧ Aft c W sg F1 Hx Q (g ds)) f := by
  cases f with
  | ok a => exact fun F1 H1 us w rv => ⟨F1, a, w, rv, Aft.grow w h⟩
  | exc k => exact h
  | bad => exact h
/-- a value at once -/
theorem Aft.now {Q : VK} {u : V} {d : D} (e : Ex F H) (r : Rep c F u d) (h : Aft c W sg F H Q (.ok (.sh d))) : Q u H := h F H u (Wd.refl e) (Rv.sh r)
/-- a new list -/
theorem Aft.newL {Q : VK} {p : Addr} {vs : List V} {xs : List D} (e : Ex F H) (hp : H p = none) (r : Reps c F vs xs) (h : Aft c W sg F H Q (.ok ⟨.li .sh, false, .lst xs⟩)) : Q (.ref p) (upd H p (.lst vs)) := by
  have fp : F p = none := Evl.fresh_back e hp
  refine h F (upd H p (.lst vs)) (.ref p) ⟨Evl.Ex.refl F, e.trans (Evl.Ex.new hp), Evl.Ex.new hp, fun a h1 h2 => absurd h1 h2⟩ ⟨fun a => a = p, ?_, fun a ea => ?_⟩
  · exact ⟨p, vs, xs, rfl, rfl, rfl, upd_same, r.length, fun _ _ => False, fun _ _ z => z.elim, fun _ _ _ z => z.elim, fun k u x hu hx => by
      obtain ⟨d, h1, h2⟩ := r.get hu
      rw [hx] at h1
      cases h1
      exact h2⟩
  · subst ea
    refine ⟨fun _ => hp, fp, ?_⟩
    rw [upd_same]
    exact fun z => by cases z
/-- a new tuple, shared at once -/
theorem Aft.newT {Q : VK} {p : Addr} {vs : List V} {xs : List D} (e : Ex F H) (hp : H p = none) (r : Reps c F vs xs) (h : Aft c W sg F H Q (.ok (.sh (.tup xs)))) : Q (.ref p) (upd H p (.tup vs)) := by
  have fp : F p = none := Evl.fresh_back e hp
  have eu : Ex (upd F p (.tup vs)) (upd H p (.tup vs)) := fun a o q => by
    by_cases z : a = p
    · subst z
      rw [upd_same] at q ⊢
      exact q
    · rw [upd_ne z] at q ⊢
      exact e a o q
  refine h (upd F p (.tup vs)) (upd H p (.tup vs)) (.ref p) ⟨Evl.Ex.new fp, eu, Evl.Ex.new hp, fun a h1 h2 => ?_⟩ (Rv.sh (.tup upd_same (r.mono (Evl.Ex.new fp))))
  by_cases z : a = p
  · subst z
    exact hp
  · rw [upd_ne z] at h2
    exact absurd h1 h2
end

/-! ### the judgements -/
theorem _root_.L2.PE.imp {X : Cx} {e : Expr} {t t' : TE} (h : PE X e t) (k : ∀ sg H Q, t' sg H Q → t sg H Q) : PE X e t' := ⟨fun pins s sg H Q I q => h.run pins s sg H Q I (k sg H Q q)⟩
theorem _root_.L2.PT.imp {X : Cx} {e : Expr} {t t' : TT} (h : PT X e t) (k : ∀ sg H Q, t' sg H Q → t sg H Q) : PT X e t' := ⟨fun pins s sg H Q I q => h.run pins s sg H Q I (k sg H Q q)⟩
theorem _root_.L2.PA.imp {X : Cx} {es : List Expr} {t t' : TA} (h : PA X es t) (k : ∀ sg H Q, t' sg H Q → t sg H Q) : PA X es t' := ⟨fun pos pins s sg H Q I q => h.run pos pins s sg H Q I (k sg H Q q)⟩
theorem _root_.L2.PW.imp {X : Cx} {e : Expr} {t t' : TT} (h : PW X e t) (k : ∀ sg H Q, t' sg H Q → t sg H Q) : PW X e t' := ⟨fun wh pins s sg H Q I q => h.run wh pins s sg H Q I (k sg H Q q)⟩
theorem _root_.L2.PS.imp {X : Cx} {st : Stmt} {t t' : TS} (h : PS X st t) (k : ∀ D sg H, t' D sg H → t D sg H) : PS X st t' := ⟨fun pins s sg H D I q => h.run pins s sg H D I (k D sg H q)⟩
theorem _root_.L2.PSs.imp {X : Cx} {st : List Stmt} {t t' : TS} (h : PSs X st t) (k : ∀ D sg H, t' D sg H → t D sg H) : PSs X st t' := ⟨fun pins s sg H D I q => h.run pins s sg H D I (k D sg H q)⟩
/-- where one stands -/
structure Jx where
  X : Cx
  c : Ct
  W : WX
  F0 : Hp
  H0 : Hp
abbrev SE (J : Jx) (e : Expr) (f : XE) : Prop := PE J.X e (tX J.c J.W J.F0 J.H0 f)
abbrev SB (J : Jx) (e : Expr) (f : XB) : Prop := PT J.X e (tXB J.c J.W J.F0 J.H0 f)
abbrev SA (J : Jx) (es : List Expr) (f : XA) : Prop := PA J.X es (tXA J.c J.W J.F0 J.H0 f)
abbrev SV (J : Jx) (es : List Expr) (f : XVs) : Prop := PA J.X es (tXV J.c J.W J.F0 J.H0 f)
abbrev SS (J : Jx) (st : Stmt) (g : XS) : Prop := PS J.X st (tXS J.c J.W J.F0 J.H0 g)
abbrev SSs (J : Jx) (st : List Stmt) (g : XS) : Prop := PSs J.X st (tXS J.c J.W J.F0 J.H0 g)
end Bk
set_option Elab.async false
set_option linter.all false
set_option maxRecDepth 100000
set_option maxHeartbeats 2000000
/-! BkC: expressions over plain data: names, constants, operators, comparisons, tests. -/
namespace Bk
open PySem L2

/-! ### names, constants -/
def xV (i : Nat) : XE := fun env => match env[i]? with
  | some (some (.sh, d)) => .ok (.sh d)
  | some (some (o, d)) => .ok ⟨o, true, d⟩
  | _ => .bad
def xC (d : D) : XE := fun _ => .ok (.sh d)
section
variable {J : Jx} {c : Ct} {W : WX} {F0 H0 : Hp} {X : Cx} {x : Str} {pos : Pos}
theorem Si.var {F H : Hp} {sg : L2.St} {env : XEnv} {i : Nat} {o : Ow} {d : D} (s : Si c F0 H0 F H sg env) (e : env[i]? = some (some (o, d))) : ∃ v, sg[i]? = some (some v) ∧ ∀ b, (o = .sh ∨ b = true) → Rv c H F H v ⟨o, b, d⟩ := by
  obtain ⟨S, s1, s2, s3⟩ := s.own
  obtain ⟨v, h1, h2⟩ := s3 i o d e
  refine ⟨v, h1, fun b hb => ?_⟩
  rcases hb with hb | hb
  · subst hb
    exact ⟨fun _ => False, h2, fun _ z => z.elim⟩
  · subst hb
    exact ⟨S i, h2, fun a sa => ⟨fun z => (by cases z), (s2 i a sa).2⟩⟩
theorem tX_var {i : Nat} {sg : L2.St} {H : Hp} {Q : VK} (h : tX c W F0 H0 (xV i) sg H Q) : tVar i sg H Q := by
  obtain ⟨F, env, si, h⟩ := h
  unfold xV at h
  cases he : env[i]? with
  | none =>
    rw [he] at h
    exact h.elim
  | some z =>
    rw [he] at h
    cases z with
    | none => exact h.elim
    | some z =>
      obtain ⟨o, d⟩ := z
      obtain ⟨v, h1, h2⟩ := si.var he
      refine ⟨v, h1, ?_⟩
      cases o with
      | sh => exact h F H v (Wd.refl si.wd.fh) (h2 false (.inl rfl))
      | li o => exact h F H v (Wd.refl si.wd.fh) (h2 true (.inr rfl))
      | tu o => exact h F H v (Wd.refl si.wd.fh) (h2 true (.inr rfl))
      | di => exact h F H v (Wd.refl si.wd.fh) (h2 true (.inr rfl))
      | io => exact h F H v (Wd.refl si.wd.fh) (h2 true (.inr rfl))
theorem se_v (i : Nat) (hN : J.X.N[i]? = some x := by rfl) (hv : Vis J.X.env.scope x := by first | exact Or.inl rfl | exact Or.inr (Or.inl rfl) | exact Or.inr (Or.inr rfl)) (hd : (x == ("__debug__" : Str)) = false := by decide) (hcd : (x == ("__classdict__" : Str)) = false := by decide) :
    SE J (.Name x pos) (xV i) := (pe_var hN hv hd hcd).imp fun _ _ _ h => tX_var h
theorem se_int {i : Int} {j : Nat} : SE J (.Constant (.int i) j pos) (xC (.int i)) := pe_int.imp fun sg H Q ⟨F, env, si, h⟩ => Aft.now si.wd.fh .int h
theorem se_bl {b : Bool} {j : Nat} : SE J (.Constant (.bool b) j pos) (xC (.bl b)) := pe_bl.imp fun sg H Q ⟨F, env, si, h⟩ => Aft.now si.wd.fh .bl h
theorem se_non {j : Nat} : SE J (.Constant .none j pos) (xC .non) := pe_non.imp fun sg H Q ⟨F, env, si, h⟩ => Aft.now si.wd.fh .non h
theorem se_str {z : Str} {j : Nat} : SE J (.Constant (.str z) j pos) (xC (.str z)) := pe_str.imp fun sg H Q ⟨F, env, si, h⟩ => Aft.now si.wd.fh .str h
end

/-! ### operators -/
def V2 (c : Ct) (r : R2) (g : Val → Val → Res Val) : Prop := ∀ (W : WX) sg F H x y a b Q, Ex F H → Rw c F H x a → Rw c F H y b → Aft c W sg F H Q (g a b) → r x y H Q
def xOp2 (g : Val → Val → Res Val) (f h : XE) : XE := fun env => (f env).bind fun a => (h env).bind fun b => g a b
section
variable {J : Jx} {c : Ct} {W : WX} {F0 H0 : Hp} {X : Cx} {pos : Pos} {a b e : Expr} {f h k : XE} {r r' : R2} {g g' : Val → Val → Res Val}
theorem tX_op2 (hg : V2 c r g) {sg : L2.St} {H : Hp} {Q : VK} (hq : tX c W F0 H0 (xOp2 g f h) sg H Q) : tOp r (tX c W F0 H0 f) (tX c W F0 H0 h) sg H Q := by
  obtain ⟨F, env, si, hq⟩ := hq
  refine ⟨F, env, si, (aft_bind hq).mono fun x H1 ⟨F1, va, w1, r1, hq1⟩ => ?_⟩
  refine ⟨F1, env, si.grow w1, (aft_bind hq1).mono fun y H2 ⟨F2, vb, w2, r2, hq2⟩ => ?_⟩
  exact hg W sg F2 H2 x y va vb Q w2.fh (r1.rw.grow w2) r2.rw hq2
theorem se_op {op : Operator} (hg : V2 J.c r g) (ho : OpR J.X (binaryOp op) r) (ha : SE J a f) (hb : SE J b h) : SE J (.BinOp a op b pos) (xOp2 g f h) := (pe_op ho ha hb).imp fun _ _ _ q => tX_op2 hg q
theorem se_cmp {op : CmpOp} (hg : V2 J.c r g) (ho : OpR J.X (compareOp op) r) (ha : SE J a f) (hb : SE J b h) (hm : behindInMarks op b = false := by first | exact nobehind _ (by decide) (by decide) | rfl) : SE J (.Compare a [op] [b] pos) (xOp2 g f h) := (pe_cmpR ho ha hb hm).imp fun _ _ _ q => tX_op2 hg q
theorem se_ix (hg : V2 J.c r g) (ho : IxR J.X r) (ha : SE J a f) (hb : SE J b h) (hs : PlainIx b := by exact fun _ _ => rfl) : SE J (.Subscript a b pos) (xOp2 g f h) := (pe_ix ho ha hb hs).imp fun _ _ _ q => tX_op2 hg q

/-! ### tests -/
def xT (f : XE) : XB := fun env => (f env).bind fun a => match a.d with
  | .bl b => .ok b
  | _ => .bad
theorem aft_T {f : XE} {env : XEnv} {sg : L2.St} {F H : Hp} {Q : Bool → Hp → Prop} (e0 : Ex F H) (hq : AftB c W sg F H Q (xT f env)) : Aft c W sg F H (fun x H1 => ∃ k, x = .bl k ∧ Q k H1) (f env) := by
  refine (aft_bindB hq).mono fun x H1 ⟨F1, va, w1, r1, hq1⟩ => ?_
  obtain ⟨o, bb, d⟩ := va
  have rr := r1.rep w1.fh
  cases rr with
  | bl => exact ⟨_, rfl, hq1 F1 H1 (Wd.refl w1.fh)⟩
  | _ => exact (show False from hq1).elim
theorem sb_val (ha : SE J e f) (he : ∀ whole, isTrue e J.X.env whole = (do let v ← whole; standAt e.pos; holding [v] (truthy v)) := by intro _; rfl) : SB J e (xT f) := (pt_val ha he).imp fun sg H Q ⟨F, env, si, hq⟩ => ⟨F, env, si, aft_T si.wd.fh hq⟩
theorem sb_cmp {op : CmpOp} (hg : V2 J.c r g) (ho : OpR J.X (compareOp op) r) (ha : SE J a f) (hb : SE J b h) (hm : behindInMarks op b = false := by first | exact nobehind _ (by decide) (by decide) | rfl) : SB J (.Compare a [op] [b] pos) (xT (xOp2 g f h)) :=
  (pt_cmpR ho ha hb hm).imp fun sg H Q ⟨F, env, si, hq⟩ => tX_op2 hg ⟨F, env, si, aft_T si.wd.fh hq⟩
def xAnd (t u : XB) : XB := fun env => (t env).bind fun b => if b = true then u env else .ok false
def xOr (t u : XB) : XB := fun env => (t env).bind fun b => if b = true then .ok true else u env
def xNotB (t : XB) : XB := fun env => (t env).bind fun b => .ok (!b)
abbrev SW (J : Jx) (e : Expr) (f : XB) : Prop := PW J.X e (tXB J.c J.W J.F0 J.H0 f)
variable {t u : XB} {rest : List Expr}
theorem sb_w (h : SW J e t) : SB J e t := PW.pt h
theorem sw_and1 (ha : SB J a t) : SW J (.BoolOp .And [a] pos) t := pw_and1 ha
theorem sw_or1 (ha : SB J a t) : SW J (.BoolOp .Or [a] pos) t := pw_or1 ha
theorem sw_and (ha : SB J a t) (hb : SW J (.BoolOp .And (b :: rest) pos) u) : SW J (.BoolOp .And (a :: b :: rest) pos) (xAnd t u) := PW.imp (pw_and ha hb) fun sg H Q ⟨F, env, si, hq⟩ => ⟨F, env, si, by
  have z := aft_bindBB hq
  cases q : t env with
  | ok k =>
    rw [q] at z
    intro F1 H1 w
    obtain ⟨F2, w2, z2⟩ := z F1 H1 w
    cases k with
    | true => exact iteT ⟨F2, env, si.grow w2, z2⟩
    | false => exact iteF (z2 F2 H1 (Wd.refl w2.fh))
  | exc k =>
    rw [q] at z
    exact z
  | bad =>
    rw [q] at z
    exact z⟩
theorem sw_or (ha : SB J a t) (hb : SW J (.BoolOp .Or (b :: rest) pos) u) : SW J (.BoolOp .Or (a :: b :: rest) pos) (xOr t u) := PW.imp (pw_or ha hb) fun sg H Q ⟨F, env, si, hq⟩ => ⟨F, env, si, by
  have z := aft_bindBB hq
  cases q : t env with
  | ok k =>
    rw [q] at z
    intro F1 H1 w
    obtain ⟨F2, w2, z2⟩ := z F1 H1 w
    cases k with
    | true => exact iteT (z2 F2 H1 (Wd.refl w2.fh))
    | false => exact iteF ⟨F2, env, si.grow w2, z2⟩
  | exc k =>
    rw [q] at z
    exact z
  | bad =>
    rw [q] at z
    exact z⟩
theorem sb_not (ha : SB J a t) : SB J (.UnaryOp .Not a pos) (xNotB t) := (pt_not ha).imp fun sg H Q ⟨F, env, si, hq⟩ => ⟨F, env, si, by
  have z := aft_bindBB hq
  cases q : t env with
  | ok k =>
    rw [q] at z
    intro F1 H1 w
    obtain ⟨F2, w2, z2⟩ := z F1 H1 w
    exact z2 F2 H1 (Wd.refl w2.fh)
  | exc k =>
    rw [q] at z
    exact z
  | bad =>
    rw [q] at z
    exact z⟩
/-- a < b < c -/
def xChain (g g' : Val → Val → Res Val) (f h k : XE) : XE := fun env => (f env).bind fun a => (h env).bind fun b => (g a b).bind fun z => match z.d with
  | .bl true => (k env).bind fun e => (g' b e)
  | .bl false => .ok (.sh (.bl false))
  | _ => .bad
theorem tX_chain (hg : V2 c r g) (hg' : V2 c r' g') {sg : L2.St} {H : Hp} {Q : VK} (hq : tX c W F0 H0 (xChain g g' f h k) sg H Q) : tChain r r' (tX c W F0 H0 f) (tX c W F0 H0 h) (tX c W F0 H0 k) sg H Q := by
  obtain ⟨F, env, si, hq⟩ := hq
  refine ⟨F, env, si, (aft_bind hq).mono fun x H1 ⟨F1, va, w1, r1, hq1⟩ => ?_⟩
  refine ⟨F1, env, si.grow w1, (aft_bind hq1).mono fun y H2 ⟨F2, vb, w2, r2, hq2⟩ => ?_⟩
  refine hg W sg F2 H2 x y va vb _ w2.fh (r1.rw.grow w2) r2.rw ((aft_bind hq2).mono fun z H3 ⟨F3, vz, w3, r3, hq3⟩ => ?_)
  obtain ⟨oz, bz, dz⟩ := vz
  have rr := r3.rep w3.fh
  cases rr with
  | @bl kk =>
    refine ⟨kk, rfl, ?_⟩
    cases kk with
    | false => exact iteF (Aft.now w3.fh .bl hq3)
    | true =>
      refine iteT ⟨F3, env, ((si.grow w1).grow w2).grow w3, (aft_bind hq3).mono fun ez H4 ⟨F4, ve, w4, r4, hq4⟩ => ?_⟩
      exact hg' W sg F4 H4 y ez vb ve _ w4.fh ((r2.rw.grow w3).grow w4) r4.rw hq4
  | _ => exact (show False from hq3).elim
end
end Bk
set_option Elab.async false
set_option linter.all false
set_option maxRecDepth 100000
set_option maxHeartbeats 2000000
/-! BkD: chains, and, or, not as values, conditional expressions, arguments, displays, calls, fields. -/
namespace Bk
open PySem L2

theorem AftV.mono {c : Ct} {W : WX} {sg : L2.St} {F H : Hp} {Q Q' : List V → Hp → Prop} {r : Res (List Val)} (h : AftV c W sg F H Q r) (k : ∀ u H', Q u H' → Q' u H') : AftV c W sg F H Q' r := by
  cases r with
  | ok r => exact fun F' H' u w' rv => k u H' (h F' H' u w' rv)
  | exc k => exact h
  | bad => exact h
theorem AftA.mono {c : Ct} {W : WX} {sg : L2.St} {F H : Hp} {Q Q' : List V → Hp → Prop} {r : Res (List D)} (h : AftA c W sg F H Q r) (k : ∀ u H', Q u H' → Q' u H') : AftA c W sg F H Q' r := by
  cases r with
  | ok r => exact fun F' H' u w' rv => k u H' (h F' H' u w' rv)
  | exc k => exact h
  | bad => exact h
theorem AftB.mono {c : Ct} {W : WX} {sg : L2.St} {F H : Hp} {Q Q' : Bool → Hp → Prop} {r : Res Bool} (h : AftB c W sg F H Q r) (k : ∀ u H', Q u H' → Q' u H') : AftB c W sg F H Q' r := by
  cases r with
  | ok r => exact fun F' H' w' => k r H' (h F' H' w')
  | exc k => exact h
  | bad => exact h

section
variable {J : Jx} {c : Ct} {W : WX} {F0 H0 : Hp} {X : Cx} {pos : Pos} {a b e : Expr} {es : List Expr} {f h k : XE} {t u : XB} {r r' : R2} {g g' : Val → Val → Res Val}
theorem se_chain {op op' : CmpOp} {e : Expr} (hg : V2 J.c r g) (hg' : V2 J.c r' g') (ho : OpR J.X (compareOp op) r) (ho' : OpR J.X (compareOp op') r') (ha : SE J a f) (hb : SE J b h) (hc : SE J e k)
    (hm : lastMarks [op, op'] [b, e] = false := by with_unfolding_all rfl) : SE J (.Compare a [op, op'] [b, e] pos) (xChain g g' f h k) := (pe_chain ho ho' ha hb hc hm).imp fun _ _ _ q => tX_chain hg hg' q
theorem sb_chain {op op' : CmpOp} {e : Expr} (hg : V2 J.c r g) (hg' : V2 J.c r' g') (ho : OpR J.X (compareOp op) r) (ho' : OpR J.X (compareOp op') r') (ha : SE J a f) (hb : SE J b h) (hc : SE J e k)
    (hm : lastMarks [op, op'] [b, e] = false := by with_unfolding_all rfl) : SB J (.Compare a [op, op'] [b, e] pos) (xT (xChain g g' f h k)) :=
  (pt_chain ho ho' ha hb hc hm).imp fun sg H Q ⟨F, env, si, hq⟩ => tX_chain hg hg' ⟨F, env, si, aft_T si.wd.fh hq⟩
/-! ### and, or, not as values -/
def xAndV (f h : XE) : XE := fun env => (f env).bind fun a => match a.d with
  | .bl true => h env
  | .bl false => .ok (.sh (.bl false))
  | _ => .bad
def xOrV (f h : XE) : XE := fun env => (f env).bind fun a => match a.d with
  | .bl true => .ok (.sh (.bl true))
  | .bl false => h env
  | _ => .bad
def xNotV (f : XE) : XE := fun env => (f env).bind fun a => match a.d with
  | .bl b => .ok (.sh (.bl (!b)))
  | _ => .bad
variable {rest : List Expr}
theorem se_one {op} (h : SE J a f) : SE J (.BoolOp op [a] pos) f := pe_one h
theorem se_and (ha : SE J a f) (hb : SE J (.BoolOp .And (b :: rest) pos) h) : SE J (.BoolOp .And (a :: b :: rest) pos) (xAndV f h) := (pe_and ha hb).imp fun sg H Q ⟨F, env, si, hq⟩ => ⟨F, env, si, (aft_bind hq).mono fun x H1 ⟨F1, va, w1, r1, hq1⟩ => by
  obtain ⟨o, bb, d⟩ := va
  have rr := r1.rep w1.fh
  cases rr with
  | @bl kk =>
    refine ⟨kk, rfl, ?_⟩
    cases kk with
    | true => exact iteT ⟨F1, env, si.grow w1, hq1⟩
    | false => exact iteF (Aft.now w1.fh .bl hq1)
  | _ => exact (show False from hq1).elim⟩
theorem se_or (ha : SE J a f) (hb : SE J (.BoolOp .Or (b :: rest) pos) h) : SE J (.BoolOp .Or (a :: b :: rest) pos) (xOrV f h) := (pe_or ha hb).imp fun sg H Q ⟨F, env, si, hq⟩ => ⟨F, env, si, (aft_bind hq).mono fun x H1 ⟨F1, va, w1, r1, hq1⟩ => by
  obtain ⟨o, bb, d⟩ := va
  have rr := r1.rep w1.fh
  cases rr with
  | @bl kk =>
    refine ⟨kk, rfl, ?_⟩
    cases kk with
    | true => exact iteT (Aft.now w1.fh .bl hq1)
    | false => exact iteF ⟨F1, env, si.grow w1, hq1⟩
  | _ => exact (show False from hq1).elim⟩
theorem se_not (ha : SE J a f) : SE J (.UnaryOp .Not a pos) (xNotV f) := (pe_not ha).imp fun sg H Q ⟨F, env, si, hq⟩ => ⟨F, env, si, (aft_bind hq).mono fun x H1 ⟨F1, va, w1, r1, hq1⟩ => by
  obtain ⟨o, bb, d⟩ := va
  have rr := r1.rep w1.fh
  cases rr with
  | @bl kk => exact ⟨kk, rfl, Aft.now w1.fh .bl hq1⟩
  | _ => exact (show False from hq1).elim⟩
theorem se_neg {i : Int} {n : Nat} {p : Pos} : SE J (.UnaryOp .USub (.Constant (.int i) n p) pos) (xC (.int (-i))) := (pe_un un_neg pe_int).imp fun sg H Q ⟨F, env, si, hq⟩ => ⟨i, rfl, Aft.now si.wd.fh .int hq⟩
/-- a if t else b -/
def xIf (t : XB) (f h : XE) : XE := fun env => (t env).bind fun b => if b = true then f env else h env
theorem se_if (hc : SB J e t) (ha : SE J a f) (hb : SE J b h) : SE J (.IfExp e a b pos) (xIf t f h) := (pe_ifExp hc ha hb).imp fun sg H Q ⟨F, env, si, hq⟩ => ⟨F, env, si, (aft_bindBX hq).mono fun k H1 ⟨F1, w1, hq1⟩ => by
  cases k with
  | true => exact iteT ⟨F1, env, si.grow w1, hq1⟩
  | false => exact iteF ⟨F1, env, si.grow w1, hq1⟩⟩

/-! ### arguments -/
def xANil : XA := fun _ => .ok []
def xACons (f : XE) (fs : XA) : XA := fun env => (f env).bind fun a => if a.b = true then .bad else (fs env).bind fun ds => .ok (a.d :: ds)
def xVNil : XVs := fun _ => .ok []
def xVCons (f : XE) (fs : XVs) : XVs := fun env => (f env).bind fun a => (fs env).bind fun ds => .ok (a :: ds)
theorem sa_nil : SA J [] xANil := pa_nil.imp fun sg H Q ⟨F, env, si, hq⟩ => hq F H [] (Wd.refl si.wd.fh) .nil
theorem sv_nil : SV J [] xVNil := pa_nil.imp fun sg H Q ⟨F, env, si, hq⟩ => hq F H [] (Wd.refl si.wd.fh) .nil
theorem aft_bindVA {Q : List V → Hp → Prop} {sg : L2.St} {F H : Hp} {f : Res Val} {g : Val → Res (List D)} (h : AftA c W sg F H Q (f.bind g)) : Aft c W sg F H (fun x Hx => ∃ F1 a, Wd F H F1 Hx ∧ Rv c H F1 Hx x a ∧ AftA c W sg F H Q (g a)) f := by
  cases f with
  | ok a => exact fun F1 H1 u w rv => ⟨F1, a, w, rv, h⟩
  | exc k => exact h
  | bad => exact h
theorem aft_bindVV {Q : List V → Hp → Prop} {sg : L2.St} {F H : Hp} {f : Res Val} {g : Val → Res (List Val)} (h : AftV c W sg F H Q (f.bind g)) : Aft c W sg F H (fun x Hx => ∃ F1 a, Wd F H F1 Hx ∧ Rv c H F1 Hx x a ∧ AftV c W sg F1 Hx Q (g a)) f := by
  cases f with
  | ok a => exact fun F1 H1 u w rv => ⟨F1, a, w, rv, AftV.grow w h⟩
  | exc k => exact h
  | bad => exact h
theorem sa_cons {fs : XA} (ha : SE J e f) (hr : SA J es fs) (hs : starEach (e :: es) J.X.env = (false, eval e J.X.env) :: starEach es J.X.env := by rfl) : SA J (e :: es) (xACons f fs) := (pa_cons ha hr hs).imp fun sg H Q ⟨F, env, si, hq⟩ => ⟨F, env, si, (aft_bindVA hq).mono fun x H1 ⟨F1, va, w1, r1, hq1⟩ => by
  obtain ⟨o, bb, d⟩ := va
  cases bb with
  | true => exact (show False from hq1).elim
  | false =>
    obtain ⟨F2, w2, w3, r2⟩ := r1.share w1
    have hq2 : AftA J.c J.W sg F2 H1 Q ((fs env).bind fun ds => .ok (d :: ds)) := AftA.grow w2 hq1
    refine ⟨F2, env, si.grow w2, ?_⟩
    cases q : fs env with
    | ok ds =>
      rw [q] at hq2
      exact fun F3 H3 us w4 r4 => hq2 F3 H3 (x :: us) w4 (.cons (r2.mono w4.f) r4)
    | exc k =>
      rw [q] at hq2
      exact hq2
    | bad =>
      rw [q] at hq2
      exact hq2⟩
theorem sv_cons {fs : XVs} (ha : SE J e f) (hr : SV J es fs) (hs : starEach (e :: es) J.X.env = (false, eval e J.X.env) :: starEach es J.X.env := by rfl) : SV J (e :: es) (xVCons f fs) := (pa_cons ha hr hs).imp fun sg H Q ⟨F, env, si, hq⟩ => ⟨F, env, si, (aft_bindVV hq).mono fun x H1 ⟨F1, va, w1, r1, hq1⟩ => by
  refine ⟨F1, env, si.grow w1, ?_⟩
  cases q : fs env with
  | ok ds =>
    rw [q] at hq1
    exact fun F3 H3 us w4 r4 => hq1 F3 H3 (x :: us) w4 (.cons (r1.rw.grow w4) r4)
  | exc k =>
    rw [q] at hq1
    exact hq1
  | bad =>
    rw [q] at hq1
    exact hq1⟩

/-! ### displays -/
def xTup (fs : XA) : XE := fun env => (fs env).bind fun ds => if ds.length ≤ 100000 then .ok (.sh (.tup ds)) else .bad
def xLst (fs : XA) : XE := fun env => (fs env).bind fun ds => if ds.length ≤ 100000 then .ok ⟨.li .sh, false, .lst ds⟩ else .bad
theorem se_tup {fs : XA} {x1 : Nat} (ha : SA J es fs) : SE J (.Tuple es x1 pos) (xTup fs) := (pe_tup ha).imp fun sg H Q ⟨F, env, si, hq⟩ => ⟨F, env, si, (aft_bindA hq).mono fun us H1 ⟨F1, ds, w1, r1, _, hq1⟩ => by
  by_cases hl : ds.length ≤ 100000
  · rw [if_pos hl] at hq1
    exact ⟨by rw [r1.length]; exact Evl.sz_of hl, fun p hp => Aft.newT w1.fh hp r1 hq1⟩
  · rw [if_neg hl] at hq1
    exact hq1.elim⟩
theorem se_lst {fs : XA} (ha : SA J es fs) : SE J (.List es pos) (xLst fs) := (pe_lst ha).imp fun sg H Q ⟨F, env, si, hq⟩ => ⟨F, env, si, (aft_bindA hq).mono fun us H1 ⟨F1, ds, w1, r1, _, hq1⟩ => by
  by_cases hl : ds.length ≤ 100000
  · rw [if_pos hl] at hq1
    exact ⟨by rw [r1.length]; exact Evl.sz_of hl, fun p hp => Aft.newL w1.fh hp r1 hq1⟩
  · rw [if_neg hl] at hq1
    exact hq1.elim⟩

/-! ### built-in calls, by values -/
def VN (c : Ct) (r : List V → Hp → VK → Prop) (g : List Val → Res Val) : Prop := ∀ (W : WX) sg F H us rs Q, Ex F H → Rws c F H us rs → Aft c W sg F H Q (g rs) → r us H Q
def xBlt (g : List Val → Res Val) (fs : XVs) : XE := fun env => (fs env).bind g
variable {x : Str} {p : Pos} {rl : List V → Hp → VK → Prop} {gl : List Val → Res Val} {fs : XVs} {id T : String}
theorem se_blt (hg : VN J.c rl gl) (hc : CallR J.X (.builtin id) rl) (hx : Gl J.X x) (hm : J.X.mg x = none) (hv : bootBuiltins x = some (.builtin id)) (ha : SV J (e :: es) fs) (hn : x ≠ "__name__" := by decide) (hdb : (x == ("__debug__" : Str)) = false := by decide)
    (he : starEach (e :: es) J.X.env = (false, eval e J.X.env) :: starEach es J.X.env := by rfl) (hpl : (backTo pos (starEach es J.X.env)).any (·.1) = false := by rfl) : SE J (.Call (.Name x p) (e :: es) [] pos) (xBlt gl fs) :=
  (pe_callB hc hx hm hv ha hn hdb he hpl).imp fun sg H Q ⟨F, env, si, hq⟩ => ⟨F, env, si, (aft_bindV hq).mono fun us H1 ⟨F1, ds, w1, r1, hq1⟩ => hg _ sg F1 H1 us ds Q w1.fh r1 hq1⟩
theorem se_bty (hg : VN J.c rl gl) (hc : CallR J.X (.type T) rl) (hx : Gl J.X x) (hm : J.X.mg x = none) (hv : bootBuiltins x = some (.type T)) (ha : SV J (e :: es) fs) (hn : x ≠ "__name__" := by decide) (hdb : (x == ("__debug__" : Str)) = false := by decide)
    (he : starEach (e :: es) J.X.env = (false, eval e J.X.env) :: starEach es J.X.env := by rfl) (hpl : (backTo pos (starEach es J.X.env)).any (·.1) = false := by rfl) : SE J (.Call (.Name x p) (e :: es) [] pos) (xBlt gl fs) :=
  (pe_callTy hc hx hm hv ha hn hdb he hpl).imp fun sg H Q ⟨F, env, si, hq⟩ => ⟨F, env, si, (aft_bindV hq).mono fun us H1 ⟨F1, ds, w1, r1, hq1⟩ => hg _ sg F1 H1 us ds Q w1.fh r1 hq1⟩
/-- isinstance(e, T): the class is no datum -/
def xIs (g : D → Res Bool) (f : XE) : XE := fun env => (f env).bind fun a => (g a.d).bind fun b => .ok (.sh (.bl b))

/-! ### a def's promise, its call -/
def spOf (c : Ct) (F : XF) : Sp := fun vs H Q E => ∃ F0 ds, Ex F0 H ∧ Reps c F0 vs ds ∧ Aft c (fun cls d _ H => E cls d H) [] F0 H Q (F ds)
/-- the def nm of the text keeps what F says -/
structure Gf (P : Program) (w : World) (K : PySem.W.Frag) (mg : Str → Option Value) (base : Heap) (c : Ct) (nm : Str) (k : Nat) (ps : List Str) (F : XF) : Prop where
  ex : ∃ f fd, FnOk P w K mg base (L2.CX P w) k f fd ps (spOf c F) ∧ mg nm = some (.ref f) ∧ PySem.W.keepIn K (.ref f) = true ∧ Binds K fd ps []
def xCall (F : XF) (fs : XA) : XE := fun env => (fs env).bind F
theorem Aft.sg {sg sg' : L2.St} {F H : Hp} {Q : VK} {r : Res Val} {W' : WX} (hw : ∀ cls d H, W cls d sg H → W' cls d sg' H) (h : Aft c W sg F H Q r) : Aft c W' sg' F H Q r := by
  cases r with
  | ok r => exact h
  | exc k => exact fun F' H' w => hw _ _ _ (h F' H' w)
  | bad => exact h
theorem se_call {nm : Str} {k : Nat} {ps : List Str} {F : XF} {fs : XA} (g : Gf J.X.prog J.X.w J.X.K J.X.mg J.X.base J.c nm k ps F) (hr : Room k J.X.A) (tk : Takes J.X J.W) (hx : Gl J.X nm) (ha : SA J (e :: es) fs) (hdb : (nm == ("__debug__" : Str)) = false := by decide)
    (he : starEach (e :: es) J.X.env = (false, eval e J.X.env) :: starEach es J.X.env := by rfl) (hpl : (backTo pos (starEach es J.X.env)).any (·.1) = false := by rfl) : SE J (.Call (.Name nm p) (e :: es) [] pos) (xCall F fs) := by
  obtain ⟨f, fd, G, m, kp, b⟩ := g.ex
  exact (pe_callS G hr hx m kp b (fun s => passAt tk s) ha hdb he hpl).imp fun sg H Q ⟨F1, env, si, hq⟩ => ⟨F1, env, si, (aft_bindA hq).mono fun us H1 ⟨F2, ds, w1, r1, _, hq1⟩ => ⟨F2, ds, w1.fh, r1, hq1.sg fun _ _ _ z => z⟩⟩

/-! ### fields -/
def pileNames : List Str := ["columns", "rows", "wide", "high", "heaps", "folds", "cuts"]
theorem lookup_zip : ∀ {ks : List Str} {vs : List V} {n : Nat} {k : Str}, ks.Nodup → ks[n]? = some k → vs.length = ks.length → (ks.zip vs).lookup k = vs[n]?
  | [], _, _, _, _, h, _ => by simp at h
  | _ :: _, [], _, _, _, _, hl => by simp at hl
  | y :: ks, v :: vs, 0, k, _, h, _ => by
    simp only [List.getElem?_cons_zero, Option.some.injEq] at h
    subst h
    simp [List.lookup]
  | y :: ks, v :: vs, n + 1, k, nd, h, hl => by
    have nd' := List.nodup_cons.mp nd
    have hk : ks[n]? = some k := by simpa using h
    have ne : (k == y) = false := by
      have : k ≠ y := fun z => nd'.1 (z ▸ List.mem_of_getElem? hk)
      simpa using this
    rw [List.zip_cons_cons, List.lookup_cons, ne]
    simpa using lookup_zip nd'.2 hk (by simpa using hl)
/-- what the top says of Pile -/
structure PileOk (K : PySem.W.Frag) (C : Addr) : Prop where
  cl : Cls K C
  no : ∀ f ∈ pileNames, NoAttr K C f
def D.isSc : D → Bool
  | .non => true
  | .bl _ => true
  | .int _ => true
  | .str _ => true
  | _ => false
theorem Rep.isSc {F F' : Hp} {u : V} {d : D} (h : Rep c F u d) (hs : d.isSc = true) : Rep c F' u d := by
  cases h with
  | non => exact .non
  | bl => exact .bl
  | int => exact .int
  | str => exact .str
  | _ => exact nomatch hs
/-- a part of a: shared as a is -/
def Val.part (a : Val) (d : D) : Res Val := match a.o with
  | .sh => .ok (.sh d)
  | .li .sh => .ok (.sh d)
  | _ => if d.isSc = true then .ok (.sh d) else .bad
def pFld (n : Nat) (a : Val) : Res Val := match a.o, a.d with
  | .sh, .obj xs => match xs[n]? with
    | some d => .ok (.sh d)
    | none => .bad
  | _, _ => .bad
def xFld (n : Nat) (f : XE) : XE := fun env => (f env).bind (pFld n)
theorem se_fld (n : Nat) {fn : Str} (hK : J.X.K = J.c.K) (T : PileOk J.c.K J.c.C) (ha : SE J e f) (hn : pileNames[n]? = some fn := by rfl) (hb : attributeBase e fn J.X.env (eval e J.X.env) = eval e J.X.env := by rfl) : SE J (.Attribute e fn pos) (xFld n f) := (pe_fld ha hb).imp fun sg H Q ⟨F, env, si, hq⟩ => ⟨F, env, si, (aft_bind hq).mono fun x H1 ⟨F1, va, w1, r1, hq1⟩ => by
  obtain ⟨o, bb, d⟩ := va
  cases o with
  | sh =>
    have rr : Rep J.c F1 x d := r1.repF
    cases rr with
    | @obj a dx vs xs ha hr hl =>
      have hq2 : Aft J.c J.W sg F1 H1 Q (match xs[n]? with | some d => .ok (.sh d) | none => .bad) := hq1
      cases hx : xs[n]? with
      | none =>
        rw [hx] at hq2
        exact hq2.elim
      | some y =>
        rw [hx] at hq2
        obtain ⟨v, hv, rv⟩ := hr.getD hx
        rw [hK]
        refine ⟨a, J.c.C, dx, _, v, rfl, w1.fh _ _ ha, T.cl, T.no fn (List.mem_of_getElem? hn), ?_, Aft.now w1.fh rv hq2⟩
        exact (lookup_zip (by decide +kernel) hn (by rw [hl]; rfl)).trans hv
    | _ => exact (show False from hq1).elim
  | _ => exact (show False from by cases d <;> exact hq1).elim⟩
end
end Bk
set_option Elab.async false
set_option linter.all false
set_option maxRecDepth 100000
set_option maxHeartbeats 4000000
/-! BkE: the operators and built-ins by plain data. -/
namespace Bk
open PySem L2

section
variable {c : Ct} {W : WX} {sg : L2.St} {F H : Hp} {u : V} {r : Val} {d : D} {Q : VK}
theorem Rw.dint (h : Rw c F H u r) (e : Ex F H) {i : Int} (hd : r.d = .int i) : u = .int i := by
  have q := h.rep e
  rw [hd] at q
  cases q
  rfl
theorem Rw.dstr (h : Rw c F H u r) (e : Ex F H) {x : Str} (hd : r.d = .str x) : u = .str x := by
  have q := h.rep e
  rw [hd] at q
  cases q
  rfl
theorem Rw.dbl (h : Rw c F H u r) (e : Ex F H) {b : Bool} (hd : r.d = .bl b) : u = .bl b := by
  have q := h.rep e
  rw [hd] at q
  cases q
  rfl
/-- a part of a shared thing -/
theorem Rw.sh1 {b : Bool} (h : Rw c F H u ⟨.sh, b, d⟩) : Rep c F u d := by
  obtain ⟨S, h1, h2⟩ := h
  exact h1

/-! ### whole numbers -/
def pI2 (g : Int → Int → Res Val) (a b : Val) : Res Val := match a.d, b.d with
  | .int i, .int j => g i j
  | _, _ => .bad
theorem v2_int {C : Int → Int → Prop} [∀ i j, Decidable (C i j)] {f : Int → Int → V} {g : Int → Int → Res Val} (hf : ∀ i j, C i j → ∃ d, g i j = .ok (.sh d) ∧ ∀ F, Rep c F (f i j) d) (hb : ∀ i j, ¬ C i j → g i j = .bad) : V2 c (rI C f) (pI2 g) := by
  intro W sg F H x y a b Q e ra rb h
  obtain ⟨oa, ba, da⟩ := a
  obtain ⟨ob, bb, db⟩ := b
  have ra' := ra.rep e
  have rb' := rb.rep e
  cases ra' with
  | @int i =>
    cases rb' with
    | @int j =>
      have h1 : Aft c W sg F H Q (g i j) := h
      by_cases hc : C i j
      · obtain ⟨d, e1, r1⟩ := hf i j hc
        rw [e1] at h1
        exact ⟨i, j, rfl, rfl, hc, Aft.now e (r1 F) h1⟩
      · rw [hb i j hc] at h1
        exact h1.elim
    | _ => exact (show False from h).elim
  | _ => exact (show False from by cases db <;> exact h).elim
theorem v2_int0 {f : Int → Int → V} {g : Int → Int → Res Val} (hf : ∀ i j, ∃ d, g i j = .ok (.sh d) ∧ ∀ F, Rep c F (f i j) d) : V2 c (rI0 f) (pI2 g) := by
  intro W sg F H x y a b Q e ra rb h
  obtain ⟨i, j, h1, h2, _, h3⟩ := v2_int (C := fun _ _ => True) (fun i j _ => hf i j) (fun i j z => (z trivial).elim) W sg F H x y a b Q e ra rb h
  exact ⟨i, j, h1, h2, h3⟩
def pSub : Val → Val → Res Val := pI2 fun i j => .ok (.sh (.int (i - j)))
theorem v2_sub : V2 c (rI0 fun i j => .int (i - j)) pSub := v2_int0 fun i j => ⟨_, rfl, fun _ => .int⟩
instance (i j : Int) : Decidable (CMul i j) := by unfold CMul; infer_instance
instance (i j : Int) : Decidable (CDiv i j) := by unfold CDiv; infer_instance
instance (i j : Int) : Decidable (CPow i j) := by unfold CPow; infer_instance
def pMul : Val → Val → Res Val := pI2 fun i j => if CMul i j then .ok (.sh (.int (i * j))) else .bad
theorem v2_mul : V2 c (rI CMul fun i j => .int (i * j)) pMul := v2_int (fun i j h => ⟨_, if_pos h, fun _ => .int⟩) fun i j h => if_neg h
def pDiv : Val → Val → Res Val := pI2 fun i j => if CDiv i j then .ok (.sh (.int (i / j))) else .bad
theorem v2_div : V2 c (rI CDiv fun i j => .int (i / j)) pDiv := v2_int (fun i j h => ⟨_, if_pos h, fun _ => .int⟩) fun i j h => if_neg h
def pMod : Val → Val → Res Val := pI2 fun i j => if 0 < j then .ok (.sh (.int (i % j))) else .bad
theorem v2_mod : V2 c (rI (fun _ j => 0 < j) fun i j => .int (i % j)) pMod := v2_int (fun i j h => ⟨_, if_pos h, fun _ => .int⟩) fun i j h => if_neg h
def pPow : Val → Val → Res Val := pI2 fun i j => if CPow i j then .ok (.sh (.int (i ^ j.toNat))) else .bad
theorem v2_pow : V2 c (rI CPow fun i j => .int (i ^ j.toNat)) pPow := v2_int (fun i j h => ⟨_, if_pos h, fun _ => .int⟩) fun i j h => if_neg h
def pLt : Val → Val → Res Val := pI2 fun i j => .ok (.sh (.bl (decide (i < j))))
theorem v2_lt : V2 c (rI0 fun i j => .bl (decide (i < j))) pLt := v2_int0 fun i j => ⟨_, rfl, fun _ => .bl⟩
def pLe : Val → Val → Res Val := pI2 fun i j => .ok (.sh (.bl (decide (i ≤ j))))
theorem v2_le : V2 c (rI0 fun i j => .bl (decide (i ≤ j))) pLe := v2_int0 fun i j => ⟨_, rfl, fun _ => .bl⟩
def pGt : Val → Val → Res Val := pI2 fun i j => .ok (.sh (.bl (decide (j < i))))
theorem v2_gt : V2 c (rI0 fun i j => .bl (decide (j < i))) pGt := v2_int0 fun i j => ⟨_, rfl, fun _ => .bl⟩
def pGe : Val → Val → Res Val := pI2 fun i j => .ok (.sh (.bl (decide (j ≤ i))))
theorem v2_ge : V2 c (rI0 fun i j => .bl (decide (j ≤ i))) pGe := v2_int0 fun i j => ⟨_, rfl, fun _ => .bl⟩

/-! ### + -/
abbrev rAddA : R2 := fun x y H Q => (rI0 fun i j => .int (i + j)) x y H Q ∨ (∃ i j, x = .str i ∧ y = .str j ∧ i.length + j.length ≤ sizeLine ∧ Q (.str (i ++ j)) H) ∨ rCat x y H Q
theorem op_addA {X : Cx} : OpR X (binaryOp .Add) rAddA := op_add.or (op_add_str.or op_cat)
def pAdd (a b : Val) : Res Val := match a.d, b.d with
  | .int i, .int j => .ok (.sh (.int (i + j)))
  | .str x, .str y => if x.length + y.length ≤ 100000 then .ok (.sh (.str (x ++ y))) else .bad
  | .lst _, .lst _ => match a.its, b.its with
    | some xs, some ys => if xs.length + ys.length ≤ 100000 then .ok ⟨.li .sh, false, .lst (xs ++ ys)⟩ else .bad
    | _, _ => .bad
  | _, _ => .bad
theorem v2_add : V2 c rAddA pAdd := by
  intro W sg F H x y a b Q e ra rb h
  have ra' := ra.rep e
  have rb' := rb.rep e
  unfold pAdd at h
  cases hda : a.d with
  | int i =>
    cases hdb : b.d with
    | int j =>
      rw [hda, hdb] at h
      rw [ra.dint e hda, rb.dint e hdb]
      exact .inl ⟨i, j, rfl, rfl, Aft.now e .int h⟩
    | _ => rw [hda, hdb] at h; exact h.elim
  | str i =>
    cases hdb : b.d with
    | str j =>
      rw [hda, hdb] at h
      rw [ra.dstr e hda, rb.dstr e hdb]
      by_cases hl : i.length + j.length ≤ 100000
      · replace h : Aft c W sg F H Q (if i.length + j.length ≤ 100000 then .ok (.sh (.str (i ++ j))) else .bad) := h
        rw [if_pos hl] at h
        exact .inr (.inl ⟨i, j, rfl, rfl, Evl.sz_of hl, Aft.now e .str h⟩)
      · replace h : Aft c W sg F H Q (if i.length + j.length ≤ 100000 then .ok (.sh (.str (i ++ j))) else .bad) := h
        rw [if_neg hl] at h
        exact h.elim
    | _ => rw [hda, hdb] at h; exact h.elim
  | lst xs =>
    cases hdb : b.d with
    | lst ys =>
      rw [hda, hdb] at h
      replace h : Aft c W sg F H Q (match a.its, b.its with
        | some xs, some ys => if xs.length + ys.length ≤ 100000 then .ok ⟨.li .sh, false, .lst (xs ++ ys)⟩ else .bad
        | _, _ => .bad) := h
      cases hia : a.its with
      | none => rw [hia] at h; exact h.elim
      | some xs' =>
        cases hib : b.its with
        | none => rw [hia, hib] at h; exact h.elim
        | some ys' =>
          rw [hia, hib] at h
          replace h : Aft c W sg F H Q (if xs'.length + ys'.length ≤ 100000 then .ok ⟨.li .sh, false, .lst (xs' ++ ys')⟩ else .bad) := h
          obtain ⟨e1, pa, vs, rfl, ha, r1⟩ := ra.items e hia
          obtain ⟨e2, pb, us, rfl, hb, r2⟩ := rb.items e hib
          by_cases hl : xs'.length + ys'.length ≤ 100000
          · rw [if_pos hl] at h
            refine .inr (.inr ⟨pa, pb, vs, us, rfl, rfl, ha, hb, ?_, fun p hp => Aft.newL e hp (r1.append r2) h⟩)
            rw [r1.length, r2.length]
            exact Evl.sz_of hl
          · rw [if_neg hl] at h
            exact h.elim
    | _ => rw [hda, hdb] at h; exact h.elim
  | _ => rw [hda] at h; exact h.elim

/-! ### == -/
def eqvL (f : D → D → Bool) : List D → List D → Bool
  | [], [] => true
  | x :: xs, y :: ys => f x y && eqvL f xs ys
  | _, _ => false
def D.eqv : Nat → D → D → Bool
  | _, .non, .non => true
  | _, .bl a, .bl b => a == b
  | _, .bl a, .int j => (if a then 1 else 0) == j
  | _, .int i, .bl b => i == (if b then 1 else 0)
  | _, .int i, .int j => i == j
  | _, .str x, .str y => x == y
  | n + 1, .lst xs, .lst ys => eqvL (D.eqv n) xs ys
  | n + 1, .tup xs, .tup ys => eqvL (D.eqv n) xs ys
  | _, _, _ => false
def D.fine : Nat → D → Bool
  | _, .non => true
  | _, .bl _ => true
  | _, .int _ => true
  | _, .str x => PyData.strOk x
  | n + 1, .lst xs => xs.all (D.fine n)
  | n + 1, .tup xs => xs.all (D.fine n)
  | _, _ => false
def D.py : Nat → D → PyData
  | _, .non => .none
  | _, .bl b => .bool b
  | _, .int i => .int i
  | _, .str x => .str x
  | n + 1, .lst xs => .list (xs.map (D.py n))
  | n + 1, .tup xs => .tuple (xs.map (D.py n))
  | _, _ => .dict []
theorem eqvAll_of {f : D → D → Bool} {p q : D → PyData} : ∀ {xs ys : List D}, (∀ x ∈ xs, ∀ y ∈ ys, PyData.eqv (p x) (q y) = f x y) → PyData.eqvAll (xs.map p) (ys.map q) = eqvL f xs ys
  | [], [], _ => by simp only [List.map_nil, PyData.eqvAll, eqvL]
  | [], _ :: _, _ => by simp only [List.map_nil, List.map_cons, PyData.eqvAll, eqvL]
  | _ :: _, [], _ => by simp only [List.map_nil, List.map_cons, PyData.eqvAll, eqvL]
  | x :: xs, y :: ys, h => by
    rw [List.map_cons, List.map_cons, PyData.eqvAll, eqvL, h x List.mem_cons_self y List.mem_cons_self, eqvAll_of fun a ha b hb => h a (List.mem_cons_of_mem _ ha) b (List.mem_cons_of_mem _ hb)]
theorem eqv_py : ∀ (n m : Nat) (a b : D), a.fine n = true → b.fine m = true → PyData.eqv (a.py n) (b.py m) = D.eqv n a b
  | n, m, .non, b, _, hb => by cases b <;> cases m <;> cases n <;> first | rfl | (simp only [D.py, PyData.eqv, D.eqv]; done) | (simp [D.fine] at hb; done)
  | n, m, .bl a, b, _, hb => by cases b <;> cases m <;> cases n <;> first | rfl | (simp only [D.py, PyData.eqv, D.eqv]; done) | (simp [D.fine] at hb; done)
  | n, m, .int a, b, _, hb => by cases b <;> cases m <;> cases n <;> first | rfl | (simp only [D.py, PyData.eqv, D.eqv]; done) | (simp [D.fine] at hb; done)
  | n, m, .str a, b, _, hb => by cases b <;> cases m <;> cases n <;> first | rfl | (simp only [D.py, PyData.eqv, D.eqv]; done) | (simp [D.fine] at hb; done)
  | n + 1, m, .lst xs, b, ha, hb => by
    cases b with
    | lst ys =>
      cases m with
      | zero => simp [D.fine] at hb
      | succ m =>
        simp only [D.py, PyData.eqv, D.eqv]
        refine eqvAll_of fun x hx y hy => eqv_py n m x y ?_ ?_
        · simp only [D.fine, List.all_eq_true] at ha
          exact ha x hx
        · simp only [D.fine, List.all_eq_true] at hb
          exact hb y hy
    | _ => cases m <;> first | rfl | (simp only [D.py, PyData.eqv, D.eqv]; done) | (simp [D.fine] at hb; done)
  | n + 1, m, .tup xs, b, ha, hb => by
    cases b with
    | tup ys =>
      cases m with
      | zero => simp [D.fine] at hb
      | succ m =>
        simp only [D.py, PyData.eqv, D.eqv]
        refine eqvAll_of fun x hx y hy => eqv_py n m x y ?_ ?_
        · simp only [D.fine, List.all_eq_true] at ha
          exact ha x hx
        · simp only [D.fine, List.all_eq_true] at hb
          exact hb y hy
    | _ => cases m <;> first | rfl | (simp only [D.py, PyData.eqv, D.eqv]; done) | (simp [D.fine] at hb; done)
  | n, m, .obj _, b, ha, _ => by cases n <;> simp [D.fine] at ha
  | n, m, .exn _, b, ha, _ => by cases n <;> simp [D.fine] at ha
  | n, m, .dic _ _, b, ha, _ => by cases n <;> simp [D.fine] at ha
  | n, m, .fz _, b, ha, _ => by cases n <;> simp [D.fine] at ha
  | 0, m, .lst _, b, ha, _ => by simp [D.fine] at ha
  | 0, m, .tup _, b, ha, _ => by simp [D.fine] at ha
theorem lay_all {p : D → PyData} : ∀ {xs : List D}, (∀ x ∈ xs, (p x).canLay0 = true) → PyData.canLayAll0 (xs.map p) = true
  | [], _ => by simp only [List.map_nil, PyData.canLayAll0]
  | x :: xs, h => by
    rw [List.map_cons, PyData.canLayAll0, h x List.mem_cons_self, lay_all fun y hy => h y (List.mem_cons_of_mem _ hy)]
    rfl
theorem dep_all {p : D → PyData} {n : Nat} : ∀ {xs : List D}, (∀ x ∈ xs, (p x).depth ≤ n) → PyData.depthAll (xs.map p) ≤ n
  | [], _ => by simp only [List.map_nil, PyData.depthAll]; exact Nat.zero_le _
  | x :: xs, h => by
    rw [List.map_cons, PyData.depthAll]
    exact Nat.max_le.mpr ⟨h x List.mem_cons_self, dep_all fun y hy => h y (List.mem_cons_of_mem _ hy)⟩
theorem fine_lay : ∀ (n : Nat) (a : D), a.fine n = true → (a.py n).canLay0 = true ∧ (a.py n).depth ≤ n + 1
  | n, .non, _ => by cases n <;> simp [D.py, PyData.canLay0, PyData.depth]
  | n, .bl _, _ => by cases n <;> simp [D.py, PyData.canLay0, PyData.depth]
  | n, .int _, _ => by cases n <;> simp [D.py, PyData.canLay0, PyData.depth]
  | n, .str x, h => by
    have hs : PyData.strOk x = true := by cases n <;> exact h
    cases n <;> simp [D.py, PyData.canLay0, PyData.depth, hs]
  | n + 1, .lst xs, h => by
    simp only [D.fine, List.all_eq_true] at h
    simp only [D.py, PyData.canLay0, PyData.depth]
    have h2 := dep_all (p := D.py n) (n := n + 1) (xs := xs) fun x hx => (fine_lay n x (h x hx)).2
    exact ⟨lay_all fun x hx => (fine_lay n x (h x hx)).1, by omega⟩
  | n + 1, .tup xs, h => by
    simp only [D.fine, List.all_eq_true] at h
    simp only [D.py, PyData.canLay0, PyData.depth]
    have h2 := dep_all (p := D.py n) (n := n + 1) (xs := xs) fun x hx => (fine_lay n x (h x hx)).2
    exact ⟨lay_all fun x hx => (fine_lay n x (h x hx)).1, by omega⟩
  | n, .obj _, h => by cases n <;> simp [D.fine] at h
  | n, .exn _, h => by cases n <;> simp [D.fine] at h
  | n, .dic _ _, h => by cases n <;> simp [D.fine] at h
  | n, .fz _, h => by cases n <;> simp [D.fine] at h
  | 0, .lst _, h => by simp [D.fine] at h
  | 0, .tup _, h => by simp [D.fine] at h
theorem fine_shaped {n : Nat} {a : D} (h : a.fine n = true) (hn : n ≤ 60) : SeqAt.shaped (a.py n) = true := by
  obtain ⟨h1, h2⟩ := fine_lay n a h
  unfold SeqAt.shaped
  rw [h1, decide_eq_true (by omega : (a.py n).depth ≤ 64)]
  rfl
theorem dp_all {K : PySem.W.Frag} {p : D → PyData} : ∀ {vs : List V} {xs : List D}, Reps c H vs xs → (∀ v x, x ∈ xs → Rep c H v x → Dp K H v (p x)) → DpAll K H vs (xs.map p)
  | _, _, .nil, _ => .nil
  | _, _, .cons h r, k => .cons (k _ _ List.mem_cons_self h) (dp_all r fun v x hx => k v x (List.mem_cons_of_mem _ hx))
theorem rep_dp {K : PySem.W.Frag} : ∀ (n : Nat) (v : V) (a : D), a.fine n = true → Rep c H v a → Dp K H v (a.py n)
  | n, _, .non, _, h => by cases h; cases n <;> exact .non
  | n, _, .bl _, _, h => by cases h; cases n <;> exact .bl _
  | n, _, .int _, _, h => by cases h; cases n <;> exact .int _
  | n, _, .str _, _, h => by cases h; cases n <;> exact .str _
  | n + 1, _, .lst xs, f, h => by
    simp only [D.fine, List.all_eq_true] at f
    cases h with
    | lst ha hr => exact .lst (.inl (.inl ha)) (dp_all hr fun v x hx hv => rep_dp n v x (f x hx) hv)
  | n + 1, _, .tup xs, f, h => by
    simp only [D.fine, List.all_eq_true] at f
    cases h with
    | tup ha hr => exact .tup (.inl (.inl ha)) (dp_all hr fun v x hx hv => rep_dp n v x (f x hx) hv)
  | n, _, .obj _, h, _ => by cases n <;> simp [D.fine] at h
  | n, _, .exn _, h, _ => by cases n <;> simp [D.fine] at h
  | n, _, .dic _ _, h, _ => by cases n <;> simp [D.fine] at h
  | n, _, .fz _, h, _ => by cases n <;> simp [D.fine] at h
  | 0, _, .lst _, h, _ => by simp [D.fine] at h
  | 0, _, .tup _, h, _ => by simp [D.fine] at h
def pEq (a b : Val) : Res Val := match a.d, b.d with
  | .int i, .int j => .ok (.sh (.bl (decide (i = j))))
  | .str i, .str j => .ok (.sh (.bl (decide (i = j))))
  | d, e => if d.fine 6 && e.fine 6 then .ok (.sh (.bl (D.eqv 6 d e))) else .bad
def pNe (a b : Val) : Res Val := match a.d, b.d with
  | .int i, .int j => .ok (.sh (.bl (!decide (i = j))))
  | .str i, .str j => .ok (.sh (.bl (!decide (i = j))))
  | d, e => if d.fine 6 && e.fine 6 then .ok (.sh (.bl (!D.eqv 6 d e))) else .bad
abbrev rEqA (K : PySem.W.Frag) : R2 := fun x y H Q => rEq x y H Q ∨ rEqD K x y H Q
abbrev rNeA (K : PySem.W.Frag) : R2 := fun x y H Q => rNe x y H Q ∨ rNeD K x y H Q
theorem op_eqA {X : Cx} (hu : X.A.units + 64 < cLine) : OpR X (compareOp .Eq) (rEqA X.K) := op_eq.or (op_eqD hu)
theorem op_neA {X : Cx} (hu : X.A.units + 64 < cLine) : OpR X (compareOp .NotEq) (rNeA X.K) := op_ne.or (op_neD hu)
theorem eq_gen {K : PySem.W.Frag} {x y : V} {d e : D} (e0 : Ex F H) (rx : Rep c H x d) (ry : Rep c H y e) (h : Aft c W sg F H Q (if d.fine 6 && e.fine 6 then .ok (.sh (.bl (D.eqv 6 d e))) else .bad)) : rEqD K x y H Q := by
  by_cases hf : (d.fine 6 && e.fine 6) = true
  · rw [if_pos hf] at h
    rw [Bool.and_eq_true] at hf
    refine ⟨d.py 6, e.py 6, rep_dp 6 x d hf.1 rx, rep_dp 6 y e hf.2 ry, fine_shaped hf.1 (by decide), fine_shaped hf.2 (by decide), ?_⟩
    rw [eqv_py 6 6 d e hf.1 hf.2]
    exact Aft.now e0 .bl h
  · rw [if_neg hf] at h
    exact h.elim
theorem ne_gen {K : PySem.W.Frag} {x y : V} {d e : D} (e0 : Ex F H) (rx : Rep c H x d) (ry : Rep c H y e) (h : Aft c W sg F H Q (if d.fine 6 && e.fine 6 then .ok (.sh (.bl (!D.eqv 6 d e))) else .bad)) : rNeD K x y H Q := by
  by_cases hf : (d.fine 6 && e.fine 6) = true
  · rw [if_pos hf] at h
    rw [Bool.and_eq_true] at hf
    refine ⟨d.py 6, e.py 6, rep_dp 6 x d hf.1 rx, rep_dp 6 y e hf.2 ry, fine_shaped hf.1 (by decide), fine_shaped hf.2 (by decide), ?_⟩
    rw [eqv_py 6 6 d e hf.1 hf.2]
    exact Aft.now e0 .bl h
  · rw [if_neg hf] at h
    exact h.elim
theorem v2_eq {K : PySem.W.Frag} : V2 c (rEqA K) pEq := by
  intro W sg F H x y a b Q e ra rb h
  obtain ⟨oa, ba, da⟩ := a
  obtain ⟨ob, bb, db⟩ := b
  have ra' := ra.rep e
  have rb' := rb.rep e
  dsimp only at ra' rb'
  cases da with
  | int i =>
    cases db with
    | int j =>
      cases ra'
      cases rb'
      refine .inl ⟨rfl, ?_⟩
      have z : decide (V.int i = V.int j) = decide (i = j) := by simp
      rw [z]
      exact Aft.now e .bl h
    | _ => exact .inr (eq_gen e ra' rb' h)
  | str i =>
    cases db with
    | str j =>
      cases ra'
      cases rb'
      refine .inl ⟨rfl, ?_⟩
      have z : decide (V.str i = V.str j) = decide (i = j) := by simp
      rw [z]
      exact Aft.now e .bl h
    | _ => exact .inr (eq_gen e ra' rb' h)
  | _ => exact .inr (eq_gen e ra' rb' h)
theorem v2_ne {K : PySem.W.Frag} : V2 c (rNeA K) pNe := by
  intro W sg F H x y a b Q e ra rb h
  obtain ⟨oa, ba, da⟩ := a
  obtain ⟨ob, bb, db⟩ := b
  have ra' := ra.rep e
  have rb' := rb.rep e
  dsimp only at ra' rb'
  cases da with
  | int i =>
    cases db with
    | int j =>
      cases ra'
      cases rb'
      refine .inl ⟨rfl, ?_⟩
      have z : decide (V.int i = V.int j) = decide (i = j) := by simp
      rw [z]
      exact Aft.now e .bl h
    | _ => exact .inr (ne_gen e ra' rb' h)
  | str i =>
    cases db with
    | str j =>
      cases ra'
      cases rb'
      refine .inl ⟨rfl, ?_⟩
      have z : decide (V.str i = V.str j) = decide (i = j) := by simp
      rw [z]
      exact Aft.now e .bl h
    | _ => exact .inr (ne_gen e ra' rb' h)
  | _ => exact .inr (ne_gen e ra' rb' h)

/-! ### is -/
def D.isNon : D → Bool
  | .non => true
  | _ => false
theorem rep_non {v : V} {d : D} (h : Rep c H v d) : decide (v = .non) = d.isNon := by cases h <;> simp [D.isNon]
def pIs (a b : Val) : Res Val := match b.d with
  | .non => .ok (.sh (.bl a.d.isNon))
  | .bl k => match a.d with
    | .bl j => .ok (.sh (.bl (decide (j = k))))
    | _ => .bad
  | _ => .bad
def pIsNot (a b : Val) : Res Val := match b.d with
  | .non => .ok (.sh (.bl (!a.d.isNon)))
  | .bl k => match a.d with
    | .bl j => .ok (.sh (.bl (!decide (j = k))))
    | _ => .bad
  | _ => .bad
abbrev rIsA : R2 := fun x y H Q => (y = .non ∧ Q (.bl (decide (x = .non))) H) ∨ rIsB x y H Q
abbrev rIsNotA : R2 := fun x y H Q => (y = .non ∧ Q (.bl (!decide (x = .non))) H) ∨ rNotB x y H Q
theorem op_isA {X : Cx} : OpR X (compareOp .Is) rIsA := op_isN.or op_isBl
theorem op_isNotA {X : Cx} : OpR X (compareOp .IsNot) rIsNotA := op_notN.or op_notBl
theorem v2_is : V2 c rIsA pIs := by
  intro W sg F H x y a b Q e ra rb h
  obtain ⟨oa, ba, da⟩ := a
  obtain ⟨ob, bb, db⟩ := b
  have ra' := ra.rep e
  have rb' := rb.rep e
  dsimp only at ra' rb'
  cases db with
  | non =>
    cases rb'
    refine .inl ⟨rfl, ?_⟩
    rw [rep_non ra']
    exact Aft.now e .bl h
  | bl k =>
    cases rb'
    cases da with
    | bl j =>
      cases ra'
      exact .inr ⟨j, k, rfl, rfl, Aft.now e .bl h⟩
    | _ => exact (show False from h).elim
  | _ => exact (show False from h).elim
theorem v2_isNot : V2 c rIsNotA pIsNot := by
  intro W sg F H x y a b Q e ra rb h
  obtain ⟨oa, ba, da⟩ := a
  obtain ⟨ob, bb, db⟩ := b
  have ra' := ra.rep e
  have rb' := rb.rep e
  dsimp only at ra' rb'
  cases db with
  | non =>
    cases rb'
    refine .inl ⟨rfl, ?_⟩
    rw [rep_non ra']
    exact Aft.now e .bl h
  | bl k =>
    cases rb'
    cases da with
    | bl j =>
      cases ra'
      exact .inr ⟨j, k, rfl, rfl, Aft.now e .bl h⟩
    | _ => exact (show False from h).elim
  | _ => exact (show False from h).elim
end
end Bk
set_option Elab.async false
set_option linter.all false
set_option maxRecDepth 100000
set_option maxHeartbeats 4000000
/-! BkF: in, subscripts, slices, built-ins. -/
namespace Bk
open PySem L2

section
variable {c : Ct} {W : WX} {sg : L2.St} {F H : Hp} {u : V} {r : Val} {d : D} {Q : VK}
def D.flat : D → Bool
  | .non => true
  | .bl _ => true
  | .int _ => true
  | .str _ => true
  | _ => false
theorem rep_flat {v : V} {d : D} (h : Rep c F v d) (f : d.flat = true) : flatV v = true := by
  cases h <;> first | rfl | exact nomatch f
theorem reps_flat : ∀ {vs : List V} {ds : List D}, Reps c F vs ds → ds.all D.flat = true → vs.all flatV = true
  | _, _, .nil, _ => rfl
  | _, _, .cons h r, f => by
    rw [List.all_cons, Bool.and_eq_true] at f ⊢
    exact ⟨rep_flat h f.1, reps_flat r f.2⟩
theorem eqV_eqv {x y : V} {d e : D} (hx : Rep c F x d) (hy : Rep c F y e) (fd : d.flat = true) (fe : e.flat = true) : eqV x y = D.eqv 0 d e := by
  cases hx <;> cases hy <;> first | rfl | exact nomatch fd | exact nomatch fe
theorem inV_eq {x : V} {d : D} (hx : Rep c F x d) (fd : d.flat = true) : ∀ {vs : List V} {ds : List D}, Reps c F vs ds → ds.all D.flat = true → inV x vs = ds.any fun y => D.eqv 0 y d
  | _, _, .nil, _ => rfl
  | _, _, .cons h r, f => by
    rw [List.all_cons, Bool.and_eq_true] at f
    unfold inV
    rw [List.any_cons, List.any_cons, eqV_eqv h hx f.1 fd]
    exact congrArg _ (inV_eq hx fd r f.2)
def pIn (neg : Bool) (a b : Val) : Res Val := match b.d with
  | .tup xs => if a.d.flat && xs.all D.flat then .ok (.sh (.bl (if neg then !xs.any fun y => D.eqv 0 y a.d else xs.any fun y => D.eqv 0 y a.d))) else .bad
  | .lst xs => if a.d.flat && xs.all D.flat then .ok (.sh (.bl (if neg then !xs.any fun y => D.eqv 0 y a.d else xs.any fun y => D.eqv 0 y a.d))) else
      if a.d.fine 5 && xs.all (D.fine 5) then .ok (.sh (.bl (if neg then !xs.any fun y => D.eqv 5 y a.d else xs.any fun y => D.eqv 5 y a.d))) else .bad
  | _ => .bad
abbrev rInA (K : PySem.W.Frag) : R2 := fun x y H Q => rIn K false x y H Q ∨ rInD K x y H Q
abbrev rNotInA (K : PySem.W.Frag) : R2 := fun x y H Q => rIn K true x y H Q ∨ rNotInD K x y H Q
theorem op_inA {X : Cx} (hu : X.A.units + 65 < cLine) : OpR X (compareOp .In) (rInA X.K) := op_in_seq.or (op_inD hu)
theorem op_notInA {X : Cx} (hu : X.A.units + 65 < cLine) : OpR X (compareOp .NotIn) (rNotInA X.K) := op_notIn_seq.or (op_notInD hu)
theorem any_py {d : D} (fd : d.fine 5 = true) : ∀ {ds : List D}, ds.all (D.fine 5) = true → ((ds.map (D.py 5)).any fun z => PyData.eqv z (d.py 5)) = ds.any fun y => D.eqv 5 y d
  | [], _ => rfl
  | y :: ds, f => by
    rw [List.all_cons, Bool.and_eq_true] at f
    rw [List.map_cons, List.any_cons, List.any_cons, eqv_py 5 5 y d f.1 fd, any_py fd f.2]
theorem in_flat {K : PySem.W.Frag} {neg : Bool} {x : V} {a : Addr} {d : D} {vs : List V} {xs : List D} (e : Ex F H) (hs : SqL K H a vs ∨ SqT K H a vs) (hr : Reps c H vs xs) (hx : Rep c H x d)
    (hf : d.flat && xs.all D.flat) (h : Aft c W sg F H Q (.ok (.sh (.bl (if neg then !xs.any fun y => D.eqv 0 y d else xs.any fun y => D.eqv 0 y d))))) : rIn K neg x (.ref a) H Q := by
  rw [Bool.and_eq_true] at hf
  refine ⟨a, vs, rfl, hs, rep_flat hx hf.1, reps_flat hr hf.2, ?_⟩
  rw [inV_eq hx hf.1 hr hf.2]
  exact Aft.now e .bl h
theorem dp_lst {K : PySem.W.Frag} {a : Addr} {vs : List V} {xs : List D} (ha : H a = some (.lst vs)) (hr : Reps c H vs xs) (f : xs.all (D.fine 5) = true) : Dp K H (.ref a) (.list (xs.map (D.py 5))) :=
  .lst (.inl (.inl ha)) (dp_all hr fun v x hx hv => rep_dp 5 v x (List.all_eq_true.mp f x hx) hv)
theorem sh_lst {xs : List D} (f : xs.all (D.fine 5) = true) : SeqAt.shaped (.list (xs.map (D.py 5))) = true := fine_shaped (n := 6) (a := .lst xs) f (by decide)
theorem v2_in {K : PySem.W.Frag} : V2 c (rInA K) (pIn false) := by
  intro W sg F H x y a b Q e ra rb h
  obtain ⟨ob, bb, db⟩ := b
  have ra' := ra.rep e
  have rb' := rb.rep e
  dsimp only at rb'
  cases rb' with
  | @tup p vs xs hp hr =>
    replace h : Aft c W sg F H Q (if a.d.flat && xs.all D.flat then _ else .bad) := h
    by_cases hf : (a.d.flat && xs.all D.flat) = true
    · rw [if_pos hf] at h
      exact .inl (in_flat e (.inr (.inl (.inl hp))) hr ra' hf h)
    · rw [if_neg hf] at h
      exact h.elim
  | @lst p vs xs hp hr =>
    replace h : Aft c W sg F H Q (if a.d.flat && xs.all D.flat then _ else if a.d.fine 5 && xs.all (D.fine 5) then .ok (.sh (.bl (xs.any fun y => D.eqv 5 y a.d))) else .bad) := h
    by_cases hf : (a.d.flat && xs.all D.flat) = true
    · rw [if_pos hf] at h
      exact .inl (in_flat e (.inl (.inl (.inl hp))) hr ra' hf h)
    · rw [if_neg hf] at h
      by_cases hg : (a.d.fine 5 && xs.all (D.fine 5)) = true
      · rw [if_pos hg] at h
        rw [Bool.and_eq_true] at hg
        refine .inr ⟨a.d.py 5, xs.map (D.py 5), rep_dp 5 x a.d hg.1 ra', dp_lst hp hr hg.2, fine_shaped hg.1 (by decide), sh_lst hg.2, ?_⟩
        rw [any_py hg.1 hg.2]
        exact Aft.now e .bl h
      · rw [if_neg hg] at h
        exact h.elim
  | _ => exact (show False from h).elim
theorem v2_notIn {K : PySem.W.Frag} : V2 c (rNotInA K) (pIn true) := by
  intro W sg F H x y a b Q e ra rb h
  obtain ⟨ob, bb, db⟩ := b
  have ra' := ra.rep e
  have rb' := rb.rep e
  dsimp only at rb'
  cases rb' with
  | @tup p vs xs hp hr =>
    replace h : Aft c W sg F H Q (if a.d.flat && xs.all D.flat then _ else .bad) := h
    by_cases hf : (a.d.flat && xs.all D.flat) = true
    · rw [if_pos hf] at h
      exact .inl (in_flat e (.inr (.inl (.inl hp))) hr ra' hf h)
    · rw [if_neg hf] at h
      exact h.elim
  | @lst p vs xs hp hr =>
    replace h : Aft c W sg F H Q (if a.d.flat && xs.all D.flat then _ else if a.d.fine 5 && xs.all (D.fine 5) then .ok (.sh (.bl (!xs.any fun y => D.eqv 5 y a.d))) else .bad) := h
    by_cases hf : (a.d.flat && xs.all D.flat) = true
    · rw [if_pos hf] at h
      exact .inl (in_flat e (.inl (.inl (.inl hp))) hr ra' hf h)
    · rw [if_neg hf] at h
      by_cases hg : (a.d.fine 5 && xs.all (D.fine 5)) = true
      · rw [if_pos hg] at h
        rw [Bool.and_eq_true] at hg
        refine .inr ⟨a.d.py 5, xs.map (D.py 5), rep_dp 5 x a.d hg.1 ra', dp_lst hp hr hg.2, fine_shaped hg.1 (by decide), sh_lst hg.2, ?_⟩
        rw [any_py hg.1 hg.2]
        exact Aft.now e .bl h
      · rw [if_neg hg] at h
        exact h.elim
  | _ => exact (show False from h).elim

/-! ### subscripts -/
/-- the item at i: a part of a sequence, a sign of a text -/
def pIx (a b : Val) : Res Val := match b.d with
  | .int i => match a.d with
    | .lst xs => match atI xs i with
      | some d => a.part d
      | none => .bad
    | .tup xs => match atI xs i with
      | some d => a.part d
      | none => .bad
    | .fz xs => match atI xs i with
      | some d => a.part d
      | none => .bad
    | .str z => if z.length ≤ 100000 then match atI z.cps.toList i with
      | some k => .ok (.sh (.str ⟨#[k]⟩))
      | none => .bad
      else .bad
    | _ => .bad
  | _ => .bad
theorem atI_reps {vs : List V} {xs : List D} {i : Int} {d : D} (hr : Reps c F vs xs) (h : atI xs i = some d) : ∃ v, atI vs i = some v ∧ Rep c F v d := by
  unfold atI at h ⊢
  rw [hr.length]
  cases q : ixN xs.length i with
  | none =>
    rw [q] at h
    cases h
  | some j =>
    rw [q] at h
    exact hr.getD (i := j) h
/-- a part's standing: its place in the sequence, shared where it may be -/
theorem Rw.part {o : Ow} {b : Bool} {d : D} (h : Rw c F H u ⟨o, b, d⟩) (e : Ex F H) :
    (∀ xs, d = .lst xs → ∃ p vs, u = .ref p ∧ H p = some (.lst vs) ∧ Reps c H vs xs ∧ ((o = .sh ∨ o = .li .sh) → Reps c F vs xs)) ∧
    (∀ xs, d = .tup xs → ∃ p vs, u = .ref p ∧ H p = some (.tup vs) ∧ Reps c H vs xs ∧ (o = .sh → Reps c F vs xs)) ∧
    (∀ xs, d = .fz xs → ∃ p vs, u = .ref p ∧ SqL c.K H p vs ∧ Reps c H vs xs ∧ (o = .sh → Reps c F vs xs)) := by
  have hr := h.rep e
  refine ⟨fun xs ed => ?_, fun xs ed => ?_, fun xs ed => ?_⟩
  · subst ed
    cases hr with
    | @lst p vs _ hp hv =>
      refine ⟨p, vs, rfl, hp, hv, fun ho => ?_⟩
      have hi : (Val.mk o b (.lst xs)).its = some xs := by
        rcases ho with ho | ho <;> subst ho <;> rfl
      obtain ⟨_, p2, vs2, e1, e2, e3⟩ := h.items e hi
      cases e1
      rw [hp] at e2
      cases e2
      exact e3
  · subst ed
    cases hr with
    | @tup p vs _ hp hv =>
      refine ⟨p, vs, rfl, hp, hv, fun ho => ?_⟩
      subst ho
      cases h.sh1 with
      | tup hp2 hv2 =>
        have e2 := e _ _ hp2
        rw [hp] at e2
        cases e2
        exact hv2
  · subst ed
    cases o with
    | sh =>
      cases h.sh1 with
      | @fz p vs _ hp hv => exact ⟨p, vs, rfl, Evl.ex_l e hp, hv.mono e, fun _ => hv⟩
    | _ =>
      cases hr with
      | @fz p vs _ hp hv => exact ⟨p, vs, rfl, hp, hv, fun z => nomatch z⟩
theorem aft_part {a : Val} {v : V} {d : D} (e : Ex F H) (h1 : Rep c H v d) (h2 : (a.o = .sh ∨ a.o = .li .sh) → Rep c F v d) (h : Aft c W sg F H Q (a.part d)) : Q v H := by
  obtain ⟨o, b, da⟩ := a
  have sc : Aft c W sg F H Q (if d.isSc = true then .ok (.sh d) else .bad) → Q v H := fun h => by
    by_cases hs : d.isSc = true
    · rw [if_pos hs] at h
      exact Aft.now e (h1.isSc hs) h
    · rw [if_neg hs] at h
      exact h.elim
  cases o with
  | sh => exact Aft.now e (h2 (.inl rfl)) h
  | li o =>
    cases o with
    | sh => exact Aft.now e (h2 (.inr rfl)) h
    | _ => exact sc h
  | _ => exact sc h
theorem v2_ix : V2 c (rIx c.K) pIx := by
  intro W sg F H x y a b Q e ra rb h
  obtain ⟨oa, ba, da⟩ := a
  obtain ⟨ob, bb, db⟩ := b
  have ra' := ra.rep e
  have rb' := rb.rep e
  have pt := ra.part e
  dsimp only at ra' rb'
  cases rb' with
  | @int i =>
    cases da with
    | lst xs =>
      replace h : Aft c W sg F H Q (match atI xs i with | some d => Val.part ⟨oa, ba, .lst xs⟩ d | none => .bad) := h
      cases hx : atI xs i with
      | none => rw [hx] at h; exact h.elim
      | some d =>
        rw [hx] at h
        obtain ⟨p, vs, rfl, hp, h1, h2⟩ := pt.1 xs rfl
        obtain ⟨v, hv, rv⟩ := atI_reps h1 hx
        refine .inl ⟨p, vs, i, v, rfl, rfl, .inl (.inl hp), hv, aft_part e rv (fun ho => ?_) h⟩
        obtain ⟨v', hv', rv'⟩ := atI_reps (h2 ho) hx
        rw [hv] at hv'
        cases hv'
        exact rv'
    | tup xs =>
      replace h : Aft c W sg F H Q (match atI xs i with | some d => Val.part ⟨oa, ba, .tup xs⟩ d | none => .bad) := h
      cases hx : atI xs i with
      | none => rw [hx] at h; exact h.elim
      | some d =>
        rw [hx] at h
        obtain ⟨p, vs, rfl, hp, h1, h2⟩ := pt.2.1 xs rfl
        obtain ⟨v, hv, rv⟩ := atI_reps h1 hx
        refine .inr (.inl ⟨p, vs, i, v, rfl, rfl, .inl (.inl hp), hv, ?_⟩)
        cases oa with
        | sh =>
          obtain ⟨v', hv', rv'⟩ := atI_reps (h2 rfl) hx
          rw [hv] at hv'
          cases hv'
          exact Aft.now e rv' h
        | li o =>
          cases o with
          | sh =>
            obtain ⟨S, z, _⟩ := ra
            obtain ⟨_, _, _, _, z, _⟩ := z
            cases z
          | _ => exact aft_part e rv (fun ho => (by rcases ho with ho | ho <;> cases ho)) h
        | _ => exact aft_part e rv (fun ho => (by rcases ho with ho | ho <;> cases ho)) h
    | fz xs =>
      replace h : Aft c W sg F H Q (match atI xs i with | some d => Val.part ⟨oa, ba, .fz xs⟩ d | none => .bad) := h
      cases hx : atI xs i with
      | none => rw [hx] at h; exact h.elim
      | some d =>
        rw [hx] at h
        obtain ⟨p, vs, rfl, hp, h1, h2⟩ := pt.2.2 xs rfl
        obtain ⟨v, hv, rv⟩ := atI_reps h1 hx
        refine .inl ⟨p, vs, i, v, rfl, rfl, hp, hv, ?_⟩
        cases oa with
        | sh =>
          obtain ⟨v', hv', rv'⟩ := atI_reps (h2 rfl) hx
          rw [hv] at hv'
          cases hv'
          exact Aft.now e rv' h
        | li o =>
          cases o with
          | sh =>
            obtain ⟨S, z, _⟩ := ra
            obtain ⟨_, _, _, _, z, _⟩ := z
            cases z
          | _ => exact aft_part e rv (fun ho => (by rcases ho with ho | ho <;> cases ho)) h
        | _ => exact aft_part e rv (fun ho => (by rcases ho with ho | ho <;> cases ho)) h
    | str z =>
      cases ra'
      replace h : Aft c W sg F H Q (if z.length ≤ 100000 then match atI z.cps.toList i with
        | some k => .ok (.sh (.str ⟨#[k]⟩))
        | none => .bad
        else .bad) := h
      by_cases hl : z.length ≤ 100000
      · rw [if_pos hl] at h
        cases hx : atI z.cps.toList i with
        | none => rw [hx] at h; exact h.elim
        | some k =>
          rw [hx] at h
          exact .inr (.inr ⟨z, i, k, rfl, rfl, Evl.sz_of hl, hx, Aft.now e .str h⟩)
      · rw [if_neg hl] at h
        exact h.elim
    | _ => exact (show False from h).elim
  | _ => exact (show False from h).elim

/-! ### built-ins -/
theorem rws1 {us : List V} {r : Val} (h : Rws c F H us [r]) : ∃ u, us = [u] ∧ Rw c F H u r := by
  cases h with
  | cons h1 h2 =>
    cases h2
    exact ⟨_, rfl, h1⟩
theorem rws2 {us : List V} {r r' : Val} (h : Rws c F H us [r, r']) : ∃ u u', us = [u, u'] ∧ Rw c F H u r ∧ Rw c F H u' r' := by
  cases h with
  | cons h1 h2 =>
    cases h2 with
    | cons h2 h3 =>
      cases h3
      exact ⟨_, _, rfl, h1, h2⟩
def pLen (rs : List Val) : Res Val := match rs with
  | [a] => match a.d with
    | .lst xs => .ok (.sh (.int xs.length))
    | .tup xs => .ok (.sh (.int xs.length))
    | .fz xs => .ok (.sh (.int xs.length))
    | .str z => if z.length ≤ 100000 then .ok (.sh (.int z.length)) else .bad
    | _ => .bad
  | _ => .bad
abbrev rLenA (K : PySem.W.Frag) : List V → Hp → VK → Prop := fun xs H Q => (∃ p ys, xs = [.ref p] ∧ (SqL K H p ys ∨ SqT K H p ys) ∧ Q (.int ys.length) H) ∨ ∃ z, xs = [.str z] ∧ z.length ≤ sizeLine ∧ Q (.int z.length) H
theorem call_lenA {X : Cx} : CallR X (.builtin "len") (rLenA X.K) := call_len_seq.or call_len_str
theorem vn_len : VN c (rLenA c.K) pLen := by
  intro W sg F H us rs Q e hr h
  unfold pLen at h
  cases hr with
  | nil => exact h.elim
  | @cons u r us rs h1 h2 =>
    cases h2 with
    | cons _ _ => exact h.elim
    | nil =>
      have q := h1.rep e
      dsimp only at h
      cases hd : r.d with
      | lst xs =>
        rw [hd] at q
        cases q with
        | @lst p vs _ hp hv =>
          rw [hd] at h
          refine .inl ⟨p, vs, rfl, .inl (.inl (.inl hp)), ?_⟩
          rw [hv.length]
          exact Aft.now e .int h
      | tup xs =>
        rw [hd] at q
        cases q with
        | @tup p vs _ hp hv =>
          rw [hd] at h
          refine .inl ⟨p, vs, rfl, .inr (.inl (.inl hp)), ?_⟩
          rw [hv.length]
          exact Aft.now e .int h
      | fz xs =>
        rw [hd] at q
        cases q with
        | @fz p vs _ hp hv =>
          rw [hd] at h
          refine .inl ⟨p, vs, rfl, .inl hp, ?_⟩
          rw [hv.length]
          exact Aft.now e .int h
      | str z =>
        rw [hd] at q
        cases q
        rw [hd] at h
        replace h : Aft c W sg F H Q (if z.length ≤ 100000 then .ok (.sh (.int z.length)) else .bad) := h
        by_cases hl : z.length ≤ 100000
        · rw [if_pos hl] at h
          exact .inr ⟨z, rfl, Evl.sz_of hl, Aft.now e .int h⟩
        · rw [if_neg hl] at h
          exact h.elim
      | _ => rw [hd] at h; exact h.elim
def pInt2 (g : Int → Int → Int) (rs : List Val) : Res Val := match rs with
  | [a, b] => match a.d, b.d with
    | .int i, .int j => .ok (.sh (.int (g i j)))
    | _, _ => .bad
  | _ => .bad
theorem vn_int2 {g : Int → Int → Int} : VN c (fun xs H Q => ∃ i j, xs = [.int i, .int j] ∧ Q (.int (g i j)) H) (pInt2 g) := by
  intro W sg F H us rs Q e hr h
  cases hr with
  | nil => exact (show False from h).elim
  | @cons u r us rs h1 h2 =>
    cases h2 with
    | nil => exact (show False from h).elim
    | @cons u2 r2 us rs h2 h3 =>
      cases h3 with
      | cons _ _ => exact (show False from h).elim
      | nil =>
        unfold pInt2 at h
        dsimp only at h
        cases hd : r.d with
        | int i =>
          cases hd2 : r2.d with
          | int j =>
            rw [hd, hd2] at h
            rw [h1.dint e hd, h2.dint e hd2]
            exact ⟨i, j, rfl, Aft.now e .int h⟩
          | _ => rw [hd, hd2] at h; exact h.elim
        | _ => rw [hd] at h; exact h.elim
def pMax2 : List Val → Res Val := pInt2 fun i j => if j > i then j else i
theorem vn_max2 : VN c (fun xs H Q => ∃ i j, xs = [.int i, .int j] ∧ Q (.int (if j > i then j else i)) H) pMax2 := vn_int2
def pMin2 : List Val → Res Val := pInt2 fun i j => if j < i then j else i
theorem vn_min2 : VN c (fun xs H Q => ∃ i j, xs = [.int i, .int j] ∧ Q (.int (if j < i then j else i)) H) pMin2 := vn_int2
/-- the ints of a list -/
def D.ints : List D → Option (List Int)
  | [] => some []
  | .int i :: r => (D.ints r).map (i :: ·)
  | _ => none
theorem ints_reps : ∀ {vs : List V} {xs : List D} {ns : List Int}, Reps c F vs xs → D.ints xs = some ns → vs = ns.map V.int
  | _, _, ns, .nil, h => by
    cases Option.some.inj h
    rfl
  | _, _, ns, .cons (d := d) h r, e => by
    cases h with
    | @int i =>
      rw [D.ints] at e
      rename_i vs ds
      cases q : D.ints ds with
      | none =>
        rw [q] at e
        cases e
      | some ms =>
        rw [q] at e
        cases Option.some.inj e
        rw [ints_reps r q]
        rfl
    | _ => simp [D.ints] at e
theorem ints_map (ns : List Int) : D.ints (ns.map D.int) = some ns := by
  induction ns with
  | nil => rfl
  | cons n ns ih =>
    rw [List.map_cons, D.ints, ih]
    rfl
theorem reps_ints (ns : List Int) : Reps c F (ns.map V.int) (ns.map D.int) := by
  induction ns with
  | nil => exact .nil
  | cons n ns ih => exact .cons .int ih
/-- the greatest, the least -/
def maxL : List Int → Option Int
  | [] => none
  | x :: xs => some (xs.foldl max x)
def minL : List Int → Option Int
  | [] => none
  | x :: xs => some (xs.foldl min x)
theorem foldl_max : ∀ (xs : List Int) (a : Int), a ≤ xs.foldl max a ∧ (∀ y ∈ xs, y ≤ xs.foldl max a) ∧ (xs.foldl max a = a ∨ xs.foldl max a ∈ xs)
  | [], a => ⟨Int.le_refl _, fun _ h => by simp at h, .inl rfl⟩
  | x :: xs, a => by
    obtain ⟨h1, h2, h3⟩ := foldl_max xs (max a x)
    rw [List.foldl_cons]
    have q1 : a ≤ max a x := Int.le_max_left a x
    have q2 : x ≤ max a x := Int.le_max_right a x
    refine ⟨Int.le_trans q1 h1, fun y hy => ?_, ?_⟩
    · rcases List.mem_cons.mp hy with rfl | hy
      · exact Int.le_trans q2 h1
      · exact h2 y hy
    · rcases h3 with h3 | h3
      · rw [h3]
        rcases Int.le_total a x with q | q
        · rw [Int.max_eq_right q]
          exact .inr List.mem_cons_self
        · rw [Int.max_eq_left q]
          exact .inl rfl
      · exact .inr (List.mem_cons_of_mem _ h3)
theorem foldl_min : ∀ (xs : List Int) (a : Int), xs.foldl min a ≤ a ∧ (∀ y ∈ xs, xs.foldl min a ≤ y) ∧ (xs.foldl min a = a ∨ xs.foldl min a ∈ xs)
  | [], a => ⟨Int.le_refl _, fun _ h => by simp at h, .inl rfl⟩
  | x :: xs, a => by
    obtain ⟨h1, h2, h3⟩ := foldl_min xs (min a x)
    rw [List.foldl_cons]
    have q1 : min a x ≤ a := Int.min_le_left a x
    have q2 : min a x ≤ x := Int.min_le_right a x
    refine ⟨Int.le_trans h1 q1, fun y hy => ?_, ?_⟩
    · rcases List.mem_cons.mp hy with rfl | hy
      · exact Int.le_trans h1 q2
      · exact h2 y hy
    · rcases h3 with h3 | h3
      · rw [h3]
        rcases Int.le_total a x with q | q
        · rw [Int.min_eq_left q]
          exact .inl rfl
        · rw [Int.min_eq_right q]
          exact .inr List.mem_cons_self
      · exact .inr (List.mem_cons_of_mem _ h3)
theorem maxL_is {ns : List Int} {m k : Int} (h : maxL ns = some k) (hm : m ∈ ns) (hle : ∀ y ∈ ns, y ≤ m) : m = k := by
  cases ns with
  | nil => simp at hm
  | cons x xs =>
    cases Option.some.inj h
    obtain ⟨h1, h2, h3⟩ := foldl_max xs x
    have a1 : m ≤ xs.foldl max x := by
      rcases List.mem_cons.mp hm with rfl | hm
      · exact h1
      · exact h2 m hm
    have a2 : xs.foldl max x ≤ m := by
      rcases h3 with h3 | h3
      · rw [h3]
        exact hle x List.mem_cons_self
      · exact hle _ (List.mem_cons_of_mem _ h3)
    exact Int.le_antisymm a1 a2
theorem minL_is {ns : List Int} {m k : Int} (h : minL ns = some k) (hm : m ∈ ns) (hle : ∀ y ∈ ns, m ≤ y) : m = k := by
  cases ns with
  | nil => simp at hm
  | cons x xs =>
    cases Option.some.inj h
    obtain ⟨h1, h2, h3⟩ := foldl_min xs x
    have a1 : xs.foldl min x ≤ m := by
      rcases List.mem_cons.mp hm with rfl | hm
      · exact h1
      · exact h2 m hm
    have a2 : m ≤ xs.foldl min x := by
      rcases h3 with h3 | h3
      · rw [h3]
        exact hle x List.mem_cons_self
      · exact hle _ (List.mem_cons_of_mem _ h3)
    exact Int.le_antisymm a2 a1
def pInts (g : List Int → Res Val) (rs : List Val) : Res Val := match rs with
  | [a] => match a.d with
    | .lst xs => match D.ints xs with
      | some ns => g ns
      | none => .bad
    | _ => .bad
  | _ => .bad
theorem pInts_at {g : List Int → Res Val} {us : List V} {rs : List Val} (e : Ex F H) (hr : Rws c F H us rs) (h : Aft c W sg F H Q (pInts g rs)) : ∃ p ns, us = [.ref p] ∧ H p = some (.lst (ns.map V.int)) ∧ Aft c W sg F H Q (g ns) := by
  unfold pInts at h
  cases hr with
  | nil => exact h.elim
  | @cons u r us rs h1 h2 =>
    cases h2 with
    | cons _ _ => exact h.elim
    | nil =>
      have q := h1.rep e
      dsimp only at h
      cases hd : r.d with
      | lst xs =>
        rw [hd] at q
        cases q with
        | @lst p vs _ hp hv =>
          rw [hd] at h
          replace h : Aft c W sg F H Q (match D.ints xs with | some ns => g ns | none => .bad) := h
          cases hi : D.ints xs with
          | none => rw [hi] at h; exact h.elim
          | some ns =>
            rw [hi] at h
            rw [ints_reps hv hi] at hp
            exact ⟨p, ns, rfl, hp, h⟩
      | _ => rw [hd] at h; exact h.elim
def pMax1 : List Val → Res Val := pInts fun ns => match maxL ns with
  | some m => .ok (.sh (.int m))
  | none => .bad
def pMin1 : List Val → Res Val := pInts fun ns => match minL ns with
  | some m => .ok (.sh (.int m))
  | none => .bad
theorem vn_max1 {K : PySem.W.Frag} : VN c (rMax K) pMax1 := by
  intro W sg F H us rs Q e hr h
  obtain ⟨p, ns, rfl, hp, h⟩ := pInts_at e hr h
  refine ⟨p, ns, rfl, .inl (.inl hp), ?_, fun m hm hle => ?_⟩
  · cases ns with
    | nil => exact h.elim
    | cons _ _ => exact Nat.succ_pos _
  · cases q : maxL ns with
    | none => rw [q] at h; exact h.elim
    | some k =>
      rw [q] at h
      rw [maxL_is q hm hle]
      exact Aft.now e .int h
theorem vn_min1 {K : PySem.W.Frag} : VN c (rMin K) pMin1 := by
  intro W sg F H us rs Q e hr h
  obtain ⟨p, ns, rfl, hp, h⟩ := pInts_at e hr h
  refine ⟨p, ns, rfl, .inl (.inl hp), ?_, fun m hm hle => ?_⟩
  · cases ns with
    | nil => exact h.elim
    | cons _ _ => exact Nat.succ_pos _
  · cases q : minL ns with
    | none => rw [q] at h; exact h.elim
    | some k =>
      rw [q] at h
      rw [minL_is q hm hle]
      exact Aft.now e .int h
/-- sorted, whole numbers -/
def isort (ns : List Int) : List Int := ns.mergeSort fun a b => decide (a ≤ b)
theorem isort_perm (ns : List Int) : (isort ns).Perm ns := List.mergeSort_perm _ _
theorem isort_sorted (ns : List Int) : (isort ns).Pairwise (· ≤ ·) := by
  have h := List.pairwise_mergeSort (le := fun a b : Int => decide (a ≤ b)) (fun a b c h1 h2 => by simp only [decide_eq_true_eq] at h1 h2 ⊢; omega) (fun a b => by simp only [Bool.or_eq_true, decide_eq_true_eq]; omega) ns
  exact h.imp fun q => by simpa using q
theorem isort_uniq {ns ms : List Int} (h1 : ms.Perm ns) (h2 : ms.Pairwise (· ≤ ·)) : ms = isort ns := (h1.trans (isort_perm ns).symm).eq_of_pairwise (le := (· ≤ ·)) (fun a b _ _ x y => Int.le_antisymm x y) h2 (isort_sorted ns)
def pSortI : List Val → Res Val := pInts fun ns => .ok ⟨.li .sh, false, .lst ((isort ns).map .int)⟩
theorem vn_sortI {K : PySem.W.Frag} : VN c (rSortedI K) pSortI := by
  intro W sg F H us rs Q e hr h
  obtain ⟨p, ns, rfl, hp, h⟩ := pInts_at e hr h
  refine ⟨p, ns, rfl, .inl (.inl hp), fun ns' q hperm hsort hq => ?_⟩
  rw [isort_uniq hperm hsort]
  exact Aft.newL e hq (reps_ints _) h
/-- int of a number or a truth value -/
def pInt1 (rs : List Val) : Res Val := match rs with
  | [a] => match a.d with
    | .int i => .ok (.sh (.int i))
    | .bl b => .ok (.sh (.int (if b then 1 else 0)))
    | _ => .bad
  | _ => .bad
theorem vn_int1 : VN c (fun xs H Q => (∃ i, xs = [.int i] ∧ Q (.int i) H) ∨ ∃ k, xs = [.bl k] ∧ Q (.int (if k then 1 else 0)) H) pInt1 := by
  intro W sg F H us rs Q e hr h
  unfold pInt1 at h
  cases hr with
  | nil => exact h.elim
  | @cons u r us rs h1 h2 =>
    cases h2 with
    | cons _ _ => exact h.elim
    | nil =>
      dsimp only at h
      cases hd : r.d with
      | int i =>
        rw [hd] at h
        rw [h1.dint e hd]
        exact .inl ⟨i, rfl, Aft.now e .int h⟩
      | bl k =>
        rw [hd] at h
        rw [h1.dbl e hd]
        exact .inr ⟨k, rfl, Aft.now e .int h⟩
      | _ => rw [hd] at h; exact h.elim
/-- list(xs) -/
def pList (rs : List Val) : Res Val := match rs with
  | [a] => match a.its with
    | some xs => .ok ⟨.li .sh, false, .lst xs⟩
    | none => .bad
  | _ => .bad
theorem vn_list {K : PySem.W.Frag} : VN c (fun xs H Q => ∃ p ys, xs = [.ref p] ∧ (SqL K H p ys ∨ SqT K H p ys) ∧ ∀ l, H l = none → Q (.ref l) (upd H l (.lst ys))) pList := by
  intro W sg F H us rs Q e hr h
  unfold pList at h
  cases hr with
  | nil => exact h.elim
  | @cons u r us rs h1 h2 =>
    cases h2 with
    | cons _ _ => exact h.elim
    | nil =>
      replace h : Aft c W sg F H Q (match r.its with | some xs => .ok ⟨.li .sh, false, .lst xs⟩ | none => .bad) := h
      cases hi : r.its with
      | none => rw [hi] at h; exact h.elim
      | some xs =>
        rw [hi] at h
        obtain ⟨_, p, vs, rfl, hp, rr⟩ := h1.items e hi
        exact ⟨p, vs, rfl, .inl (.inl (.inl hp)), fun l hl => Aft.newL e hl rr h⟩
/-- any of truth values -/
def D.bls : List D → Option (List Bool)
  | [] => some []
  | .bl i :: r => (D.bls r).map (i :: ·)
  | _ => none
theorem bls_reps : ∀ {vs : List V} {xs : List D} {ns : List Bool}, Reps c F vs xs → D.bls xs = some ns → vs = ns.map V.bl
  | _, _, ns, .nil, h => by
    cases Option.some.inj h
    rfl
  | _, _, ns, .cons (d := d) h r, e => by
    cases h with
    | @bl i =>
      rw [D.bls] at e
      rename_i vs ds
      cases q : D.bls ds with
      | none =>
        rw [q] at e
        cases e
      | some ms =>
        rw [q] at e
        cases Option.some.inj e
        rw [bls_reps r q]
        rfl
    | _ => simp [D.bls] at e
theorem bls_map (ns : List Bool) : D.bls (ns.map D.bl) = some ns := by
  induction ns with
  | nil => rfl
  | cons n ns ih =>
    rw [List.map_cons, D.bls, ih]
    rfl
def pAny (rs : List Val) : Res Val := match rs with
  | [a] => match a.d with
    | .lst xs => match D.bls xs with
      | some bs => .ok (.sh (.bl (bs.any id)))
      | none => .bad
    | _ => .bad
  | _ => .bad
theorem vn_any {K : PySem.W.Frag} : VN c (rAny K) pAny := by
  intro W sg F H us rs Q e hr h
  unfold pAny at h
  cases hr with
  | nil => exact h.elim
  | @cons u r us rs h1 h2 =>
    cases h2 with
    | cons _ _ => exact h.elim
    | nil =>
      have q := h1.rep e
      dsimp only at h
      cases hd : r.d with
      | lst xs =>
        rw [hd] at q
        cases q with
        | @lst p vs _ hp hv =>
          rw [hd] at h
          replace h : Aft c W sg F H Q (match D.bls xs with | some bs => .ok (.sh (.bl (bs.any id))) | none => .bad) := h
          cases hi : D.bls xs with
          | none => rw [hi] at h; exact h.elim
          | some ns =>
            rw [hi] at h
            rw [bls_reps hv hi] at hp
            exact ⟨p, ns, rfl, .inl (.inl hp), Aft.now e .bl h⟩
      | _ => rw [hd] at h; exact h.elim
end
end Bk
set_option Elab.async false
set_option linter.all false
set_option maxRecDepth 100000
set_option maxHeartbeats 4000000
/-! BkG: slices, what is walked, targets, comprehensions. -/
namespace Bk
open PySem L2

/-! ### slices -/
abbrev XP := XEnv → Res (Option Int)
def xPNone : XP := fun _ => .ok none
def xPSome (f : XE) : XP := fun env => (f env).bind fun a => match a.d with
  | .int i => .ok (some i)
  | _ => .bad
def cut {α : Type} (xs : List α) (lo hi : Option Int) : List α := (xs.drop (HT.sIx xs.length 0 lo)).take (HT.sIx xs.length xs.length hi - HT.sIx xs.length 0 lo)
theorem cut_reps {c : Ct} {F : Hp} {vs : List V} {xs : List D} (lo hi : Option Int) (h : Reps c F vs xs) : Reps c F (cutV vs lo hi) (cut xs lo hi) := by
  unfold cutV cut
  rw [h.length]
  exact (h.drop _).take _
/-- the items that may be shared -/
def Val.its2 (r : Val) : Option (List D) := match r.o, r.d with
  | .sh, .fz xs => some xs
  | _, _ => r.its
def xSl (f : XE) (lo hi : XP) : XE := fun env => (f env).bind fun a => (lo env).bind fun l => (hi env).bind fun h => match a.its2 with
  | some xs => .ok ⟨.li .sh, false, .lst (cut xs l h)⟩
  | none => .bad
section
variable (c : Ct) (W : WX) (F0 H0 : Hp)
def AftP (sg : L2.St) (F H : Hp) (Q : Option Int → Hp → Prop) : Res (Option Int) → Prop
  | .ok o => ∀ F' H', Wd F H F' H' → Q o H'
  | .exc k => ∀ F' H', Wd F H F' H' → W (.ref (c.ea k)) none sg H'
  | .bad => False
def tXP (f : XP) : TO := fun sg H Q => ∃ F env, Si c F0 H0 F H sg env ∧ AftP c W sg F H Q (f env)
end
section
variable {J : Jx} {c : Ct} {W : WX} {F0 H0 : Hp} {X : Cx} {pos : Pos} {a b e : Expr} {f : XE} {sg : L2.St} {F H F1 H1 : Hp}
theorem AftP.grow {Q : Option Int → Hp → Prop} {r : Res (Option Int)} (w : Wd F H F1 H1) (h : AftP c W sg F H Q r) : AftP c W sg F1 H1 Q r := by
  cases r with
  | ok r => exact fun F' H' w' => h F' H' (w.trans w')
  | exc k => exact fun F' H' w' => h F' H' (w.trans w')
  | bad => exact h
theorem aft_bindP {Q : VK} {f : Res (Option Int)} {g : Option Int → Res Val} (h : Aft c W sg F H Q (f.bind g)) : AftP c W sg F H (fun o Hx => ∃ F1, Wd F H F1 Hx ∧ Aft c W sg F1 Hx Q (g o)) f := by
  cases f with
  | ok a => exact fun F1 H1 w => ⟨F1, w, Aft.grow w h⟩
  | exc k => exact h
  | bad => exact h
theorem AftP.mono {Q Q' : Option Int → Hp → Prop} {r : Res (Option Int)} (h : AftP c W sg F H Q r) (k : ∀ u H', Q u H' → Q' u H') : AftP c W sg F H Q' r := by
  cases r with
  | ok r => exact fun F' H' w' => k r H' (h F' H' w')
  | exc k => exact h
  | bad => exact h
theorem aft_bindVP {Q : Option Int → Hp → Prop} {f : Res Val} {g : Val → Res (Option Int)} (h : AftP c W sg F H Q (f.bind g)) : Aft c W sg F H (fun x Hx => ∃ F1 a, Wd F H F1 Hx ∧ Rv c H F1 Hx x a ∧ AftP c W sg F1 Hx Q (g a)) f := by
  cases f with
  | ok a => exact fun F1 H1 u w rv => ⟨F1, a, w, rv, AftP.grow w h⟩
  | exc k => exact h
  | bad => exact h
theorem _root_.L2.PO.imp {X : Cx} {e : Option Expr} {t t' : TO} (h : PO X e t) (k : ∀ sg H Q, t' sg H Q → t sg H Q) : PO X e t' := ⟨fun pins s sg H Q I q => h.run pins s sg H Q I (k sg H Q q)⟩
abbrev SPo (J : Jx) (e : Option Expr) (f : XP) : Prop := PO J.X e (tXP J.c J.W J.F0 J.H0 f)
theorem spo_none : SPo J none xPNone := po_none.imp fun sg H Q ⟨F, env, si, hq⟩ => hq F H (Wd.refl si.wd.fh)
theorem spo_some (h : SE J e f) : SPo J (some e) (xPSome f) := (po_some h).imp fun sg H Q ⟨F, env, si, hq⟩ => ⟨F, env, si, (aft_bindVP hq).mono fun x H1 ⟨F1, va, w1, r1, hq1⟩ => by
  obtain ⟨o, bb, d⟩ := va
  have rr := r1.rep w1.fh
  cases rr with
  | int => exact ⟨_, rfl, hq1 F1 H1 (Wd.refl w1.fh)⟩
  | _ => exact (show False from hq1).elim⟩
theorem Rw.items2 {u : V} {r : Val} (h : Rw c F H u r) (e : Ex F H) {xs : List D} (hx : r.its2 = some xs) : ∃ a vs, u = .ref a ∧ SqL c.K H a vs ∧ Reps c F vs xs := by
  by_cases hi : r.its = some xs
  · obtain ⟨_, a, vs, e1, e2, e3⟩ := h.items e hi
    exact ⟨a, vs, e1, .inl (.inl e2), e3⟩
  · obtain ⟨o, b, d⟩ := r
    cases o with
    | sh =>
      cases d with
      | fz ys =>
        cases Option.some.inj hx
        cases h.sh1 with
        | fz ha hr => exact ⟨_, _, rfl, Evl.ex_l e ha, hr⟩
      | _ => exact absurd hx hi
    | _ => exact absurd hx hi
theorem se_slice {lo hi : Option Expr} {p2 : Pos} {fl fh : XP} (hK : J.X.K = J.c.K) (ha : SE J a f) (hl : SPo J lo fl) (hh : SPo J hi fh) : SE J (.Subscript a (.Slice lo hi none p2) pos) (xSl f fl fh) := (pe_slice sl_list ha hl hh).imp fun sg H Q ⟨F, env, si, hq⟩ => ⟨F, env, si, (aft_bind hq).mono fun x H1 ⟨F1, va, w1, r1, hq1⟩ => by
  refine ⟨F1, env, si.grow w1, (aft_bindP hq1).mono fun l H2 ⟨F2, w2, hq2⟩ => ?_⟩
  refine ⟨F2, env, (si.grow w1).grow w2, (aft_bindP hq2).mono fun u H3 ⟨F3, w3, hq3⟩ => ?_⟩
  have r3 := (r1.rw.grow w2).grow w3
  cases hx : va.its2 with
  | none => rw [hx] at hq3; exact hq3.elim
  | some xs =>
    rw [hx] at hq3
    obtain ⟨p, vs, rfl, hp, hr⟩ := r3.items2 w3.fh hx
    rw [hK]
    exact ⟨p, vs, rfl, hp, fun q hq => Aft.newL w3.fh hq (cut_reps l u hr) hq3⟩⟩
end

/-! ### what is walked -/
abbrev XI := XEnv → Res (List D)
/-- J walks ds -/
def ItOk (c : Ct) (J : It) (F : Hp) (ds : List D) : Prop := ∀ i H, Ex F H → (∀ d, ds[i]? = some d → J.go i H ∧ ∀ x H', J.yld i H x H' → H' = H ∧ Rep c F x d) ∧ (i = ds.length → J.stop i H)
section
variable (c : Ct) (W : WX) (F0 H0 : Hp)
def AftI (sg : L2.St) (F H : Hp) (R : It → Hp → Prop) : Res (List D) → Prop
  | .ok ds => ∀ F' H' J, Wd F H F' H' → ItOk c J F' ds → R J H'
  | .exc k => ∀ F' H', Wd F H F' H' → W (.ref (c.ea k)) none sg H'
  | .bad => False
def tXI (it : XI) : TI := fun sg H R => ∃ F env, Si c F0 H0 F H sg env ∧ AftI c W sg F H R (it env)
end
abbrev SI (J : Jx) (tg e : Expr) (it : XI) : Prop := PI J.X tg e (tXI J.c J.W J.F0 J.H0 it)
section
variable {J : Jx} {c : Ct} {W : WX} {F0 H0 : Hp} {X : Cx} {pos : Pos} {a b e tg : Expr} {es : List Expr} {f : XE} {sg : L2.St} {F H F1 H1 : Hp}
theorem _root_.L2.PI.imp {X : Cx} {tg e : Expr} {t t' : TI} (h : PI X tg e t) (k : ∀ sg H R, t' sg H R → t sg H R) : PI X tg e t' := ⟨fun pins s sg H R I q => h.run pins s sg H R I (k sg H R q)⟩
theorem aft_bindI {R : It → Hp → Prop} {f : Res Val} {g : Val → Res (List D)} (h : AftI c W sg F H R (f.bind g)) : Aft c W sg F H (fun x Hx => ∃ F1 a, Wd F H F1 Hx ∧ Rv c H F1 Hx x a ∧ AftI c W sg F H R (g a)) f := by
  cases f with
  | ok a => exact fun F1 H1 u w rv => ⟨F1, a, w, rv, h⟩
  | exc k => exact h
  | bad => exact h
theorem aft_bindVI {R : It → Hp → Prop} {f : Res (List Val)} {g : List Val → Res (List D)} (h : AftI c W sg F H R (f.bind g)) : AftV c W sg F H (fun us Hx => ∃ F1 rs, Wd F H F1 Hx ∧ Rws c F1 Hx us rs ∧ AftI c W sg F H R (g rs)) f := by
  cases f with
  | ok a => exact fun F1 H1 us w rv => ⟨F1, a, w, rv, h⟩
  | exc k => exact h
  | bad => exact h
theorem itOk_list {K : PySem.W.Frag} {p : Addr} {vs : List V} {xs : List D} (hp : SqL K F p vs) (hr : Reps c F vs xs) : ItOk c (Itl K p) F xs := fun i H e => by
  refine ⟨fun d hd => ?_, fun hi => ⟨vs, Evl.ex_l e hp, by rw [hr.length, hi]; exact Nat.le_refl _⟩⟩
  obtain ⟨v, hv, rv⟩ := hr.getD hd
  refine ⟨⟨vs, v, Evl.ex_l e hp, hv⟩, fun x H' y => ⟨y.1, ?_⟩⟩
  have q := y.2 vs (Evl.ex_l e hp)
  rw [hv] at q
  cases q
  exact rv
theorem itOk_tup {K : PySem.W.Frag} {p : Addr} {vs : List V} {xs : List D} (hp : SqT K F p vs) (hr : Reps c F vs xs) : ItOk c (Itt K p) F xs := fun i H e => by
  refine ⟨fun d hd => ?_, fun hi => ⟨vs, Evl.ex_t e hp, by rw [hr.length, hi]; exact Nat.le_refl _⟩⟩
  obtain ⟨v, hv, rv⟩ := hr.getD hd
  refine ⟨⟨vs, v, Evl.ex_t e hp, hv⟩, fun x H' y => ⟨y.1, ?_⟩⟩
  have q := y.2 vs (Evl.ex_t e hp)
  rw [hv] at q
  cases q
  exact rv
/-- a list that is shared from here on -/
def xIList (f : XE) : XI := fun env => (f env).bind fun a => if a.b = true then .bad else match a.d with
  | .lst xs => .ok xs
  | .fz xs => .ok xs
  | _ => .bad
theorem si_list (hK : J.X.K = J.c.K) (ha : SE J e f) : SI J tg e (xIList f) := (pi_list ha).imp fun sg H R ⟨F, env, si, hq⟩ => ⟨F, env, si, (aft_bindI hq).mono fun x H1 ⟨F1, va, w1, r1, hq1⟩ => by
  obtain ⟨o, bb, d⟩ := va
  cases bb with
  | true => exact (show False from hq1).elim
  | false =>
    obtain ⟨F2, w2, w3, r2⟩ := r1.share w1
    cases r2 with
    | @lst p vs xs hp hr => exact ⟨p, rfl, ⟨vs, .inl (.inl (w2.fh _ _ hp))⟩, hq1 F2 H1 _ w2 (itOk_list (.inl (.inl hp)) hr)⟩
    | @fz p vs xs hp hr =>
      rw [hK]
      exact ⟨p, rfl, ⟨vs, Evl.ex_l w2.fh hp⟩, hq1 F2 H1 _ w2 (itOk_list hp hr)⟩
    | _ => exact (show False from hq1).elim⟩
def xITup (f : XE) : XI := fun env => (f env).bind fun a => if a.b = true then .bad else match a.d with
  | .tup xs => .ok xs
  | _ => .bad
theorem si_tup (ha : SE J e f) : SI J tg e (xITup f) := (pi_tup ha).imp fun sg H R ⟨F, env, si, hq⟩ => ⟨F, env, si, (aft_bindI hq).mono fun x H1 ⟨F1, va, w1, r1, hq1⟩ => by
  obtain ⟨o, bb, d⟩ := va
  cases bb with
  | true => exact (show False from hq1).elim
  | false =>
    obtain ⟨F2, w2, w3, r2⟩ := r1.share w1
    cases r2 with
    | @tup p vs xs hp hr => exact ⟨p, rfl, ⟨vs, .inl (.inl (w2.fh _ _ hp))⟩, hq1 F2 H1 _ w2 (itOk_tup (.inl (.inl hp)) hr)⟩
    | _ => exact (show False from hq1).elim⟩
/-- 0 .. n - 1 -/
def rangeD (n : Int) : List D := (List.range n.toNat).map fun (k : Nat) => D.int (k : Int)
theorem rangeD_get {n : Int} {i : Nat} {d : D} (h : (rangeD n)[i]? = some d) : i < n.toNat ∧ d = .int (i : Int) := by
  unfold rangeD at h
  rw [List.getElem?_map] at h
  cases q : (List.range n.toNat)[i]? with
  | none =>
    rw [q] at h
    cases h
  | some k =>
    rw [q] at h
    obtain ⟨h1, h2⟩ := List.getElem?_eq_some_iff.mp q
    rw [List.length_range] at h1
    rw [List.getElem_range] at h2
    subst h2
    cases h
    exact ⟨h1, rfl⟩
def xIRange (fs : XVs) : XI := fun env => (fs env).bind fun rs => match rs with
  | [a] => match a.d with
    | .int n => if n ≤ 100000 ∧ -100000 ≤ n then .ok (rangeD n) else .bad
    | _ => .bad
  | _ => .bad
theorem si_range {p : Pos} {fs : XVs} (hg : Gl J.X "range") (hm : J.X.mg "range" = none) (ha : SV J [a] fs) (hs : starEach [a] J.X.env = [(false, eval a J.X.env)] := by rfl) : SI J tg (.Call (.Name "range" p) [a] [] pos) (xIRange fs) := (pi_range1 hg hm ha hs).imp fun sg H R ⟨F, env, si, hq⟩ => ⟨F, env, si, (aft_bindVI hq).mono fun us H1 ⟨F1, rs, w1, r1, hq1⟩ => by
  cases r1 with
  | nil => exact (show False from hq1).elim
  | @cons u r us rs h1 h2 =>
    cases h2 with
    | cons _ _ => exact (show False from hq1).elim
    | nil =>
      obtain ⟨o, bb, d⟩ := r
      have q := h1.rep w1.fh
      cases q with
      | @int n =>
        replace hq1 : AftI J.c J.W sg F H R (if n ≤ 100000 ∧ -100000 ≤ n then .ok (rangeD n) else .bad) := hq1
        by_cases hb : n ≤ 100000 ∧ -100000 ≤ n
        · rw [if_pos hb] at hq1
          refine ⟨n, rfl, by omega, by omega, hq1 F1 H1 _ w1 fun i Hx e => ⟨fun d hd => ?_, fun hi => ?_⟩⟩
          · obtain ⟨h3, rfl⟩ := rangeD_get hd
            refine ⟨h3, fun x H' y => ⟨y.1, ?_⟩⟩
            rw [y.2, Int.zero_add]
            exact .int
          · have : (rangeD n).length = n.toNat := by unfold rangeD; rw [List.length_map, List.length_range]
            show n.toNat ≤ i
            omega
        · rw [if_neg hb] at hq1
          exact hq1.elim
      | _ => exact (show False from hq1).elim⟩
/-- reversed(xs) -/
def xIRev (fs : XA) : XI := fun env => (fs env).bind fun rs => match rs with
  | [d] => match d with
    | .lst xs => .ok xs.reverse
    | _ => .bad
  | _ => .bad
theorem aft_bindAI {R : It → Hp → Prop} {f : Res (List D)} {g : List D → Res (List D)} (h : AftI c W sg F H R (f.bind g)) : AftA c W sg F H (fun us Hx => ∃ F1 ds, Wd F H F1 Hx ∧ Reps c F1 us ds ∧ AftI c W sg F H R (g ds)) f := by
  cases f with
  | ok a => exact fun F1 H1 us w rv => ⟨F1, a, w, rv, h⟩
  | exc k => exact h
  | bad => exact h
theorem si_rev {p : Pos} {fs : XA} (hg : Gl J.X "reversed") (hm : J.X.mg "reversed" = none) (ha : SA J [a] fs) (hs : starEach [a] J.X.env = [(false, eval a J.X.env)] := by rfl) : SI J tg (.Call (.Name "reversed" p) [a] [] pos) (xIRev fs) := (pi_reversed hg hm ha hs).imp fun sg H R ⟨F, env, si, hq⟩ => ⟨F, env, si, (aft_bindAI hq).mono fun us H1 ⟨F1, ds, w1, r1, hq1⟩ => by
  cases r1 with
  | nil => exact (show False from hq1).elim
  | @cons u d us ds h1 h2 =>
    cases h2 with
    | cons _ _ => exact (show False from hq1).elim
    | nil =>
      cases h1 with
      | @lst p vs xs hp hr =>
        have hl := hr.length
        refine ⟨p, vs, rfl, .inl (.inl (w1.fh _ _ hp)), hq1 F1 H1 _ w1 fun i Hx e => ⟨fun d hd => ?_, fun hi => ?_⟩⟩
        · have hi : i < xs.length := by
            have := (List.getElem?_eq_some_iff.mp hd).1
            rw [List.length_reverse] at this
            exact this
          rw [List.getElem?_reverse hi] at hd
          obtain ⟨v, hv, rv⟩ := hr.getD hd
          rw [← hl] at hv
          refine ⟨⟨by rw [hl]; exact hi, vs, v, .inl (.inl (e _ _ hp)), hv⟩, fun x H' y => ⟨y.1, ?_⟩⟩
          have q := y.2 vs (.inl (.inl (e _ _ hp)))
          rw [hv] at q
          cases q
          exact rv
        · show vs.length ≤ i
          rw [hl, hi, List.length_reverse]
          exact Nat.le_refl _
      | _ => exact (show False from hq1).elim⟩
end

/-! ### targets -/
inductive Tg where
  | nm (i : Nat) | tp (is : List Nat)
def putAll : List Nat → List D → XEnv → Option XEnv
  | [], [], env => some env
  | i :: is, d :: ds, env => putAll is ds (env.set i (some (.sh, d)))
  | _, _, _ => none
def Tg.put : Tg → D → XEnv → Option XEnv
  | .nm i, d, env => some (env.set i (some (.sh, d)))
  | .tp is, .tup ds, env => putAll is ds env
  | _, _, _ => none
def Tg.ixs : Tg → List Nat
  | .nm i => [i]
  | .tp is => is
def setAll : List Nat → List V → L2.St → L2.St
  | i :: is, v :: vs, sg => setAll is vs (sg.set i (some v))
  | _, _, sg => sg
def gNames : List Nat → TGs
  | [] => gNil
  | i :: is => gCons (gName i) (gNames is)
def Tg.t (K : PySem.W.Frag) : Tg → TG
  | .nm i => gName i
  | .tp is => gTup K is.length (gNames is)
section
variable {J : Jx} {c : Ct} {W : WX} {F0 H0 : Hp} {X : Cx} {pos : Pos} {sg : L2.St} {F H : Hp} {env : XEnv}
theorem Si.put (s : Si c F0 H0 F H sg env) {v : V} {d : D} (r : Rep c F v d) (i : Nat) : Si c F0 H0 F H (sg.set i (some v)) (env.set i (some (.sh, d))) := s.store (Wd.refl s.wd.fh) (Rv.sh r) i
theorem gNames_ok {Q : L2.St → Hp → Prop} : ∀ {is : List Nat} {vs : List V} {ds : List D} {sg : L2.St} {env env' : XEnv}, Si c F0 H0 F H sg env → Reps c F vs ds → putAll is ds env = some env' → (Si c F0 H0 F H (setAll is vs sg) env' → Q (setAll is vs sg) H) → gNames is vs sg H Q
  | [], _, _, sg, env, env', s, .nil, h, k => by
    cases Option.some.inj h
    exact ⟨rfl, k s⟩
  | [], _, _, sg, env, env', s, .cons _ _, h, k => nomatch h
  | i :: is, _, _, sg, env, env', s, .nil, h, k => nomatch h
  | i :: is, _, _, sg, env, env', s, .cons (v := v) (vs := vs) r rs, h, k => ⟨v, vs, rfl, gNames_ok (s.put r i) rs h k⟩
theorem putAll_len : ∀ {is : List Nat} {ds : List D} {env env' : XEnv}, putAll is ds env = some env' → is.length = ds.length
  | [], [], _, _, _ => rfl
  | [], _ :: _, _, _, h => nomatch h
  | _ :: _, [], _, _, h => nomatch h
  | i :: is, d :: ds, env, env', h => by rw [List.length_cons, List.length_cons, putAll_len (is := is) (ds := ds) h]
theorem Tg.ok {tg : Tg} {v : V} {d : D} {env' : XEnv} {Q : L2.St → Hp → Prop} (K : PySem.W.Frag) (s : Si c F0 H0 F H sg env) (r : Rep c F v d) (h : tg.put d env = some env') (k : ∀ vs, Si c F0 H0 F H (setAll tg.ixs vs sg) env' → Q (setAll tg.ixs vs sg) H) : tg.t K v sg H Q := by
  cases tg with
  | nm i =>
    cases Option.some.inj h
    exact k [v] (s.put r i)
  | tp is =>
    cases r with
    | @tup a vs ds ha hr =>
      have h2 : putAll is ds env = some env' := h
      have hl : is.length = ds.length := putAll_len h2
      exact ⟨a, vs, rfl, .inl (.inl (s.wd.fh _ _ ha)), by rw [hr.length, hl], gNames_ok s hr h2 (k vs)⟩
    | _ => exact nomatch h
theorem pg_nm {x : Str} (i : Nat) (hN : X.N.Nodup) (hi : X.N[i]? = some x := by rfl) (hx : Loc X.env.scope x := by first | exact Or.inl rfl | exact Or.inr rfl) (hf : X.fn x = true ∨ X.env.scope.names.lookup x = some .local := by first | exact .inl rfl | exact .inr rfl) : PG X (.Name x pos) ((Tg.nm i).t X.K) := pg_name hN hi hx hf
theorem pg_tp {es : List Expr} {k : Nat} (is : List Nat) (hc : X.calm = true) (h : PGs X es (gNames is))
    (hn : (assignEach es X.env).length = is.length := by rfl) (hst : (assignEach es X.env).findIdx? (·.1) = none := by rfl) : PG X (.Tuple es k pos) ((Tg.tp is).t X.K) := pg_tup hc h hn hst
theorem pgn_nil : PGs X [] (gNames []) := pgs_nil
theorem pgn_cons {x : Str} {es : List Expr} {is : List Nat} (i : Nat) (hN : X.N.Nodup) (h2 : PGs X es (gNames is)) (hi : X.N[i]? = some x := by rfl) (hx : Loc X.env.scope x := by first | exact Or.inl rfl | exact Or.inr rfl) (hf : X.fn x = true ∨ X.env.scope.names.lookup x = some .local := by first | exact .inl rfl | exact .inr rfl)
    (hs : (assignEach (.Name x pos :: es) X.env).map (·.2) = assign (.Name x pos) X.env :: (assignEach es X.env).map (·.2) := by rfl) : PGs X (.Name x pos :: es) (gNames (i :: is)) := pgs_cons (pg_name hN hi hx hf) h2 hs
end

/-! ### comprehensions -/
def WF : WX := fun _ _ _ _ => False
def wipeX (env : XEnv) : List Nat → XEnv
  | [] => env
  | v :: vs => (wipeX env vs).set v none
def xYes : XB := fun _ => .ok true
def lcGo (step : D → Res (Option D)) : List D → Res (List D)
  | [] => .ok []
  | d :: ds => (step d).bind fun o => (lcGo step ds).bind fun r => .ok (o.toList ++ r)
def lcStep (tg : Tg) (cond : XB) (f : XE) (env : XEnv) (d : D) : Res (Option D) := match tg.put d env with
  | none => .bad
  | some e1 => match cond e1 with
    | .ok true => match f e1 with
      | .ok a => if a.b = true then .bad else .ok (some a.d)
      | _ => .bad
    | .ok false => .ok none
    | _ => .bad
def xLc (vs : List Nat) (it : XI) (tg : Tg) (cond : XB) (f : XE) : XE := fun env => (it env).bind fun ds => if ds.length ≤ 100000 then (match lcGo (lcStep tg cond f (wipeX env vs)) ds with
  | .ok xs => .ok ⟨.li .sh, false, .lst xs⟩
  | _ => .bad) else .bad
section
variable {J : Jx} {c : Ct} {W : WX} {F0 H0 : Hp} {X : Cx} {pos : Pos} {sg : L2.St} {F H : Hp} {env : XEnv}
theorem Si.wipe (s : Si c F0 H0 F H sg env) : ∀ vs : List Nat, Si c F0 H0 F H (L2.wipe sg vs) (wipeX env vs)
  | [] => s
  | v :: vs => (Si.wipe s vs).drop v none
theorem wipe_get (sg : L2.St) : ∀ (vs : List Nat) (j : Nat), (L2.wipe sg vs)[j]? = if j ∈ vs ∧ j < sg.length then some none else sg[j]?
  | [], j => by simp [L2.wipe]
  | v :: vs, j => by
    unfold L2.wipe
    by_cases q : j = v
    · subst q
      by_cases hl : j < sg.length
      · rw [List.getElem?_set_self (by rw [wipe_length]; exact hl), if_pos ⟨List.mem_cons_self, hl⟩]
      · rw [List.getElem?_eq_none_iff.mpr (by rw [List.length_set, wipe_length]; omega), if_neg (fun z => hl z.2), List.getElem?_eq_none_iff.mpr (by omega)]
    · rw [List.getElem?_set_ne (Ne.symm q), wipe_get sg vs j]
      by_cases h : j ∈ vs ∧ j < sg.length
      · rw [if_pos h, if_pos ⟨List.mem_cons_of_mem _ h.1, h.2⟩]
      · rw [if_neg h, if_neg (fun z => h ⟨(List.mem_cons.mp z.1).resolve_left q, z.2⟩)]
theorem setAll_len : ∀ (is : List Nat) (vs : List V) (sg : L2.St), (setAll is vs sg).length = sg.length
  | [], _, _ => rfl
  | _ :: _, [], _ => rfl
  | i :: is, v :: vs, sg => by rw [setAll, setAll_len is vs, List.length_set]
theorem setAll_get : ∀ (is : List Nat) (vs : List V) (sg : L2.St) (j : Nat), j ∉ is → (setAll is vs sg)[j]? = sg[j]?
  | [], _, _, _, _ => rfl
  | _ :: _, [], _, _, _ => rfl
  | i :: is, v :: vs, sg, j, h => by
    have ne : i ≠ j := fun z => h (by rw [z]; exact List.mem_cons_self)
    rw [setAll, setAll_get is vs _ j fun z => h (List.mem_cons_of_mem _ z), List.getElem?_set_ne ne]
theorem wipe_setAll {vs : List Nat} {is : List Nat} (us : List V) (sg : L2.St) (h : ∀ i ∈ is, i ∈ vs) : L2.wipe (setAll is us (L2.wipe sg vs)) vs = L2.wipe sg vs := by
  refine List.ext_getElem? fun j => ?_
  rw [wipe_get, setAll_len, wipe_length]
  by_cases q : j ∈ vs ∧ j < sg.length
  · rw [if_pos q, wipe_get, if_pos q]
  · rw [if_neg q]
    by_cases hj : j ∈ is
    · have hl : ¬ j < sg.length := fun z => q ⟨h j hj, z⟩
      rw [List.getElem?_eq_none_iff.mpr (by rw [setAll_len, wipe_length]; omega), List.getElem?_eq_none_iff.mpr (by rw [wipe_length]; omega)]
    · rw [setAll_get is us _ j hj]
theorem lcGo_cons {step : D → Res (Option D)} {d : D} {ds : List D} {r : List D} (h : lcGo step (d :: ds) = .ok r) : ∃ o r', step d = .ok o ∧ lcGo step ds = .ok r' ∧ r = o.toList ++ r' := by
  rw [lcGo] at h
  cases q : step d with
  | ok o =>
    rw [q] at h
    cases q2 : lcGo step ds with
    | ok r' =>
      rw [q2] at h
      cases h
      exact ⟨o, r', rfl, rfl, rfl⟩
    | _ => rw [q2] at h; cases h
  | _ => rw [q] at h; cases h
theorem tX_lc {K : PySem.W.Frag} {vs : List Nat} {it : XI} {tg : Tg} {cond : XB} {f : XE} {Q : VK} (hv : ∀ i ∈ tg.ixs, i ∈ vs) (h : tX c W F0 H0 (xLc vs it tg cond f) sg H Q) : tLc (tXI c W F0 H0 it) (tg.t K) (tXB c WF F0 H0 cond) (tX c WF F0 H0 f) vs sg H Q := by
  obtain ⟨F, env, si, hq⟩ := h
  refine ⟨F, env, si, ?_⟩
  unfold xLc at hq
  cases hit : it env with
  | exc k => rw [hit] at hq; exact hq
  | bad => rw [hit] at hq; exact hq
  | ok ds =>
    rw [hit] at hq
    intro F1 H1 Ji w1 hJ L hL
    replace hq : Aft c W sg F H Q (if ds.length ≤ 100000 then (match lcGo (lcStep tg cond f (wipeX env vs)) ds with
      | .ok xs => .ok ⟨.li .sh, false, .lst xs⟩
      | _ => .bad) else .bad) := hq
    by_cases hlen : ds.length ≤ 100000
    · rw [if_pos hlen] at hq
      cases htot : lcGo (lcStep tg cond f (wipeX env vs)) ds with
      | exc k => rw [htot] at hq; exact hq.elim
      | bad => rw [htot] at hq; exact hq.elim
      | ok tot =>
        rw [htot] at hq
        replace hq : Aft c W sg F H Q (.ok ⟨.li .sh, false, .lst tot⟩) := hq
        refine ⟨fun i m Hx => m = ds.length - i ∧ i ≤ ds.length ∧ ∃ Fi xs us rest, Hx L = some (.lst us) ∧ Reps c Fi us xs ∧ Wd F1 H1 Fi Hx ∧ Fi L = none ∧ xs.length ≤ i ∧ lcGo (lcStep tg cond f (wipeX env vs)) (ds.drop i) = .ok rest ∧ tot = xs ++ rest,
          ⟨ds.length, by simp, Nat.zero_le _, F1, [], [], tot, upd_same, .nil, ⟨Evl.Ex.refl F1, w1.fh.trans (Evl.Ex.new hL), Evl.Ex.new hL, fun a h1 h2 => absurd h1 h2⟩, Evl.fresh_back w1.fh hL, Nat.le_refl _, htot, rfl⟩, ?_⟩
        rintro i m Hx ⟨rfl, hi, Fi, xs, us, rest, hD, hr, wi, fD, hxl, hrest, htt⟩
        by_cases hlt : i < ds.length
        · refine .inr ?_
          obtain ⟨d, hd⟩ : ∃ d, ds[i]? = some d := ⟨ds[i], by simp [hlt]⟩
          have hdrop : ds.drop i = d :: ds.drop (i + 1) := by
            have e1 := List.getElem?_eq_some_iff.mp hd
            obtain ⟨e1, e2⟩ := e1
            rw [← e2]
            exact List.drop_eq_getElem_cons hlt
          rw [hdrop] at hrest
          obtain ⟨o, r', hs, hr', htt'⟩ := lcGo_cons hrest
          obtain ⟨jg, jy⟩ := (hJ i Hx (wi.f.trans wi.fh)).1 d hd
          refine ⟨jg, fun H' => ∃ m', m' < ds.length - i ∧ (m' = ds.length - (i + 1) ∧ i + 1 ≤ ds.length ∧ ∃ Fi xs us rest, H' L = some (.lst us) ∧ Reps c Fi us xs ∧ Wd F1 H1 Fi H' ∧ Fi L = none ∧ xs.length ≤ i + 1 ∧ lcGo (lcStep tg cond f (wipeX env vs)) (ds.drop (i + 1)) = .ok rest ∧ tot = xs ++ rest), fun H' hn => hn, fun x H' y => ?_⟩
          obtain ⟨eH, rx⟩ := jy x H' y
          subst eH
          unfold lcStep at hs
          cases hp : tg.put d (wipeX env vs) with
          | none => rw [hp] at hs; cases hs
          | some e1 =>
            rw [hp] at hs
            have si1 : Si c F0 H0 Fi H' (L2.wipe sg vs) (wipeX env vs) := (si.grow (w1.trans wi)).wipe vs
            refine Tg.ok K si1 (rx.mono wi.f) hp fun vv si2 => ⟨wipe_setAll vv sg hv, Fi, e1, si2, ?_⟩
            replace hs : (match cond e1 with
              | .ok true => match f e1 with
                | .ok a => if a.b = true then .bad else .ok (some a.d)
                | _ => .bad
              | .ok false => .ok none
              | _ => .bad) = Res.ok o := hs
            cases hc : cond e1 with
            | exc k => rw [hc] at hs; cases hs
            | bad => rw [hc] at hs; cases hs
            | ok b =>
              rw [hc] at hs
              intro F2 H2 w2
              cases b with
              | false =>
                cases hs
                refine iteF ⟨ds.length - (i + 1), by omega, rfl, by omega, F2, xs, us, r', w2.h _ _ hD, hr.mono w2.f, wi.trans w2, wd_none w2 fD (by rw [hD]; exact fun z => by cases z), by omega, hr', by rw [htt, htt']; rfl⟩
              | true =>
                replace hs : (match f e1 with
                  | .ok a => if a.b = true then .bad else .ok (some a.d)
                  | _ => .bad) = Res.ok o := hs
                cases hf : f e1 with
                | exc k => rw [hf] at hs; cases hs
                | bad => rw [hf] at hs; cases hs
                | ok a =>
                  rw [hf] at hs
                  obtain ⟨oa, ba, da⟩ := a
                  cases ba with
                  | true => exact nomatch hs
                  | false =>
                    cases hs
                    refine iteT ⟨F2, e1, si2.grow w2, ?_⟩
                    rw [hf]
                    intro F3 H3 u w3 rv
                    obtain ⟨F4, w4, w5, ru⟩ := rv.share w3
                    have w6 : Wd Fi H' F4 H3 := w2.trans w4
                    have hD3 : H3 L = some (.lst us) := w6.h _ _ hD
                    have fD4 : F4 L = none := wd_none w6 fD (by rw [hD]; exact fun z => by cases z)
                    have w7 : Wd F1 H1 F4 H3 := wi.trans w6
                    refine ⟨us, hD3, Evl.sz_lt (by rw [hr.length]; omega), ds.length - (i + 1), by omega, rfl, by omega, F4, xs ++ [da], us ++ [u], r', upd_same, (hr.mono w6.f).append (.cons ru .nil), ⟨w7.f, ?_, w7.h.mut hL, w7.n⟩, fD4, by rw [List.length_append, List.length_singleton]; omega, hr', ?_⟩
                    · exact w7.fh.mut fD4
                    · rw [htt, htt', List.append_assoc]
                      rfl
        · have e : i = ds.length := by omega
          refine .inl ⟨(hJ i Hx (wi.f.trans wi.fh)).2 e, ?_⟩
          rw [e, List.drop_length] at hrest
          cases hrest
          rw [List.append_nil] at htt
          subst htt
          have wt := w1.trans wi
          refine hq Fi Hx (.ref L) wt ⟨fun a => a = L, ⟨L, us, tot, rfl, rfl, rfl, hD, hr.length, fun _ _ => False, fun _ _ z => z.elim, fun _ _ _ z => z.elim, fun k u x hu hx => ?_⟩, fun a ea => ?_⟩
          · obtain ⟨d, h1, h2⟩ := hr.get hu
            rw [hx] at h1
            cases h1
            exact h2
          · subst ea
            exact ⟨fun _ => Evl.fresh_back w1.h hL, fD, by rw [hD]; exact fun z => by cases z⟩
    · rw [if_neg hlen] at hq
      exact hq.elim
theorem _root_.L2.PTs.imp {X : Cx} {es : List Expr} {t t' : TT} (h : PTs X es t) (k : ∀ sg H Q, t' sg H Q → t sg H Q) : PTs X es t' := ⟨fun pins s sg H Q I q => h.run pins s sg H Q I (k sg H Q q)⟩
abbrev SPt (J : Jx) (es : List Expr) (f : XB) : Prop := PTs J.X es (tXB J.c J.W J.F0 J.H0 f)
theorem spt_nil : SPt J [] xYes := pts_nil.imp fun sg H Q ⟨F, env, si, hq⟩ => hq F H (Wd.refl si.wd.fh)
theorem spt_one {e : Expr} {t : XB} (h : SB J e t) : SPt J [e] t := pts_one h
/-- within a comprehension's block -/
abbrev Jx.blk (J : Jx) (s : Shared) (H : Hp) (scope : Scope) (C : Addr) (cl : List (Str × Addr)) (fp : List Addr) : Jx := ⟨J.X.blk s H scope (compEnvC scope cl C J.X.env) fp, J.c, WF, J.F0, J.H0⟩
theorem takesF {X : Cx} : Takes X WF := takes0
variable {elt tgt iter : Expr} {ifs : List Expr} {scope : Scope} {own : List (Str × Nat)} {it : XI} {tg : Tg} {cond : XB} {f : XE}
theorem se_lc (own : List (Str × Nat)) (hc : J.X.calm = true) (hN : J.X.N.Nodup) (hi : SI J tgt iter it) (ok : BlkOk J.X.N J.X.env.scope scope own)
    (hg : ∀ s H C cl fp, PG (J.blk s H scope C cl fp).X tgt (tg.t J.X.K)) (ht : ∀ s H C cl fp, SPt (J.blk s H scope C cl fp) ifs cond) (he : ∀ s H C cl fp, SE (J.blk s H scope C cl fp) elt f) (hv : ∀ i ∈ tg.ixs, i ∈ own.map (·.2) := by decide)
    (hs : ∀ x, foldedSetIterable iter J.X.env x = pure x := by intro _; rfl) : SE J (.ListComp elt [⟨tgt, iter, ifs, 0⟩] scope pos) (xLc (own.map (·.2)) it tg cond f) :=
  (pe_lc hc hN hi ok hg ht he hs).imp fun sg H Q h => tX_lc hv h
end
end Bk
set_option Elab.async false
set_option linter.all false
set_option maxRecDepth 100000
set_option maxHeartbeats 4000000
/-! BkH: statements over plain data. -/
namespace Bk
open PySem L2

section
variable {J : Jx} {c : Ct} {W : WX} {F0 H0 : Hp} {X : Cx} {pos : Pos} {sg : L2.St} {F H F1 H1 : Hp} {env : XEnv} {st : Stmt} {sts : List Stmt} {g h : XS} {e : Expr} {f : XE} {t : XB} {D : Ends}
theorem AftS.grow {o : Out} (e : Ex F F1) (h : AftS c W F0 H0 F D o) : AftS c W F0 H0 F1 D o := by
  cases o with
  | next x => exact fun F' H' sg' e' s => h F' H' sg' (e.trans e') s
  | ret r => exact ⟨h.1, fun F' H' u e' w rv => h.2 F' H' u (e.trans e') w rv⟩
  | rete d x => exact fun F' H' sg' u e' s r => h F' H' sg' u (e.trans e') s r
  | brk x => exact fun F' H' sg' e' s => h F' H' sg' (e.trans e') s
  | cont x => exact fun F' H' sg' e' s => h F' H' sg' (e.trans e') s
  | exc k x => exact fun F' H' sg' e' s => h F' H' sg' (e.trans e') s
  | bad => exact h
/-! ### blocks -/
def xSkip : XS := fun env => .next env
def xSeq (g h : XS) : XS := fun env => match g env with
  | .next e => h e
  | o => o
theorem sss_nil : SSs J [] xSkip := pss_nil.imp fun D sg H ⟨F, env, si, hq⟩ => hq F H sg (Evl.Ex.refl F) si
theorem sss_one (h1 : SS J st g) : SSs J [st] g := pss_one h1
theorem sss_cons (h1 : SS J st g) (h2 : SSs J sts h) : SSs J (st :: sts) (xSeq g h) := (pss_cons h1 h2).imp fun D sg H ⟨F, env, si, hq⟩ => ⟨F, env, si, by
  unfold xSeq at hq
  cases q : g env with
  | next x =>
    rw [q] at hq
    exact fun F' H' sg' e s => ⟨F', x, s, AftS.grow e hq⟩
  | ret r => rw [q] at hq; exact hq
  | rete d x => rw [q] at hq; exact hq
  | brk x => rw [q] at hq; exact hq
  | cont x => rw [q] at hq; exact hq
  | exc k x => rw [q] at hq; exact hq
  | bad => rw [q] at hq; exact hq⟩
/-- a slot is shared from here on (no statement of the text) -/
def fz (i : Nat) : XEnv → XEnv := fun env => match env[i]? with
  | some (some (_, d)) => env.set i (some (.sh, d))
  | _ => env
def xFz (i : Nat) (g : XS) : XS := fun env => g (fz i env)
theorem sss_fz (i : Nat) (h1 : SSs J sts g) : SSs J sts (xFz i g) := h1.imp fun D sg H ⟨F, env, si, hq⟩ => by
  unfold xFz fz at hq
  cases q : env[i]? with
  | none => rw [q] at hq; exact ⟨F, env, si, hq⟩
  | some z =>
    rw [q] at hq
    cases z with
    | none => exact ⟨F, env, si, hq⟩
    | some z =>
      obtain ⟨o, d⟩ := z
      obtain ⟨F', w, e, si'⟩ := si.freeze q
      exact ⟨F', _, si', AftS.grow e hq⟩
theorem ss_doc {x : Str} {j : Nat} {p p' : Pos} : SS J (.Expr (.Constant (.str x) j p) p') xSkip := ps_doc.imp fun D sg H ⟨F, env, si, hq⟩ => hq F H sg (Evl.Ex.refl F) si
theorem ss_pass : SS J (.Pass pos) xSkip := ps_pass.imp fun D sg H ⟨F, env, si, hq⟩ => hq F H sg (Evl.Ex.refl F) si
/-! ### expressions within statements -/
/-- what is left of an expression, the statement's end behind it -/
theorem aftS_bind {R : Res Val} {k : Val → Out} {Q : VK} (si : Si c F0 H0 F H sg env) (hq : AftS c W F0 H0 F D (match R with | .ok a => k a | .exc n => .exc n env | .bad => .bad))
    (hk : ∀ F1 H1 u a, Wd F H F1 H1 → Rv c H F1 H1 u a → R = .ok a → AftS c W F0 H0 F D (k a) → Q u H1) : Aft c W sg F H Q R := by
  cases R with
  | ok a => exact fun F1 H1 u w rv => hk F1 H1 u a w rv rfl hq
  | exc n => exact fun F1 H1 w => hq F1 H1 sg w.f (si.grow w)
  | bad => exact hq
theorem aftS_bindB {R : Res Bool} {k : Bool → Out} {Q : Bool → Hp → Prop} (si : Si c F0 H0 F H sg env) (hq : AftS c W F0 H0 F D (match R with | .ok a => k a | .exc n => .exc n env | .bad => .bad))
    (hk : ∀ F1 H1 b, Wd F H F1 H1 → AftS c W F0 H0 F D (k b) → Q b H1) : AftB c W sg F H Q R := by
  cases R with
  | ok a => exact fun F1 H1 w => hk F1 H1 a w hq
  | exc n => exact fun F1 H1 w => hq F1 H1 sg w.f (si.grow w)
  | bad => exact hq
def xSet (i : Nat) (f : XE) : XS := fun env => match f env with
  | .ok a => if a.b = true then .bad else .next (env.set i (some (a.o, a.d)))
  | .exc n => .exc n env
  | .bad => .bad
theorem set_tS {i : Nat} {te : TE} (hte : ∀ {sg H Q}, tX c W F0 H0 f sg H Q → te sg H Q) (q : tXS c W F0 H0 (xSet i f) D sg H) : tAsg te (gName i) D sg H := by
  obtain ⟨F, env, si, hq⟩ := q
  refine hte ⟨F, env, si, aftS_bind (k := fun a => if a.b = true then .bad else .next (env.set i (some (a.o, a.d)))) si hq fun F1 H1 u a w rv _ hk => ?_⟩
  obtain ⟨o, b, d⟩ := a
  cases b with
  | true => exact (show False from hk).elim
  | false => exact hk F1 H1 _ w.f (si.store w rv i)
theorem ss_set {x : Str} {pos' : Pos} (i : Nat) (hN : J.X.N.Nodup) (he : SE J e f) (hi : J.X.N[i]? = some x := by rfl) (hx : Loc J.X.env.scope x := by first | exact Or.inl rfl | exact Or.inr rfl) (hs : swapsWith e (some (.Name x pos')) pos.line J.X.env = pure false := by rfl)
    (hf : J.X.fn x = true ∨ J.X.env.scope.names.lookup x = some .local := by first | exact .inl rfl | exact .inr rfl) : SS J (.Assign [.Name x pos'] e pos) (xSet i f) := (ps_set hN hi hx he hs hf).imp fun D sg H q => set_tS id q
theorem ss_setLc {x : Str} {pos' pos2 : Pos} {elt tgt iter : Expr} {ifs : List Expr} {scope : Scope} {it : XI} {tg : Tg} {cond : XB} (i : Nat) (own : List (Str × Nat)) (hc : J.X.calm = true) (hN : J.X.N.Nodup) (hi : SI J tgt iter it) (ok : BlkOk J.X.N J.X.env.scope scope own)
    (hg : ∀ s H C cl fp, PG (J.blk s H scope C cl fp).X tgt (tg.t J.X.K)) (ht : ∀ s H C cl fp, SPt (J.blk s H scope C cl fp) ifs cond) (he : ∀ s H C cl fp, SE (J.blk s H scope C cl fp) elt f) (hy : J.X.N[i]? = some x := by rfl) (hyl : J.X.env.scope.names.lookup x = some .local := by rfl)
    (hsw : swapsWith (.ListComp elt [⟨tgt, iter, ifs, 0⟩] scope pos) (some (.Name x pos')) pos2.line J.X.env = pure true := by exact sw_true rfl rfl rfl (by decide +kernel)) (hv : ∀ i ∈ tg.ixs, i ∈ own.map (·.2) := by decide)
    (hs : ∀ x, foldedSetIterable iter J.X.env x = pure x := by intro _; rfl) : SS J (.Assign [.Name x pos'] (.ListComp elt [⟨tgt, iter, ifs, 0⟩] scope pos) pos2) (xSet i (xLc (own.map (·.2)) it tg cond f)) :=
  (ps_setLc hc hN hy hyl hsw hi ok hg ht he hs).imp fun D sg H q => set_tS (tX_lc hv) q
/-- a, b, .. = a tuple -/
def xUnp (is : List Nat) (f : XE) : XS := fun env => match f env with
  | .ok a => if a.b = true then .bad else match (Tg.tp is).put a.d env with
    | some e => .next e
    | none => .bad
  | .exc n => .exc n env
  | .bad => .bad
theorem ss_unp {tgt : Expr} (is : List Nat) (he : SE J e f) (hg : PG J.X tgt ((Tg.tp is).t J.X.K)) (hs : swapsWithSole [tgt] e pos.line J.X.env = pure false := by rfl) (hw : swappedStores [tgt] e J.X.env = pure none := by rfl)
    (h1 : (assignEach [tgt] J.X.env).map (·.2) = [assign tgt J.X.env] := by rfl) : SS J (.Assign [tgt] e pos) (xUnp is f) := (ps_asg he hg hs hw h1).imp fun D sg H ⟨F, env, si, hq⟩ => ⟨F, env, si, by
  refine aftS_bind (k := fun a => if a.b = true then .bad else match (Tg.tp is).put a.d env with | some e => .next e | none => .bad) si hq fun F1 H1 u a w rv _ hk => ?_
  obtain ⟨o, b, d⟩ := a
  cases b with
  | true => exact (show False from hk).elim
  | false =>
    obtain ⟨F2, w2, w3, r2⟩ := rv.share w
    replace hk : AftS J.c J.W J.F0 J.H0 F D (match (Tg.tp is).put d env with | some e => .next e | none => .bad) := hk
    cases hp : (Tg.tp is).put d env with
    | none => rw [hp] at hk; exact hk.elim
    | some e1 =>
      rw [hp] at hk
      exact Tg.ok J.X.K (si.grow w2) r2 hp fun vs s2 => hk F2 H1 _ w2.f s2⟩
/-- a, b = x, y: two local names -/
def xPar (i j : Nat) (fs : XA) : XS := fun env => match fs env with
  | .ok [d, e] => .next ((env.set i (some (.sh, d))).set j (some (.sh, e)))
  | .ok _ => .bad
  | .exc n => .exc n env
  | .bad => .bad
/-- a value is dropped -/
def xDrop (f : XE) : XS := fun env => match f env with
  | .ok _ => .next env
  | .exc n => .exc n env
  | .bad => .bad
theorem ss_drop (he : SE J e f) (hs : swapsWith e none pos.line J.X.env = pure false := by rfl) : SS J (.Expr e pos) (xDrop f) := (ps_expr he hs).imp fun D sg H ⟨F, env, si, hq⟩ => ⟨F, env, si, aftS_bind (k := fun _ => .next env) si hq fun F1 H1 u a w rv _ hk => hk F1 H1 sg w.f (si.grow w)⟩
/-! ### return -/
def xRet (f : XE) : XS := fun env => match f env with
  | .ok a => if a.b = true then .bad else .ret a
  | .exc n => .exc n env
  | .bad => .bad
theorem ss_ret (he : SE J e f) : SS J (.Return (some e) pos) (xRet f) := (ps_ret he).imp fun D sg H ⟨F, env, si, hq⟩ => ⟨F, env, si, by
  refine aftS_bind (k := fun a => if a.b = true then .bad else .ret a) si hq fun F1 H1 u a w rv _ hk => ?_
  obtain ⟨o, b, d⟩ := a
  cases b with
  | true => exact (show False from hk).elim
  | false => exact hk.2 F1 H1 u w.f (si.wd.trans w) (rv.weak si.wd.h)⟩
/-- return x: what the slot holds goes to the caller -/
def xRetV (i : Nat) : XS := fun env => match env[i]? with
  | some (some (o, d)) => .ret ⟨o, false, d⟩
  | _ => .bad
theorem ss_retV {x : Str} {p : Pos} (i : Nat) (hN : J.X.N[i]? = some x := by rfl) (hv : Vis J.X.env.scope x := by first | exact Or.inl rfl | exact Or.inr (Or.inl rfl) | exact Or.inr (Or.inr rfl)) (hd : (x == ("__debug__" : Str)) = false := by decide) (hcd : (x == ("__classdict__" : Str)) = false := by decide) :
    SS J (.Return (some (.Name x p)) pos) (xRetV i) := (ps_ret (pe_var hN hv hd hcd)).imp fun D sg H ⟨F, env, si, hq⟩ => by
  unfold xRetV at hq
  cases q : env[i]? with
  | none => rw [q] at hq; exact hq.elim
  | some z =>
    rw [q] at hq
    cases z with
    | none => exact hq.elim
    | some z =>
      obtain ⟨o, d⟩ := z
      obtain ⟨S, s1, s2, s3⟩ := si.own
      obtain ⟨v, h1, h2⟩ := s3 i o d q
      exact ⟨v, h1, hq.2 F H v (Evl.Ex.refl F) si.wd ⟨S i, h2, fun a sa => ⟨fun _ => (s2 i a sa).1, (s2 i a sa).2⟩⟩⟩
theorem ss_retN : SS J (.Return none pos) (fun _ => .ret (.sh .non)) := ps_retN.imp fun D sg H ⟨F, env, si, hq⟩ => hq.2 F H .non (Evl.Ex.refl F) si.wd (Rv.sh .non)
/-! ### if -/
def xIfS (t : XB) (g h : XS) : XS := fun env => match t env with
  | .ok b => if b = true then g env else h env
  | .exc n => .exc n env
  | .bad => .bad
theorem ss_if {a b : List Stmt} (hc : SB J e t) (ha : SSs J a g) (hb : SSs J b h) : SS J (.If e a b pos) (xIfS t g h) := (ps_if hc ha hb).imp fun D sg H ⟨F, env, si, hq⟩ => ⟨F, env, si, by
  refine aftS_bindB (k := fun b => if b = true then g env else h env) si hq fun F1 H1 b w hk => ?_
  cases b with
  | true => exact iteT ⟨F1, env, si.grow w, AftS.grow w.f hk⟩
  | false => exact iteF ⟨F1, env, si.grow w, AftS.grow w.f hk⟩⟩
/-! ### for -/
def forGo (tg : Tg) (bd : XS) : List Bk.D → XEnv → Out
  | [], env => .next env
  | d :: ds, env => match tg.put d env with
    | none => .bad
    | some e1 => match bd e1 with
      | .next e2 => forGo tg bd ds e2
      | .cont e2 => forGo tg bd ds e2
      | .brk e2 => .next e2
      | o => o
def xFor (tg : Tg) (it : XI) (bd : XS) : XS := fun env => match it env with
  | .ok ds => forGo tg bd ds env
  | .exc n => .exc n env
  | .bad => .bad
theorem ss_for {tgt iter : Expr} {body : List Stmt} {it : XI} (tg : Tg) (hp : PassesOwn (model J.X.prog J.X.w) J.X.A J.X.env J.X.xe) (hc : J.X.calm = true) (hi : SI J tgt iter it) (hg : PG J.X tgt (tg.t J.X.K)) (hb : SSs J body g)
    (hs : ∀ x, foldedSetIterable iter J.X.env x = pure x := by intro _; rfl) : SS J (.For tgt iter body [] pos) (xFor tg it g) := (ps_for hp hc hi hg hb hs).imp fun D sg H ⟨F, env, si, hq⟩ => ⟨F, env, si, by
  unfold xFor at hq
  cases hit : it env with
  | exc k => rw [hit] at hq; exact fun F1 H1 w => hq F1 H1 sg w.f (si.grow w)
  | bad => rw [hit] at hq; exact hq
  | ok ds =>
    rw [hit] at hq
    intro F1 H1 Ji w1 hJ
    refine ⟨fun i m sg2 Hx => m = ds.length - i ∧ i ≤ ds.length ∧ ∃ Fi ei, Ex F1 Fi ∧ Si J.c J.F0 J.H0 Fi Hx sg2 ei ∧ AftS J.c J.W J.F0 J.H0 Fi D (forGo tg g (ds.drop i) ei),
      ⟨ds.length, by simp, Nat.zero_le _, F1, env, Evl.Ex.refl F1, si.grow w1, AftS.grow w1.f hq⟩, ?_⟩
    rintro i m sg2 Hx ⟨rfl, hi2, Fi, ei, eF, si2, hk⟩
    by_cases hlt : i < ds.length
    · refine .inr ?_
      obtain ⟨d, hd⟩ : ∃ d, ds[i]? = some d := ⟨ds[i], by simp [hlt]⟩
      have hdrop : ds.drop i = d :: ds.drop (i + 1) := by
        obtain ⟨e1, e2⟩ := List.getElem?_eq_some_iff.mp hd
        rw [← e2]
        exact List.drop_eq_getElem_cons hlt
      rw [hdrop, forGo] at hk
      obtain ⟨jg, jy⟩ := (hJ i Hx (eF.trans si2.wd.fh)).1 d hd
      refine ⟨jg, fun sg3 H3 => ∃ Fi ei, Ex F1 Fi ∧ Si J.c J.F0 J.H0 Fi H3 sg3 ei ∧ AftS J.c J.W J.F0 J.H0 Fi D (forGo tg g (ds.drop (i + 1)) ei), fun sg3 H3 hn => ⟨ds.length - (i + 1), by omega, rfl, by omega, hn⟩, fun x H' y => ?_⟩
      obtain ⟨eH, rx⟩ := jy x H' y
      subst eH
      cases hp : tg.put d ei with
      | none => rw [hp] at hk; exact hk.elim
      | some e1 =>
        rw [hp] at hk
        replace hk : AftS J.c J.W J.F0 J.H0 Fi D (match g e1 with
          | .next e2 => forGo tg g (ds.drop (i + 1)) e2
          | .cont e2 => forGo tg g (ds.drop (i + 1)) e2
          | .brk e2 => .next e2
          | o => o) := hk
        refine Tg.ok J.X.K si2 (rx.mono eF) hp fun vs s3 => ⟨Fi, e1, s3, ?_⟩
        cases hb2 : g e1 with
        | next e2 =>
          rw [hb2] at hk
          exact fun F4 H4 sg4 e4 s4 => ⟨F4, e2, eF.trans e4, s4, AftS.grow e4 hk⟩
        | cont e2 =>
          rw [hb2] at hk
          exact fun F4 H4 sg4 e4 s4 => ⟨F4, e2, eF.trans e4, s4, AftS.grow e4 hk⟩
        | brk e2 =>
          rw [hb2] at hk
          exact fun F4 H4 sg4 e4 s4 => hk F4 H4 sg4 e4 s4
        | ret r => rw [hb2] at hk; exact hk
        | rete d x => rw [hb2] at hk; exact hk
        | exc k e2 => rw [hb2] at hk; exact hk
        | bad => rw [hb2] at hk; exact hk
    · have e : i = ds.length := by omega
      refine .inl ⟨(hJ i Hx (eF.trans si2.wd.fh)).2 e, ?_⟩
      rw [e, List.drop_length] at hk
      exact hk Fi Hx sg2 (Evl.Ex.refl Fi) si2⟩
/-! ### while -/
def whileGo (t : XB) (g : XS) : Nat → XEnv → Out
  | 0, _ => .bad
  | n + 1, env => match t env with
    | .ok true => match g env with
      | .next e => whileGo t g n e
      | .cont e => whileGo t g n e
      | .brk e => .next e
      | o => o
    | .ok false => .next env
    | .exc n => .exc n env
    | .bad => .bad
def xWhile (n : Nat) (t : XB) (g : XS) : XS := whileGo t g n
theorem ss_while {body : List Stmt} (n : Nat) (hp : PassesOwn (model J.X.prog J.X.w) J.X.A J.X.env J.X.xe) (ht : SB J e t) (hb : SSs J body g) : SS J (.While e body [] pos) (xWhile n t g) := (ps_while hp ht hb).imp fun D sg H ⟨F, env, si, hq⟩ => by
  refine ⟨fun m sg2 Hx => ∃ Fi ei, Si J.c J.F0 J.H0 Fi Hx sg2 ei ∧ AftS J.c J.W J.F0 J.H0 Fi D (whileGo t g m ei), ⟨n, F, env, si, hq⟩, ?_⟩
  rintro m sg2 Hx ⟨Fi, ei, s2, hk⟩
  refine ⟨Fi, ei, s2, ?_⟩
  cases m with
  | zero => exact (show False from hk).elim
  | succ m =>
    rw [whileGo] at hk
    cases ht2 : t ei with
    | exc k => rw [ht2] at hk; exact fun F1 H1 w => hk F1 H1 sg2 w.f (s2.grow w)
    | bad => rw [ht2] at hk; exact hk.elim
    | ok b =>
      rw [ht2] at hk
      intro F3 H3 w3
      cases b with
      | false => exact iteF (hk F3 H3 sg2 w3.f (s2.grow w3))
      | true =>
        refine iteT ⟨fun sg4 H4 => ∃ Fi ei, Si J.c J.F0 J.H0 Fi H4 sg4 ei ∧ AftS J.c J.W J.F0 J.H0 Fi D (whileGo t g m ei), fun sg4 H4 hn => ⟨m, Nat.lt_succ_self m, hn⟩, F3, ei, s2.grow w3, ?_⟩
        replace hk : AftS J.c J.W J.F0 J.H0 Fi D (match g ei with
          | .next e => whileGo t g m e
          | .cont e => whileGo t g m e
          | .brk e => .next e
          | o => o) := hk
        cases hb2 : g ei with
        | next e2 =>
          rw [hb2] at hk
          exact fun F4 H4 sg4 e4 s4 => ⟨F4, e2, s4, AftS.grow (w3.f.trans e4) hk⟩
        | cont e2 =>
          rw [hb2] at hk
          exact fun F4 H4 sg4 e4 s4 => ⟨F4, e2, s4, AftS.grow (w3.f.trans e4) hk⟩
        | brk e2 =>
          rw [hb2] at hk
          exact fun F4 H4 sg4 e4 s4 => hk F4 H4 sg4 (w3.f.trans e4) s4
        | ret r => rw [hb2] at hk; exact AftS.grow w3.f hk
        | rete d x => rw [hb2] at hk; exact AftS.grow w3.f hk
        | exc k e2 => rw [hb2] at hk; exact AftS.grow w3.f hk
        | bad => rw [hb2] at hk; exact hk
/-! ### owned lists changed -/
/-- the list in slot i is changed -/
theorem Si.mut {i : Nat} {xs ys : List Bk.D} (s : Si c F0 H0 F H sg env) (he : env[i]? = some (some (.li .sh, .lst xs))) : ∃ a vs, sg[i]? = some (some (.ref a)) ∧ H a = some (.lst vs) ∧ Reps c F vs xs ∧
    ∀ us ys, Reps c F us ys → Si c F0 H0 F (upd H a (.lst us)) sg (env.set i (some (.li .sh, .lst ys))) := by
  obtain ⟨S, s1, s2, s3⟩ := s.own
  obtain ⟨v, h1, a, vs, zs, e1, e2, sa, ha, hl, T, t1, t2, t3⟩ := s3 i _ _ he
  subst e1
  cases e2
  refine ⟨a, vs, h1, ha, Reps.all hl fun k u x hu hx => t3 k u x hu hx, fun us ys hr => ?_⟩
  have fa := (s2 i a sa)
  have eF : Ex F (upd H a (.lst us)) := s.wd.fh.mut fa.2.1
  refine ⟨⟨s.wd.f, eF, s.wd.h.mut fa.1, s.wd.n⟩, by rw [List.length_set]; exact s.len, fun j b => if j = i then b = a else S j b, fun j k b hj hk => ?_, fun j b hj => ?_, fun j o d hjd => ?_⟩
  · by_cases q1 : j = i
    · by_cases q2 : k = i
      · rw [q1, q2]
      · simp only [if_pos q1] at hj
        simp only [if_neg q2] at hk
        subst hj
        exact absurd (s1 k i _ hk sa) q2
    · by_cases q2 : k = i
      · simp only [if_neg q1] at hj
        simp only [if_pos q2] at hk
        subst hk
        exact absurd (s1 j i _ hj sa) q1
      · simp only [if_neg q1] at hj
        simp only [if_neg q2] at hk
        exact s1 j k b hj hk
  · by_cases q : j = i
    · simp only [if_pos q] at hj
      subst hj
      refine ⟨fa.1, fa.2.1, ?_⟩
      rw [upd_same]
      exact fun z => by cases z
    · simp only [if_neg q] at hj
      have nb : b ≠ a := fun z => q (s1 j i b hj (by rw [z]; exact sa))
      rw [upd_ne nb]
      exact s2 j b hj
  · by_cases q : j = i
    · subst q
      have hlj : j < env.length := (List.getElem?_eq_some_iff.mp he).1
      rw [List.getElem?_set_self hlj] at hjd
      cases hjd
      refine ⟨.ref a, h1, ?_⟩
      simp only [if_pos]
      refine ⟨a, us, ys, rfl, rfl, rfl, upd_same, hr.length, fun _ _ => False, fun _ _ z => z.elim, fun _ _ _ z => z.elim, fun k u x hu hx => ?_⟩
      obtain ⟨d2, h2, h3⟩ := hr.get hu
      rw [hx] at h2
      cases h2
      exact h3
    · rw [List.getElem?_set_ne (Ne.symm q)] at hjd
      obtain ⟨v, h4, h5⟩ := s3 j o d hjd
      refine ⟨v, h4, ?_⟩
      simp only [if_neg q]
      refine h5.frame (Evl.Ex.refl F) (fun b hb => ?_) fun b hb => (s2 j b hb).2.1
      exact upd_ne fun z => q (s1 j i b hb (by rw [z]; exact sa))
theorem ownL {o : Option (Option (Ow × Bk.D))} {P : Prop} {k : List Bk.D → Out} (h : AftS c W F0 H0 F D (match o with
    | some (some (.li .sh, .lst xs)) => k xs
    | _ => .bad)) (hk : ∀ xs, o = some (some (.li .sh, .lst xs)) → AftS c W F0 H0 F D (k xs) → P) : P := by
  match o, h with
  | some (some (.li .sh, .lst xs)), h => exact hk xs rfl h
  | none, h => exact h.elim
  | some none, h => exact h.elim
  | some (some (.sh, _)), h => exact h.elim
  | some (some (.tu _, _)), h => exact h.elim
  | some (some (.di, _)), h => exact h.elim
  | some (some (.io, _)), h => exact h.elim
  | some (some (.li (.li _), _)), h => exact h.elim
  | some (some (.li (.tu _), _)), h => exact h.elim
  | some (some (.li .di, _)), h => exact h.elim
  | some (some (.li .io, _)), h => exact h.elim
  | some (some (.li .sh, .non)), h => exact h.elim
  | some (some (.li .sh, .bl _)), h => exact h.elim
  | some (some (.li .sh, .int _)), h => exact h.elim
  | some (some (.li .sh, .str _)), h => exact h.elim
  | some (some (.li .sh, .tup _)), h => exact h.elim
  | some (some (.li .sh, .obj _)), h => exact h.elim
  | some (some (.li .sh, .exn _)), h => exact h.elim
  | some (some (.li .sh, .dic _ _)), h => exact h.elim
  | some (some (.li .sh, .fz _)), h => exact h.elim
/-- xs.append(e), xs the list that slot i owns -/
def xApp (i : Nat) (f : XE) : XS := fun env => match env[i]? with
  | some (some (.li .sh, .lst xs)) => match f env with
    | .ok a => if a.b = true then .bad else if xs.length < 100000 then .next (env.set i (some (.li .sh, .lst (xs ++ [a.d])))) else .bad
    | .exc n => .exc n env
    | .bad => .bad
  | _ => .bad
theorem ss_app {K : PySem.W.Frag} {i : Nat} (h : PS J.X st (tDrop (tBM K "list" rAppend (tVar i) (tCons (tX J.c J.W J.F0 J.H0 f) tNil)))) : SS J st (xApp i f) := h.imp fun D sg H ⟨F, env, si, hq⟩ => by
  refine ownL hq fun xs hx hq => ?_
  obtain ⟨a, vs, h1, ha, hr, _⟩ := Si.mut (ys := []) si hx
  refine ⟨_, h1, .inl ⟨rfl, _, .inl (.inl ha)⟩, F, env, si, ?_⟩
  refine aftS_bind (k := fun a => if a.b = true then .bad else if xs.length < 100000 then .next (env.set i (some (.li .sh, .lst (xs ++ [a.d])))) else .bad) si hq fun F1 H1 u b w rv _ hk => ?_
  obtain ⟨o, bb, d⟩ := b
  cases bb with
  | true => exact (show False from hk).elim
  | false =>
    obtain ⟨F2, w2, w3, r2⟩ := rv.share w
    replace hk : AftS J.c J.W J.F0 J.H0 F D (if xs.length < 100000 then .next (env.set i (some (.li .sh, .lst (xs ++ [d])))) else .bad) := hk
    by_cases hl : xs.length < 100000
    · rw [if_pos hl] at hk
      obtain ⟨a2, vs2, h2, ha2, hr2, hm⟩ := Si.mut (ys := []) (si.grow w2) hx
      rw [h1] at h2
      cases h2
      exact ⟨a, vs2, u, rfl, rfl, ha2, Evl.sz_lt (by rw [hr2.length]; exact hl), hk F2 _ sg w2.f (hm _ _ (hr2.append (.cons r2 .nil)))⟩
    · rw [if_neg hl] at hk
      exact hk.elim
/-- xs[k] = e, xs the list that slot i owns -/
def xSetI (i : Nat) (fk f : XE) : XS := fun env => match env[i]? with
  | some (some (.li .sh, .lst xs)) => match f env with
    | .ok a => if a.b = true then .bad else match fk env with
      | .ok k => match k.d with
        | .int n => match ixN xs.length n with
          | some j => .next (env.set i (some (.li .sh, .lst (xs.set j a.d))))
          | none => .bad
        | _ => .bad
      | .exc n => .exc n env
      | .bad => .bad
    | .exc n => .exc n env
    | .bad => .bad
  | _ => .bad
theorem ss_setI {i : Nat} {fk : XE} (h : PS J.X st (tAsg (tX J.c J.W J.F0 J.H0 f) (gSub (tVar i) (tX J.c J.W J.F0 J.H0 fk) rSetL))) : SS J st (xSetI i fk f) := h.imp fun D sg H ⟨F, env, si, hq⟩ => by
  refine ownL hq fun xs hx hq => ?_
  refine ⟨F, env, si, aftS_bind (k := fun a => if a.b = true then .bad else match fk env with
    | .ok k => match k.d with
      | .int n => match ixN xs.length n with
        | some j => .next (env.set i (some (.li .sh, .lst (xs.set j a.d))))
        | none => .bad
      | _ => .bad
    | .exc n => .exc n env
    | .bad => .bad) si hq fun F1 H1 u b w rv _ hk => ?_⟩
  obtain ⟨o, bb, d⟩ := b
  cases bb with
  | true => exact (show False from hk).elim
  | false =>
    obtain ⟨F2, w2, w3, r2⟩ := rv.share w
    replace hk : AftS J.c J.W J.F0 J.H0 F D (match fk env with
      | .ok k => match k.d with
        | .int n => match ixN xs.length n with
          | some j => .next (env.set i (some (.li .sh, .lst (xs.set j d))))
          | none => .bad
        | _ => .bad
      | .exc n => .exc n env
      | .bad => .bad) := hk
    have si2 := si.grow w2
    obtain ⟨a2, vs2, h2, ha2, hr2, hm⟩ := Si.mut (ys := []) si2 hx
    refine ⟨_, h2, F2, env, si2, ?_⟩
    refine aftS_bind (D := D) (k := fun k => match k.d with
      | .int n => match ixN xs.length n with
        | some j => .next (env.set i (some (.li .sh, .lst (xs.set j d))))
        | none => .bad
      | _ => .bad) si2 (AftS.grow w2.f hk) fun F3 H3 v k w4 rk hfk hk2 => ?_
    obtain ⟨ok, bk, dk⟩ := k
    have rkk := rk.rep w4.fh
    cases rkk with
    | @int n =>
      replace hk2 : AftS J.c J.W J.F0 J.H0 F2 D (match ixN xs.length n with
        | some j => .next (env.set i (some (.li .sh, .lst (xs.set j d))))
        | none => .bad) := hk2
      obtain ⟨a3, vs3, h3, ha3, hr3, hm3⟩ := Si.mut (ys := []) (si2.grow w4) hx
      rw [h2] at h3
      cases h3
      cases hj : ixN xs.length n with
      | none => rw [hj] at hk2; exact hk2.elim
      | some j =>
        rw [hj] at hk2
        exact ⟨a2, vs3, n, j, rfl, rfl, ha3, by rw [hr3.length]; exact hj, hk2 F3 _ sg w4.f (hm3 _ _ (Reps.set (r2.mono w4.f) j hr3))⟩
    | _ => exact (show False from hk2).elim
end
end Bk
set_option Elab.async false
set_option linter.all false
set_option maxRecDepth 100000
set_option maxHeartbeats 4000000
/-! BkI: defs, methods, Pile made, raise, try. -/
namespace Bk
open PySem L2 PySem.Spec PyProof.Rows

/-- a def by its body: n parameters, N names -/
def xFun (n N : Nat) (body : XS) : XF := fun ds => if ds.length = n then (match body (ds.map (fun d => some (.sh, d)) ++ List.replicate (N - n) none) with
  | .ret r => if r.b = true then .bad else .ok r
  | .next _ => .ok (.sh .non)
  | .exc k _ => .exc k
  | _ => .bad) else .bad
section
variable {P : Program} {w : World} {K : PySem.W.Frag} {mg : Str → Option Value} {base : Heap} {c : Ct}
theorem si_start {F H : Hp} {N ps : List Str} {vs : List V} {ds : List D} (e : Ex F H) (hr : Reps c F vs ds) (hn : ds.length = ps.length) (hp : ps.length ≤ N.length) :
    Si c F H F H (L2.start N vs) (ds.map (fun d => some (Ow.sh, d)) ++ List.replicate (N.length - ps.length) none) := by
  have hl := hr.length
  refine ⟨Wd.refl e, ?_, fun _ _ => False, fun _ _ _ z => z.elim, fun _ _ z => z.elim, fun i o d hi => ?_⟩
  · unfold L2.start
    rw [List.length_append, List.length_append, List.length_map, List.length_map, List.length_replicate, List.length_replicate, hl, hn]
  · have hil : i < ds.length := by
      refine Decidable.byContradiction fun q => ?_
      rw [List.getElem?_append_right (by rw [List.length_map]; omega), List.getElem?_replicate] at hi
      split at hi <;> cases hi
    rw [List.getElem?_append_left (by rw [List.length_map]; exact hil), List.getElem?_map] at hi
    cases q : ds[i]? with
    | none => rw [q] at hi; cases hi
    | some d' =>
      rw [q] at hi
      cases hi
      obtain ⟨v, hv, rv⟩ := hr.getD q
      refine ⟨v, ?_, rv⟩
      unfold L2.start
      rw [List.getElem?_append_left (by rw [List.length_map, hl]; exact hil), List.getElem?_map, hv]
      rfl
/-- where a def's body stands -/
abbrev jOf (P : Program) (w : World) (K : PySem.W.Frag) (mg : Str → Option Value) (base : Heap) (c : Ct) (N : List Str) (qual : Str) (sc : Scope) (f : Addr) (cdv : Value) (A : Around) (outer : List Env) (s : Shared) (H : Hp) (E : XK) (F : Hp) : Jx :=
  ⟨cxOf (L2.CX P w) P w K mg base N qual sc f cdv A outer s H E, c, fun cls d _ H => E cls d H, F, H⟩
theorem fn_ok {x qual : Str} {st : Stmt} {f : Addr} {fd : FuncData} {N ps : List Str} {k : Nat} {body : XS} (Fn : Fun K x qual st f fd) (S : FnScope N ps (defScope st)) (hp : ps.length ≤ N.length)
    (hb : ∀ (cdv : Value) (A : Around) (outer : List Env) (s : Shared) (H : Hp) (E : XK) (F : Hp), Room k (A.deeper (envOfC qual (defScope st) s.heap.objs.size f cdv)) → SSs (jOf P w K mg base c N qual (defScope st) f cdv A outer s H E F) (defBody st) body) :
    FnOk P w K mg base (L2.CX P w) (k + 1) f fd ps (spOf c (xFun ps.length N.length body)) := by
  refine Fn.okX S (fun vs H Q E h => ?_) (fun cdv A outer s H vs Q E hr h => ?_)
  · obtain ⟨F0, ds, e, r, h⟩ := h
    unfold xFun at h
    by_cases q : ds.length = ps.length
    · rw [r.length, q]
    · rw [if_neg q] at h
      exact h.elim
  · obtain ⟨F0, ds, e, r, h⟩ := h
    unfold xFun at h
    by_cases q : ds.length = ps.length
    · rw [if_pos q] at h
      refine ⟨_, hb cdv A outer s H E F0 hr, F0, _, si_start e r q hp, ?_⟩
      cases hbo : body (ds.map (fun d => some (Ow.sh, d)) ++ List.replicate (N.length - ps.length) none) with
      | next x =>
        rw [hbo] at h
        exact fun F' H' sg' e' s' => h F' H' .non s'.wd (Rv.sh .non)
      | ret a =>
        rw [hbo] at h
        replace h : Aft c (fun cls d _ H => E cls d H) [] F0 H Q (if a.b = true then .bad else .ok a) := h
        by_cases hbb : a.b = true
        · rw [if_pos hbb] at h
          exact h.elim
        · rw [if_neg hbb] at h
          exact ⟨by simpa using hbb, fun F' H' u e' w rv => h F' H' u w rv⟩
      | exc k x =>
        rw [hbo] at h
        exact fun F' H' sg' e' s' => h F' H' s'.wd
      | brk x => rw [hbo] at h; exact h.elim
      | rete d x => rw [hbo] at h; exact h.elim
      | cont x => rw [hbo] at h; exact h.elim
      | bad => rw [hbo] at h; exact h.elim
    · rw [if_neg q] at h
      exact h.elim
/-- a def of the text is known by its function -/
theorem gf_mk {x qual nm : Str} {st : Stmt} {f : Addr} {fd : FuncData} {ps : List Str} {k : Nat} {F : XF} (Fn : Fun K x qual st f fd) (G : FnOk P w K mg base (L2.CX P w) k f fd ps (spOf c F)) (hm : mg nm = some (.ref f)) (b : Binds K fd ps []) : Gf P w K mg base c nm k ps F := ⟨f, fd, G, hm, Fn.kp, b⟩
end

section
variable {J : Jx} {c : Ct} {W : WX} {F0 H0 : Hp} {X : Cx} {pos p apos : Pos} {a b e o : Expr} {es : List Expr} {f : XE} {fs : XA}
/-! ### methods -/
/-- the method m of the class at C -/
structure Gm (P : Program) (w : World) (K : PySem.W.Frag) (mg : Str → Option Value) (base : Heap) (c : Ct) (m : Str) (k : Nat) (ps : List Str) (F : XF) : Prop where
  ex : ∃ f fd, FnOk P w K mg base (L2.CX P w) k f fd ps (spOf c F) ∧ Meth K c.C m f ∧ Binds K fd ps []
def xMeth (F : XF) (f : XE) (fs : XA) : XE := fun env => (f env).bind fun o => match o.o, o.d with
  | .sh, .obj xs => (fs env).bind fun ds => F (.obj xs :: ds)
  | _, _ => .bad
def tMethS (C : Addr) (m : Str) (sp : Sp) (E : L2.St → XK) (ta : TE) (t : TA) : TE := fun sg H Q => ta sg H fun x H1 => ∃ a dx fs, x = .ref a ∧ H1 a = some (.ins C dx fs) ∧ fs.lookup m = none ∧ t sg H1 fun vs H2 => sp (x :: vs) H2 Q (E sg)
theorem pe_methS {CX : CXT} {k : Nat} {f C : Addr} {fd : FuncData} {ps : List Str} {sp : Sp} {E : L2.St → XK} {m : Str} {ta : TE} {t : TA} {pl : Sem Bool} (he : PE X o ta) (cl : Cls X.K C) (hm : Meth X.K C m f) (F : FnOk X.prog X.w X.K X.mg X.base CX k f fd ps sp) (hr : Room k X.A) (hb : Binds X.K fd ps []) (hx : ∀ s, PassesAt CX X s (E s)) (ha : PA X (e :: es) t)
    (hst : starEach (e :: es) X.env = (false, eval e X.env) :: starEach es X.env := by rfl) (hpl : (backTo pos (starEach es X.env)).any (·.1) = false := by rfl)
    (ht : eval (.Call (.Attribute o m apos) (e :: es) [] pos) X.env = (do
      let ov ← eval o X.env
      standAt apos.atName
      let (f, first) ← holding [ov] (getMethod ov m pl)
      callWith pos f first (backTo pos (starEach (e :: es) X.env)) (backToKw pos (keywordEach [] X.env))) := by rfl) :
    PE X (.Call (.Attribute o m apos) (e :: es) [] pos) (tMethS C m sp E ta t) := by
  refine ⟨fun pins s sg H Q I h => ?_⟩
  refine PySem.W.methodCall_KW (pl := pl) (thn (he.run pins s sg H _ I h) fun u s1 ⟨x, H1, I1, rx, a, dx, fs, ex, ea, l, q⟩ => ?_) ht
  subst ex
  obtain rfl : u = Value.ref a := rx
  refine getmeth_ok I1 ea cl hm l ?_
  refine PySem.W.callWith_K (first := [.ref a]) (h₀ := X.base) I.ok.mod.kin hm.kp (thn (ha.run pos pins s1 sg H1 _ I1 q) fun us s2 ⟨vs, H2, I2, r, q2⟩ => ⟨I2.kIn, ?_⟩) hst hpl
  exact run_fnS (us := .ref a :: us) (vs := .ref a :: vs) F hr hb (hx sg) I2 (.cons rfl r) q2
theorem pe_methS0 {CX : CXT} {k : Nat} {f C : Addr} {fd : FuncData} {ps : List Str} {sp : Sp} {E : L2.St → XK} {m : Str} {ta : TE} {pl : Sem Bool} (he : PE X o ta) (cl : Cls X.K C) (hm : Meth X.K C m f) (F : FnOk X.prog X.w X.K X.mg X.base CX k f fd ps sp) (hr : Room k X.A) (hb : Binds X.K fd ps []) (hx : ∀ s, PassesAt CX X s (E s))
    (ht : eval (.Call (.Attribute o m apos) [] [] pos) X.env = (do
      let ov ← eval o X.env
      standAt apos.atName
      let (f, first) ← holding [ov] (getMethod ov m pl)
      callWith pos f first (backTo pos (starEach [] X.env)) (backToKw pos (keywordEach [] X.env))) := by rfl) :
    PE X (.Call (.Attribute o m apos) [] [] pos) (tMethS C m sp E ta tNil) := by
  refine ⟨fun pins s sg H Q I h => ?_⟩
  refine PySem.W.methodCall_KW (pl := pl) (thn (he.run pins s sg H _ I h) fun u s1 ⟨x, H1, I1, rx, a, dx, fs, ex, ea, l, q⟩ => ?_) ht
  subst ex
  obtain rfl : u = Value.ref a := rx
  refine getmeth_ok I1 ea cl hm l ?_
  exact PySem.W.callWith_K0 (first := [.ref a]) I1.kIn hm.kp (run_fnS (us := [.ref a]) (vs := [.ref a]) F hr hb (hx sg) I1 (.cons rfl .nil) q)
theorem tX_meth {F : XF} {C : Addr} {m : Str} {E : L2.St → XK} {sg : L2.St} {H : Hp} {Q : VK} (hC : C = c.C) (hm : m ∉ pileNames) (hE : ∀ cls d H, W cls d sg H → E sg cls d H) (q : tX c W F0 H0 (xMeth F f fs) sg H Q) : tMethS C m (spOf c F) E (tX c W F0 H0 f) (tXA c W F0 H0 fs) sg H Q := by
  obtain ⟨F1, env, si, hq⟩ := q
  subst hC
  refine ⟨F1, env, si, (aft_bind hq).mono fun x H1 ⟨F2, va, w1, r1, hq1⟩ => ?_⟩
  obtain ⟨ow, bb, d⟩ := va
  cases ow with
  | sh =>
    have rr : Rep c F2 x d := r1.repF
    cases rr with
    | @obj a dx vs xs ha hr hl =>
      replace hq1 : Aft c W sg F2 H1 Q ((fs env).bind fun ds => F (.obj xs :: ds)) := hq1
      refine ⟨a, dx, _, rfl, w1.fh _ _ ha, ?_, F2, env, si.grow w1, (aft_bindA hq1).mono fun us H2 ⟨F3, ds, w2, r2, _, hq2⟩ => ⟨F3, .obj xs :: ds, w2.fh, .cons (.obj (w2.f _ _ ha) (hr.mono w2.f) hl) r2, hq2.sg hE⟩⟩
      have : ∀ (ks : List Str) (vs : List V), m ∉ ks → (ks.zip vs).lookup m = none := fun ks => by
        induction ks with
        | nil => intro vs _; rfl
        | cons k ks ih =>
          intro vs hn
          cases vs with
          | nil => rfl
          | cons v vs =>
            have ne : (m == k) = false := by
              have : m ≠ k := fun z => hn (z ▸ List.mem_cons_self)
              simpa using this
            rw [List.zip_cons_cons, List.lookup_cons, ne]
            exact ih vs fun z => hn (List.mem_cons_of_mem _ z)
      exact this _ _ hm
    | _ => exact (show False from hq1).elim
  | _ => exact (show False from by cases d <;> exact hq1).elim
theorem se_meth {m : Str} {k : Nat} {ps : List Str} {F : XF} {pl : Sem Bool} (g : Gm J.X.prog J.X.w J.X.K J.X.mg J.X.base J.c m k ps F) (T : PileOk J.X.K J.c.C) (hr : Room k J.X.A) (tk : Takes J.X J.W) (he : SE J o f) (ha : SA J (e :: es) fs) (hm : m ∉ pileNames := by decide +kernel)
    (hst : starEach (e :: es) J.X.env = (false, eval e J.X.env) :: starEach es J.X.env := by rfl) (hpl : (backTo pos (starEach es J.X.env)).any (·.1) = false := by rfl)
    (ht : eval (.Call (.Attribute o m apos) (e :: es) [] pos) J.X.env = (do
      let ov ← eval o J.X.env
      standAt apos.atName
      let (f, first) ← holding [ov] (getMethod ov m pl)
      callWith pos f first (backTo pos (starEach (e :: es) J.X.env)) (backToKw pos (keywordEach [] J.X.env))) := by rfl) : SE J (.Call (.Attribute o m apos) (e :: es) [] pos) (xMeth F f fs) := by
  obtain ⟨fa, fd, G, hM, b⟩ := g.ex
  exact (pe_methS he T.cl hM G hr b (fun s => passAt tk s) ha hst hpl ht).imp fun sg H Q q => tX_meth rfl hm (fun _ _ _ z => z) q
theorem se_meth0 {m : Str} {k : Nat} {ps : List Str} {F : XF} {pl : Sem Bool} (g : Gm J.X.prog J.X.w J.X.K J.X.mg J.X.base J.c m k ps F) (T : PileOk J.X.K J.c.C) (hr : Room k J.X.A) (tk : Takes J.X J.W) (he : SE J o f) (hm : m ∉ pileNames := by decide +kernel)
    (ht : eval (.Call (.Attribute o m apos) [] [] pos) J.X.env = (do
      let ov ← eval o J.X.env
      standAt apos.atName
      let (f, first) ← holding [ov] (getMethod ov m pl)
      callWith pos f first (backTo pos (starEach [] J.X.env)) (backToKw pos (keywordEach [] J.X.env))) := by rfl) : SE J (.Call (.Attribute o m apos) [] [] pos) (xMeth F f xANil) := by
  obtain ⟨fa, fd, G, hM, b⟩ := g.ex
  refine (pe_methS0 he T.cl hM G hr b (fun s => passAt tk s) ht).imp fun sg H Q q => ?_
  obtain ⟨F1, env, si, q⟩ := tX_meth (E := WE J.W) rfl hm (fun _ _ _ z => z) q
  refine ⟨F1, env, si, q.mono fun x H1 ⟨a, dx, fs, h1, h2, h3, F2, env2, si2, h4⟩ => ⟨a, dx, fs, h1, h2, h3, h4 F2 H1 [] (Wd.refl si2.wd.fh) .nil⟩⟩
/-! ### Pile(..) -/
def spInit (C : Addr) : Sp := fun vs H Q _ => ∃ (x dx : Addr) (us : List V), vs = .ref x :: us ∧ us.length = 7 ∧ H x = some (.ins C dx []) ∧ ∀ H' : Hp, (∀ b, b ≠ x → H' b = H b) → H' x = some (.ins C dx (pileFs us)) → Q .non H'
structure Gp (P : Program) (w : World) (K : PySem.W.Frag) (mg : Str → Option Value) (base : Heap) (c : Ct) (k : Nat) (ps : List Str) : Prop where
  ex : ∃ f fd, FnOk P w K mg base (L2.CX P w) k f fd ps (spInit c.C) ∧ Mk K c.C f ∧ mg "Pile" = some (.ref c.C) ∧ Binds K fd ps []
def xPile (fs : XA) : XE := fun env => (fs env).bind fun ds => if ds.length = 7 then .ok (.sh (.obj ds)) else .bad
theorem se_pile {k : Nat} {ps : List Str} (g : Gp J.X.prog J.X.w J.X.K J.X.mg J.X.base J.c k ps) (hr : Room (k + 1) J.X.A) (hx : Gl J.X "Pile") (ha : SA J (e :: es) fs)
    (he : starEach (e :: es) J.X.env = (false, eval e J.X.env) :: starEach es J.X.env := by rfl) (hpl : (backTo pos (starEach es J.X.env)).any (·.1) = false := by rfl) : SE J (.Call (.Name "Pile" p) (e :: es) [] pos) (xPile fs) := by
  obtain ⟨f, fd, G, M, m, b⟩ := g.ex
  refine (pe_make M G hr hx m b .nil passL ha (by decide) he hpl).imp fun sg H Q ⟨F1, env, si, hq⟩ => ⟨F1, env, si, (aft_bindA hq).mono fun us H1 ⟨F2, ds, w1, r1, _, hq1⟩ => ?_⟩
  intro x dx hx hdx hne
  by_cases hl : ds.length = 7
  · rw [if_pos hl] at hq1
    refine ⟨x, dx, us, by rw [List.append_nil], by rw [r1.length, hl], upd_same, fun H' h1 h2 => ⟨rfl, ?_⟩⟩
    have fx : F2 x = none := Evl.fresh_back w1.fh hx
    have e0 : Ex H1 H' := fun a o ha => by
      have na : a ≠ x := ne_of_none ha hx
      have nb : a ≠ dx := ne_of_none ha hdx
      rw [h1 a na, upd_ne na, upd_ne nb]
      exact ha
    have eu : Ex (upd F2 x (.ins J.c.C dx (pileFs us))) H' := fun a o ha => by
      by_cases z : a = x
      · subst z
        rw [upd_same] at ha
        rw [h2]
        exact ha
      · rw [upd_ne z] at ha
        exact e0 a o (w1.fh a o ha)
    refine hq1 (upd F2 x (.ins J.c.C dx (pileFs us))) H' (.ref x) ⟨Evl.Ex.new fx, eu, e0, fun a n1 n2 => ?_⟩ (Rv.sh (.obj upd_same (r1.mono (Evl.Ex.new fx)) (by rw [r1.length, hl])))
    by_cases z : a = x
    · subst z
      exact hx
    · rw [upd_ne z] at n2
      exact absurd n1 n2
  · rw [if_neg hl] at hq1
    exact hq1.elim
/-! ### raise -/
/-- the error class that x names is the k-th -/
structure ExcOk (K : PySem.W.Frag) (mg : Str → Option Value) (c : Ct) (k : Nat) (x : Str) : Prop where
  g : mg x = some (.ref (c.ea k))
  xP : PySem.W.excIn K (c.ea k) [.type "ValueError", .type "Exception", .type "BaseException", .type "object"] "ValueError.__new__" = true
  kp : PySem.W.keepIn K (.ref (c.ea k)) = true
  b : PySem.W.subIn K (.ref (c.ea k)) (.type "BaseException") = some true
  t : PySem.W.typeIn K (.ref (c.ea k)) = some (.type "type")
def xRaise (k : Nat) : XS := fun env => .exc k env
theorem ss_raise {x m : Str} {j : Nat} {p2 pos' : Pos} (k : Nat) (T : ExcOk J.X.K J.X.mg J.c k x) (hc : J.X.calm = true) (tk : Takes J.X J.W) (hg : Gl J.X x) (hdb : (x == ("__debug__" : Str)) = false := by decide) : SS J (.Raise (some (.Call (.Name x p) [.Constant (.str m) j p2] [] pos)) none pos') (xRaise k) :=
  (ps_raise hc tk (pmk_own PySem.F.excBase_ValueError T.xP T.g T.kp (raises_own T.b T.t) hg hdb)).imp fun D sg H ⟨F, env, si, hq⟩ => hq F H sg (Evl.Ex.refl F) si
/-! ### try .. except X: -/
def noExc : Out → Out
  | .exc _ _ => .bad
  | o => o
theorem aft_noExc {F : Hp} {D : Ends} {o : Out} (h : AftS c W F0 H0 F D (noExc o)) : AftS c WF F0 H0 F D o := by
  cases o with
  | exc k e => exact (show False from h).elim
  | next x => exact h
  | ret r => exact h
  | rete d x => exact h
  | brk x => exact h
  | cont x => exact h
  | bad => exact h
def xTry (pk : Nat → Option Bool) (bd hd : XS) : XS := fun env => match bd env with
  | .exc k e => match pk k with
    | some true => noExc (hd e)
    | some false => .exc k e
    | none => .bad
  | o => o
theorem ss_try {x : Str} {cv : Value} {body suite : List Stmt} {b0 : Stmt} {np pos' : Pos} {bd hd : XS} (pk : Nat → Option Bool) (hs : J.X.stack = J.X.env :: J.X.outer) (hf : J.X.env.frame = some J.X.env.locals) (hc : Names J.X x cv) (tk : Takes J.X J.W)
    (hk : ∀ k b, pk k = some b → PySem.W.exmOne J.X.K (.ref (J.c.ea k)) cv = some b)
    (hb : ∀ (W : WX) (pn : List (Addr × Obj)) (xe : Value → Shared → Prop), Takes (J.X.tr pn xe) W → PassesOwn (model J.X.prog J.X.w) J.X.A J.X.env xe → SSs ⟨J.X.tr pn xe, J.c, W, J.F0, J.H0⟩ body bd)
    (hsu : ∀ (a : Addr) (oe : Obj) (pn : List (Addr × Obj)), SSs ⟨J.X.suite a ((a, oe) :: pn), J.c, WF, J.F0, J.H0⟩ (b0 :: suite) hd) :
    SS J (.Try body [.ExceptHandler (some (.Name x np)) none (b0 :: suite) pos'] [] [] pos) (xTry pk bd hd) :=
  (ps_try_only (tb := fun W => tXS J.c W J.F0 J.H0 bd) (ts := fun _ _ _ => tXS J.c WF J.F0 J.H0 hd) hs hf hc tk (fun W pn xe t1 t2 => hb W pn xe t1 t2) (fun a oe cls d pn _ _ => hsu a oe pn)).imp fun D sg H ⟨F, env, si, hq⟩ => ⟨F, env, si, by
  unfold xTry at hq
  cases q : bd env with
  | next e => rw [q] at hq; exact hq
  | ret r => rw [q] at hq; exact hq
  | rete d x => rw [q] at hq; exact hq
  | brk e => rw [q] at hq; exact hq
  | cont e => rw [q] at hq; exact hq
  | bad => rw [q] at hq; exact hq
  | exc k e1 =>
    rw [q] at hq
    replace hq : AftS J.c J.W J.F0 J.H0 F D (match pk k with
      | some true => noExc (hd e1)
      | some false => .exc k e1
      | none => .bad) := hq
    intro F' H' sg' e s'
    cases hp : pk k with
    | none => rw [hp] at hq; exact hq.elim
    | some b =>
      rw [hp] at hq
      refine ⟨b, hk k b hp, fun hbt a ha => ?_, fun hbf => ?_⟩
      · subst hbt
        exact ⟨F', e1, s', AftS.grow e (aft_noExc hq)⟩
      · subst hbf
        have hq2 : AftS J.c J.W J.F0 J.H0 F D (.exc k e1) := hq
        exact hq2 F' H' sg' e s'⟩
/-! ### a call that is lent its arguments: it gives back a number, a truth value, a text, None -/
def Rws.d : List Val → List D := List.map Val.d
theorem rws_reps {F H : Hp} (e : Ex F H) : ∀ {us : List V} {rs : List Val}, Rws c F H us rs → Reps c H us (rs.map Val.d)
  | _, _, .nil => .nil
  | _, _, .cons h r => .cons (h.rep e) (rws_reps e r)
def onlySc : Res Val → Res Val
  | .ok r => if r.d.isSc = true then .ok (.sh r.d) else .bad
  | .exc k => .exc k
  | .bad => .bad
def xCallB (F : XF) (fs : XVs) : XE := fun env => (fs env).bind fun rs => onlySc (F (rs.map Val.d))
theorem aft_lend {Q : VK} {sg : L2.St} {F H : Hp} {r : Res Val} (e : Ex F H) (h : Aft c W sg F H Q (onlySc r)) : Aft c (fun cls d _ H => W cls d sg H) [] H H Q r := by
  have w0 : ∀ {F' H' : Hp}, Wd H H F' H' → Wd F H F H' := fun w => ⟨Evl.Ex.refl F, e.trans w.h, w.h, fun a h1 h2 => absurd h1 h2⟩
  cases r with
  | bad => exact h
  | exc k => exact fun F' H' w => h F H' (w0 w)
  | ok r =>
    intro F' H' u w rv
    replace h : Aft c W sg F H Q (if r.d.isSc = true then .ok (.sh r.d) else .bad) := h
    by_cases hs : r.d.isSc = true
    · rw [if_pos hs] at h
      exact h F H' u (w0 w) (Rv.sh ((rv.rep w.fh).isSc hs))
    · rw [if_neg hs] at h
      exact h.elim
theorem se_callB {nm : Str} {k : Nat} {ps : List Str} {F : XF} {fs : XVs} (g : Gf J.X.prog J.X.w J.X.K J.X.mg J.X.base J.c nm k ps F) (hr : Room k J.X.A) (tk : Takes J.X J.W) (hx : Gl J.X nm) (ha : SV J (e :: es) fs) (hdb : (nm == ("__debug__" : Str)) = false := by decide)
    (he : starEach (e :: es) J.X.env = (false, eval e J.X.env) :: starEach es J.X.env := by rfl) (hpl : (backTo pos (starEach es J.X.env)).any (·.1) = false := by rfl) : SE J (.Call (.Name nm p) (e :: es) [] pos) (xCallB F fs) := by
  obtain ⟨f, fd, G, m, kp, b⟩ := g.ex
  exact (pe_callS G hr hx m kp b (fun s => passAt tk s) ha hdb he hpl).imp fun sg H Q ⟨F1, env, si, hq⟩ => ⟨F1, env, si, (aft_bindV hq).mono fun us H1 ⟨F2, rs, w1, r1, hq1⟩ => ⟨H1, rs.map Val.d, Evl.Ex.refl H1, rws_reps w1.fh r1, aft_lend w1.fh hq1⟩⟩
/-- a constant of the module -/
theorem se_globI {x : Str} {i : Int} (h : ∃ t, J.X.mg x = some (.int i t)) (hg : Gl J.X x) (hd : (x == ("__debug__" : Str)) = false := by decide) : SE J (.Name x pos) (xC (.int i)) := by
  obtain ⟨t, h⟩ := h
  exact (pe_glob (v := .int i) hg h ⟨_, rfl⟩ hd).imp fun sg H Q ⟨F, env, si, hq⟩ => Aft.now si.wd.fh .int hq
theorem se_globS {x z : Str} (h : ∃ t, J.X.mg x = some (.str z t)) (hg : Gl J.X x) (hd : (x == ("__debug__" : Str)) = false := by decide) : SE J (.Name x pos) (xC (.str z)) := by
  obtain ⟨t, h⟩ := h
  exact (pe_glob (v := .str z) hg h ⟨_, rfl⟩ hd).imp fun sg H Q ⟨F, env, si, hq⟩ => Aft.now si.wd.fh .str hq
/-- isinstance(e, T), T a built-in class -/
def D.ty : D → Option String
  | .non => some "NoneType"
  | .bl _ => some "bool"
  | .int _ => some "int"
  | .str _ => some "str"
  | .lst _ => some "list"
  | .fz _ => some "list"
  | .tup _ => some "tuple"
  | .dic _ _ => some "dict"
  | .obj _ => none
  | .exn _ => none
def isD (T : String) (d : D) : Res Bool := match d with
  | .bl _ => .ok (T == "bool" || T == "int")
  | .int _ => .ok (T == "int")
  | .str _ => .ok (T == "str")
  | .lst _ => .ok (T == "list")
  | .fz _ => .ok (T == "list")
  | .tup _ => .ok (T == "tuple")
  | .non => .ok false
  | _ => .bad
theorem rep_ty {H : Hp} {u : V} {d : D} {t : String} (h : Rep c H u d) (ht : d.ty = some t) : TyX c.K H u (.type t) := by
  cases h with
  | non => cases ht; exact .base .non
  | bl => cases ht; exact .base (.bl _)
  | int => cases ht; exact .base (.int _)
  | str => cases ht; exact .base (.str _)
  | lst ha _ => cases ht; exact .base (.lst ha)
  | tup ha _ => cases ht; exact .base (.tup ha)
  | dic ha _ _ => cases ht; exact .base (.dK ha)
  | fz ha _ =>
    cases ht
    rcases ha with (ha | ⟨o, ha⟩) | ⟨o, its, n, h1, h2, _⟩
    · exact .base (.lst ha)
    · exact .base (.frz ha)
    · exact .kList h1 h2
  | obj _ _ _ => cases ht
  | exn _ => cases ht
theorem kitB_all : ∀ T ∈ ["int", "bool", "str", "list", "tuple"], kitB "NoneType" T = some false ∧ kitB "bool" T = some (T == "bool" || T == "int") ∧ kitB "int" T = some (T == "int") ∧ kitB "str" T = some (T == "str") ∧ kitB "list" T = some (T == "list") ∧ kitB "tuple" T = some (T == "tuple") := by decide +kernel
def xIsi (T : String) (f : XE) : XE := fun env => (f env).bind fun a => (isD T a.d).bind fun b => .ok (.sh (.bl b))
theorem se_isi {x : Str} {T : String} {p2 : Pos} (hK : J.X.K = J.c.K) (hm : J.X.mg "isinstance" = none) (hm2 : J.X.mg x = none) (hT : T ∈ ["int", "bool", "str", "list", "tuple"]) (he : SE J e f) (hx : Gl J.X "isinstance") (hx2 : Gl J.X x) (hv : bootBuiltins x = some (.type T)) (hn : x ≠ "__name__" := by decide) (hdb : (x == ("__debug__" : Str)) = false := by decide)
    (hs : starEach (e :: [.Name x p2]) J.X.env = (false, eval e J.X.env) :: starEach [.Name x p2] J.X.env := by rfl) (hs2 : starEach [.Name x p2] J.X.env = (false, eval (.Name x p2) J.X.env) :: starEach [] J.X.env := by rfl)
    (hpl : (backTo pos (starEach [.Name x p2] J.X.env)).any (·.1) = false := by rfl) : SE J (.Call (.Name "isinstance" p) [e, .Name x p2] [] pos) (xIsi T f) :=
  (pe_callB call_isi hx hm (by decide +kernel) (pa_cons he (pa_cons (pe_bltn (v := .ty T) hx2 hm2 hv rfl hn hdb) pa_nil hs2) hs) (by decide) (by decide) hs hpl).imp fun sg H Q ⟨F, env, si, hq⟩ => ⟨F, env, si, (aft_bind hq).mono fun u H1 ⟨F1, va, w1, r1, hq1⟩ => by
  have rr := r1.rep w1.fh
  obtain ⟨k0, k1, k2, k3, k4, k5⟩ := kitB_all T hT
  have fin : ∀ (t : String) (b : Bool), va.d.ty = some t → kitB t T = some b → isD T va.d = .ok b → rIsi J.X.K [u, .ty T] H1 Q := fun t b h1 h2 h3 => by
    rw [h3] at hq1
    rw [hK]
    exact ⟨u, .ty T, .type t, .type T, b, rfl, .ty T, rep_ty rr h1, kit_ty h2, Aft.now w1.fh .bl hq1⟩
  show rIsi J.X.K [u, .ty T] H1 Q
  cases hd : va.d with
  | non => rw [hd] at fin; exact fin _ _ rfl k0 rfl
  | bl b => rw [hd] at fin; exact fin _ _ rfl k1 rfl
  | int b => rw [hd] at fin; exact fin _ _ rfl k2 rfl
  | str b => rw [hd] at fin; exact fin _ _ rfl k3 rfl
  | lst b => rw [hd] at fin; exact fin _ _ rfl k4 rfl
  | fz b => rw [hd] at fin; exact fin _ _ rfl k4 rfl
  | tup b => rw [hd] at fin; exact fin _ _ rfl k5 rfl
  | obj b => rw [hd] at hq1; exact (show False from hq1).elim
  | exn b => rw [hd] at hq1; exact (show False from hq1).elim
  | dic b b2 => rw [hd] at hq1; exact (show False from hq1).elim⟩
end
theorem hu65 {A : Around} {k : Nat} (hr : Room k A) : A.units + 65 < cLine := by have := hr.un; omega
end Bk
set_option Elab.async false
set_option linter.all false
set_option maxRecDepth 100000
set_option maxHeartbeats 4000000
/-! BkJ: further built-ins: sorted pairs, lists popped, two names stored at once. -/
namespace Bk
open PySem L2
section
variable {c : Ct} {W : WX} {sg : L2.St} {F H : Hp} {u : V} {r : Val} {d : D} {Q : VK}
/-! ### sorted, pairs of whole numbers -/
def lexLe (p q : Int × Int) : Bool := !SrtO.lexB q p
def psort (ps : List (Int × Int)) : List (Int × Int) := ps.mergeSort lexLe
theorem lexLe_iff {p q : Int × Int} : lexLe p q = true ↔ p.1 < q.1 ∨ (p.1 = q.1 ∧ p.2 ≤ q.2) := by
  unfold lexLe
  rw [Bool.not_eq_true']
  have h : SrtO.lexB q p = false ↔ ¬ SrtO.lexB q p = true := by simp
  rw [h, SrtO.lexB_iff]
  omega
theorem psort_perm (ps : List (Int × Int)) : (psort ps).Perm ps := List.mergeSort_perm _ _
theorem psort_sorted (ps : List (Int × Int)) : (psort ps).Pairwise fun p q => lexLe p q = true := List.pairwise_mergeSort (fun a b e h1 h2 => by rw [lexLe_iff] at h1 h2 ⊢; omega) (fun a b => by
  rw [Bool.or_eq_true, lexLe_iff, lexLe_iff]
  omega) ps
theorem psort_uniq {ps qs : List (Int × Int)} (h1 : qs.Perm ps) (h2 : qs.Pairwise fun p q => lexLe p q = true) : qs = psort ps := (h1.trans (psort_perm ps).symm).eq_of_pairwise (le := fun p q => lexLe p q = true) (fun a b _ _ x y => by
  rw [lexLe_iff] at x y
  exact Prod.ext (by omega) (by omega)) h2 (psort_sorted ps)
def pairD (p : Int × Int) : D := .tup [.int p.1, .int p.2]
def D.pairs : List D → Option (List (Int × Int))
  | [] => some []
  | .tup [.int i, .int j] :: r => (D.pairs r).map ((i, j) :: ·)
  | _ => none
theorem pairs_map (ps : List (Int × Int)) : D.pairs (ps.map pairD) = some ps := by
  induction ps with
  | nil => rfl
  | cons p ps ih =>
    rw [List.map_cons, pairD, D.pairs, ih]
    rfl
theorem pairs_eq : ∀ {xs : List D} {ps : List (Int × Int)}, D.pairs xs = some ps → xs = ps.map pairD
  | [], ps, h => by
    cases Option.some.inj h
    rfl
  | x :: xs, ps, h => by
    unfold D.pairs at h
    split at h
    · rename_i e
      cases e
    · rename_i i j r e
      cases e
      cases q : D.pairs xs with
      | none =>
        rw [q] at h
        cases h
      | some qs =>
        rw [q] at h
        cases Option.some.inj h
        rw [List.map_cons, pairs_eq q]
        rfl
    · cases h
def pk (H : Hp) (v : V) : Int × Int := match v with
  | .ref t => match H t with
    | some (.tup [.int i, .int j]) => (i, j)
    | _ => (0, 0)
  | _ => (0, 0)
theorem rep_pair {v : V} {p : Int × Int} (h : Rep c F v (pairD p)) : ∃ t, v = .ref t ∧ F t = some (.tup [.int p.1, .int p.2]) := by
  cases h with
  | tup ha hr =>
    cases hr with
    | cons h1 hr =>
      cases hr with
      | cons h2 hr =>
        cases hr
        cases h1
        cases h2
        exact ⟨_, rfl, ha⟩
theorem reps_pk (e : Ex F H) : ∀ {vs : List V} {ps : List (Int × Int)}, Reps c F vs (ps.map pairD) → vs.map (pk H) = ps ∧ ∀ v ∈ vs, Rep c F v (pairD (pk H v)) ∧ ∃ t, v = .ref t ∧ H t = some (.tup [.int (pk H v).1, .int (pk H v).2])
  | [], [], _ => ⟨rfl, fun _ h => by simp at h⟩
  | v :: vs, p :: ps, .cons h r => by
    obtain ⟨i1, i2⟩ := reps_pk e r
    obtain ⟨t, e1, e2⟩ := rep_pair h
    have e3 : pk H v = p := by
      subst e1
      unfold pk
      dsimp only
      rw [e _ _ e2]
    refine ⟨by rw [List.map_cons, e3, i1], fun w hw => ?_⟩
    rcases List.mem_cons.mp hw with rfl | hw
    · rw [e3]
      exact ⟨h, t, e1, e _ _ e2⟩
    · exact i2 w hw
def pSortP (rs : List Val) : Res Val := match rs with
  | [a] => match a.its with
    | some xs => match D.pairs xs with
      | some ps => .ok ⟨.li .sh, false, .lst ((psort ps).map pairD)⟩
      | none => .bad
    | none => .bad
  | _ => .bad
theorem reps_of_mem {k : V → Int × Int} : ∀ {ys : List V}, (∀ y ∈ ys, Rep c F y (pairD (k y))) → Reps c F ys ((ys.map k).map pairD)
  | [], _ => .nil
  | y :: ys, h => .cons (h y List.mem_cons_self) (reps_of_mem fun z hz => h z (List.mem_cons_of_mem _ hz))
theorem vn_sortP {K : PySem.W.Frag} : VN c (rSortedPO K) pSortP := by
  intro W sg F H us rs Q e hr h
  unfold pSortP at h
  cases hr with
  | nil => exact h.elim
  | @cons u r us rs h1 h2 =>
    cases h2 with
    | cons _ _ => exact h.elim
    | nil =>
      dsimp only at h
      cases hi : r.its with
      | none => rw [hi] at h; exact h.elim
      | some xs =>
        rw [hi] at h
        dsimp only at h
        cases hp : D.pairs xs with
        | none => rw [hp] at h; exact h.elim
        | some ps =>
          rw [hp] at h
          obtain ⟨_, p, vs, rfl, ha, rr⟩ := h1.items e hi
          rw [pairs_eq hp] at rr
          obtain ⟨q1, q2⟩ := reps_pk e rr
          refine ⟨p, vs, pk H, rfl, .inl (.inl ha), fun x hx => (q2 x hx).2, fun ys l hs hb hl => ?_⟩
          have hperm : ys.Perm vs := hb.perm
          have e2 : ys.map (pk H) = psort ps := by
            refine psort_uniq ?_ ?_
            · rw [← q1]
              exact hperm.map _
            · refine List.pairwise_map.mpr (List.Pairwise.imp (fun {a b} hab => ?_) hs)
              unfold lexLe
              have : SrtO.lexB (pk H b) (pk H a) = false := hab
              rw [this]
              rfl
          have r3 : Reps c F ys ((psort ps).map pairD) := by
            rw [← e2]
            exact reps_of_mem fun y hy => (q2 y (hperm.mem_iff.mp hy)).1
          exact Aft.newL e hl r3 h
end
section
variable {J : Jx} {c : Ct} {W : WX} {F0 H0 : Hp} {X : Cx} {pos : Pos} {sg : L2.St} {F H F1 H1 : Hp} {env : XEnv} {st : Stmt} {sts : List Stmt} {g h : XS} {e : Expr} {f : XE} {t : XB} {D : Ends}
/-- xs.pop(), the value dropped -/
def xPop (i : Nat) : XS := fun env => match env[i]? with
  | some (some (.li .sh, .lst xs)) => if xs = [] then .bad else .next (env.set i (some (.li .sh, .lst xs.dropLast)))
  | _ => .bad
end
end Bk
set_option Elab.async false
set_option linter.all false
set_option maxRecDepth 100000
set_option maxHeartbeats 4000000
/-! BkK: what the end wants. -/
namespace Bk
open PySem L2 PySem.Spec PyProof.Rows
section
variable {P : Program} {w : World} {K : PySem.W.Frag} {mg : Str → Option Value} {base : Heap} {c : Ct} {h : Heap}
/-- what leaves with no error leaves so in any sense -/
theorem fn_cx0 {k : Nat} {f : Addr} {fd : FuncData} {ps : List Str} {sp : Sp} (G : FnOk P w K mg base (L2.CX P w) k f fd ps sp) : FnOk P w K mg base CX0 k f fd ps (fun vs H Q _ => sp vs H Q E0) :=
  ⟨fun vs H Q E q => G.len _ _ _ _ q, fun A outer s H args us vs Q E hr he hb hv hs => codeAny_mono (G.run A outer s H args us vs Q E0 hr he hb hv hs) fun r s' hq => by
    cases r with
    | error e =>
      obtain ⟨_, _, _, _, _, _, _, _, _, _, _, _, z⟩ := (show L2.CX P w outer H s E0 e s' from hq)
      exact z.elim
    | ok fl => cases fl <;> exact hq⟩
/-- a def read off the head -/
theorem fun_of {fa : List He.Fa} {fn : List He.FnD} (cc : He.SaysE fa fn K) (i : Nat) {st : Stmt} {at_ : Str × Option Str} {x qual : Str} (hd : fn[i]? = some ⟨at_, x, qual, defArgs st, defBody st, defScope st⟩) (hk : PySem.W.keepIn K (.ref (He.fAd K at_)) = true) : ∃ fd, Fun K x qual st (He.fAd K at_) fd := by
  obtain ⟨oc, od, osl, kV, doc, pm, an, cdv, ct, l, q⟩ := cc.def_ i hd
  exact ⟨_, ⟨oc, od, kV, doc, pm, an, cdv, ct, osl, rfl, l, q⟩, hk⟩
theorem excOk_of (X : K.In h) (G : h.Ns mainGlobals mg) {k : Nat} {x : Str} (he : c.ea k = He.ga K x) (c1 : (He.Fa.glo x).ok K = true) (c2 : (He.Fa.exc x).ok K = true) : ExcOk K mg c k x := by
  obtain ⟨q1, q2, q3, q4⟩ := He.exc_ok c2
  exact ⟨by rw [he]; exact He.glo_ok X G c1, by rw [he]; exact q1, by rw [he]; exact q2, by rw [he]; exact q3, by rw [he]; exact q4⟩
theorem pileOk_of {C : Addr} (hC : C = He.ga K "Pile") (c0 : (He.Fa.cls "Pile").ok K = true) (c1 : (He.Fa.noat "Pile" "columns").ok K = true) (c2 : (He.Fa.noat "Pile" "rows").ok K = true) (c3 : (He.Fa.noat "Pile" "wide").ok K = true) (c4 : (He.Fa.noat "Pile" "high").ok K = true) (c5 : (He.Fa.noat "Pile" "heaps").ok K = true) (c6 : (He.Fa.noat "Pile" "folds").ok K = true) (c7 : (He.Fa.noat "Pile" "cuts").ok K = true) : PileOk K C := by
  subst hC
  refine ⟨He.cls_ok c0, fun f hf => ?_⟩
  simp only [pileNames, List.mem_cons, List.not_mem_nil, or_false] at hf
  rcases hf with rfl | rfl | rfl | rfl | rfl | rfl | rfl
  · exact He.noat_ok c1
  · exact He.noat_ok c2
  · exact He.noat_ok c3
  · exact He.noat_ok c4
  · exact He.noat_ok c5
  · exact He.noat_ok c6
  · exact He.noat_ok c7
theorem ints_fz {F : Hp} {a : Addr} {ns : List Int} (h : SqL c.K F a (ns.map V.int)) : Rep c F (.ref a) (.fz (ns.map .int)) := .fz h (reps_ints ns)
/-- the law's end: it gives True -/
theorem law_sp {F : XF} {a : Addr} {ns : List Int} {H : Hp} (hS : SqL c.K H a (ns.map V.int)) (hF : F [.fz (ns.map .int)] = .ok (.sh (.bl true))) : spOf c F [.ref a] H (fun v _ => v = .bl true) E0 := by
  refine ⟨H, [.fz (ns.map .int)], Evl.Ex.refl H, .cons (ints_fz hS) .nil, ?_⟩
  rw [hF]
  intro F' H' u w rv
  have q := rv.repF
  cases q
  rfl
theorem putF_new {f : Str} {v : V} : ∀ {fs : List (Str × V)}, (∀ p ∈ fs, p.1 ≠ f) → putF f v fs = fs ++ [(f, v)]
  | [], _ => rfl
  | (g, x) :: r, hn => by
    have ne : ¬ g = f := hn (g, x) List.mem_cons_self
    rw [putF, if_neg ne, putF_new fun p hp => hn p (List.mem_cons_of_mem _ hp)]
    rfl
theorem pileFs_eq (a b e d x f g : V) : putF "cuts" g (putF "folds" f (putF "heaps" x (putF "high" d (putF "wide" e (putF "rows" b (putF "columns" a [])))))) = pileFs [a, b, e, d, x, f, g] := by
  have key : ∀ (fs : List (Str × V)) (n : Str) (v : V), ((fs.map (·.1)).contains n) = false → putF n v fs = fs ++ [(n, v)] := fun fs n v hc => putF_new fun p hp z => by
    have : (fs.map (·.1)).contains n = true := List.contains_iff_mem.mpr (List.mem_map.mpr ⟨p, hp, z⟩)
    rw [hc] at this
    cases this
  rw [key [] _ a rfl, key _ "rows" b (by simp only [List.map_append, List.map_cons, List.map_nil, List.nil_append]; decide +kernel), key _ "wide" e (by simp only [List.map_append, List.map_cons, List.map_nil, List.nil_append]; decide +kernel), key _ "high" d (by simp only [List.map_append, List.map_cons, List.map_nil, List.nil_append]; decide +kernel),
    key _ "heaps" x (by simp only [List.map_append, List.map_cons, List.map_nil, List.nil_append]; decide +kernel), key _ "folds" f (by simp only [List.map_append, List.map_cons, List.map_nil, List.nil_append]; decide +kernel), key _ "cuts" g (by simp only [List.map_append, List.map_cons, List.map_nil, List.nil_append]; decide +kernel)]
  rfl
theorem binds_law {x qual : Str} {st : Stmt} {f : Addr} {fd : FuncData} (Fn : Fun K x qual st f fd) (hb : ∀ (kV doc pm : Value) (an : Option Addr) (cdv ct v : Value), bindArgs (PySem.W.fnOf x qual (defArgs st) (defBody st) (defScope st) .none kV doc pm an cdv ct) ⟨[v], []⟩ = pure [(("script" : Str), v)]) (s : Shared) (v : Value) : BindsTo s fd ⟨[v], []⟩ [("script", v)] := by
  obtain ⟨oc, od, kV, doc, pm, an, cdv, ct, osl, rfl, _, _⟩ := Fn.ex
  exact .of_eq (hb kV doc pm an cdv ct v)
end
end Bk
set_option Elab.async false
set_option linter.all false
set_option maxRecDepth 100000
set_option maxHeartbeats 4000000
/-! BkL: the combinators as equations, for simp; loops and comprehensions over plain lists. -/
namespace Bk
open PySem L2
/-! ### what goes on behind a value (named, so that simp does not look into it too early) -/
def Out.andThen (o : Out) (t : XS) : Out := match o with
  | .next e => t e
  | o => o
def kSet (i : Nat) (env : XEnv) : Res Val → Out
  | .ok a => if a.b = true then .bad else .next (env.set i (some (a.o, a.d)))
  | .exc n => .exc n env
  | .bad => .bad
def kPut (is : List Nat) (env : XEnv) (d : D) : Out := match (Tg.tp is).put d env with
  | some e => .next e
  | none => .bad
def kUnp (is : List Nat) (env : XEnv) : Res Val → Out
  | .ok a => if a.b = true then .bad else kPut is env a.d
  | .exc n => .exc n env
  | .bad => .bad
def kDrop (env : XEnv) : Res Val → Out
  | .ok _ => .next env
  | .exc n => .exc n env
  | .bad => .bad
def kRet (env : XEnv) : Res Val → Out
  | .ok a => if a.b = true then .bad else .ret a
  | .exc n => .exc n env
  | .bad => .bad
def kIfS (s t : XS) (env : XEnv) : Res Bool → Out
  | .ok b => if b = true then s env else t env
  | .exc n => .exc n env
  | .bad => .bad
def kIf (f h : XE) (env : XEnv) (b : Bool) : Res Val := if b = true then f env else h env
def kFor (tg : Tg) (s : XS) (env : XEnv) : Res (List D) → Out
  | .ok ds => forGo tg s ds env
  | .exc n => .exc n env
  | .bad => .bad
def kApp (i : Nat) (env : XEnv) (xs : List D) : Res Val → Out
  | .ok a => if a.b = true then .bad else if xs.length < 100000 then .next (env.set i (some (.li .sh, .lst (xs ++ [a.d])))) else .bad
  | .exc n => .exc n env
  | .bad => .bad
def kFun : Out → Res Val
  | .ret r => if r.b = true then .bad else .ok r
  | .next _ => .ok (.sh .non)
  | .exc k _ => .exc k
  | _ => .bad
def kLc : Res (List D) → Res Val
  | .ok xs => .ok ⟨.li .sh, false, .lst xs⟩
  | _ => .bad
def kMeth (F : XF) (r : Res (List D)) (v : Val) : Res Val := match v.o, v.d with
  | .sh, .obj xs => r.bind fun ds => F (.obj xs :: ds)
  | _, _ => .bad
section
variable (env : XEnv) (f g h k : XE) (s t : XS) (a b : XB) (fs : XA) (vs : XVs)
@[simp] theorem rbind_ok {α β : Type} (x : α) (f : α → Res β) : (Res.ok x).bind f = f x := rfl
@[simp] theorem rbind_exc {α β : Type} (n : Nat) (f : α → Res β) : (Res.exc n : Res α).bind f = .exc n := rfl
@[simp] theorem rbind_bad {α β : Type} (f : α → Res β) : (Res.bad : Res α).bind f = .bad := rfl
@[simp] theorem e_V (i : Nat) : xV i env = match env[i]? with
  | some (some (.sh, d)) => .ok (.sh d)
  | some (some (o, d)) => .ok ⟨o, true, d⟩
  | _ => .bad := rfl
@[simp] theorem e_C (d : D) : xC d env = .ok (.sh d) := rfl
@[simp] theorem e_Op2 (p : Val → Val → Res Val) : xOp2 p f h env = (f env).bind fun a => (h env).bind fun b => p a b := rfl
@[simp] theorem e_T : xT f env = (f env).bind fun a => match a.d with
  | .bl b => .ok b
  | _ => .bad := rfl
@[simp] theorem e_And : xAnd a b env = (a env).bind fun c => if c = true then b env else .ok false := rfl
@[simp] theorem e_Or : xOr a b env = (a env).bind fun c => if c = true then .ok true else b env := rfl
@[simp] theorem e_NotB : xNotB a env = (a env).bind fun b => .ok (!b) := rfl
@[simp] theorem e_Chain (p q : Val → Val → Res Val) : xChain p q f h k env = (f env).bind fun a => (h env).bind fun b => (p a b).bind fun z => match z.d with
  | .bl r => if r = true then (k env).bind fun e => (q b e) else .ok (.sh (.bl false))
  | _ => .bad := by
  unfold xChain
  congr 1
  funext a
  congr 1
  funext b
  congr 1
  funext z
  cases z.d with
  | bl p => cases p <;> rfl
  | _ => rfl
@[simp] theorem e_AndV : xAndV f h env = (f env).bind fun a => match a.d with
  | .bl p => if p = true then h env else .ok (.sh (.bl false))
  | _ => .bad := by
  unfold xAndV
  congr 1
  funext a
  cases a.d with
  | bl p => cases p <;> rfl
  | _ => rfl
@[simp] theorem e_OrV : xOrV f h env = (f env).bind fun a => match a.d with
  | .bl p => if p = true then .ok (.sh (.bl true)) else h env
  | _ => .bad := by
  unfold xOrV
  congr 1
  funext a
  cases a.d with
  | bl p => cases p <;> rfl
  | _ => rfl
@[simp] theorem e_NotV : xNotV f env = (f env).bind fun a => match a.d with
  | .bl b => .ok (.sh (.bl (!b)))
  | _ => .bad := rfl
@[simp] theorem e_If : xIf a f h env = (a env).bind (kIf f h env) := rfl
@[simp] theorem e_ANil : xANil env = .ok [] := rfl
@[simp] theorem e_ACons : xACons f fs env = (f env).bind fun a => if a.b = true then .bad else (fs env).bind fun ds => .ok (a.d :: ds) := rfl
@[simp] theorem e_VNil : xVNil env = .ok [] := rfl
@[simp] theorem e_VCons : xVCons f vs env = (f env).bind fun a => (vs env).bind fun ds => .ok (a :: ds) := rfl
@[simp] theorem e_Tup : xTup fs env = (fs env).bind fun ds => if ds.length ≤ 100000 then .ok (.sh (.tup ds)) else .bad := rfl
@[simp] theorem e_Lst : xLst fs env = (fs env).bind fun ds => if ds.length ≤ 100000 then .ok ⟨.li .sh, false, .lst ds⟩ else .bad := rfl
@[simp] theorem e_Blt (p : List Val → Res Val) : xBlt p vs env = (vs env).bind p := rfl
@[simp] theorem e_Call (F : XF) : xCall F fs env = (fs env).bind F := rfl
@[simp] theorem e_CallB (F : XF) : xCallB F vs env = (vs env).bind fun rs => onlySc (F (rs.map Val.d)) := rfl
@[simp] theorem e_Fld (n : Nat) : xFld n f env = (f env).bind (pFld n) := rfl
@[simp] theorem e_Isi (T : String) : xIsi T f env = (f env).bind fun a => (isD T a.d).bind fun b => .ok (.sh (.bl b)) := rfl
@[simp] theorem e_PNone : xPNone env = .ok none := rfl
@[simp] theorem e_PSome : xPSome f env = (f env).bind fun a => match a.d with
  | .int i => .ok (some i)
  | _ => .bad := rfl
@[simp] theorem e_Sl (lo hi : XP) : xSl f lo hi env = (f env).bind fun a => (lo env).bind fun l => (hi env).bind fun h => match a.its2 with
  | some xs => .ok ⟨.li .sh, false, .lst (cut xs l h)⟩
  | none => .bad := rfl
@[simp] theorem e_IList : xIList f env = (f env).bind fun a => if a.b = true then .bad else match a.d with
  | .lst xs => .ok xs
  | .fz xs => .ok xs
  | _ => .bad := rfl
@[simp] theorem e_ITup : xITup f env = (f env).bind fun a => if a.b = true then .bad else match a.d with
  | .tup xs => .ok xs
  | _ => .bad := rfl
@[simp] theorem e_IRange : xIRange vs env = (vs env).bind fun rs => match rs with
  | [a] => match a.d with
    | .int n => if n ≤ 100000 ∧ -100000 ≤ n then .ok (rangeD n) else .bad
    | _ => .bad
  | _ => .bad := rfl
@[simp] theorem e_IRev : xIRev fs env = (fs env).bind fun rs => match rs with
  | [d] => match d with
    | .lst xs => .ok xs.reverse
    | _ => .bad
  | _ => .bad := rfl
@[simp] theorem e_Yes : xYes env = .ok true := rfl
@[simp] theorem e_Lc (ws : List Nat) (it : XI) (tg : Tg) : xLc ws it tg a f env = (it env).bind fun ds => if ds.length ≤ 100000 then kLc (lcGo (lcStep tg a f (wipeX env ws)) ds) else .bad := rfl
@[simp] theorem kLc_ok (xs : List D) : kLc (.ok xs) = .ok ⟨.li .sh, false, .lst xs⟩ := rfl
@[simp] theorem e_Meth (F : XF) : xMeth F f fs env = (f env).bind (kMeth F (fs env)) := rfl
@[simp] theorem e_Pile : xPile fs env = (fs env).bind fun ds => if ds.length = 7 then .ok (.sh (.obj ds)) else .bad := rfl
@[simp] theorem e_Skip : xSkip env = .next env := rfl
@[simp] theorem e_Seq : xSeq s t env = (s env).andThen t := rfl
@[simp] theorem then_next : (Out.next env).andThen t = t env := rfl
@[simp] theorem then_ret (r : Val) : (Out.ret r).andThen t = .ret r := rfl
@[simp] theorem then_exc (n : Nat) : (Out.exc n env).andThen t = .exc n env := rfl
@[simp] theorem then_bad : Out.bad.andThen t = .bad := rfl
@[simp] theorem e_fz (i : Nat) : fz i env = match env[i]? with
  | some (some (_, d)) => env.set i (some (.sh, d))
  | _ => env := rfl
@[simp] theorem e_Fz (i : Nat) : xFz i s env = s (fz i env) := rfl
@[simp] theorem e_Set (i : Nat) : xSet i f env = kSet i env (f env) := rfl
@[simp] theorem kSet_ok (i : Nat) (o : Ow) (d : D) : kSet i env (.ok ⟨o, false, d⟩) = .next (env.set i (some (o, d))) := rfl
@[simp] theorem kSet_exc (i n : Nat) : kSet i env (.exc n) = .exc n env := rfl
@[simp] theorem e_Unp (is : List Nat) : xUnp is f env = kUnp is env (f env) := rfl
@[simp] theorem kUnp_ok (is : List Nat) (o : Ow) (d : D) : kUnp is env (.ok ⟨o, false, d⟩) = kPut is env d := rfl
@[simp] theorem kUnp_exc (is : List Nat) (n : Nat) : kUnp is env (.exc n) = .exc n env := rfl
@[simp] theorem kPut_nil : kPut [] env (.tup []) = .next env := rfl
@[simp] theorem kPut_cons (i : Nat) (is : List Nat) (d : D) (ds : List D) : kPut (i :: is) env (.tup (d :: ds)) = kPut is (env.set i (some (.sh, d))) (.tup ds) := rfl
@[simp] theorem e_Drop : xDrop f env = kDrop env (f env) := rfl
@[simp] theorem kDrop_ok (v : Val) : kDrop env (.ok v) = .next env := rfl
@[simp] theorem kDrop_exc (n : Nat) : kDrop env (.exc n) = .exc n env := rfl
@[simp] theorem e_Ret : xRet f env = kRet env (f env) := rfl
@[simp] theorem kRet_ok (o : Ow) (d : D) : kRet env (.ok ⟨o, false, d⟩) = .ret ⟨o, false, d⟩ := rfl
@[simp] theorem kRet_exc (n : Nat) : kRet env (.exc n) = .exc n env := rfl
@[simp] theorem e_RetV (i : Nat) : xRetV i env = match env[i]? with
  | some (some (o, d)) => .ret ⟨o, false, d⟩
  | _ => .bad := rfl
@[simp] theorem e_IfS : xIfS a s t env = kIfS s t env (a env) := rfl
@[simp] theorem kIfS_t : kIfS s t env (.ok true) = s env := rfl
@[simp] theorem kIfS_f : kIfS s t env (.ok false) = t env := rfl
@[simp] theorem kIf_t : kIf f h env true = f env := rfl
@[simp] theorem kIf_f : kIf f h env false = h env := rfl
@[simp] theorem e_For (tg : Tg) (it : XI) : xFor tg it s env = kFor tg s env (it env) := rfl
@[simp] theorem kFor_ok (tg : Tg) (ds : List D) : kFor tg s env (.ok ds) = forGo tg s ds env := rfl
@[simp] theorem kFor_exc (tg : Tg) (n : Nat) : kFor tg s env (.exc n) = .exc n env := rfl
@[simp] theorem e_App (i : Nat) : xApp i f env = match env[i]? with
  | some (some (.li .sh, .lst xs)) => kApp i env xs (f env)
  | _ => .bad := rfl
@[simp] theorem kApp_ok (i : Nat) (xs : List D) (o : Ow) (d : D) : kApp i env xs (.ok ⟨o, false, d⟩) = if xs.length < 100000 then .next (env.set i (some (.li .sh, .lst (xs ++ [d])))) else .bad := rfl
@[simp] theorem e_SetI (i : Nat) : xSetI i k f env = match env[i]? with
  | some (some (.li .sh, .lst xs)) => match f env with
    | .ok a => if a.b = true then .bad else match k env with
      | .ok k => match k.d with
        | .int n => match ixN xs.length n with
          | some j => .next (env.set i (some (.li .sh, .lst (xs.set j a.d))))
          | none => .bad
        | _ => .bad
      | .exc n => .exc n env
      | .bad => .bad
    | .exc n => .exc n env
    | .bad => .bad
  | _ => .bad := rfl
@[simp] theorem e_Raise (n : Nat) : xRaise n env = .exc n env := rfl
@[simp] theorem e_Fun (n N : Nat) (ds : List D) : xFun n N s ds = if ds.length = n then kFun (s (ds.map (fun d => some (.sh, d)) ++ List.replicate (N - n) none)) else .bad := rfl
@[simp] theorem kFun_ret (o : Ow) (d : D) : kFun (.ret ⟨o, false, d⟩) = .ok ⟨o, false, d⟩ := rfl
@[simp] theorem kFun_next : kFun (.next env) = .ok (.sh .non) := rfl
@[simp] theorem kFun_exc (n : Nat) : kFun (.exc n env) = .exc n := rfl
@[simp] theorem ite_andR (P : Prop) [Decidable P] (q : Bool) : (if P then Res.ok q else .ok false) = .ok (decide P && q) := by by_cases h : P <;> simp [h]
@[simp] theorem ite_orR (P : Prop) [Decidable P] (q : Bool) : (if P then Res.ok true else .ok q) = .ok (decide P || q) := by by_cases h : P <;> simp [h]
@[simp] theorem ite_andV (P : Prop) [Decidable P] (q : Bool) : (if P then Res.ok (Val.sh (.bl q)) else .ok (.sh (.bl false))) = .ok (.sh (.bl (decide P && q))) := by by_cases h : P <;> simp [h]
@[simp] theorem ite_orV (P : Prop) [Decidable P] (q : Bool) : (if P then Res.ok (Val.sh (.bl true)) else .ok (.sh (.bl q))) = .ok (.sh (.bl (decide P || q))) := by by_cases h : P <;> simp [h]
end
section
variable (a b : Val) (i j : Int) (x y : Str) (o o2 : Ow) (c d : Bool)
@[simp] theorem p_I2 (g : Int → Int → Res Val) : pI2 g ⟨o, c, .int i⟩ ⟨o2, d, .int j⟩ = g i j := rfl
@[simp] theorem p_Sub : pSub ⟨o, c, .int i⟩ ⟨o2, d, .int j⟩ = .ok (.sh (.int (i - j))) := rfl
@[simp] theorem p_Mul : pMul ⟨o, c, .int i⟩ ⟨o2, d, .int j⟩ = if CMul i j then .ok (.sh (.int (i * j))) else .bad := rfl
@[simp] theorem p_Div : pDiv ⟨o, c, .int i⟩ ⟨o2, d, .int j⟩ = if CDiv i j then .ok (.sh (.int (i / j))) else .bad := rfl
@[simp] theorem p_Mod : pMod ⟨o, c, .int i⟩ ⟨o2, d, .int j⟩ = if 0 < j then .ok (.sh (.int (i % j))) else .bad := rfl
@[simp] theorem p_Pow : pPow ⟨o, c, .int i⟩ ⟨o2, d, .int j⟩ = if CPow i j then .ok (.sh (.int (i ^ j.toNat))) else .bad := rfl
@[simp] theorem p_Lt : pLt ⟨o, c, .int i⟩ ⟨o2, d, .int j⟩ = .ok (.sh (.bl (decide (i < j)))) := rfl
@[simp] theorem p_Le : pLe ⟨o, c, .int i⟩ ⟨o2, d, .int j⟩ = .ok (.sh (.bl (decide (i ≤ j)))) := rfl
@[simp] theorem p_Gt : pGt ⟨o, c, .int i⟩ ⟨o2, d, .int j⟩ = .ok (.sh (.bl (decide (j < i)))) := rfl
@[simp] theorem p_Ge : pGe ⟨o, c, .int i⟩ ⟨o2, d, .int j⟩ = .ok (.sh (.bl (decide (j ≤ i)))) := rfl
@[simp] theorem p_AddI : pAdd ⟨o, c, .int i⟩ ⟨o2, d, .int j⟩ = .ok (.sh (.int (i + j))) := rfl
@[simp] theorem p_AddS : pAdd ⟨o, c, .str x⟩ ⟨o2, d, .str y⟩ = if x.length + y.length ≤ 100000 then .ok (.sh (.str (x ++ y))) else .bad := rfl
@[simp] theorem p_AddL1 (xs ys : List D) : pAdd ⟨.sh, c, .lst xs⟩ ⟨.sh, d, .lst ys⟩ = if xs.length + ys.length ≤ 100000 then .ok ⟨.li .sh, false, .lst (xs ++ ys)⟩ else .bad := rfl
@[simp] theorem p_AddL2 (xs ys : List D) : pAdd ⟨.li .sh, c, .lst xs⟩ ⟨.sh, d, .lst ys⟩ = if xs.length + ys.length ≤ 100000 then .ok ⟨.li .sh, false, .lst (xs ++ ys)⟩ else .bad := rfl
@[simp] theorem p_AddL3 (xs ys : List D) : pAdd ⟨.sh, c, .lst xs⟩ ⟨.li .sh, d, .lst ys⟩ = if xs.length + ys.length ≤ 100000 then .ok ⟨.li .sh, false, .lst (xs ++ ys)⟩ else .bad := rfl
@[simp] theorem p_AddL4 (xs ys : List D) : pAdd ⟨.li .sh, c, .lst xs⟩ ⟨.li .sh, d, .lst ys⟩ = if xs.length + ys.length ≤ 100000 then .ok ⟨.li .sh, false, .lst (xs ++ ys)⟩ else .bad := rfl
@[simp] theorem p_EqI : pEq ⟨o, c, .int i⟩ ⟨o2, d, .int j⟩ = .ok (.sh (.bl (decide (i = j)))) := rfl
@[simp] theorem p_EqS : pEq ⟨o, c, .str x⟩ ⟨o2, d, .str y⟩ = .ok (.sh (.bl (decide (x = y)))) := rfl
@[simp] theorem p_NeI : pNe ⟨o, c, .int i⟩ ⟨o2, d, .int j⟩ = .ok (.sh (.bl (!decide (i = j)))) := rfl
@[simp] theorem p_NeS : pNe ⟨o, c, .str x⟩ ⟨o2, d, .str y⟩ = .ok (.sh (.bl (!decide (x = y)))) := rfl
@[simp] theorem p_EqB (p q : Bool) : pEq ⟨o, c, .bl p⟩ ⟨o2, d, .bl q⟩ = .ok (.sh (.bl (p == q))) := rfl
@[simp] theorem p_NeB (p q : Bool) : pNe ⟨o, c, .bl p⟩ ⟨o2, d, .bl q⟩ = .ok (.sh (.bl (!(p == q)))) := rfl
@[simp] theorem p_IsN (e : D) : pIs ⟨o, c, e⟩ ⟨o2, d, .non⟩ = .ok (.sh (.bl e.isNon)) := rfl
@[simp] theorem p_IsB (p q : Bool) : pIs ⟨o, c, .bl p⟩ ⟨o2, d, .bl q⟩ = .ok (.sh (.bl (decide (p = q)))) := rfl
@[simp] theorem p_IsNotN (e : D) : pIsNot ⟨o, c, e⟩ ⟨o2, d, .non⟩ = .ok (.sh (.bl (!e.isNon))) := rfl
@[simp] theorem p_IsNotB (p q : Bool) : pIsNot ⟨o, c, .bl p⟩ ⟨o2, d, .bl q⟩ = .ok (.sh (.bl (!decide (p = q)))) := rfl
@[simp] theorem isNon_non : D.isNon .non = true := rfl
@[simp] theorem isNon_int : D.isNon (.int i) = false := rfl
@[simp] theorem isNon_tup (xs : List D) : D.isNon (.tup xs) = false := rfl
@[simp] theorem isNon_lst (xs : List D) : D.isNon (.lst xs) = false := rfl
@[simp] theorem p_LenL (xs : List D) : pLen [⟨o, c, .lst xs⟩] = .ok (.sh (.int xs.length)) := rfl
@[simp] theorem p_LenT (xs : List D) : pLen [⟨o, c, .tup xs⟩] = .ok (.sh (.int xs.length)) := rfl
@[simp] theorem p_LenF (xs : List D) : pLen [⟨o, c, .fz xs⟩] = .ok (.sh (.int xs.length)) := rfl
@[simp] theorem p_LenS : pLen [⟨o, c, .str x⟩] = if x.length ≤ 100000 then .ok (.sh (.int x.length)) else .bad := rfl
@[simp] theorem p_Max2 : pMax2 [⟨o, c, .int i⟩, ⟨o2, d, .int j⟩] = .ok (.sh (.int (if j > i then j else i))) := rfl
@[simp] theorem p_Min2 : pMin2 [⟨o, c, .int i⟩, ⟨o2, d, .int j⟩] = .ok (.sh (.int (if j < i then j else i))) := rfl
@[simp] theorem p_Int1 : pInt1 [⟨o, c, .int i⟩] = .ok (.sh (.int i)) := rfl
@[simp] theorem p_Int1b (p : Bool) : pInt1 [⟨o, c, .bl p⟩] = .ok (.sh (.int (if p then 1 else 0))) := rfl
@[simp] theorem p_ListS (xs : List D) : pList [⟨.sh, c, .lst xs⟩] = .ok ⟨.li .sh, false, .lst xs⟩ := rfl
@[simp] theorem p_ListO (xs : List D) : pList [⟨.li .sh, c, .lst xs⟩] = .ok ⟨.li .sh, false, .lst xs⟩ := rfl
@[simp] theorem p_its1 (xs : List D) : Val.its2 ⟨.sh, c, .fz xs⟩ = some xs := rfl
@[simp] theorem p_its2 (xs : List D) : Val.its2 ⟨.sh, c, .lst xs⟩ = some xs := rfl
@[simp] theorem p_its3 (xs : List D) : Val.its2 ⟨.li .sh, c, .lst xs⟩ = some xs := rfl
@[simp] theorem p_Fld (n : Nat) (xs : List D) : pFld n ⟨.sh, c, .obj xs⟩ = match xs[n]? with
    | some d => .ok (.sh d)
    | none => .bad := rfl
@[simp] theorem p_IxL (xs : List D) : pIx ⟨o, c, .lst xs⟩ ⟨o2, d, .int i⟩ = match atI xs i with
      | some e => (Val.mk o c (.lst xs)).part e
      | none => .bad := rfl
@[simp] theorem p_IxT (xs : List D) : pIx ⟨o, c, .tup xs⟩ ⟨o2, d, .int i⟩ = match atI xs i with
      | some e => (Val.mk o c (.tup xs)).part e
      | none => .bad := rfl
@[simp] theorem p_IxF (xs : List D) : pIx ⟨o, c, .fz xs⟩ ⟨o2, d, .int i⟩ = match atI xs i with
      | some e => (Val.mk o c (.fz xs)).part e
      | none => .bad := rfl
@[simp] theorem part_sh (e f : D) : (Val.mk .sh c e).part f = .ok (.sh f) := rfl
@[simp] theorem part_li (e f : D) : (Val.mk (.li .sh) c e).part f = .ok (.sh f) := rfl
@[simp] theorem isD_bl (T : String) (p : Bool) : isD T (.bl p) = .ok (T == "bool" || T == "int") := rfl
@[simp] theorem isD_int (T : String) : isD T (.int i) = .ok (T == "int") := rfl
@[simp] theorem isD_str (T : String) : isD T (.str x) = .ok (T == "str") := rfl
@[simp] theorem isD_lst (T : String) (xs : List D) : isD T (.lst xs) = .ok (T == "list") := rfl
@[simp] theorem isD_tup (T : String) (xs : List D) : isD T (.tup xs) = .ok (T == "tuple") := rfl
@[simp] theorem isD_non (T : String) : isD T .non = .ok false := rfl
@[simp] theorem onlySc_bl (p : Bool) : onlySc (.ok ⟨o, c, .bl p⟩) = .ok (.sh (.bl p)) := rfl
@[simp] theorem onlySc_int : onlySc (.ok ⟨o, c, .int i⟩) = .ok (.sh (.int i)) := rfl
@[simp] theorem onlySc_str : onlySc (.ok ⟨o, c, .str x⟩) = .ok (.sh (.str x)) := rfl
@[simp] theorem onlySc_non : onlySc (.ok ⟨o, c, .non⟩) = .ok (.sh .non) := rfl
@[simp] theorem onlySc_exc (n : Nat) : onlySc (.exc n) = .exc n := rfl
end
@[simp] theorem put_nm (i : Nat) (d : D) (env : XEnv) : (Tg.nm i).put d env = some (env.set i (some (.sh, d))) := rfl
@[simp] theorem put_tp (is : List Nat) (ds : List D) (env : XEnv) : (Tg.tp is).put (.tup ds) env = putAll is ds env := rfl
@[simp] theorem putAll_nil (env : XEnv) : putAll [] [] env = some env := rfl
@[simp] theorem putAll_cons (i : Nat) (is : List Nat) (d : D) (ds : List D) (env : XEnv) : putAll (i :: is) (d :: ds) env = putAll is ds (env.set i (some (.sh, d))) := rfl
@[simp] theorem wipeX_nil (env : XEnv) : wipeX env [] = env := rfl
@[simp] theorem wipeX_cons (env : XEnv) (v : Nat) (vs : List Nat) : wipeX env (v :: vs) = (wipeX env vs).set v none := rfl
@[simp] theorem forGo_nil (tg : Tg) (bd : XS) (env : XEnv) : forGo tg bd [] env = .next env := rfl
@[simp] theorem lcGo_nil (step : D → Res (Option D)) : lcGo step [] = .ok [] := rfl
theorem lcGo_map {step : D → Res (Option D)} {α : Type} {enc : α → D} {g : α → D} : ∀ {xs : List α}, (∀ x ∈ xs, step (enc x) = .ok (some (g x))) → lcGo step (xs.map enc) = .ok (xs.map g)
  | [], _ => rfl
  | x :: xs, h => by
    rw [List.map_cons, lcGo, h x List.mem_cons_self, rbind_ok, lcGo_map fun y hy => h y (List.mem_cons_of_mem _ hy)]
    rfl
theorem lcGo_filter {step : D → Res (Option D)} {α : Type} {enc : α → D} {p : α → Bool} {g : α → D} : ∀ {xs : List α}, (∀ x ∈ xs, step (enc x) = .ok (if p x then some (g x) else none)) → lcGo step (xs.map enc) = .ok ((xs.filter p).map g)
  | [], _ => rfl
  | x :: xs, h => by
    rw [List.map_cons, lcGo, h x List.mem_cons_self, rbind_ok, lcGo_filter fun y hy => h y (List.mem_cons_of_mem _ hy)]
    cases q : p x with
    | true => rw [if_pos rfl, List.filter_cons, q]; rfl
    | false => rw [if_neg Bool.false_ne_true, List.filter_cons, q]; rfl
theorem forGo_cons {tg : Tg} {bd : XS} {d : D} {ds : List D} {env e1 e2 : XEnv} (h1 : tg.put d env = some e1) (h2 : bd e1 = .next e2 ∨ bd e1 = .cont e2) : forGo tg bd (d :: ds) env = forGo tg bd ds e2 := by
  rw [forGo, h1]
  dsimp only
  rcases h2 with h2 | h2 <;> rw [h2]
theorem forGo_from {tg : Tg} {bd : XS} {α : Type} {enc : α → D} (P : Nat → XEnv → Prop) : ∀ (xs : List α) (n : Nat) (env : XEnv), P n env →
    (∀ i x env, xs[i]? = some x → P (n + i) env → ∃ e1, tg.put (enc x) env = some e1 ∧ ∃ e2, (bd e1 = .next e2 ∨ bd e1 = .cont e2) ∧ P (n + i + 1) e2) → ∃ e2, forGo tg bd (xs.map enc) env = .next e2 ∧ P (n + xs.length) e2
  | [], n, env, h, _ => ⟨env, rfl, h⟩
  | x :: xs, n, env, h, k => by
    obtain ⟨e1, h1, e2, h2, h3⟩ := k 0 x env rfl h
    obtain ⟨e3, h4, h5⟩ := forGo_from P xs (n + 1) e2 h3 fun i y env hy hp => by
      have e : n + 1 + i = n + (i + 1) := by omega
      rw [e] at hp ⊢
      exact k (i + 1) y env (by simpa using hy) hp
    refine ⟨e3, ?_, by rw [List.length_cons, show n + (xs.length + 1) = n + 1 + xs.length from by omega]; exact h5⟩
    rw [List.map_cons, forGo_cons h1 h2]
    exact h4
/-- a loop that is walked to its end, by what holds ahead of turn i -/
theorem forGo_all {tg : Tg} {bd : XS} {α : Type} {enc : α → D} {xs : List α} {env : XEnv} (P : Nat → XEnv → Prop) (h0 : P 0 env)
    (hs : ∀ i x env, xs[i]? = some x → P i env → ∃ e1, tg.put (enc x) env = some e1 ∧ ∃ e2, (bd e1 = .next e2 ∨ bd e1 = .cont e2) ∧ P (i + 1) e2) : ∃ e2, forGo tg bd (xs.map enc) env = .next e2 ∧ P xs.length e2 := by
  obtain ⟨e2, h1, h2⟩ := forGo_from P xs 0 env h0 fun i x env hx hp => by
    rw [Nat.zero_add] at hp ⊢
    exact hs i x env hx hp
  exact ⟨e2, h1, by rw [Nat.zero_add] at h2; exact h2⟩
/-- over 0 .. n - 1 -/
theorem forGo_range {tg : Tg} {bd : XS} {n : Int} {env : XEnv} (P : Nat → XEnv → Prop) (h0 : P 0 env)
    (hs : ∀ (i : Nat) env, (i : Int) < n → P i env → ∃ e1, tg.put (.int (i : Int)) env = some e1 ∧ ∃ e2, (bd e1 = .next e2 ∨ bd e1 = .cont e2) ∧ P (i + 1) e2) : ∃ e2, forGo tg bd (rangeD n) env = .next e2 ∧ P n.toNat e2 := by
  obtain ⟨e2, h1, h2⟩ := forGo_all (tg := tg) (bd := bd) (enc := fun k : Nat => D.int (k : Int)) (xs := List.range n.toNat) P h0 fun i x env hx hp => by
    obtain ⟨q1, q2⟩ := List.getElem?_eq_some_iff.mp hx
    rw [List.length_range] at q1
    rw [List.getElem_range] at q2
    subst q2
    exact hs i env (by omega) hp
  rw [List.length_range] at h2
  exact ⟨e2, h1, h2⟩
/-- one turn of a loop -/
def stepP (bd : XS) : Option XEnv → Out
  | some e => bd e
  | none => .bad
def stepO (tg : Tg) (bd : XS) (d : D) (env : XEnv) : Out := stepP bd (tg.put d env)
@[simp] theorem stepO_nm (i : Nat) (bd : XS) (d : D) (env : XEnv) : stepO (.nm i) bd d env = bd (env.set i (some (.sh, d))) := rfl
@[simp] theorem stepO_tp (is : List Nat) (bd : XS) (ds : List D) (env : XEnv) : stepO (.tp is) bd (.tup ds) env = stepP bd (putAll is ds env) := rfl
@[simp] theorem stepP_some (bd : XS) (env : XEnv) : stepP bd (some env) = bd env := rfl
theorem for_nx {tg : Tg} {bd : XS} {α : Type} {ds : List D} {env : XEnv} {enc : α → D} (xs : List α) (P : Nat → XEnv → Prop) (hd : ds = xs.map enc) (h0 : P 0 env)
    (hs : ∀ i x env, xs[i]? = some x → P i env → ∃ e2, stepO tg bd (enc x) env = .next e2 ∧ P (i + 1) e2) : ∃ e2, forGo tg bd ds env = .next e2 ∧ P xs.length e2 := by
  subst hd
  refine forGo_all P h0 fun i x env hx hp => ?_
  obtain ⟨e2, h1, h2⟩ := hs i x env hx hp
  unfold stepO at h1
  cases q : tg.put (enc x) env with
  | none =>
    rw [q] at h1
    cases h1
  | some e1 =>
    rw [q] at h1
    exact ⟨e1, rfl, e2, .inl h1, h2⟩
theorem rng_nx {tg : Tg} {bd : XS} {n : Int} {env : XEnv} (P : Nat → XEnv → Prop) (h0 : P 0 env)
    (hs : ∀ (i : Nat) env, (i : Int) < n → P i env → ∃ e2, stepO tg bd (.int (i : Int)) env = .next e2 ∧ P (i + 1) e2) : ∃ e2, forGo tg bd (rangeD n) env = .next e2 ∧ P n.toNat e2 := by
  obtain ⟨e2, h1, h2⟩ := for_nx (tg := tg) (bd := bd) (ds := rangeD n) (enc := fun k : Nat => D.int (k : Int)) (List.range n.toNat) P rfl h0 fun i x env hx hp => by
    obtain ⟨q1, q2⟩ := List.getElem?_eq_some_iff.mp hx
    rw [List.length_range] at q1
    rw [List.getElem_range] at q2
    subst q2
    exact hs i env (by omega) hp
  rw [List.length_range] at h2
  exact ⟨e2, h1, h2⟩
/-- a loop, then the rest -/
theorem for_then {tg : Tg} {bd t : XS} {α : Type} {ds : List D} {env : XEnv} {enc : α → D} {R : Out} (xs : List α) (P : Nat → XEnv → Prop) (hd : ds = xs.map enc) (h0 : P 0 env)
    (hs : ∀ i x env, xs[i]? = some x → P i env → ∃ e2, stepO tg bd (enc x) env = .next e2 ∧ P (i + 1) e2) (ht : ∀ e2, P xs.length e2 → t e2 = R) : (forGo tg bd ds env).andThen t = R := by
  obtain ⟨e2, h1, h2⟩ := for_nx xs P hd h0 hs
  rw [h1]
  exact ht e2 h2
theorem rng_then {tg : Tg} {bd t : XS} {n : Int} {env : XEnv} {R : Out} (P : Nat → XEnv → Prop) (h0 : P 0 env)
    (hs : ∀ (i : Nat) env, (i : Int) < n → P i env → ∃ e2, stepO tg bd (.int (i : Int)) env = .next e2 ∧ P (i + 1) e2) (ht : ∀ e2, P n.toNat e2 → t e2 = R) : (forGo tg bd (rangeD n) env).andThen t = R := by
  obtain ⟨e2, h1, h2⟩ := rng_nx P h0 hs
  rw [h1]
  exact ht e2 h2
theorem for_fun {tg : Tg} {bd t : XS} {α : Type} {ds : List D} {env : XEnv} {enc : α → D} {R : Res Val} (xs : List α) (P : Nat → XEnv → Prop) (hd : ds = xs.map enc) (h0 : P 0 env)
    (hs : ∀ i x env, xs[i]? = some x → P i env → ∃ e2, stepO tg bd (enc x) env = .next e2 ∧ P (i + 1) e2) (ht : ∀ e2, P xs.length e2 → kFun (t e2) = R) : kFun ((forGo tg bd ds env).andThen t) = R := by
  obtain ⟨e2, h1, h2⟩ := for_nx xs P hd h0 hs
  rw [h1]
  exact ht e2 h2
theorem rng_fun {tg : Tg} {bd t : XS} {n : Int} {env : XEnv} {R : Res Val} (P : Nat → XEnv → Prop) (h0 : P 0 env)
    (hs : ∀ (i : Nat) env, (i : Int) < n → P i env → ∃ e2, stepO tg bd (.int (i : Int)) env = .next e2 ∧ P (i + 1) e2) (ht : ∀ e2, P n.toNat e2 → kFun (t e2) = R) : kFun ((forGo tg bd (rangeD n) env).andThen t) = R := by
  obtain ⟨e2, h1, h2⟩ := rng_nx P h0 hs
  rw [h1]
  exact ht e2 h2
@[simp] theorem CMul_small {i j : Int} : CMul i j ↔ (-18446744073709551616 < i ∧ i < 18446744073709551616) ∨ (-18446744073709551616 < j ∧ j < 18446744073709551616) := Iff.rfl
@[simp] theorem CDiv_small {i j : Int} : CDiv i j ↔ 0 < j ∧ j < 1073741824 := Iff.rfl
@[simp] theorem CPow_small {i j : Int} : CPow i j ↔ 0 ≤ j ∧ j ≤ 1000000 ∧ i.natAbs < 18446744073709551616 := Iff.rfl
theorem rangeD_map (n : Int) : rangeD n = (List.range n.toNat).map fun k : Nat => D.int (k : Int) := rfl
theorem lc_range {step : D → Res (Option D)} {n : Int} {g : Nat → D} (h : ∀ k : Nat, (k : Int) < n → step (.int (k : Int)) = .ok (some (g k))) : lcGo step (rangeD n) = .ok ((List.range n.toNat).map g) :=
  lcGo_map (enc := fun k : Nat => D.int (k : Int)) fun k hk => h k (by rw [List.mem_range] at hk; omega)
theorem atI_nat {α : Type} {xs : List α} {i : Int} (h : 0 ≤ i) : atI xs i = xs[i.toNat]? := by
  unfold atI ixN
  rw [if_pos h]
  by_cases q : i < xs.length
  · rw [if_pos q]
    rfl
  · rw [if_neg q, List.getElem?_eq_none (by omega)]
    rfl
@[simp] theorem atI_cast {α : Type} {xs : List α} {i : Nat} : atI xs (i : Int) = xs[i]? := by
  rw [atI_nat (by omega), Int.toNat_natCast]
@[simp] theorem atI_0 {α : Type} {xs : List α} : atI xs 0 = xs[0]? := atI_nat (by omega)
@[simp] theorem atI_2 {α : Type} {xs : List α} : atI xs 2 = xs[2]? := atI_nat (by omega)
@[simp] theorem atI_3 {α : Type} {xs : List α} : atI xs 3 = xs[3]? := atI_nat (by omega)
@[simp] theorem atI_4 {α : Type} {xs : List α} : atI xs 4 = xs[4]? := atI_nat (by omega)
@[simp] theorem atI_5 {α : Type} {xs : List α} : atI xs 5 = xs[5]? := atI_nat (by omega)
@[simp] theorem atI_6 {α : Type} {xs : List α} : atI xs 6 = xs[6]? := atI_nat (by omega)
@[simp] theorem atI_7 {α : Type} {xs : List α} : atI xs 7 = xs[7]? := atI_nat (by omega)
@[simp] theorem atI_8 {α : Type} {xs : List α} : atI xs 8 = xs[8]? := atI_nat (by omega)
@[simp] theorem atI_1 {α : Type} {xs : List α} : atI xs 1 = xs[1]? := atI_nat (by omega)
theorem atI_last {α : Type} {xs : List α} {x : α} : atI (xs ++ [x]) (-1) = some x := by
  unfold atI ixN
  rw [if_neg (by omega), if_pos (by rw [List.length_append, List.length_singleton]; omega)]
  have e : ((-1 : Int) + ((xs ++ [x]).length : Nat)).toNat = xs.length := by
    rw [List.length_append, List.length_singleton]
    omega
  rw [e]
  simp
section
variable (n : Nat) (i j : Int) (x y : Str) (p q : Bool) (xs ys : List D) (d : D) (o o2 : Ow) (b1 b2 neg : Bool)
@[simp] theorem eqv_ss : D.eqv n (.str x) (.str y) = decide (x = y) := by cases n <;> rfl
@[simp] theorem eqv_ii : D.eqv n (.int i) (.int j) = decide (i = j) := by cases n <;> rfl
@[simp] theorem eqv_bb : D.eqv n (.bl p) (.bl q) = (p == q) := by cases n <;> rfl
@[simp] theorem eqv_nn : D.eqv n .non .non = true := by cases n <;> rfl
@[simp] theorem eqv_tt : D.eqv (n + 1) (.tup xs) (.tup ys) = eqvL (D.eqv n) xs ys := rfl
@[simp] theorem eqv_ll : D.eqv (n + 1) (.lst xs) (.lst ys) = eqvL (D.eqv n) xs ys := rfl
@[simp] theorem eqvL_nil (f : D → D → Bool) : eqvL f [] [] = true := rfl
@[simp] theorem eqvL_cons (f : D → D → Bool) (d e : D) : eqvL f (d :: xs) (e :: ys) = (f d e && eqvL f xs ys) := rfl
@[simp] theorem flat_s : D.flat (.str x) = true := rfl
@[simp] theorem flat_i : D.flat (.int i) = true := rfl
@[simp] theorem flat_b : D.flat (.bl p) = true := rfl
@[simp] theorem flat_n : D.flat .non = true := rfl
@[simp] theorem flat_t : D.flat (.tup xs) = false := rfl
@[simp] theorem fine_i : D.fine n (.int i) = true := by cases n <;> rfl
@[simp] theorem fine_b : D.fine n (.bl p) = true := by cases n <;> rfl
@[simp] theorem fine_n : D.fine n .non = true := by cases n <;> rfl
@[simp] theorem fine_s : D.fine n (.str x) = PyData.strOk x := by cases n <;> rfl
@[simp] theorem fine_t : D.fine (n + 1) (.tup xs) = xs.all (D.fine n) := rfl
@[simp] theorem fine_l : D.fine (n + 1) (.lst xs) = xs.all (D.fine n) := rfl
@[simp] theorem p_InST : pIn neg ⟨o, b1, .str x⟩ ⟨o2, b2, .tup xs⟩ = if xs.all D.flat = true then .ok (.sh (.bl (if neg then !xs.any fun y => D.eqv 0 y (.str x) else xs.any fun y => D.eqv 0 y (.str x)))) else .bad := by
  unfold pIn
  simp
@[simp] theorem p_EqTT : pEq ⟨o, b1, .tup xs⟩ ⟨o2, b2, .tup ys⟩ = if (D.fine 6 (.tup xs) && D.fine 6 (.tup ys)) = true then .ok (.sh (.bl (D.eqv 6 (.tup xs) (.tup ys)))) else .bad := rfl
@[simp] theorem p_EqLL : pEq ⟨o, b1, .lst xs⟩ ⟨o2, b2, .lst ys⟩ = if (D.fine 6 (.lst xs) && D.fine 6 (.lst ys)) = true then .ok (.sh (.bl (D.eqv 6 (.lst xs) (.lst ys)))) else .bad := rfl
@[simp] theorem p_NeTT : pNe ⟨o, b1, .tup xs⟩ ⟨o2, b2, .tup ys⟩ = if (D.fine 6 (.tup xs) && D.fine 6 (.tup ys)) = true then .ok (.sh (.bl (!D.eqv 6 (.tup xs) (.tup ys)))) else .bad := rfl
@[simp] theorem p_NeLL : pNe ⟨o, b1, .lst xs⟩ ⟨o2, b2, .lst ys⟩ = if (D.fine 6 (.lst xs) && D.fine 6 (.lst ys)) = true then .ok (.sh (.bl (!D.eqv 6 (.lst xs) (.lst ys)))) else .bad := rfl
end
end Bk
set_option Elab.async false
set_option linter.all false
set_option maxRecDepth 100000
set_option maxHeartbeats 4000000
/-! BkW: count, index of a list of truth values; a caught error, told to a def. -/
namespace Bk
open PySem L2 PySem.Spec PyProof.Rows
theorem vals_bl : ∀ {bs : List Bool} {its : List Value}, Vals (bs.map V.bl) its → its = bs.map Value.bool
  | [], its, h => by
    cases h
    rfl
  | b :: bs, its, h => by
    cases h with
    | cons r rr =>
      rw [List.map_cons, vals_bl rr]
      cases (show _ = Value.bool b from r)
      rfl
def isTr (v : Value) : Bool := match v with
  | .bool b => b
  | _ => false
theorem eq_tr {A : Around} {s : Shared} {bs : List Bool} : ∀ y, y ∈ (bs.map Value.bool).toArray → PySem.SeqAt.EqAt A s y (.bool true) (isTr y) := by
  intro y hy
  rw [List.mem_toArray, List.mem_map] at hy
  obtain ⟨b, _, rfl⟩ := hy
  have h := PySem.SeqAt.EqAt.bool_bool (A := A) (s := s) b true
  have e : (b == true) = isTr (.bool b) := by cases b <;> rfl
  rw [e] at h
  exact h
def tCnt (to : TE) : TE := fun sg H Q => to sg H fun x H1 => ∃ (l : Addr) (bs : List Bool), x = .ref l ∧ H1 l = some (.lst (bs.map V.bl)) ∧ Q (.int (bs.count true : Nat)) H1
def tIdx (to : TE) : TE := fun sg H Q => to sg H fun x H1 => ∃ (l : Addr) (bs : List Bool), x = .ref l ∧ H1 l = some (.lst (bs.map V.bl)) ∧ true ∈ bs ∧ Q (.int (bs.idxOf true : Nat)) H1
section
variable {X : Cx} {o : Expr} {to : TE} {apos cpos p2 : Pos} {j : Nat}
theorem lstIs {pins : List (Addr × Obj)} {sg : L2.St} {H : Hp} {s : Shared} {l : Addr} {xs : List V} (I : Inv X pins sg H s) (h : H l = some (.lst xs)) : s.TypeIs (.ref l) "list" ∧ (∀ b, Value.ref l = .ref b → ∃ ob, s.heap.get? b = some ob ∧ ob.dict = none) := by
  obtain ⟨z, its, n, r, hl, e0⟩ := I.lstM h
  exact ⟨⟨_, e0, rfl⟩, fun b q => by cases q; exact ⟨_, e0, rfl⟩⟩
theorem count_tr {bs : List Bool} : (bs.map Value.bool).countP isTr = bs.count true := by
  induction bs with
  | nil => rfl
  | cons b bs ih =>
    rw [List.map_cons, List.countP_cons, List.count_cons, ih]
    cases b <;> rfl
theorem pe_cnt (ho : PE X o to) (hbase : attributeBase o "count" X.env (eval o X.env) = eval o X.env := by rfl)
    (hfew : ((backTo cpos (starEach [.Constant (.bool true) j p2] X.env)).all (fun x => !x.1) && (backToKw cpos (keywordEach [] X.env)).all (fun x => x.1.isSome)
      && decide (([.Constant (.bool true) j p2] : List Expr).length + ([] : List Keyword).length + (if ([] : List Keyword).isEmpty then 0 else 1) < 30)) = true := by rfl)
    (hline : (apos.endLine == cpos.line) = true := by rfl) (hs : starEach [.Constant (.bool true) j p2] X.env = (false, eval (.Constant (.bool true) j p2) X.env) :: starEach [] X.env := by rfl) (hplain : (backTo cpos (starEach [] X.env)).any (·.1) = false := by rfl) :
    PE X (.Call (.Attribute o "count" apos) [.Constant (.bool true) j p2] [] cpos) (tCnt to) := by
  refine ⟨fun pins s σ H Q I h => ?_⟩
  refine wpAny_Call_method hbase hfew hline PySem.F.plainAttrs_list PySem.F.slot_list_count PySem.F.type_list_count (thn (ho.run pins s σ H _ I h) fun v s1 ⟨x, H1, I1, r1, l, bs, ex, hH, q1⟩ => ?_)
  subst ex
  cases (show v = Value.ref l from r1)
  obtain ⟨t1, t2⟩ := lstIs I1 hH
  refine ⟨t1, t2, ?_⟩
  rw [hs]
  refine Calls.callWith_builtin (by show (false || (backTo cpos (starEach [] X.env)).any (·.1)) = false; rw [hplain] <;> rfl) (Calls.evalArgs_plain ?_)
  show wpAny _ _ (spliced ((false, eval (.Constant (.bool true) j p2) X.env) :: backTo cpos (starEach [] X.env))) _ _ s1
  refine Calls.spliced_cons (thn (pe_bl.run pins s1 σ H1 (fun y H2 => y = .bl true ∧ H2 = H1) I1 ⟨rfl, rfl⟩) fun u s2 ⟨y, H2, I2, ry, ey, eh⟩ => ?_)
  refine Calls.spliced_nil ?_
  subst ey eh
  cases (show u = Value.bool true from ry)
  obtain ⟨z, its, n, r, hl, e0⟩ := I2.lstM hH
  have ei := vals_bl r
  subst ei
  refine call_meets PySem.F.slot_list_count ⟨_, e0, rfl⟩ PySem.F.entry_list_count (PySem.F.args_list_count_2 _ _) (PySem.SeqAt.list_countAt l _ n _ _ (.bool true) isTr) ⟨e0, eq_tr, ?_⟩
  refine ⟨.int (bs.count true : Nat), H2, I2.tok _, ⟨s2.toks, ?_⟩, q1⟩
  rw [List.toList_toArray, count_tr]
theorem pe_idx (ho : PE X o to) (hbase : attributeBase o "index" X.env (eval o X.env) = eval o X.env := by rfl)
    (hfew : ((backTo cpos (starEach [.Constant (.bool true) j p2] X.env)).all (fun x => !x.1) && (backToKw cpos (keywordEach [] X.env)).all (fun x => x.1.isSome)
      && decide (([.Constant (.bool true) j p2] : List Expr).length + ([] : List Keyword).length + (if ([] : List Keyword).isEmpty then 0 else 1) < 30)) = true := by rfl)
    (hline : (apos.endLine == cpos.line) = true := by rfl) (hs : starEach [.Constant (.bool true) j p2] X.env = (false, eval (.Constant (.bool true) j p2) X.env) :: starEach [] X.env := by rfl) (hplain : (backTo cpos (starEach [] X.env)).any (·.1) = false := by rfl) :
    PE X (.Call (.Attribute o "index" apos) [.Constant (.bool true) j p2] [] cpos) (tIdx to) := by
  refine ⟨fun pins s σ H Q I h => ?_⟩
  refine wpAny_Call_method hbase hfew hline PySem.F.plainAttrs_list PySem.F.slot_list_index PySem.F.type_list_index (thn (ho.run pins s σ H _ I h) fun v s1 ⟨x, H1, I1, r1, l, bs, ex, hH, hm, q1⟩ => ?_)
  subst ex
  cases (show v = Value.ref l from r1)
  obtain ⟨t1, t2⟩ := lstIs I1 hH
  refine ⟨t1, t2, ?_⟩
  rw [hs]
  refine Calls.callWith_builtin (by show (false || (backTo cpos (starEach [] X.env)).any (·.1)) = false; rw [hplain] <;> rfl) (Calls.evalArgs_plain ?_)
  show wpAny _ _ (spliced ((false, eval (.Constant (.bool true) j p2) X.env) :: backTo cpos (starEach [] X.env))) _ _ s1
  refine Calls.spliced_cons (thn (pe_bl.run pins s1 σ H1 (fun y H2 => y = .bl true ∧ H2 = H1) I1 ⟨rfl, rfl⟩) fun u s2 ⟨y, H2, I2, ry, ey, eh⟩ => ?_)
  refine Calls.spliced_nil ?_
  subst ey eh
  cases (show u = Value.bool true from ry)
  obtain ⟨z, its, n, r, hl, e0⟩ := I2.lstM hH
  have ei := vals_bl r
  subst ei
  have hj : bs.idxOf true < bs.length := List.idxOf_lt_length_of_mem hm
  have hz : bs.length ≤ sizeLine := by rw [List.length_map] at z; exact z
  refine call_meets PySem.F.slot_list_index ⟨_, e0, rfl⟩ PySem.F.entry_list_index (PySem.F.args_list_index_2 _ _) (PySem.SeqAt.list_indexAt l _ n _ _ (.bool true) isTr (bs.idxOf true) (by simpa using hj) (by rw [sizeLine_eq] at hz; omega) ?_ ?_) ⟨e0, eq_tr, ?_⟩
  · simp [isTr]
  · intro m hm2 hlt
    have hm3 : m < bs.length := by simpa using hm2
    have hq := List.not_of_lt_findIdx (p := (· == true)) (xs := bs) hlt
    have e : (bs.map Value.bool).toArray[m] = .bool bs[m] := by simp
    rw [e]
    cases z : bs[m] with
    | false => rfl
    | true =>
      rw [z] at hq
      exact absurd hq (by decide)
  · exact ⟨.int (bs.idxOf true : Nat), H2, I2.tok _, ⟨s2.toks, rfl⟩, q1⟩
end

def xCnt (f : XE) : XE := fun env => (f env).bind fun a => match a.d with
  | .lst xs => match D.bls xs with
    | some bs => .ok (.sh (.int (bs.count true : Nat)))
    | none => .bad
  | _ => .bad
def xIdx (f : XE) : XE := fun env => (f env).bind fun a => match a.d with
  | .lst xs => match D.bls xs with
    | some bs => if true ∈ bs then .ok (.sh (.int (bs.idxOf true : Nat))) else .bad
    | none => .bad
  | _ => .bad
section
variable {J : Jx} {o : Expr} {f : XE} {apos cpos p2 : Pos} {j : Nat}
theorem bls_at {c : Ct} {H : Hp} {u : V} {xs : List D} {bs : List Bool} (h : Rep c H u (.lst xs)) (hb : D.bls xs = some bs) : ∃ l, u = .ref l ∧ H l = some (.lst (bs.map V.bl)) := by
  cases h with
  | lst ha hr => exact ⟨_, rfl, by rw [ha, bls_reps hr hb]⟩
theorem se_cnt (he : SE J o f) (hbase : attributeBase o "count" J.X.env (eval o J.X.env) = eval o J.X.env := by rfl)
    (hfew : ((backTo cpos (starEach [.Constant (.bool true) j p2] J.X.env)).all (fun x => !x.1) && (backToKw cpos (keywordEach [] J.X.env)).all (fun x => x.1.isSome)
      && decide (([.Constant (.bool true) j p2] : List Expr).length + ([] : List Keyword).length + (if ([] : List Keyword).isEmpty then 0 else 1) < 30)) = true := by rfl)
    (hline : (apos.endLine == cpos.line) = true := by rfl) (hs : starEach [.Constant (.bool true) j p2] J.X.env = (false, eval (.Constant (.bool true) j p2) J.X.env) :: starEach [] J.X.env := by rfl) (hplain : (backTo cpos (starEach [] J.X.env)).any (·.1) = false := by rfl) :
    SE J (.Call (.Attribute o "count" apos) [.Constant (.bool true) j p2] [] cpos) (xCnt f) :=
  (pe_cnt he hbase hfew hline hs hplain).imp fun sg H Q ⟨F, env, si, hq⟩ => ⟨F, env, si, (aft_bind hq).mono fun u H1 ⟨F1, va, w1, r1, hq1⟩ => by
    have rr := r1.rep w1.fh
    obtain ⟨oa, ba, da⟩ := va
    cases da with
    | lst xs =>
      replace hq1 : Aft J.c J.W sg F1 H1 Q (match D.bls xs with
        | some bs => .ok (.sh (.int (bs.count true : Nat)))
        | none => .bad) := hq1
      cases hb : D.bls xs with
      | none => rw [hb] at hq1; exact (show False from hq1).elim
      | some bs =>
        rw [hb] at hq1
        obtain ⟨l, e1, e2⟩ := bls_at rr hb
        exact ⟨l, bs, e1, e2, Aft.now w1.fh .int hq1⟩
    | _ => exact (show False from hq1).elim⟩
theorem se_idx (he : SE J o f) (hbase : attributeBase o "index" J.X.env (eval o J.X.env) = eval o J.X.env := by rfl)
    (hfew : ((backTo cpos (starEach [.Constant (.bool true) j p2] J.X.env)).all (fun x => !x.1) && (backToKw cpos (keywordEach [] J.X.env)).all (fun x => x.1.isSome)
      && decide (([.Constant (.bool true) j p2] : List Expr).length + ([] : List Keyword).length + (if ([] : List Keyword).isEmpty then 0 else 1) < 30)) = true := by rfl)
    (hline : (apos.endLine == cpos.line) = true := by rfl) (hs : starEach [.Constant (.bool true) j p2] J.X.env = (false, eval (.Constant (.bool true) j p2) J.X.env) :: starEach [] J.X.env := by rfl) (hplain : (backTo cpos (starEach [] J.X.env)).any (·.1) = false := by rfl) :
    SE J (.Call (.Attribute o "index" apos) [.Constant (.bool true) j p2] [] cpos) (xIdx f) :=
  (pe_idx he hbase hfew hline hs hplain).imp fun sg H Q ⟨F, env, si, hq⟩ => ⟨F, env, si, (aft_bind hq).mono fun u H1 ⟨F1, va, w1, r1, hq1⟩ => by
    have rr := r1.rep w1.fh
    obtain ⟨oa, ba, da⟩ := va
    cases da with
    | lst xs =>
      replace hq1 : Aft J.c J.W sg F1 H1 Q (match D.bls xs with
        | some bs => if true ∈ bs then .ok (.sh (.int (bs.idxOf true : Nat))) else .bad
        | none => .bad) := hq1
      cases hb : D.bls xs with
      | none => rw [hb] at hq1; exact (show False from hq1).elim
      | some bs =>
        rw [hb] at hq1
        replace hq1 : Aft J.c J.W sg F1 H1 Q (if true ∈ bs then .ok (.sh (.int (bs.idxOf true : Nat))) else .bad) := hq1
        by_cases hm : true ∈ bs
        · rw [if_pos hm] at hq1
          obtain ⟨l, e1, e2⟩ := bls_at rr hb
          exact ⟨l, bs, e1, e2, hm, Aft.now w1.fh .int hq1⟩
        · rw [if_neg hm] at hq1
          exact (show False from hq1).elim
    | _ => exact (show False from hq1).elim⟩
/-! ### isinstance(e, X), e a caught error -/
/-- what is known of the classes: isinstance(x, m-th class) of an error of the k-th class; isinstance(x, ValueError) -/
structure ExcIsOk (K : PySem.W.Frag) (c : Ct) (n : Nat) : Prop where
  C : ∀ k, k < n → ExcC K (c.ea k)
  one : ∀ k m, k < n → m < n → PySem.W.kitOne K (.ref (c.ea k)) (.ref (c.ea m)) = some (k == m)
  val : ∀ k, k < n → PySem.W.kitOne K (.ref (c.ea k)) (.type "ValueError") = some true
/-- the pinned error -/
def PxOk (X : Cx) (c : Ct) (n : Nat) : Prop := ∀ a k, c.px a k → k < n ∧ ∃ oe, (a, oe) ∈ X.pn ∧ Zc (.ref (c.ea k)) none oe ∧ ∃ vs, oe.data = .fields vs
theorem call_isP {X : Cx} {a D : Addr} {oe : Obj} (C : ExcC X.K D) (hp : (a, oe) ∈ X.pn) (hz : Zc (.ref D) none oe) (hf : ∃ vs, oe.data = .fields vs) : CallR X (.builtin "isinstance") (rIsE X.K D a) := by
  intro pins s σ H xs us Q I r h
  obtain ⟨c, cv, b, rfl, hcv, e, q⟩ := h
  cases r with
  | cons rx rr =>
    cases rr with
    | cons rt rr =>
      cases rr
      cases rx
      have ec := hcv _ rt
      subst ec
      obtain ⟨hget, _⟩ := I.pin (a, oe) (List.mem_append.mpr (.inl hp))
      obtain ⟨vs, hv⟩ := hf
      have J : PySem.W.InstAt s.heap a oe D none := by
        obtain ⟨oc, od, oda, osl⟩ := oe
        obtain ⟨h1, h2⟩ := hz
        dsimp only at h1 h2 hv
        subst h1 h2 hv
        exact ⟨hget, rfl, rfl, trivial⟩
      exact PySem.W.kia_one (PySem.W.handS_kitx_exc C.hg C.hk C.hs C.hd C.ha C.hn C.ht C.hm) I.kIn J e (fun z => nomatch z) fun tk => ⟨.bl b, H, I.kept (t' := tk) fun _ _ z => z, rfl, q⟩
def xIsE (m : Nat) (f : XE) : XE := fun env => (f env).bind fun a => match a.d with
  | .exn k => .ok (.sh (.bl (k == m)))
  | _ => .bad
def xIsVE (f : XE) : XE := fun env => (f env).bind fun a => match a.d with
  | .exn _ => .ok (.sh (.bl true))
  | _ => .bad
def rIsX (K : PySem.W.Frag) (c : Ct) : List V → Hp → VK → Prop := fun xs H Q => ∃ a k, c.px a k ∧ rIsE K (c.ea k) a xs H Q
theorem call_isX {X : Cx} {c : Ct} {n : Nat} (T : ExcIsOk X.K c n) (hp : PxOk X c n) : CallR X (.builtin "isinstance") (rIsX X.K c) := by
  intro pins s σ H xs us Q I r h
  obtain ⟨a, k, hpx, h⟩ := h
  obtain ⟨hk, oe, h1, h2, h3⟩ := hp a k hpx
  exact call_isP (T.C k hk) h1 h2 h3 pins s σ H xs us Q I r h
variable {e : Expr} {x : Str} {p pos : Pos}
theorem se_isE {m n : Nat} (T : ExcIsOk J.X.K J.c n) (hp : PxOk J.X J.c n) (hmn : m < n) (hm : J.X.mg "isinstance" = none) (hm2 : J.X.mg x = some (.ref (J.c.ea m))) (he : SE J e f) (hx : Gl J.X "isinstance") (hx2 : Gl J.X x) (hdb : (x == ("__debug__" : Str)) = false := by decide)
    (hs : starEach (e :: [.Name x p2]) J.X.env = (false, eval e J.X.env) :: starEach [.Name x p2] J.X.env := by rfl) (hs2 : starEach [.Name x p2] J.X.env = (false, eval (.Name x p2) J.X.env) :: starEach [] J.X.env := by rfl)
    (hpl : (backTo pos (starEach [.Name x p2] J.X.env)).any (·.1) = false := by rfl) : SE J (.Call (.Name "isinstance" p) [e, .Name x p2] [] pos) (xIsE m f) :=
  (pe_callB (call_isX T hp) hx hm (by decide +kernel) (pa_cons he (pa_cons (pe_glob (v := .ref (J.c.ea m)) hx2 hm2 rfl hdb) pa_nil hs2) hs) (by decide) (by decide) hs hpl).imp fun sg H Q ⟨F, env, si, hq⟩ => ⟨F, env, si, (aft_bind hq).mono fun u H1 ⟨F1, va, w1, r1, hq1⟩ => by
    have rr := r1.rep w1.fh
    obtain ⟨oa, ba, da⟩ := va
    cases da with
    | exn k =>
      replace hq1 : Aft J.c J.W sg F1 H1 Q (.ok (.sh (.bl (k == m)))) := hq1
      cases rr with
      | exn h => exact ⟨_, k, h, .ref (J.c.ea m), .ref (J.c.ea m), (k == m), rfl, fun u hu => hu, T.one k m (hp _ _ h).1 hmn, Aft.now w1.fh .bl hq1⟩
    | _ => exact (show False from hq1).elim⟩
theorem se_isVE {n : Nat} (T : ExcIsOk J.X.K J.c n) (hp : PxOk J.X J.c n) (hm : J.X.mg "isinstance" = none) (hm2 : J.X.mg "ValueError" = none) (he : SE J e f) (hx : Gl J.X "isinstance") (hx2 : Gl J.X "ValueError")
    (hs : starEach (e :: [.Name "ValueError" p2]) J.X.env = (false, eval e J.X.env) :: starEach [.Name "ValueError" p2] J.X.env := by rfl) (hs2 : starEach [.Name "ValueError" p2] J.X.env = (false, eval (.Name "ValueError" p2) J.X.env) :: starEach [] J.X.env := by rfl)
    (hpl : (backTo pos (starEach [.Name "ValueError" p2] J.X.env)).any (·.1) = false := by rfl) : SE J (.Call (.Name "isinstance" p) [e, .Name "ValueError" p2] [] pos) (xIsVE f) :=
  (pe_callB (call_isX T hp) hx hm (by decide +kernel) (pa_cons he (pa_cons (pe_bltn (v := .ty "ValueError") hx2 hm2 (by decide +kernel) rfl (by decide) (by decide)) pa_nil hs2) hs) (by decide) (by decide) hs hpl).imp fun sg H Q ⟨F, env, si, hq⟩ => ⟨F, env, si, (aft_bind hq).mono fun u H1 ⟨F1, va, w1, r1, hq1⟩ => by
    have rr := r1.rep w1.fh
    obtain ⟨oa, ba, da⟩ := va
    cases da with
    | exn k =>
      replace hq1 : Aft J.c J.W sg F1 H1 Q (.ok (.sh (.bl true))) := hq1
      cases rr with
      | exn h => exact ⟨_, k, h, .ty "ValueError", .type "ValueError", true, rfl, fun u hu => hu, T.val k (hp _ _ h).1, Aft.now w1.fh .bl hq1⟩
    | _ => exact (show False from hq1).elim⟩
end
/-! ### a def that is told a caught error -/
structure FnX (P : Program) (w : World) (K : PySem.W.Frag) (mg : Str → Option Value) (base : Heap) (c : Ct) (n k : Nat) (f : Addr) (fd : FuncData) (ps : List Str) (F : XF) : Prop where
  run : ∀ (A : Around) (outer : List Env) (s : Shared) (H : Hp) (args : Args) (Q : VK) (p : Addr × Obj) (m : Nat) (z : Str), L2H.RoomH k A → L2H.PinOk outer H s p → m < n → Zc (.ref (c.ea m)) none p.2 → (∃ vs, p.2.data = .fields vs) →
    Env0 P w K mg base A outer s H → BindsTo s fd args (ps.zip [.ref p.1]) → F [.exn m] = .ok (.sh (.str z)) → (∀ H', Ex H H' → Q (.str z) H') →
    codeAny (model P w) A (.call (.ref f) args) (CR (L2.CX P w) outer P w H s Q (fun _ _ _ => False)) s
abbrev ctX (c : Ct) (a : Addr) (m : Nat) : Ct := { c with px := fun b j => b = a ∧ j = m }
abbrev jX (P : Program) (w : World) (K : PySem.W.Frag) (mg : Str → Option Value) (base : Heap) (c : Ct) (N : List Str) (qual : Str) (sc : Scope) (f : Addr) (cdv : Value) (A : Around) (outer : List Env) (s : Shared) (H : Hp) (p : Addr × Obj) (m : Nat) : Jx :=
  ⟨L2H.cxH (L2.CX P w) P w K mg base N qual sc f cdv A outer s H (fun _ _ _ => False) p, ctX c p.1 m, WF, fun _ => none, H⟩
theorem pxOk_of {P : Program} {w : World} {K : PySem.W.Frag} {mg : Str → Option Value} {base : Heap} {c : Ct} {N : List Str} {qual : Str} {sc : Scope} {f : Addr} {cdv : Value} {A : Around} {outer : List Env} {s : Shared} {H : Hp} {p : Addr × Obj} {m n : Nat}
    (h1 : m < n) (h2 : Zc (.ref (c.ea m)) none p.2) (h3 : ∃ vs, p.2.data = .fields vs) : PxOk (jX P w K mg base c N qual sc f cdv A outer s H p m).X (jX P w K mg base c N qual sc f cdv A outer s H p m).c n := by
  rintro a j ⟨rfl, rfl⟩
  exact ⟨h1, p.2, List.mem_singleton.mpr rfl, h2, h3⟩
theorem fnX_ok {P : Program} {w : World} {K : PySem.W.Frag} {mg : Str → Option Value} {base : Heap} {c : Ct} {x qual : Str} {st : Stmt} {f : Addr} {fd : FuncData} {N ps : List Str} {k n : Nat} {body : XS} (Fn : Fun K x qual st f fd) (S : FnScope N ps (defScope st)) (hp : ps.length ≤ N.length) (h1 : ps.length = 1)
    (hb : ∀ (cdv : Value) (A : Around) (outer : List Env) (s : Shared) (H : Hp) (p : Addr × Obj) (m : Nat), L2H.RoomH k (A.deeper (envOfC qual (defScope st) s.heap.objs.size f cdv)) → m < n → Zc (.ref (c.ea m)) none p.2 → (∃ vs, p.2.data = .fields vs) →
      SSs (jX P w K mg base c N qual (defScope st) f cdv A outer s H p m) (defBody st) body) :
    FnX P w K mg base c n (k + 1) f fd ps (xFun ps.length N.length body) := by
  obtain ⟨oc, od, kV, doc, pm, an, cdv, ct, osl, rfl, lk, hcd⟩ := Fn.ex
  refine ⟨fun A outer s H args Q p m z hr hpin hm hz hf e0 hbt hF hQ => ?_⟩
  have KX : K.In s.heap := e0.mod.kin.keeps fun b o e => (e0.bs b o e).1
  have lim : s.heap.NoLimit := e0.mod.nolimit.keeps fun b o e => (e0.bs b o e).1
  have hkind : ∀ y ∈ ps.zip [Value.ref p.1], (defScope st).names.lookup y.1 = some .local ∨ ((defScope st).names.lookup y.1 = some .cell ∧ ((cellsFrom (s.heap.objs.size + 1) (defScope st).names []).lookup y.1).isSome = true) := fun ⟨n, v⟩ hy => by
    rcases S.par n (List.of_mem_zip hy).1 with q | q
    · exact .inl q
    · exact .inr ⟨q, PySem.W.cellsFrom_some _ _ _ (.inl q)⟩
  refine codeAny_call_function hr.depth (KX _ _ lk) rfl S.co S.gen rfl (PySem.W.codeRec_of KX hcd) (hbt _ _ _ _ ?_)
  refine wpAny_newFunctionEnv_cells S.kind hkind fun env he s1 x => ?_
  subst he
  refine ⟨lim.keeps x.toInCall.keep, codeAny_func ?_⟩
  have ht := hb cdv A outer s H p m (hr.deeper _) hm hz hf
  have I := L2H.inv_startH (CX := L2.CX P w) (E := fun _ _ _ => False) (vs := [.ref p.1]) S hpin e0 (by rw [h1] <;> rfl) (.cons rfl .nil) x
  have start : tXS (ctX c p.1 m) WF (fun _ => none) H body { nx := fun _ H' => Q .non H', rt := Q } (L2.start N [.ref p.1]) H := by
    refine ⟨fun _ => none, _, si_start (ds := [.exn m]) (ps := ps) (fun a o h => by cases h) (.cons (.exn ⟨rfl, rfl⟩) .nil) (by rw [h1] <;> rfl) hp, ?_⟩
    unfold xFun at hF
    rw [if_pos (by rw [h1] <;> rfl)] at hF
    cases hbo : body (([.exn m] : List D).map (fun d => some (Ow.sh, d)) ++ List.replicate (N.length - ps.length) none) with
    | ret a =>
      rw [hbo] at hF
      replace hF : (if a.b = true then Res.bad else .ok a) = .ok (.sh (.str z)) := hF
      by_cases hbb : a.b = true
      · rw [if_pos hbb] at hF
        cases hF
      · rw [if_neg hbb] at hF
        cases hF
        refine ⟨rfl, fun F' H' u e' w rv => ?_⟩
        cases rv.repF with
        | str => exact hQ H' w.h
    | _ => rw [hbo] at hF; cases hF
  refine wpAny_mono (ht.run [] s1 _ H _ I start) (fun fl s' hs => ?_) fun e s' hs => hs
  have fin : ∀ {σ' : L2.St} {H' : Hp} {v : V} {u : Value}, Inv (L2H.cxH (L2.CX P w) P w K mg base N qual (defScope st) f cdv A outer s H (fun _ _ _ => False) p) [] σ' H' s' → RelV v u → Q v H' → CE outer P w H s Q u s' :=
    fun {σ' H' v u} J rv q => ⟨v, H', J.os, J.bare, J.base, J.hok, rv, q⟩
  cases fl with
  | ret u =>
    obtain ⟨v, σ', H', J, rv, q⟩ := hs
    exact fin J rv q
  | next =>
    obtain ⟨σ', H', J, q⟩ := hs
    exact fin (v := V.non) (u := Value.none) J rfl q
  | brk =>
    obtain ⟨_, _, _, q⟩ := hs
    exact False.elim q
  | cont =>
    obtain ⟨_, _, _, q⟩ := hs
    exact False.elim q
structure GfX (P : Program) (w : World) (K : PySem.W.Frag) (mg : Str → Option Value) (base : Heap) (c : Ct) (n : Nat) (nm : Str) (k : Nat) (ps : List Str) (F : XF) : Prop where
  ex : ∃ f fd, FnX P w K mg base c n k f fd ps F ∧ mg nm = some (.ref f) ∧ PySem.W.keepIn K (.ref f) = true ∧ Binds K fd ps []
  h1 : ps.length = 1
def xCallX (n : Nat) (F : XF) (f : XE) : XE := fun env => (f env).bind fun a => match a.d with
  | .exn m => if m < n then (match F [.exn m] with
    | .ok ⟨.sh, false, .str z⟩ => .ok (.sh (.str z))
    | _ => .bad) else .bad
  | _ => .bad
section
variable {J : Jx} {e : Expr} {f : XE} {x : Str} {q pos : Pos}
theorem se_callX {c0 : Ct} {n k : Nat} {nm : Str} {ps : List Str} {F : XF} (g : GfX J.X.prog J.X.w J.X.K J.X.mg J.X.base c0 n nm k ps F) (hea : J.c.ea = c0.ea) (hp : PxOk J.X J.c n) (hr : L2H.RoomH k J.X.A) (tk : Takes J.X WF) (he : SE J e f) (hx : Gl J.X nm) (hdb : (nm == ("__debug__" : Str)) = false := by decide)
    (hs : starEach [e] J.X.env = (false, eval e J.X.env) :: starEach [] J.X.env := by rfl) (hpl : (backTo pos (starEach [] J.X.env)).any (·.1) = false := by rfl) :
    SE J (.Call (.Name nm q) [e] [] pos) (xCallX n F f) := by
  obtain ⟨fa, fd, G, hm, hk, hb⟩ := g.ex
  have he2 : PE J.X e (tX J.c J.W J.F0 J.H0 f) := he
  refine ⟨fun pins s σ H Q I ⟨F1, env, si, hq⟩ => ?_⟩
  refine wpAny_Call_Name_kw (ld_glob I hx hm ?_ hdb)
  refine PySem.W.callWith_K (h₀ := J.X.base) I.ok.mod.kin hk (thn ((pa_cons he2 pa_nil hs).run pos pins s σ H (fun us H1 => ∃ u F2 va, us = [u] ∧ Wd F1 H F2 H1 ∧ Rv J.c H F2 H1 u va ∧ Aft J.c J.W σ F2 H1 Q (match va.d with
    | .exn m => if m < n then (match F [.exn m] with
      | .ok ⟨.sh, false, .str z⟩ => .ok (.sh (.str z))
      | _ => .bad) else .bad
    | _ => .bad)) I ?_) fun us s1 ⟨vs, H1, I1, r1, u, F2, va, ev, w1, rv, hq1⟩ => ⟨I1.kIn, ?_⟩) hs hpl
  · exact ⟨F1, env, si, (aft_bind hq).mono fun u H1 ⟨F2, va, w1, rv, hq1⟩ => ⟨u, F2, va, rfl, w1, rv, hq1⟩⟩
  · subst ev
    have rr := rv.rep w1.fh
    obtain ⟨oa, ba, da⟩ := va
    cases da with
    | exn m =>
      cases rr with
      | @exn a _ hpx =>
        by_cases hm2 : m < n
        · obtain ⟨_, oe, h1, h2, h3⟩ := hp a m hpx
          rw [hea] at h2
          have P1 := I1.pin (a, oe) (List.mem_append_left _ h1)
          have hpin : L2H.PinOk J.X.stack H1 s1 (a, oe) := ⟨P1.1, P1.2.1, fun hm => (List.mem_cons.mp (I1.stkSub a hm)).elim P1.2.2.1 P1.2.2.2.1, P1.2.2.2.2⟩
          replace hq1 : Aft J.c J.W σ F2 H1 Q (if m < n then (match F [.exn m] with
            | .ok ⟨.sh, false, .str z⟩ => .ok (.sh (.str z))
            | _ => .bad) else .bad) := hq1
          rw [if_pos hm2] at hq1
          cases r1 with
          | cons ru rr2 =>
            cases rr2
            cases (show _ = Value.ref a from ru)
            have hl : [Value.ref a].length = ps.length := by rw [g.h1] <;> rfl
            have b := hb s1 [.ref a] I1.kIn (by rw [List.append_nil]; exact hl)
            rw [List.append_nil] at b
            have go : ∀ z, F [.exn m] = .ok (.sh (.str z)) → Aft J.c J.W σ F2 H1 Q (.ok (.sh (.str z))) → wpAny (model J.X.prog J.X.w) J.X.A (call (.ref fa) [.ref a]) (EP J.X pins σ Q) J.X.xe s1 := by
              intro z hz hq2
              refine wpAny_call (codeAny_mono (G.run J.X.A J.X.stack s1 H1 ⟨[.ref a], []⟩ Q (a, oe) m z hr hpin hm2 h2 h3 I1.env0 b hz (fun H' e => ?_)) fun r s' hq => ?_)
              · have e1 : Ex F2 H1 := w1.fh
                exact hq2 F2 H' (.str z) ⟨Evl.Ex.refl F2, e1.trans e, e, fun a n1 n2 => absurd n1 n2⟩ (Rv.sh .str)
              · cases r with
                | error er => exact passAt tk σ pins H1 s1 er s' I1 hq
                | ok fl =>
                  cases fl with
                  | ret u => exact I1.after hq
                  | next => exact False.elim hq
                  | brk => exact False.elim hq
                  | cont => exact False.elim hq
            cases hF : F [.exn m] with
            | ok r =>
              obtain ⟨ro, rb, rd⟩ := r
              rw [hF] at hq1
              cases ro with
              | sh =>
                cases rb with
                | false =>
                  cases rd with
                  | str z => exact go z hF hq1
                  | _ => exact (show False from hq1).elim
                | true => exact (show False from hq1).elim
              | _ => exact (show False from hq1).elim
            | exc k => rw [hF] at hq1; exact (show False from hq1).elim
            | bad => rw [hF] at hq1; exact (show False from hq1).elim
        · replace hq1 : Aft J.c J.W σ F2 H1 Q (if m < n then (match F [.exn m] with
            | .ok ⟨.sh, false, .str z⟩ => .ok (.sh (.str z))
            | _ => .bad) else .bad) := hq1
          rw [if_neg hm2] at hq1
          exact (show False from hq1).elim
    | _ => exact (show False from hq1).elim
end
/-! ### try .. except X as n: return .. -/
mutual
theorem Rep.px {c c' : Ct} {F : Hp} (hK : c'.K = c.K) (hC : c'.C = c.C) (h : ∀ a k, c.px a k → c'.px a k) : ∀ {v : V} {d : D}, Rep c F v d → Rep c' F v d
  | _, _, .non => .non
  | _, _, .bl => .bl
  | _, _, .int => .int
  | _, _, .str => .str
  | _, _, .lst e r => .lst e (Reps.px hK hC h r)
  | _, _, .fz e r => .fz (by rw [hK]; exact e) (Reps.px hK hC h r)
  | _, _, .tup e r => .tup e (Reps.px hK hC h r)
  | _, _, .obj e r l => .obj (by rw [hC]; exact e) (Reps.px hK hC h r) l
  | _, _, .dic e k r => .dic e k (Reps.px hK hC h r)
  | _, _, .exn e => .exn (h _ _ e)
theorem Reps.px {c c' : Ct} {F : Hp} (hK : c'.K = c.K) (hC : c'.C = c.C) (h : ∀ a k, c.px a k → c'.px a k) : ∀ {vs : List V} {ds : List D}, Reps c F vs ds → Reps c' F vs ds
  | _, _, .nil => .nil
  | _, _, .cons e r => .cons (Rep.px hK hC h e) (Reps.px hK hC h r)
end
theorem Own.px {c c' : Ct} {F H : Hp} (hK : c'.K = c.K) (hC : c'.C = c.C) (hx : ∀ a k, c.px a k → c'.px a k) (hi2 : ∀ a, c.ix a → c'.ix a) : ∀ {o : Ow} {v : V} {d : D} {S : Addr → Prop}, Own c F H o v d S → Own c' F H o v d S
  | .sh, _, _, _, h => Rep.px hK hC hx h
  | .li e, v, d, S, h => by
    obtain ⟨a, vs, xs, e1, e2, sa, ha, hl, T, t1, t2, t3⟩ := h
    exact ⟨a, vs, xs, e1, e2, sa, ha, hl, T, t1, t2, fun k u x hu hx2 => Own.px hK hC hx hi2 (t3 k u x hu hx2)⟩
  | .tu e, v, d, S, h => by
    obtain ⟨a, vs, xs, e1, e2, ha, hl, fa, sa, T, t1, t2, t3⟩ := h
    exact ⟨a, vs, xs, e1, e2, ha, hl, fa, sa, T, t1, t2, fun k u x hu hx2 => Own.px hK hC hx hi2 (t3 k u x hu hx2)⟩
  | .di, v, d, S, h => by
    obtain ⟨a, kvs, ks, xs, e1, e2, sa, ha, hk, r⟩ := h
    exact ⟨a, kvs, ks, xs, e1, e2, sa, ha, hk, Reps.px hK hC hx r⟩
  | .io, v, d, S, h => by
    obtain ⟨a, vs, xs, e1, e2, sa, hi, ha, r⟩ := h
    exact ⟨a, vs, xs, e1, e2, sa, hi2 a hi, ha, Reps.px hK hC hx r⟩
theorem Si.px {c c' : Ct} {F0 H0 F H : Hp} {sg : L2.St} {env : XEnv} (hK : c'.K = c.K) (hC : c'.C = c.C) (hx : ∀ a k, c.px a k → c'.px a k) (hi2 : ∀ a, c.ix a → c'.ix a) (s : Si c F0 H0 F H sg env) : Si c' F0 H0 F H sg env := by
  obtain ⟨S, s1, s2, s3⟩ := s.own
  exact ⟨s.wd, s.len, S, s1, s2, fun i o d e => by
    obtain ⟨v, h1, h2⟩ := s3 i o d e
    exact ⟨v, h1, Own.px hK hC hx hi2 h2⟩⟩
def Ow.isSh : Ow → Bool
  | .sh => true
  | _ => false
/-- no caught error within -/
def D.noX : Nat → D → Bool
  | _, .non => true
  | _, .bl _ => true
  | _, .int _ => true
  | _, .str _ => true
  | n + 1, .lst xs => xs.all (D.noX n)
  | n + 1, .tup xs => xs.all (D.noX n)
  | _, _ => false
mutual
theorem Rep.noX {c c' : Ct} {F : Hp} : ∀ (n : Nat) {v : V} {d : D}, d.noX n = true → Rep c' F v d → Rep c F v d
  | _, _, _, _, .non => .non
  | _, _, _, _, .bl => .bl
  | _, _, _, _, .int => .int
  | _, _, _, _, .str => .str
  | 0, _, _, h, .lst _ _ => nomatch h
  | n + 1, _, _, h, .lst a r => .lst a (Reps.noX n h r)
  | 0, _, _, h, .tup _ _ => nomatch h
  | n + 1, _, _, h, .tup a r => .tup a (Reps.noX n h r)
  | 0, _, _, h, .fz _ _ => nomatch h
  | _ + 1, _, _, h, .fz _ _ => nomatch h
  | 0, _, _, h, .obj _ _ _ => nomatch h
  | _ + 1, _, _, h, .obj _ _ _ => nomatch h
  | 0, _, _, h, .dic _ _ _ => nomatch h
  | _ + 1, _, _, h, .dic _ _ _ => nomatch h
  | 0, _, _, h, .exn _ => nomatch h
  | _ + 1, _, _, h, .exn _ => nomatch h
theorem Reps.noX {c c' : Ct} {F : Hp} : ∀ (n : Nat) {vs : List V} {ds : List D}, ds.all (D.noX n) = true → Reps c' F vs ds → Reps c F vs ds
  | _, _, _, _, .nil => .nil
  | n, _, _, h, .cons a r => by
    rw [List.all_cons, Bool.and_eq_true] at h
    exact .cons (Rep.noX n h.1 a) (Reps.noX n h.2 r)
end
def scRet : Out → Out
  | .ret r => if r.d.noX 3 = true ∧ r.b = false ∧ r.o.isSh = true then .ret r else .bad
  | _ => .bad
def xTryE (pk : Nat → Option Bool) (i : Nat) (bd hd : XS) : XS := fun env => match bd env with
  | .exc k e => match pk k with
    | some true => scRet (hd (e.set i (some (.sh, .exn k))))
    | some false => .exc k e
    | none => .bad
  | o => o
theorem aft_sc {c c' : Ct} {W : WX} {F0 H0 F : Hp} {D D' : Ends} {o : Out} (hr : D'.rt = D.rt) (h : AftS c W F0 H0 F D (scRet o)) : AftS c' WF F0 H0 F D' o := by
  cases o with
  | ret r =>
    obtain ⟨ro, rb, rd⟩ := r
    replace h : AftS c W F0 H0 F D (if rd.noX 3 = true ∧ rb = false ∧ ro.isSh = true then .ret ⟨ro, rb, rd⟩ else .bad) := h
    by_cases q : rd.noX 3 = true ∧ rb = false ∧ ro.isSh = true
    · rw [if_pos q] at h
      obtain ⟨q1, q2, q3⟩ := q
      subst q2
      cases ro with
      | sh =>
        refine ⟨rfl, fun F' H' u e w rv => ?_⟩
        rw [hr]
        exact h.2 F' H' u e w (Rv.sh (Rep.noX 3 q1 rv.repF))
      | _ => exact nomatch q3
    · rw [if_neg q] at h
      exact (show False from h).elim
  | _ => exact (show False from h).elim
section
variable {J : Jx}
theorem ss_tryE {x en : Str} {cv : Value} {body suite : List Stmt} {b0 : Stmt} {np pos' pos : Pos} {bd hd : XS} (i n : Nat) (pk : Nat → Option Bool) (hs : J.X.stack = J.X.env :: J.X.outer) (hf : J.X.env.frame = some J.X.env.locals) (hN : J.X.N.Nodup) (hi : J.X.N[i]? = some en) (hln : J.X.env.kindOf en = some .local)
    (hc : Names J.X x cv) (tk : Takes J.X J.W) (hpx : ∀ a k, ¬ J.c.px a k)
    (hk : ∀ k b, pk k = some b → PySem.W.exmOne J.X.K (.ref (J.c.ea k)) cv = some b) (hkn : ∀ k, pk k = some true → k < n)
    (hb : ∀ (W : WX) (pn : List (Addr × Obj)) (xe : Value → Shared → Prop), Takes (J.X.tr pn xe) W → PassesOwn (model J.X.prog J.X.w) J.X.A J.X.env xe → SSs ⟨J.X.tr pn xe, J.c, W, J.F0, J.H0⟩ body bd)
    (hsu : ∀ (a : Addr) (oe : Obj) (pn : List (Addr × Obj)) (m : Nat), m < n → Zc (.ref (J.c.ea m)) none oe → (∃ vs, oe.data = .fields vs) → SSs ⟨J.X.suite a ((a, oe) :: pn), ctX J.c a m, WF, J.F0, J.H0⟩ (b0 :: suite) hd) :
    SS J (.Try body [.ExceptHandler (some (.Name x np)) (some en) (b0 :: suite) pos'] [] [] pos) (xTryE pk i bd hd) :=
  (ps_try_as (tb := fun W => tXS J.c W J.F0 J.H0 bd) (ts := fun a cls d => fun D σ H => ∃ m, m < n ∧ cls = .ref (J.c.ea m) ∧ d = none ∧ tXS (ctX J.c a m) WF J.F0 J.H0 hd D σ H) hs hf hN hi hln hc tk (fun W pn xe t1 t2 => hb W pn xe t1 t2)
    (fun a oe cls d pn hz hfv => ⟨fun pins s σ H D I ⟨m, hm, e1, e2, h⟩ => by
      subst e1 e2
      exact (hsu a oe pn m hm hz hfv).run pins s σ H D I h⟩)).imp fun D sg H ⟨F, env, si, hq⟩ => ⟨F, env, si, by
  unfold xTryE at hq
  cases q : bd env with
  | next e => rw [q] at hq; exact hq
  | ret r => rw [q] at hq; exact hq
  | rete d x => rw [q] at hq; exact hq
  | brk e => rw [q] at hq; exact hq
  | cont e => rw [q] at hq; exact hq
  | bad => rw [q] at hq; exact hq
  | exc k e1 =>
    rw [q] at hq
    replace hq : AftS J.c J.W J.F0 J.H0 F D (match pk k with
      | some true => scRet (hd (e1.set i (some (.sh, .exn k))))
      | some false => .exc k e1
      | none => .bad) := hq
    intro F' H' sg' e s'
    cases hp : pk k with
    | none => rw [hp] at hq; exact hq.elim
    | some b =>
      rw [hp] at hq
      refine ⟨b, hk k b hp, fun hbt a ha => ?_, fun hbf => ?_⟩
      · subst hbt
        refine ⟨k, hkn k hp, rfl, rfl, F', e1.set i (some (.sh, .exn k)), ?_, AftS.grow e (aft_sc (D := D) rfl hq)⟩
        have s2 : Si (ctX J.c a k) J.F0 J.H0 F' H' sg' e1 := Si.px (c := J.c) (c' := ctX J.c a k) rfl rfl (fun b j h => absurd h (hpx b j)) (fun _ h => h) s'
        exact s2.store (Wd.refl s2.wd.fh) (Rv.sh (.exn ⟨rfl, rfl⟩)) i
      · subst hbf
        have hq2 : AftS J.c J.W J.F0 J.H0 F D (.exc k e1) := hq
        exact hq2 F' H' sg' e s'⟩
theorem pxOk_suite {X : Cx} {c : Ct} {a : Addr} {oe : Obj} {pn : List (Addr × Obj)} {m n : Nat} (h1 : m < n) (h2 : Zc (.ref (c.ea m)) none oe) (h3 : ∃ vs, oe.data = .fields vs) : PxOk (X.suite a ((a, oe) :: pn)) (ctX c a m) n := by
  rintro b j ⟨rfl, rfl⟩
  exact ⟨h1, oe, List.mem_cons_self, h2, h3⟩
theorem roomH_suite {X : Cx} {k : Nat} {a : Addr} {pn : List (Addr × Obj)} (h : Room k X.A) : L2H.RoomH k (X.suite a pn).A := ⟨h.dp, h.un⟩
end
/-! ### a, b = x, y -/
section
variable {J : Jx}
theorem ss_par {x y : Str} {a b : Expr} {fs : XA} {px py pt pos pt2 : Pos} {kt k2 : Nat} (i j : Nat) (hN : J.X.N.Nodup) (ha : SA J [a, b] fs) (hc : J.X.calm = true := by rfl) (hi : J.X.N[i]? = some x := by rfl) (hj : J.X.N[j]? = some y := by rfl) (hij : i ≠ j := by decide)
    (hx : J.X.env.scope.names.lookup x = some .local := by rfl) (hy : J.X.env.scope.names.lookup y = some .local := by rfl)
    (hw : swappedStores [.Tuple [.Name x px, .Name y py] kt pt] (.Tuple [a, b] k2 pt2) J.X.env = pure (some [x, y]) := by rfl)
    (hs : swapsWithSole [.Tuple [.Name x px, .Name y py] kt pt] (.Tuple [a, b] k2 pt2) pos.line J.X.env = pure false := by rfl) :
    SS J (.Assign [.Tuple [.Name x px, .Name y py] kt pt] (.Tuple [a, b] k2 pt2) pos) (xPar i j fs) :=
  (ps_par hc hN hi hj hij hx hy ha hw hs).imp fun D sg H ⟨F, env, si, hq⟩ => ⟨F, env, si, by
    unfold xPar at hq
    cases q : fs env with
    | bad => rw [q] at hq; exact (show False from hq).elim
    | exc n => rw [q] at hq; exact fun F' H' w => hq F' H' sg w.f (si.grow w)
    | ok ds =>
      rw [q] at hq
      intro F' H' us w r
      match ds, r, hq with
      | [d, e], .cons h1 (.cons h2 .nil), hq =>
        have hq : AftS J.c J.W J.F0 J.H0 F D (.next ((env.set i (some (.sh, d))).set j (some (.sh, e)))) := hq
        have s1 := si.store w (Rv.sh h1) i
        have s2 := s1.store (Wd.refl s1.wd.fh) (Rv.sh h2) j
        exact ⟨_, _, rfl, hq F' H' _ w.f s2⟩
      | [], _, hq => exact (show False from hq).elim
      | [_], _, hq => exact (show False from hq).elim
      | _ :: _ :: _ :: _, _, hq => exact (show False from hq).elim⟩
end
theorem ExcIsOk.px {K : PySem.W.Frag} {c : Ct} {n : Nat} {a : Addr} {m : Nat} (h : ExcIsOk K c n) : ExcIsOk K (ctX c a m) n := ⟨h.C, h.one, h.val⟩
end Bk
theorem L2H.RoomH.units {k : Nat} {A : PySem.Around} (r : L2H.RoomH k A) : A.units + 64 < PySem.cLine := by have := r.un; omega
set_option Elab.async false
set_option linter.all false
set_option maxRecDepth 100000
set_option maxHeartbeats 4000000
/-! BkV: reversed(range(n)), list(range(n)). -/
namespace Bk
open PySem L2 PySem.Spec PyProof.Rows
section
variable {J : Jx} {a tg : Expr} {f : XE} {p p2 pos pos2 : Pos}
def xIRevR (f : XE) : XI := fun env => (f env).bind fun a => match a.d with
  | .int n => if n ≤ 100000 ∧ -100000 ≤ n then .ok (rangeD n).reverse else .bad
  | _ => .bad
theorem rangeD_length (n : Int) : (rangeD n).length = n.toNat := by unfold rangeD; rw [List.length_map, List.length_range]
theorem si_revR (hg : Gl J.X "reversed") (hm : J.X.mg "reversed" = none) (hg2 : Gl J.X "range") (hm2 : J.X.mg "range" = none) (ha : SE J a f) (na : starEach [a] J.X.env = (false, eval a J.X.env) :: starEach [] J.X.env := by rfl)
    (hs : starEach [.Call (.Name "range" p2) [a] [] pos2] J.X.env = (false, eval (.Call (.Name "range" p2) [a] [] pos2) J.X.env) :: starEach [] J.X.env := by rfl) :
    SI J tg (.Call (.Name "reversed" p) [.Call (.Name "range" p2) [a] [] pos2] [] pos) (xIRevR f) :=
  (pi_revR hg hm (prg_1 hg2 hm2 ha na) hs).imp fun sg H R ⟨F, env, si, hq⟩ => ⟨F, env, si, (aft_bindI hq).mono fun u H1 ⟨F1, va, w1, r1, hq1⟩ => by
    have rr := r1.rep w1.fh
    obtain ⟨o, bb, d⟩ := va
    cases d with
    | int n =>
      cases rr
      replace hq1 : AftI J.c J.W sg F H R (if n ≤ 100000 ∧ -100000 ≤ n then .ok (rangeD n).reverse else .bad) := hq1
      by_cases hb : n ≤ 100000 ∧ -100000 ≤ n
      · rw [if_pos hb] at hq1
        refine ⟨n, rfl, by omega, by omega, by omega, by omega, hq1 F1 H1 _ w1 fun i Hx e => ⟨fun d hd => ?_, fun hi => ?_⟩⟩
        · have hi : i < (rangeD n).length := by
            have := (List.getElem?_eq_some_iff.mp hd).1
            rw [List.length_reverse] at this
            exact this
          rw [List.getElem?_reverse hi] at hd
          obtain ⟨h3, rfl⟩ := rangeD_get hd
          rw [rangeD_length] at hi h3 ⊢
          refine ⟨by show i < (n - 0).toNat; rw [Int.sub_zero]; exact hi, fun x H' y => ⟨y.1, ?_⟩⟩
          rw [y.2]
          have e1 : 0 + (((n - 0).toNat : Nat) : Int) - 1 + ((i : Nat) : Int) * (-1) = ((n.toNat - 1 - i : Nat) : Int) := by rw [Int.sub_zero]; omega
          rw [e1]
          exact .int
        · show (n - 0).toNat ≤ i
          rw [List.length_reverse, rangeD_length] at hi
          rw [Int.sub_zero]
          omega
      · rw [if_neg hb] at hq1
        exact hq1.elim
    | _ => exact (show False from hq1).elim⟩
def xListR (f : XE) : XE := fun env => (f env).bind fun a => match a.d with
  | .int n => if n ≤ 100000 ∧ -100000 ≤ n then .ok ⟨.li .sh, false, .lst (rangeD n)⟩ else .bad
  | _ => .bad
theorem reps_rg {c : Ct} {F : Hp} (n : Int) : Reps c F (rgV 0 n) (rangeD n) := by
  refine Reps.all (by rw [rgV_length, rangeD_length, Int.sub_zero]) fun i v d hv hd => ?_
  obtain ⟨h1, rfl⟩ := rangeD_get hd
  unfold rgV at hv
  rw [List.getElem?_map] at hv
  cases q : (List.range (n - 0).toNat)[i]? with
  | none => rw [q] at hv; cases hv
  | some k =>
    rw [q] at hv
    obtain ⟨h2, h3⟩ := List.getElem?_eq_some_iff.mp q
    rw [List.getElem_range] at h3
    subst h3
    cases hv
    show Rep c F (V.int (0 + (i : Nat))) (.int (i : Int))
    rw [Int.zero_add]
    exact .int
theorem se_listR (hc : J.X.calm = true) (hg : Gl J.X "list") (hm : J.X.mg "list" = none) (hg2 : Gl J.X "range") (hm2 : J.X.mg "range" = none) (ha : SE J a f) (na : starEach [a] J.X.env = (false, eval a J.X.env) :: starEach [] J.X.env := by rfl)
    (hs : starEach [.Call (.Name "range" p2) [a] [] pos2] J.X.env = (false, eval (.Call (.Name "range" p2) [a] [] pos2) J.X.env) :: starEach [] J.X.env := by rfl) :
    SE J (.Call (.Name "list" p) [.Call (.Name "range" p2) [a] [] pos2] [] pos) (xListR f) :=
  (pe_listRg hc hg hm (prg_1 hg2 hm2 ha na) hs).imp fun sg H Q ⟨F, env, si, hq⟩ => ⟨F, env, si, (aft_bind hq).mono fun u H1 ⟨F1, va, w1, r1, hq1⟩ => by
    have rr := r1.rep w1.fh
    obtain ⟨o, bb, d⟩ := va
    cases d with
    | int n =>
      cases rr
      replace hq1 : Aft J.c J.W sg F1 H1 Q (if n ≤ 100000 ∧ -100000 ≤ n then .ok ⟨.li .sh, false, .lst (rangeD n)⟩ else .bad) := hq1
      by_cases hb : n ≤ 100000 ∧ -100000 ≤ n
      · rw [if_pos hb] at hq1
        exact ⟨n, rfl, ⟨by omega, by omega, by omega, by omega, by omega⟩, fun q hq => Aft.newL w1.fh hq (reps_rg n) hq1⟩
      · rw [if_neg hb] at hq1
        exact hq1.elim
    | _ => exact (show False from hq1).elim⟩
theorem Reps.dropLast {c : Ct} {F : Hp} {vs : List V} {xs : List D} (h : Reps c F vs xs) : Reps c F vs.dropLast xs.dropLast := by
  rw [List.dropLast_eq_take, List.dropLast_eq_take, h.length]
  exact h.take _
theorem ss_pop {K : PySem.W.Frag} {i : Nat} {st : Stmt} (h : PS J.X st (tDrop (tBM0 K "list" rPop (tVar i)))) : SS J st (xPop i) := h.imp fun D sg H ⟨F, env, si, hq⟩ => by
  refine ownL (k := fun xs => if xs = [] then .bad else .next (env.set i (some (.li .sh, .lst xs.dropLast)))) hq fun xs hx hq => ?_
  obtain ⟨a, vs, h1, ha, hr, hm⟩ := Si.mut (ys := []) si hx
  by_cases hn : xs = []
  · rw [if_pos hn] at hq
    exact (show False from hq).elim
  · rw [if_neg hn] at hq
    have hl : 0 < vs.length := by rw [hr.length]; exact List.length_pos_iff.mpr hn
    have hy : vs[vs.length - 1]? = some (vs[vs.length - 1]'(by omega)) := List.getElem?_eq_getElem (by omega)
    exact ⟨_, h1, .inl ⟨rfl, _, .inl (.inl ha)⟩, a, vs, _, rfl, rfl, ha, hy, hq F _ sg (Evl.Ex.refl F) (hm _ _ hr.dropLast)⟩
end
end Bk
set_option Elab.async false
set_option linter.all false
set_option maxRecDepth 100000
set_option maxHeartbeats 4000000
/-! BkO: a def that writes into a list that it is handed. -/
namespace Bk
open PySem L2 PySem.Spec PyProof.Rows
section
variable {J : Jx} {c : Ct} {W : WX} {F0 H0 : Hp} {X : Cx} {pos : Pos} {sg : L2.St} {F H F1 H1 : Hp} {env : XEnv} {st : Stmt} {sts : List Stmt} {g h : XS} {e : Expr} {f : XE} {t : XB} {D : Ends}
/-- return e, e a scalar: what the slots hold is told too -/
def xRetE (f : XE) : XS := fun env => match f env with
  | .ok a => if a.d.isSc = true then .rete a.d env else .bad
  | .exc n => .exc n env
  | .bad => .bad
theorem ss_rete (he : SE J e f) : SS J (.Return (some e) pos) (xRetE f) := (ps_ret he).imp fun D sg H ⟨F, env, si, hq⟩ => ⟨F, env, si, by
  refine aftS_bind (k := fun a => if a.d.isSc = true then .rete a.d env else .bad) si hq fun F1 H1 u a w rv _ hk => ?_
  by_cases q : a.d.isSc = true
  · rw [if_pos q] at hk
    exact hk F1 H1 sg u w.f (si.grow w) ((rv.rep w.fh).isSc q)
  · rw [if_neg q] at hk
    exact (show False from hk).elim⟩
theorem Si.mutIO {i : Nat} {xs : List Bk.D} (s : Si c F0 H0 F H sg env) (he : env[i]? = some (some (.io, .lst xs))) : ∃ a vs, sg[i]? = some (some (.ref a)) ∧ H a = some (.lst vs) ∧ Reps c F vs xs ∧
    ∀ us ys, Reps c F us ys → Si c F0 H0 F (upd H a (.lst us)) sg (env.set i (some (.io, .lst ys))) := by
  obtain ⟨S, s1, s2, s3⟩ := s.own
  obtain ⟨v, h1, a, vs, zs, e1, e2, sa, hi, ha, hr0⟩ := s3 i _ _ he
  subst e1
  cases e2
  refine ⟨a, vs, h1, ha, hr0, fun us ys hr => ?_⟩
  have fa := (s2 i a sa)
  have eF : Ex F (upd H a (.lst us)) := s.wd.fh.mut fa.2.1
  refine ⟨⟨s.wd.f, eF, s.wd.h.mut fa.1, s.wd.n⟩, by rw [List.length_set]; exact s.len, fun j b => if j = i then b = a else S j b, fun j k b hj hk => ?_, fun j b hj => ?_, fun j o d hjd => ?_⟩
  · by_cases q1 : j = i
    · by_cases q2 : k = i
      · rw [q1, q2]
      · simp only [if_pos q1] at hj
        simp only [if_neg q2] at hk
        subst hj
        exact absurd (s1 k i _ hk sa) q2
    · by_cases q2 : k = i
      · simp only [if_neg q1] at hj
        simp only [if_pos q2] at hk
        subst hk
        exact absurd (s1 j i _ hj sa) q1
      · simp only [if_neg q1] at hj
        simp only [if_neg q2] at hk
        exact s1 j k b hj hk
  · by_cases q : j = i
    · simp only [if_pos q] at hj
      subst hj
      refine ⟨fa.1, fa.2.1, ?_⟩
      rw [upd_same]
      exact fun z => by cases z
    · simp only [if_neg q] at hj
      have nb : b ≠ a := fun z => q (s1 j i b hj (by rw [z]; exact sa))
      rw [upd_ne nb]
      exact s2 j b hj
  · by_cases q : j = i
    · subst q
      have hlj : j < env.length := (List.getElem?_eq_some_iff.mp he).1
      rw [List.getElem?_set_self hlj] at hjd
      cases hjd
      refine ⟨.ref a, h1, ?_⟩
      simp only [if_pos]
      exact ⟨a, us, ys, rfl, rfl, rfl, hi, upd_same, hr⟩
    · rw [List.getElem?_set_ne (Ne.symm q)] at hjd
      obtain ⟨v, h4, h5⟩ := s3 j o d hjd
      refine ⟨v, h4, ?_⟩
      simp only [if_neg q]
      refine h5.frame (Evl.Ex.refl F) (fun b hb => ?_) fun b hb => (s2 j b hb).2.1
      exact upd_ne fun z => q (s1 j i b hb (by rw [z]; exact sa))
def xSetIO (i : Nat) (fk f : XE) : XS := fun env => match env[i]? with
  | some (some (.io, .lst xs)) => match f env with
    | .ok a => if a.b = true then .bad else match fk env with
      | .ok k => match k.d with
        | .int n => match ixN xs.length n with
          | some j => .next (env.set i (some (.io, .lst (xs.set j a.d))))
          | none => .bad
        | _ => .bad
      | .exc n => .exc n env
      | .bad => .bad
    | .exc n => .exc n env
    | .bad => .bad
  | _ => .bad
theorem ownIO {o : Option (Option (Ow × Bk.D))} {P : Prop} {k : List Bk.D → Out} (h : AftS c W F0 H0 F D (match o with
    | some (some (.io, .lst xs)) => k xs
    | _ => .bad)) (hk : ∀ xs, o = some (some (.io, .lst xs)) → AftS c W F0 H0 F D (k xs) → P) : P := by
  match o, h with
  | none, h => exact (show False from h).elim
  | some none, h => exact (show False from h).elim
  | some (some (o, d)), h =>
    cases o with
    | io =>
      cases d with
      | lst xs => exact hk xs rfl h
      | _ => exact (show False from h).elim
    | _ => exact (show False from by cases d <;> exact h).elim
theorem ss_setIO {i : Nat} {fk : XE} (h : PS J.X st (tAsg (tX J.c J.W J.F0 J.H0 f) (gSub (tVar i) (tX J.c J.W J.F0 J.H0 fk) rSetL))) : SS J st (xSetIO i fk f) := h.imp fun D sg H ⟨F, env, si, hq⟩ => by
  refine ownIO hq fun xs hx hq => ?_
  refine ⟨F, env, si, aftS_bind (k := fun a => if a.b = true then .bad else match fk env with
    | .ok k => match k.d with
      | .int n => match ixN xs.length n with
        | some j => .next (env.set i (some (.io, .lst (xs.set j a.d))))
        | none => .bad
      | _ => .bad
    | .exc n => .exc n env
    | .bad => .bad) si hq fun F1 H1 u b w rv _ hk => ?_⟩
  obtain ⟨o, bb, d⟩ := b
  cases bb with
  | true => exact (show False from hk).elim
  | false =>
    obtain ⟨F2, w2, w3, r2⟩ := rv.share w
    replace hk : AftS J.c J.W J.F0 J.H0 F D (match fk env with
      | .ok k => match k.d with
        | .int n => match ixN xs.length n with
          | some j => .next (env.set i (some (.io, .lst (xs.set j d))))
          | none => .bad
        | _ => .bad
      | .exc n => .exc n env
      | .bad => .bad) := hk
    have si2 := si.grow w2
    obtain ⟨a2, vs2, h2, ha2, hr2, hm⟩ := Si.mutIO si2 hx
    refine ⟨_, h2, F2, env, si2, ?_⟩
    refine aftS_bind (D := D) (k := fun k => match k.d with
      | .int n => match ixN xs.length n with
        | some j => .next (env.set i (some (.io, .lst (xs.set j d))))
        | none => .bad
      | _ => .bad) si2 (AftS.grow w2.f hk) fun F3 H3 v k w4 rk hfk hk2 => ?_
    obtain ⟨ok, bk, dk⟩ := k
    have rkk := rk.rep w4.fh
    cases rkk with
    | @int n =>
      replace hk2 : AftS J.c J.W J.F0 J.H0 F2 D (match ixN xs.length n with
        | some j => .next (env.set i (some (.io, .lst (xs.set j d))))
        | none => .bad) := hk2
      obtain ⟨a3, vs3, h3, ha3, hr3, hm3⟩ := Si.mutIO (si2.grow w4) hx
      rw [h2] at h3
      cases h3
      cases hj : ixN xs.length n with
      | none => rw [hj] at hk2; exact hk2.elim
      | some j =>
        rw [hj] at hk2
        exact ⟨a2, vs3, n, j, rfl, rfl, ha3, by rw [hr3.length]; exact hj, hk2 F3 _ sg w4.f (hm3 _ _ (Reps.set (r2.mono w4.f) j hr3))⟩
    | _ => exact (show False from hk2).elim
end
/-! ### the def -/
abbrev XIO := List D → List D → Res (D × List D)
def ioRes (d : D) (o : Option (Option (Ow × D))) : Res (D × List D) := match o with
  | some (some (.io, .lst ys)) => .ok (d, ys)
  | _ => .bad
theorem ioRes_ok {d d2 : D} {o : Option (Option (Ow × D))} {ys : List D} (h : ioRes d o = .ok (d2, ys)) : o = some (some (.io, .lst ys)) ∧ d = d2 := by
  unfold ioRes at h
  split at h
  · cases h
    exact ⟨rfl, rfl⟩
  · cases h
def xFunIO (n N : Nat) (body : XS) : XIO := fun xs ds => if ds.length = n then (match body (some (.io, .lst xs) :: (ds.map (fun d => some (Ow.sh, d)) ++ List.replicate (N - (n + 1)) none)) with
  | .rete d env => ioRes d (env[0]?)
  | _ => .bad) else .bad
def erase (H : Hp) (a : Addr) : Hp := fun b => if b = a then none else H b
def spIO (c : Ct) (F : XIO) : Sp := fun vs H Q _ => ∃ (F0 : Hp) (a : Addr) (vs0 : List V) (xs0 : List D) (us : List V) (ds : List D) (d : D) (ys : List D), vs = .ref a :: us ∧ Ex F0 H ∧ F0 a = none ∧ H a = some (.lst vs0) ∧ Reps c F0 vs0 xs0 ∧ Reps c F0 us ds ∧ F xs0 ds = .ok (d, ys) ∧
  ∀ (F' H' : Hp) (vs1 : List V) (u : V), Wd F0 (erase H a) F' H' → F' a = none → H' a = some (.lst vs1) → Reps c F' vs1 ys → Rep c F' u d → Q u H'
abbrev cIX (c : Ct) (a : Addr) : Ct := { c with ix := fun b => b = a }
abbrev jIO (P : Program) (w : World) (K : PySem.W.Frag) (mg : Str → Option Value) (base : Heap) (c : Ct) (N : List Str) (qual : Str) (sc : Scope) (f : Addr) (cdv : Value) (A : Around) (outer : List Env) (s : Shared) (H : Hp) (E : XK) (F : Hp) (a : Addr) : Jx :=
  ⟨cxOf (L2.CX P w) P w K mg base N qual sc f cdv A outer s H E, cIX c a, fun cls d _ H => E cls d H, F, erase H a⟩
theorem reps_ix {c : Ct} {a : Addr} {F : Hp} {vs : List V} {ds : List D} (h : Reps c F vs ds) : Reps (cIX c a) F vs ds := Reps.px (c := c) (c' := cIX c a) rfl rfl (fun _ _ h => h) h
theorem reps_ix' {c : Ct} {a : Addr} {F : Hp} {vs : List V} {ds : List D} (h : Reps (cIX c a) F vs ds) : Reps c F vs ds := Reps.px (c := cIX c a) (c' := c) rfl rfl (fun _ _ h => h) h
theorem rep_ix' {c : Ct} {a : Addr} {F : Hp} {v : V} {d : D} (h : Rep (cIX c a) F v d) : Rep c F v d := Rep.px (c := cIX c a) (c' := c) rfl rfl (fun _ _ h => h) h
theorem si_startIO {c : Ct} {F H : Hp} {N : List Str} {n : Nat} {a : Addr} {vs0 us : List V} {xs0 ds : List D} (e : Ex F H) (fa : F a = none) (ha : H a = some (.lst vs0)) (h0 : Reps c F vs0 xs0) (hr : Reps c F us ds) (hn : ds.length = n) (hp : n + 1 ≤ N.length) :
    Si (cIX c a) F (erase H a) F H (L2.start N (.ref a :: us)) (some (.io, .lst xs0) :: (ds.map (fun d => some (Ow.sh, d)) ++ List.replicate (N.length - (n + 1)) none)) := by
  have hl := hr.length
  have er : Ex (erase H a) H := fun b o hb => by
    unfold erase at hb
    by_cases q : b = a
    · rw [if_pos q] at hb
      cases hb
    · rw [if_neg q] at hb
      exact hb
  refine ⟨⟨Evl.Ex.refl F, e, er, fun b h1 h2 => absurd h1 h2⟩, ?_, fun i b => i = 0 ∧ b = a, fun i j b h1 h2 => h1.1.trans h2.1.symm, fun i b hb => ?_, fun i o d hi => ?_⟩
  · unfold L2.start
    rw [List.length_append, List.length_map, List.length_replicate, List.length_cons, List.length_cons, List.length_append, List.length_map, List.length_replicate]
    omega
  · obtain ⟨_, rfl⟩ := hb
    refine ⟨by unfold erase; rw [if_pos rfl], fa, by rw [ha]; exact fun z => by cases z⟩
  · cases i with
    | zero =>
      cases hi
      exact ⟨.ref a, rfl, a, vs0, xs0, rfl, rfl, ⟨rfl, rfl⟩, rfl, ha, reps_ix h0⟩
    | succ i =>
      rw [List.getElem?_cons_succ] at hi
      have hil : i < ds.length := by
        refine Decidable.byContradiction fun q => ?_
        rw [List.getElem?_append_right (by rw [List.length_map]; omega), List.getElem?_replicate] at hi
        split at hi <;> cases hi
      rw [List.getElem?_append_left (by rw [List.length_map]; exact hil), List.getElem?_map] at hi
      cases q : ds[i]? with
      | none => rw [q] at hi; cases hi
      | some d' =>
        rw [q] at hi
        cases hi
        obtain ⟨v, hv, rv⟩ := hr.getD q
        refine ⟨v, ?_, Rep.px (c := c) (c' := cIX c a) rfl rfl (fun _ _ h => h) rv⟩
        unfold L2.start
        rw [List.map_cons, List.cons_append, List.getElem?_cons_succ, List.getElem?_append_left (by rw [List.length_map, hl]; exact hil), List.getElem?_map, hv]
        rfl
theorem fnIO_ok {P : Program} {w : World} {K : PySem.W.Frag} {mg : Str → Option Value} {base : Heap} {c : Ct} {x qual : Str} {st : Stmt} {f : Addr} {fd : FuncData} {N ps : List Str} {k n : Nat} {body : XS} (Fn : Fun K x qual st f fd) (S : FnScope N ps (defScope st)) (hp : ps.length ≤ N.length) (hn : ps.length = n + 1)
    (hb : ∀ (cdv : Value) (A : Around) (outer : List Env) (s : Shared) (H : Hp) (E : XK) (F : Hp) (a : Addr), Room k (A.deeper (envOfC qual (defScope st) s.heap.objs.size f cdv)) → SSs (jIO P w K mg base c N qual (defScope st) f cdv A outer s H E F a) (defBody st) body) :
    FnOk P w K mg base (L2.CX P w) (k + 1) f fd ps (spIO c (xFunIO n N.length body)) := by
  refine Fn.okX S (fun vs H Q E h => ?_) (fun cdv A outer s H vs Q E hr h => ?_)
  · obtain ⟨F0, a, vs0, xs0, us, ds, d, ys, rfl, e, fa, ha, r0, r1, hF, hQ⟩ := h
    unfold xFunIO at hF
    by_cases q : ds.length = n
    · rw [List.length_cons, r1.length, q, hn]
    · rw [if_neg q] at hF
      cases hF
  · obtain ⟨F0, a, vs0, xs0, us, ds, d, ys, rfl, e, fa, ha, r0, r1, hF, hQ⟩ := h
    unfold xFunIO at hF
    by_cases q : ds.length = n
    · rw [if_pos q] at hF
      refine ⟨_, hb cdv A outer s H E F0 a hr, F0, _, si_startIO e fa ha r0 r1 q (by omega), ?_⟩
      cases hbo : body (some (.io, .lst xs0) :: (ds.map (fun d => some (Ow.sh, d)) ++ List.replicate (N.length - (n + 1)) none)) with
      | rete d' env' =>
        rw [hbo] at hF
        have key := ioRes_ok (show ioRes d' (env'[0]?) = .ok (d, ys) from hF)
        intro F' H' sg' u e' s' ru
        obtain ⟨h0, rfl⟩ := key
        obtain ⟨S2, s1, s2, s3⟩ := s'.own
        obtain ⟨v, h1, a2, vs1, ys', e1, e2, sa, hi, ha2, rr⟩ := s3 0 _ _ h0
        cases e2
        have ea : a2 = a := hi
        subst ea
        exact hQ F' H' vs1 u s'.wd (s2 0 _ sa).2.1 ha2 (reps_ix' rr) (rep_ix' ru)
      | _ => rw [hbo] at hF; cases hF
    · rw [if_neg q] at hF
      cases hF
structure GfIO (P : Program) (w : World) (K : PySem.W.Frag) (mg : Str → Option Value) (base : Heap) (c : Ct) (nm : Str) (k : Nat) (ps : List Str) (F : XIO) : Prop where
  ex : ∃ f fd, FnOk P w K mg base (L2.CX P w) k f fd ps (spIO c F) ∧ mg nm = some (.ref f) ∧ PySem.W.keepIn K (.ref f) = true ∧ Binds K fd ps []
/-- another def, called by such a def -/
theorem Gf.ix {P : Program} {w : World} {K : PySem.W.Frag} {mg : Str → Option Value} {base : Heap} {c : Ct} {nm : Str} {k : Nat} {ps : List Str} {F : XF} {a : Addr} (hix : ∀ b, ¬ c.ix b) (g : Gf P w K mg base c nm k ps F) : Gf P w K mg base (cIX c a) nm k ps F := by
  obtain ⟨f, fd, G, m, kp, b⟩ := g.ex
  have sp : ∀ vs H Q E, spOf (cIX c a) F vs H Q E → spOf c F vs H Q E := fun vs H Q E ⟨F0, ds, e, r, h⟩ => ⟨F0, ds, e, reps_ix' r, by
    cases hF : F ds with
    | ok v =>
      rw [hF] at h
      intro F' H' u w rv
      obtain ⟨S, o, k⟩ := rv
      exact h F' H' u w ⟨S, Own.px (c := c) (c' := cIX c a) rfl rfl (fun _ _ h => h) (fun b hb => absurd hb (hix b)) o, k⟩
    | exc n => rw [hF] at h; exact h
    | bad => rw [hF] at h; exact h⟩
  exact ⟨f, fd, ⟨fun vs H Q E h => G.len vs H Q E (sp vs H Q E h), fun A outer s H args us vs Q E r0 e0 hb r h => G.run A outer s H args us vs Q E r0 e0 hb r (sp vs H Q E h)⟩, m, kp, b⟩
/-! ### if t or not f(xs, ..): .. -/
theorem Si.io {c : Ct} {F0 H0 F H F' H' : Hp} {sg : L2.St} {env : XEnv} {i : Nat} {a : Addr} {xs ys : List D} {vs1 : List V} (s : Si c F0 H0 F H sg env) (he : env[i]? = some (some (.li .sh, .lst xs))) (hs : sg[i]? = some (some (.ref a)))
    (wd : Wd F (erase H a) F' H') (fa' : F' a = none) (ha' : H' a = some (.lst vs1)) (hr : Reps c F' vs1 ys) : Si c F0 H0 F' H' sg (env.set i (some (.li .sh, .lst ys))) := by
  obtain ⟨S, s1, s2, s3⟩ := s.own
  obtain ⟨v, h1, a2, vs, zs, e1, e2, sa, ha, hl, T, t1, t2, t3⟩ := s3 i _ _ he
  subst e1
  cases e2
  rw [hs] at h1
  cases h1
  have fa := s2 i a sa
  have keep : ∀ b o, b ≠ a → H b = some o → H' b = some o := fun b o nb hb => wd.h b o (by unfold erase; rw [if_neg nb]; exact hb)
  have fresh : ∀ b, F b = none → F' b ≠ none → b = a ∨ H b = none := fun b h1 h2 => by
    have := wd.n b h1 h2
    unfold erase at this
    by_cases q : b = a
    · exact .inl q
    · rw [if_neg q] at this
      exact .inr this
  refine ⟨⟨s.wd.f.trans wd.f, wd.fh, fun b o hb => ?_, fun b h1 h2 => ?_⟩, by rw [List.length_set]; exact s.len, fun j b => if j = i then b = a else S j b, fun j k b hj hk => ?_, fun j b hj => ?_, fun j o d hjd => ?_⟩
  · have nb : b ≠ a := fun z => by rw [z, fa.1] at hb; cases hb
    exact keep b o nb (s.wd.h b o hb)
  · cases q : F b with
    | some o => exact s.wd.n b h1 (by rw [q]; exact fun z => by cases z)
    | none =>
      rcases fresh b q h2 with rfl | hn
      · exact fa.1
      · exact Evl.fresh_back s.wd.h hn
  · by_cases q1 : j = i
    · by_cases q2 : k = i
      · rw [q1, q2]
      · simp only [if_pos q1] at hj
        simp only [if_neg q2] at hk
        subst hj
        exact absurd (s1 k i _ hk sa) q2
    · by_cases q2 : k = i
      · simp only [if_neg q1] at hj
        simp only [if_pos q2] at hk
        subst hk
        exact absurd (s1 j i _ hj sa) q1
      · simp only [if_neg q1] at hj
        simp only [if_neg q2] at hk
        exact s1 j k b hj hk
  · by_cases q : j = i
    · simp only [if_pos q] at hj
      subst hj
      exact ⟨fa.1, fa', by rw [ha']; exact fun z => by cases z⟩
    · simp only [if_neg q] at hj
      have nb : b ≠ a := fun z => q (s1 j i b hj (by rw [z]; exact sa))
      have k := s2 j b hj
      refine ⟨k.1, ?_, ?_⟩
      · cases z : F' b with
        | none => rfl
        | some o =>
          rcases fresh b k.2.1 (by rw [z]; exact fun y => by cases y) with y | y
          · exact absurd y nb
          · exact absurd y k.2.2
      · cases z : H b with
        | none => exact absurd z k.2.2
        | some o => rw [keep b o nb z]; exact fun y => by cases y
  · by_cases q : j = i
    · subst q
      have hlj : j < env.length := (List.getElem?_eq_some_iff.mp he).1
      rw [List.getElem?_set_self hlj] at hjd
      cases hjd
      refine ⟨.ref a, hs, ?_⟩
      simp only [if_pos]
      exact ⟨a, vs1, ys, rfl, rfl, rfl, ha', hr.length, fun _ _ => False, fun _ _ z => z.elim, fun _ _ _ z => z.elim, fun k u x hu hx => by
        obtain ⟨d2, h2, h3⟩ := hr.get hu
        rw [hx] at h2
        cases h2
        exact h3⟩
    · rw [List.getElem?_set_ne (Ne.symm q)] at hjd
      obtain ⟨v, h4, h5⟩ := s3 j o d hjd
      refine ⟨v, h4, ?_⟩
      simp only [if_neg q]
      refine h5.frame wd.f (fun b hb => ?_) fun b hb => ?_
      · have nb : b ≠ a := fun z => q (s1 j i b hb (by rw [z]; exact sa))
        cases z : H b with
        | none => exact absurd z (s2 j b hb).2.2
        | some o => exact keep b o nb z
      · have nb : b ≠ a := fun z => q (s1 j i b hb (by rw [z]; exact sa))
        cases z : F' b with
        | none => rfl
        | some o =>
          rcases fresh b (s2 j b hb).2.1 (by rw [z]; exact fun y => by cases y) with y | y
          · exact absurd y nb
          · exact absurd y (s2 j b hb).2.2
def xIfIO (ta : XB) (i : Nat) (F : XIO) (fs : XA) (th : XS) : XS := fun env => match ta env with
  | .ok b => if b = true then th env else match env[i]? with
    | some (some (.li .sh, .lst xs)) => match fs env with
      | .ok ds => match F xs ds with
        | .ok (.bl r, ys) => if r = true then .next (env.set i (some (.li .sh, .lst ys))) else th (env.set i (some (.li .sh, .lst ys)))
        | _ => .bad
      | _ => .bad
    | _ => .bad
  | .exc n => .exc n env
  | .bad => .bad
section
variable {J : Jx}
theorem ss_ifIO {a : Expr} {es : List Expr} {ta : XB} {fs : XA} {F : XIO} {th : List Stmt} {gth : XS} {nm x : Str} {k : Nat} {ps : List Str} {p p2 bp np cpos pos : Pos} (i : Nat) (g : GfIO J.X.prog J.X.w J.X.K J.X.mg J.X.base J.c nm k ps F) (hr : Room k J.X.A) (tk : Takes J.X J.W) (hx : Gl J.X nm)
    (ha : SB J a ta) (has : SA J es fs) (hth : SSs J th gth) (hN : J.X.N[i]? = some x := by rfl) (hv : Vis J.X.env.scope x := by first | exact Or.inl rfl | exact Or.inr (Or.inl rfl) | exact Or.inr (Or.inr rfl)) (hd : (x == ("__debug__" : Str)) = false := by decide) (hcd : (x == ("__classdict__" : Str)) = false := by decide)
    (hdb : (nm == ("__debug__" : Str)) = false := by decide) (he : starEach (.Name x p2 :: es) J.X.env = (false, eval (.Name x p2) J.X.env) :: starEach es J.X.env := by rfl) (hpl : (backTo cpos (starEach es J.X.env)).any (·.1) = false := by rfl)
    (hT : ∀ whole, isTrue (.Call (.Name nm p) (.Name x p2 :: es) [] cpos) J.X.env whole = (do let v ← whole; standAt (Expr.Call (.Name nm p) (.Name x p2 :: es) [] cpos).pos; holding [v] (truthy v)) := by intro _; rfl) :
    SS J (.If (.BoolOp .Or [a, .UnaryOp .Not (.Call (.Name nm p) (.Name x p2 :: es) [] cpos) np] bp) th [] pos) (xIfIO ta i F fs gth) := by
  obtain ⟨f, fd, G, m, kp, b⟩ := g.ex
  have call := pe_callS (p := p) G hr hx m kp b (fun s => passAt tk s) (pa_cons (pe_var hN hv hd hcd) has he) hdb he hpl
  refine (ps_if (PW.pt (pw_or ha (pw_or1 (pt_not (pt_val call hT))))) hth pss_nil).imp fun D sg H ⟨F1, env, si, hq⟩ => ?_
  refine ⟨F1, env, si, ?_⟩
  refine aftS_bindB (k := fun b => if b = true then gth env else match env[i]? with
    | some (some (.li .sh, .lst xs)) => match fs env with
      | .ok ds => match F xs ds with
        | .ok (.bl r, ys) => if r = true then .next (env.set i (some (.li .sh, .lst ys))) else gth (env.set i (some (.li .sh, .lst ys)))
        | _ => .bad
      | _ => .bad
    | _ => .bad) si hq fun F2 H2 b w hk => ?_
  have si2 := si.grow w
  cases b with
  | true => exact iteT (iteT ⟨F2, env, si2, AftS.grow w.f hk⟩)
  | false =>
    refine iteF ?_
    replace hk : AftS J.c J.W J.F0 J.H0 F1 D (match env[i]? with
      | some (some (.li .sh, .lst xs)) => match fs env with
        | .ok ds => match F xs ds with
          | .ok (.bl r, ys) => if r = true then .next (env.set i (some (.li .sh, .lst ys))) else gth (env.set i (some (.li .sh, .lst ys)))
          | _ => .bad
        | _ => .bad
      | _ => .bad) := hk
    refine ownL hk fun xs hxs hk => ?_
    obtain ⟨a2, vs2, h2, ha2, hr2, _⟩ := Si.mut (ys := []) si2 hxs
    refine ⟨.ref a2, h2, F2, env, si2, ?_⟩
    cases hfs : fs env with
    | bad => rw [hfs] at hk; exact (show False from hk).elim
    | exc n => rw [hfs] at hk; exact (show False from hk).elim
    | ok ds =>
      rw [hfs] at hk
      replace hk : AftS J.c J.W J.F0 J.H0 F1 D (match F xs ds with
        | .ok (.bl r, ys) => if r = true then .next (env.set i (some (.li .sh, .lst ys))) else gth (env.set i (some (.li .sh, .lst ys)))
        | _ => .bad) := hk
      intro F3 H3 us w3 r3
      have si3 := si2.grow w3
      obtain ⟨a3, vs3, h3, ha3, hr3, _⟩ := Si.mut (ys := []) si3 hxs
      rw [h2] at h3
      cases h3
      have fa3 : F3 a2 = none := by
        obtain ⟨S, s1, s2, s3⟩ := si3.own
        obtain ⟨v, q1, a4, vs4, zs, e1, e2, sa, _⟩ := s3 i _ _ hxs
        rw [h2] at q1
        cases q1
        cases e1
        exact (s2 i _ sa).2.1
      cases hF : F xs ds with
      | bad => rw [hF] at hk; exact (show False from hk).elim
      | exc n => rw [hF] at hk; exact (show False from hk).elim
      | ok r =>
        obtain ⟨d, ys⟩ := r
        rw [hF] at hk
        cases d with
        | bl r =>
          refine ⟨F3, a2, vs3, xs, us, ds, .bl r, ys, rfl, w3.fh, fa3, ha3, hr3, r3, hF, fun F' H' vs1 u wd fa' ha' hr' ru => ?_⟩
          cases ru
          have si4 := si3.io hxs h2 wd fa' ha' hr'
          refine ⟨r, rfl, ?_⟩
          replace hk : AftS J.c J.W J.F0 J.H0 F1 D (if r = true then .next (env.set i (some (.li .sh, .lst ys))) else gth (env.set i (some (.li .sh, .lst ys)))) := hk
          have eF : Ex F1 F' := w.f.trans (w3.f.trans wd.f)
          cases r with
          | true =>
            refine iteF ?_
            have hk : AftS J.c J.W J.F0 J.H0 F1 D (.next (env.set i (some (.li .sh, .lst ys)))) := hk
            exact hk F' H' sg eF si4
          | false =>
            refine iteT ?_
            exact ⟨F', _, si4, AftS.grow eF hk⟩
        | _ => exact (show False from hk).elim
end
end Bk
set_option Elab.async false
set_option linter.all false
set_option maxRecDepth 100000
set_option maxHeartbeats 4000000
/-! BkY: the head's facts with a check of one's own. -/
namespace Bk
open PySem L2 PySem.Spec PyProof.Rows
abbrev AlX : Type := Bool × He.Al
def obsX (n : Nat) (fa : List He.Fa) (fn : List He.FnD) (ex : PySem.W.Frag → Bool) (g : Addr → Option Obj) : AlX := (ex (He.frG g (He.asG g n)), He.obsE fa fn (He.frG g (He.asG g n)))
def hookX (n : Nat) (fa : List He.Fa) (fn : List He.FnD) (ex : PySem.W.Frag → Bool) : PySem.W.Hook where
  α := AlX
  obs := fun s => obsX n fa fn ex s.heap.get?
  val := fun _ => (true, He.valE fn)
  says := fun _ h => ∃ K : PySem.W.Frag, K.In h ∧ He.SaysE fa fn K ∧ ex K = true
  of := fun _ _ e => ⟨_, He.frG_in, congrArg (fun z : AlX => z.2) e, congrArg (fun z : AlX => z.1) e⟩
  keeps := fun _ _ _ ⟨K, hK, c⟩ k => ⟨K, PySem.W.Frag.In.keeps hK k, c⟩
theorem obsX_eq {n : Nat} {fa : List He.Fa} {fn : List He.FnD} {ex : PySem.W.Frag → Bool} {g : Addr → Option Obj} {s : Shared} (h : ∀ a, g a = s.heap.get? a) : obsX n fa fn ex g = (hookX n fa fn ex).obs s := by
  have e : g = s.heap.get? := funext h
  rw [e] <;> rfl
/-- what isinstance of the first n error classes answers -/
def excChk (n : Nat) (ea : PySem.W.Frag → Nat → Addr) (K : PySem.W.Frag) : Bool := (List.range n).all fun k =>
  He.eqO (PySem.W.findIn K (.ref (ea K k)) "__getattribute__") (some (some (.builtin "BaseException.__getattribute__"))) && (He.eqO (PySem.W.findIn K (.ref (ea K k)) "__getattr__") (some none) && (
  decide (PySem.W.subIn K (.ref (ea K k)) (.type "BaseException") = some true) && (PySem.W.hasDictIn K (ea K k) && (He.eqO (PySem.W.findIn K (.ref (ea K k)) "__class__") (some (some (.builtin "object.__class__"))) && (
  He.eqO (PySem.W.specialIn K (.builtin "object.__class__") "__get__") (some (some (.builtin "getset_descriptor.__get__"))) && (decide (PySem.W.takesIn K (.builtin "object.__class__") = some true) && (decide (PySem.W.mroIn K (ea K k) (.type "object") = some true) && (
  decide (PySem.W.kitOne K (.ref (ea K k)) (.type "ValueError") = some true) && (List.range n).all fun m => decide (PySem.W.kitOne K (.ref (ea K k)) (.ref (ea K m)) = some (k == m))))))))))
theorem excIs_of {n : Nat} {ea : PySem.W.Frag → Nat → Addr} {K : PySem.W.Frag} {c : Ct} (he : c.ea = ea K) (h : excChk n ea K = true) : ExcIsOk K c n := by
  have all : ∀ k, k < n → _ := fun k hk => List.all_eq_true.mp h k (List.mem_range.mpr hk)
  refine ⟨fun k hk => ?_, fun k m hk hm => ?_, fun k hk => ?_⟩
  all_goals
    have q := all k hk
    obtain ⟨q1, q⟩ := He.ba q
    obtain ⟨q2, q⟩ := He.ba q
    obtain ⟨q3, q⟩ := He.ba q
    obtain ⟨q4, q⟩ := He.ba q
    obtain ⟨q5, q⟩ := He.ba q
    obtain ⟨q6, q⟩ := He.ba q
    obtain ⟨q7, q⟩ := He.ba q
    obtain ⟨q8, q⟩ := He.ba q
    obtain ⟨q9, q10⟩ := He.ba q
    rw [he]
  · exact ⟨He.eqO_ok q1, He.eqO_ok q2, of_decide_eq_true q3, q4, He.eqO_ok q5, He.eqO_ok q6, of_decide_eq_true q7, of_decide_eq_true q8⟩
  · exact of_decide_eq_true (List.all_eq_true.mp q10 m (List.mem_range.mpr hm))
  · exact of_decide_eq_true q9
end Bk
set_option Elab.async false
set_option linter.all false
set_option maxRecDepth 100000
set_option maxHeartbeats 4000000
/-! BkZ: BkW's combinators as equations. -/
namespace Bk
open PySem L2
def kTryE (pk : Nat → Option Bool) (i : Nat) (hd : XS) : Out → Out
  | .exc k e => match pk k with
    | some true => scRet (hd (e.set i (some (.sh, .exn k))))
    | some false => .exc k e
    | none => .bad
  | o => o
def kWord : Res Val → Res Val
  | .ok ⟨.sh, false, .str z⟩ => .ok (.sh (.str z))
  | _ => .bad
def kCallX (n : Nat) (F : XF) (a : Val) : Res Val := match a.d with
  | .exn m => if m < n then kWord (F [.exn m]) else .bad
  | _ => .bad
section
variable (pk : Nat → Option Bool) (i n k : Nat) (bd hd : XS) (env : XEnv) (F : XF) (f : XE) (o : Ow) (b : Bool) (z : Str) (fs : XA) (d e : D)
@[simp] theorem e_TryE : xTryE pk i bd hd env = kTryE pk i hd (bd env) := by
  unfold xTryE
  cases bd env <;> rfl
@[simp] theorem kTryE_next : kTryE pk i hd (.next env) = .next env := rfl
@[simp] theorem kTryE_ret (r : Val) : kTryE pk i hd (.ret r) = .ret r := rfl
theorem kTryE_exc (h : pk k = some true) : kTryE pk i hd (.exc k env) = scRet (hd (env.set i (some (.sh, .exn k)))) := by
  show (match pk k with
    | some true => scRet (hd (env.set i (some (.sh, .exn k))))
    | some false => .exc k env
    | none => .bad) = _
  rw [h]
@[simp] theorem scRet_str : scRet (.ret ⟨.sh, false, .str z⟩) = .ret ⟨.sh, false, .str z⟩ := rfl
@[simp] theorem scRet_wl : scRet (.ret ⟨.sh, false, .tup [.str z, .lst []]⟩) = .ret ⟨.sh, false, .tup [.str z, .lst []]⟩ := rfl
@[simp] theorem scRet_bl (q : Bool) : scRet (.ret ⟨.sh, false, .bl q⟩) = .ret ⟨.sh, false, .bl q⟩ := rfl
@[simp] theorem e_CallX : xCallX n F f env = (f env).bind (kCallX n F) := by
  unfold xCallX
  cases f env with
  | ok a =>
    obtain ⟨o, b, d⟩ := a
    cases d <;> rfl
  | _ => rfl
@[simp] theorem kCallX_exn : kCallX n F ⟨o, b, .exn k⟩ = if k < n then kWord (F [.exn k]) else .bad := rfl
@[simp] theorem kWord_str : kWord (.ok ⟨.sh, false, .str z⟩) = .ok (.sh (.str z)) := rfl
def kPar (i j : Nat) (env : XEnv) : Res (List D) → Out
  | .ok [d, e] => .next ((env.set i (some (.sh, d))).set j (some (.sh, e)))
  | .ok _ => .bad
  | .exc n => .exc n env
  | .bad => .bad
@[simp] theorem e_Par (j : Nat) : xPar i j fs env = kPar i j env (fs env) := rfl
@[simp] theorem kPar_ok (j : Nat) : kPar i j env (.ok [d, e]) = .next ((env.set i (some (.sh, d))).set j (some (.sh, e))) := rfl
end
theorem p_EqNil {xs : List D} {o o2 : Ow} {b b2 : Bool} (h : xs.all (D.fine 5) = true) : pEq ⟨o, b, .lst xs⟩ ⟨o2, b2, .lst []⟩ = .ok (.sh (.bl xs.isEmpty)) := by
  rw [p_EqLL, fine_l, fine_l, h]
  cases xs <;> rfl
theorem p_NeNil {xs : List D} {o o2 : Ow} {b b2 : Bool} (h : xs.all (D.fine 5) = true) : pNe ⟨o, b, .lst xs⟩ ⟨o2, b2, .lst []⟩ = .ok (.sh (.bl (!xs.isEmpty))) := by
  rw [p_NeLL, fine_l, fine_l, h]
  cases xs <;> rfl
@[simp] theorem e_IRevR (f : XE) (env : XEnv) : xIRevR f env = (f env).bind fun a => match a.d with
  | .int n => if n ≤ 100000 ∧ -100000 ≤ n then .ok (rangeD n).reverse else .bad
  | _ => .bad := rfl
@[simp] theorem e_ListR (f : XE) (env : XEnv) : xListR f env = (f env).bind fun a => match a.d with
  | .int n => if n ≤ 100000 ∧ -100000 ≤ n then .ok ⟨.li .sh, false, .lst (rangeD n)⟩ else .bad
  | _ => .bad := rfl
def kTry (pk : Nat → Option Bool) (hd : XS) : Out → Out
  | .exc k e => match pk k with
    | some true => noExc (hd e)
    | some false => .exc k e
    | none => .bad
  | o => o
@[simp] theorem e_Try (pk : Nat → Option Bool) (bd hd : XS) (env : XEnv) : xTry pk bd hd env = kTry pk hd (bd env) := by
  unfold xTry
  cases bd env <;> rfl
@[simp] theorem kTry_next (pk : Nat → Option Bool) (hd : XS) (env : XEnv) : kTry pk hd (.next env) = .next env := rfl
theorem kTry_exc (pk : Nat → Option Bool) (hd : XS) (k : Nat) (env : XEnv) (h : pk k = some true) : kTry pk hd (.exc k env) = noExc (hd env) := by
  show (match pk k with
    | some true => noExc (hd env)
    | some false => .exc k env
    | none => .bad) = _
  rw [h]
@[simp] theorem noExc_ret (r : Val) : noExc (.ret r) = .ret r := rfl
@[simp] theorem noExc_next (env : XEnv) : noExc (.next env) = .next env := rfl
mutual
theorem eqvL_refl (n : Nat) : ∀ xs : List D, xs.all (D.fine n) = true → eqvL (D.eqv n) xs xs = true
  | [], _ => rfl
  | x :: xs, h => by
    rw [List.all_cons, Bool.and_eq_true] at h
    rw [eqvL_cons, eqv_refl n x h.1, eqvL_refl n xs h.2]
    rfl
theorem eqv_refl : ∀ (n : Nat) (d : D), d.fine n = true → D.eqv n d d = true
  | n, .non, _ => by simp
  | n, .bl b, _ => by simp
  | n, .int i, _ => by simp
  | n, .str x, _ => by simp
  | n + 1, .lst xs, h => eqvL_refl n xs h
  | n + 1, .tup xs, h => eqvL_refl n xs h
  | 0, .lst xs, h => by simp [D.fine] at h
  | 0, .tup xs, h => by simp [D.fine] at h
  | n, .obj xs, h => by cases n <;> simp [D.fine] at h
  | n, .dic ks xs, h => by cases n <;> simp [D.fine] at h
  | n, .fz xs, h => by cases n <;> simp [D.fine] at h
  | n, .exn k, h => by cases n <;> simp [D.fine] at h
end
theorem p_NeSelf {xs : List D} {o o2 : Ow} {b b2 : Bool} (h : xs.all (D.fine 5) = true) : pNe ⟨o, b, .lst xs⟩ ⟨o2, b2, .lst xs⟩ = .ok (.sh (.bl false)) := by
  rw [p_NeLL, fine_l, h, eqv_ll, eqvL_refl 5 xs h]
  rfl
theorem p_EqSelf {xs : List D} {o o2 : Ow} {b b2 : Bool} (h : xs.all (D.fine 5) = true) : pEq ⟨o, b, .lst xs⟩ ⟨o2, b2, .lst xs⟩ = .ok (.sh (.bl true)) := by
  rw [p_EqLL, fine_l, h, eqv_ll, eqvL_refl 5 xs h]
  rfl
theorem cut_nat {α : Type} (xs : List α) (k : Nat) : cut xs none (some (k : Int)) = xs.take k := by
  unfold cut
  have e1 : HT.sIx xs.length 0 none = 0 := rfl
  rw [e1, HT.sIx_nat, List.drop_zero, Nat.sub_zero]
  rcases Nat.le_total k xs.length with h | h
  · rw [Nat.min_eq_left h]
  · rw [Nat.min_eq_right h, List.take_of_length_le h, List.take_of_length_le (Nat.le_refl _)]
@[simp] theorem e_Pop (i : Nat) (env : XEnv) : xPop i env = match env[i]? with
  | some (some (.li .sh, .lst xs)) => if xs = [] then .bad else .next (env.set i (some (.li .sh, .lst xs.dropLast)))
  | _ => .bad := rfl
/-! ### a list written into by a def -/
def kRetE (env : XEnv) : Res Val → Out
  | .ok a => if a.d.isSc = true then .rete a.d env else .bad
  | .exc n => .exc n env
  | .bad => .bad
@[simp] theorem e_RetE (f : XE) (env : XEnv) : xRetE f env = kRetE env (f env) := rfl
@[simp] theorem kRetE_bl (env : XEnv) (o : Ow) (b p : Bool) : kRetE env (.ok ⟨o, b, .bl p⟩) = .rete (.bl p) env := rfl
@[simp] theorem then_rete (d : D) (env : XEnv) (t : XS) : (Out.rete d env).andThen t = .rete d env := rfl
@[simp] theorem e_SetIO (i : Nat) (k f : XE) (env : XEnv) : xSetIO i k f env = match env[i]? with
  | some (some (.io, .lst xs)) => match f env with
    | .ok a => if a.b = true then .bad else match k env with
      | .ok k => match k.d with
        | .int n => match ixN xs.length n with
          | some j => .next (env.set i (some (.io, .lst (xs.set j a.d))))
          | none => .bad
        | _ => .bad
      | .exc n => .exc n env
      | .bad => .bad
    | .exc n => .exc n env
    | .bad => .bad
  | _ => .bad := rfl
def kFunIO : Out → Res (D × List D)
  | .rete d env => ioRes d (env[0]?)
  | _ => .bad
@[simp] theorem e_FunIO (n N : Nat) (body : XS) (xs ds : List D) : xFunIO n N body xs ds = if ds.length = n then kFunIO (body (some (.io, .lst xs) :: (ds.map (fun d => some (Ow.sh, d)) ++ List.replicate (N - (n + 1)) none))) else .bad := rfl
@[simp] theorem kFunIO_rete (d : D) (ys : List D) (r : XEnv) : kFunIO (.rete d (some (.io, .lst ys) :: r)) = .ok (d, ys) := rfl
def kIfIO (i : Nat) (F : XIO) (fs : XA) (th : XS) (env : XEnv) : Res Bool → Out
  | .ok b => if b = true then th env else match env[i]? with
    | some (some (.li .sh, .lst xs)) => match fs env with
      | .ok ds => match F xs ds with
        | .ok (.bl r, ys) => if r = true then .next (env.set i (some (.li .sh, .lst ys))) else th (env.set i (some (.li .sh, .lst ys)))
        | _ => .bad
      | _ => .bad
    | _ => .bad
  | .exc n => .exc n env
  | .bad => .bad
@[simp] theorem e_IfIO (ta : XB) (i : Nat) (F : XIO) (fs : XA) (th : XS) (env : XEnv) : xIfIO ta i F fs th env = kIfIO i F fs th env (ta env) := rfl
@[simp] theorem kIfIO_f (i : Nat) (F : XIO) (fs : XA) (th : XS) (env : XEnv) : kIfIO i F fs th env (.ok false) = match env[i]? with
    | some (some (.li .sh, .lst xs)) => match fs env with
      | .ok ds => match F xs ds with
        | .ok (.bl r, ys) => if r = true then .next (env.set i (some (.li .sh, .lst ys))) else th (env.set i (some (.li .sh, .lst ys)))
        | _ => .bad
      | _ => .bad
    | _ => .bad := rfl
theorem for_io {tg : Tg} {bd t : XS} {α : Type} {ds : List D} {env : XEnv} {enc : α → D} {R : Res (D × List D)} (xs : List α) (P : Nat → XEnv → Prop) (hd : ds = xs.map enc) (h0 : P 0 env)
    (hs : ∀ i x env, xs[i]? = some x → P i env → ∃ e2, stepO tg bd (enc x) env = .next e2 ∧ P (i + 1) e2) (ht : ∀ e2, P xs.length e2 → kFunIO (t e2) = R) : kFunIO ((forGo tg bd ds env).andThen t) = R := by
  obtain ⟨e2, h1, h2⟩ := for_nx xs P hd h0 hs
  rw [h1]
  exact ht e2 h2
end Bk
set_option Elab.async false
set_option linter.all false
set_option maxRecDepth 100000
set_option maxHeartbeats 4000000
/-! BkS: texts: split, join, signs, str(n), int(text). -/
namespace Bk
open PySem L2 PySem.Spec PyProof.Rows
def xM1 (g : Str → Val → Res Val) (f h : XE) : XE := fun env => (f env).bind fun a => match a.d with
  | .str x => (h env).bind (g x)
  | _ => .bad
def M1 (c : Ct) (r : V → List V → Hp → VK → Prop) (g : Str → Val → Res Val) : Prop := ∀ (W : WX) sg F H x y b Q, Ex F H → Rw c F H y b → Aft c W sg F H Q (g x b) → r (.str x) [y] H Q
section
variable {J : Jx} {c : Ct} {W : WX} {F0 H0 : Hp} {X : Cx} {pos : Pos} {a b e o tg : Expr} {f h : XE} {g : Str → Val → Res Val} {r : V → List V → Hp → VK → Prop}
theorem tX_m1 (hg : M1 c r g) {sg : L2.St} {H : Hp} {Q : VK} (hq : tX c W F0 H0 (xM1 g f h) sg H Q) : tM1 r (tX c W F0 H0 f) (tX c W F0 H0 h) sg H Q := by
  obtain ⟨F, env, si, hq⟩ := hq
  refine ⟨F, env, si, (aft_bind hq).mono fun x H1 ⟨F1, va, w1, r1, hq1⟩ => ?_⟩
  have rr := r1.rep w1.fh
  obtain ⟨oa, ba, da⟩ := va
  cases da with
  | str z =>
    cases rr
    refine ⟨⟨_, rfl⟩, F1, env, si.grow w1, (aft_bind (show Aft c W sg F1 H1 Q ((h env).bind (g z)) from hq1)).mono fun y H2 ⟨F2, vb, w2, r2, hq2⟩ => ?_⟩
    exact hg W sg F2 H2 z y vb Q w2.fh r2.rw hq2
  | _ => exact (show False from hq1).elim
def gSplit (x : Str) (b : Val) : Res Val := match b.d with
  | .str y => if (y.length == 0) = false ∧ x.length ≤ 99998 then .ok ⟨.li .sh, false, .lst ((Txt.split x y).map .str)⟩ else .bad
  | _ => .bad
theorem reps_strs {c : Ct} {F : Hp} : ∀ ys : List Str, Reps c F (ys.map V.str) (ys.map D.str)
  | [] => .nil
  | y :: ys => .cons .str (reps_strs ys)
theorem m1_split : M1 c (fun x xs H Q => ∃ a b, x = .str a ∧ xs = [.str b] ∧ (b.length == 0) = false ∧ a.length + 2 ≤ sizeLine ∧ rNewStrs (Txt.split a b) H Q) gSplit := by
  intro W sg F H x y b Q e rb h
  obtain ⟨ob, bb, db⟩ := b
  have rr := rb.rep e
  cases db with
  | str z =>
    cases rr
    replace h : Aft c W sg F H Q (if (z.length == 0) = false ∧ x.length ≤ 99998 then .ok ⟨.li .sh, false, .lst ((Txt.split x z).map .str)⟩ else .bad) := h
    by_cases q : (z.length == 0) = false ∧ x.length ≤ 99998
    · rw [if_pos q] at h
      refine ⟨x, z, rfl, rfl, q.1, ?_, fun p hp => Aft.newL e hp (reps_strs _) h⟩
      have := q.2
      have hz : 100000 ≤ sizeLine := by decide
      omega
    · rw [if_neg q] at h
      exact h.elim
  | _ => exact (show False from h).elim
theorem se_split {apos : Pos} (ho : SE J o f) (he : SE J e h) (hs : starEach [e] J.X.env = [(false, eval e J.X.env)] := by rfl) (hbase : attributeBase o "split" J.X.env (eval o J.X.env) = eval o J.X.env := by rfl) (hline : (apos.endLine == pos.line) = true := by rfl) :
    SE J (.Call (.Attribute o "split" apos) [e] [] pos) (xM1 gSplit f h) := (pe_split ho he hs hbase hline).imp fun _ _ _ q => tX_m1 m1_split q
def D.strs : List D → Option (List Str)
  | [] => some []
  | .str i :: r => (D.strs r).map (i :: ·)
  | _ => none
theorem strs_reps {c : Ct} {F : Hp} : ∀ {vs : List V} {xs : List D} {ns : List Str}, Reps c F vs xs → D.strs xs = some ns → vs = ns.map V.str
  | _, _, ns, .nil, h => by
    cases Option.some.inj h
    rfl
  | _, _, ns, .cons (d := d) h r, e => by
    cases h with
    | @str i =>
      rw [D.strs] at e
      rename_i vs ds
      cases q : D.strs ds with
      | none =>
        rw [q] at e
        cases e
      | some ms =>
        rw [q] at e
        cases Option.some.inj e
        rw [strs_reps r q]
        rfl
    | _ => cases e
theorem strs_map (ys : List Str) : D.strs (ys.map .str) = some ys := by
  induction ys with
  | nil => rfl
  | cons y ys ih =>
    rw [List.map_cons, D.strs, ih]
    rfl
def gJoin (x : Str) (b : Val) : Res Val := match b.its with
  | some xs => match D.strs xs with
    | some ys => if (ys.map (·.length)).sum + ys.length * x.length ≤ 100000 then .ok (.sh (.str (Txt.join x ys))) else .bad
    | none => .bad
  | none => .bad
theorem m1_join {K : PySem.W.Frag} : M1 c (fun x xs H Q => ∃ a p, ∃ ys : List Str, x = .str a ∧ xs = [.ref p] ∧ (SqL K H p (ys.map V.str) ∨ SqT K H p (ys.map V.str)) ∧
      (ys.map (·.length)).sum + ys.length * a.length ≤ 16777216 ∧ Q (.str (Txt.join a ys)) H) gJoin := by
  intro W sg F H x y b Q e rb h
  unfold gJoin at h
  cases hi : b.its with
  | none => rw [hi] at h; exact h.elim
  | some xs =>
    rw [hi] at h
    replace h : Aft c W sg F H Q (match D.strs xs with
      | some ys => if (ys.map (·.length)).sum + ys.length * x.length ≤ 100000 then .ok (.sh (.str (Txt.join x ys))) else .bad
      | none => .bad) := h
    cases hs : D.strs xs with
    | none => rw [hs] at h; exact h.elim
    | some ys =>
      rw [hs] at h
      replace h : Aft c W sg F H Q (if (ys.map (·.length)).sum + ys.length * x.length ≤ 100000 then .ok (.sh (.str (Txt.join x ys))) else .bad) := h
      by_cases q : (ys.map (·.length)).sum + ys.length * x.length ≤ 100000
      · rw [if_pos q] at h
        obtain ⟨_, p, vs, rfl, hp, rr⟩ := rb.items e hi
        rw [strs_reps rr hs] at hp
        exact ⟨x, p, ys, rfl, rfl, .inl (.inl (.inl hp)), by omega, Aft.now e .str h⟩
      · rw [if_neg q] at h
        exact h.elim
theorem se_join {apos : Pos} (ho : SE J o f) (he : SE J e h) (hs : starEach [e] J.X.env = [(false, eval e J.X.env)] := by rfl) (hbase : attributeBase o "join" J.X.env (eval o J.X.env) = eval o J.X.env := by rfl) (hline : (apos.endLine == pos.line) = true := by rfl) :
    SE J (.Call (.Attribute o "join" apos) [e] [] pos) (xM1 gJoin f h) := (pe_join ho he hs hbase hline).imp fun _ _ _ q => tX_m1 m1_join q
/-- the signs of a text -/
def signsD (x : Str) : List D := x.cps.toList.map fun k => D.str ⟨#[k]⟩
def xIStr (f : XE) : XI := fun env => (f env).bind fun a => match a.d with
  | .str x => .ok (signsD x)
  | _ => .bad
theorem itOk_str (x : Str) {F : Hp} : ItOk c (Its x) F (signsD x) := fun i H e => by
  refine ⟨fun d hd => ?_, fun hi => ?_⟩
  · unfold signsD at hd
    rw [List.getElem?_map] at hd
    cases q : x.cps.toList[i]? with
    | none => rw [q] at hd; cases hd
    | some k =>
      rw [q] at hd
      cases hd
      have hi : i < x.cps.size := by
        have := (List.getElem?_eq_some_iff.mp q).1
        rw [Array.length_toList] at this
        exact this
      refine ⟨hi, fun y H' z => ⟨z.1, ?_⟩⟩
      obtain ⟨k2, h1, h2⟩ := z.2
      rw [Array.getElem?_toList, h1] at q
      cases q
      rw [h2]
      exact .str
  · show x.cps.size ≤ i
    rw [hi]
    unfold signsD
    rw [List.length_map, Array.length_toList]
    exact Nat.le_refl _
theorem si_str (ha : SE J e f) : SI J tg e (xIStr f) := (pi_str ha).imp fun sg H R ⟨F, env, si, hq⟩ => ⟨F, env, si, (aft_bindI hq).mono fun x H1 ⟨F1, va, w1, r1, hq1⟩ => by
  have rr := r1.rep w1.fh
  obtain ⟨o, bb, d⟩ := va
  cases d with
  | str z =>
    cases rr
    exact ⟨z, rfl, hq1 F1 H1 _ w1 (itOk_str z)⟩
  | _ => exact (show False from hq1).elim⟩
def pInS (neg : Bool) (a b : Val) : Res Val := match a.d, b.d with
  | .str x, .str z => match x.cps.toList with
    | [k] => .ok (.sh (.bl (if neg = true then !decide (k ∈ z.cps.toList) else decide (k ∈ z.cps.toList))))
    | _ => .bad
  | _, _ => .bad
theorem v2_notInS : V2 c (fun x y H Q => ∃ (k : Nat) (z : Str), x = .str ⟨#[k]⟩ ∧ y = .str z ∧ Q (.bl (!decide (k ∈ z.cps.toList))) H) (pInS true) := by
  intro W sg F H x y a b Q e ra rb h
  obtain ⟨oa, ba, da⟩ := a
  obtain ⟨ob, bb, db⟩ := b
  have ra' := ra.rep e
  have rb' := rb.rep e
  cases da with
  | str x =>
    cases db with
    | str z =>
      cases ra'
      cases rb'
      obtain ⟨⟨l⟩⟩ := x
      match l, h with
      | [k], h => exact ⟨k, z, rfl, rfl, Aft.now e .bl h⟩
    | _ => exact (show False from h).elim
  | _ => exact (show False from h).elim
/-- str(n) -/
def pStr (rs : List Val) : Res Val := match rs with
  | [a] => match a.d with
    | .int i => if i.natAbs.log2 < 1920 then .ok (.sh (.str (toString i))) else .bad
    | _ => .bad
  | _ => .bad
theorem vn_str : VN c (fun xs H Q => ∃ i, xs = [.int i] ∧ i.natAbs.log2 < 1920 ∧ Q (.str (toString i)) H) pStr := by
  intro W sg F H us rs Q e hr h
  unfold pStr at h
  cases hr with
  | nil => exact h.elim
  | @cons u r us rs h1 h2 =>
    cases h2 with
    | cons _ _ => exact h.elim
    | nil =>
      dsimp only at h
      cases hd : r.d with
      | int i =>
        rw [hd] at h
        rw [h1.dint e hd]
        replace h : Aft c W sg F H Q (if i.natAbs.log2 < 1920 then .ok (.sh (.str (toString i))) else .bad) := h
        by_cases q : i.natAbs.log2 < 1920
        · rw [if_pos q] at h
          exact ⟨i, rfl, q, Aft.now e .str h⟩
        · rw [if_neg q] at h
          exact h.elim
      | _ => rw [hd] at h; exact h.elim
/-- int(text) -/
def pIntS (rs : List Val) : Res Val := match rs with
  | [a] => match a.d with
    | .str x => if x.length ≤ 640 then match PySem.intText? x with
        | some n => .ok (.sh (.int n))
        | none => .bad
      else .bad
    | _ => .bad
  | _ => .bad
theorem vn_intS : VN c (fun xs H Q => ∃ a n, xs = [.str a] ∧ PySem.intText? a = some n ∧ a.length ≤ 640 ∧ Q (.int n) H) pIntS := by
  intro W sg F H us rs Q e hr h
  unfold pIntS at h
  cases hr with
  | nil => exact h.elim
  | @cons u r us rs h1 h2 =>
    cases h2 with
    | cons _ _ => exact h.elim
    | nil =>
      dsimp only at h
      cases hd : r.d with
      | str x =>
        rw [hd] at h
        rw [h1.dstr e hd]
        replace h : Aft c W sg F H Q (if x.length ≤ 640 then match PySem.intText? x with
          | some n => .ok (.sh (.int n))
          | none => .bad
          else .bad) := h
        by_cases q : x.length ≤ 640
        · rw [if_pos q] at h
          cases hi : PySem.intText? x with
          | none => rw [hi] at h; exact h.elim
          | some n =>
            rw [hi] at h
            exact ⟨x, n, rfl, hi, q, Aft.now e .int h⟩
        · rw [if_neg q] at h
          exact h.elim
      | _ => rw [hd] at h; exact h.elim
end
end Bk
set_option Elab.async false
set_option linter.all false
set_option maxRecDepth 100000
set_option maxHeartbeats 4000000
/-! BkU: sorted(set(xs)) of ints, however many. -/
namespace Bk
open PySem L2 PySem.Spec PyProof.Rows
section
variable {P : Program} {w : World} {A : Around} {E : Value → Shared → Prop} {s : Shared}
/-- an empty set, as it is made -/
abbrev set0 (w : World) : Obj := { cls := .type "set", dict := none, data := .set #[] 0 (.fresh 0 0 (!w.params.followText "set-order")) }
/-- what stands behind set(xs) -/
def SetMade (w : World) (h0 h' : Heap) (ns : List Int) (c : Nat) : Prop := SetR w h' h0.objs.size (fun j => decide (j ∈ ns)) c ∧ c ≤ ns.length ∧ ∀ b o, h0.get? b = some o → h'.get? b = some o
theorem set_init {l : Addr} {xs : Array Value} {ns : List Int} (quiet : A.handled = none) (isl : s.heap.IsList l xs) (are : IntsAre xs.toList ns) (few : ns.length + 1 < scanBound) :
    codeAny (model P w) A (.call (.builtin "set.__init__") ⟨[.ref s.heap.objs.size, .ref l], []⟩) (wants (fun r z => r = .none ∧ ∃ h' tk c, z = { s with heap := h', toks := tk } ∧ SetMade w s.heap h' ns c) E) { s with heap := s.heap.push (set0 w) } := by
  have size_eq : xs.size = ns.length := by
    rw [← Array.length_toList]
    exact are.length
  have at0 : (s.heap.push (set0 w)).get? s.heap.objs.size = some (set0 w) := Heap.get?_push_size _ rfl
  have ty0 : Shared.TypeIs { s with heap := s.heap.push (set0 w) } (.ref s.heap.objs.size) "set" := ⟨_, at0, rfl⟩
  refine codeAny_call_builtin F.called_set.init.plain F.entry_set_init (check_set_init_1 ty0 ?_)
  obtain ⟨⟨oc, od, oda, os⟩, got, rfl, nl, rfl⟩ := isl
  have got1 : (s.heap.push (set0 w)).get? l = some ⟨.type "list", od, .seq xs nl, os⟩ := Heap.get?_push_of_some _ got
  have f1 := F.sub_list_set
  have f2 := F.sub_list_frozenset
  have f3 : (Value.type "list" == Value.type "dict") = false := by decide
  have isl1 : (s.heap.push (set0 w)).IsList l xs := ⟨_, got1, rfl, nl, rfl⟩
  unfold Builtin.«set.__init__» noKeywords Builtin.Frozenset.updateFrom
  generalize nm : pyIter = PI
  wp_walk
  subst nm
  refine wpAny_pyIter_list isl1 (wpAny_bind (wpAny_runValue ?_))
  have lt : l < s.heap.objs.size := Heap.lt_size got
  have sz : (s.heap.push (set0 w)).objs.size = s.heap.objs.size + 1 := Heap.size_push ..
  have ne1 : l ≠ (s.heap.push (set0 w)).objs.size := by
    rw [sz]
    exact Nat.ne_of_lt (Nat.lt_succ_of_lt lt)
  have nin : s.heap.objs.size ∉ [(s.heap.push (set0 w)).objs.size, l] := by
    intro z
    rw [sz] at z
    rcases List.mem_cons.mp z with e | e
    · exact absurd e (Nat.ne_of_lt (Nat.lt_succ_self _))
    · exact absurd (List.mem_singleton.mp e).symm (Nat.ne_of_lt lt)
  have vals : ∀ (i : Nat) (v : Value), xs[i]? = some v → ∃ k t, ns[i]? = some k ∧ v = .int k t := fun i v hv => by
    have lti : i < ns.length := size_eq ▸ (Array.getElem?_eq_some_iff.mp hv).1
    obtain ⟨t, e⟩ := are.int_at i v ((Array.getElem?_toList).trans hv)
    exact ⟨ns[i], t, List.getElem?_eq_getElem lti, by rw [e, List.getD_eq_getElem?_getD, List.getElem?_eq_getElem lti]; rfl⟩
  have q3 : A.in1.in1.handled = none := by simp [quiet]
  refine set_update_ints ((Walks.list q3 _ l ne1 xs).toS) s.heap.objs.size nin ns size_eq few vals (xs.size - 0) 0 _ (by omega) (Nat.zero_le _) ⟨⟨_, Heap.get?_push_size _ rfl, rfl, rfl⟩, isl1.push _⟩ ?first ?rest
  case first => exact ⟨0, Nat.le_refl 0, setR_new_at (Heap.get?_push_of_some _ at0)⟩
  case rest =>
    rintro ⟨h', g2, d', tk', os'⟩ c' mv small made
    obtain rfl : g2 = s.gens := mv.gens
    obtain rfl : d' = s.drawn := mv.drawn
    obtain rfl : os' = s.os := mv.os
    refine wpAny_pure ?_
    refine wpAny_pure ⟨rfl, h', tk', c', rfl, made, size_eq ▸ small, fun b o e => ?_⟩
    have ltb : b < s.heap.objs.size := Heap.lt_size e
    refine mv.heap b o (fun z => ?_) (Heap.get?_push_of_some _ (Heap.get?_push_of_some _ e))
    rcases List.mem_cons.mp z with e2 | e2
    · exact absurd e2 (Nat.ne_of_lt ltb)
    · have e3 := List.mem_singleton.mp e2
      rw [sz] at e3
      exact absurd e3 (Nat.ne_of_lt (Nat.lt_succ_of_lt ltb))
/-- set(xs) -/
theorem set_call {l : Addr} {xs : Array Value} {ns : List Int} {Q : Value → Shared → Prop} (quiet : A.handled = none) (isl : s.heap.IsList l xs) (are : IntsAre xs.toList ns) (few : ns.length + 1 < scanBound)
    (go : ∀ (h' : Heap) (tk c : Nat), SetMade w s.heap h' ns c → Q (.ref s.heap.objs.size) { s with heap := h', toks := tk }) : wpAny (model P w) A (call (.type "set") [.ref l]) Q E s := by
  obtain ⟨mc, mt, mro⟩ := F.called_set.mro
  have made := F.called_set.made
  have subs := F.called_set.sub
  refine wpAny_call (codeAny_of_tree ?_)
  show wpAny _ _ (callAny (.type "set") _) _ _ _
  refine wpAny_pure ⟨Code.quiet_builtin _ (by decide +kernel), codeAny_builtin F.entry_type_call ?_⟩
  rw [Around.under_plain (weight_type_call_type "set" [.ref l] []) rfl]
  have k1 := F.called_set.notType
  have k2 := F.called_set.canCreate
  have k3 := F.typeCall_set_1 (.ref l)
  repeat (any_goals (first | assumption | wp_step))
  refine codeAny_mono (code_set_led1 (.ref l) (E := E) (Q₁ := fun o z => o = .ref s.heap.objs.size ∧ z = { s with heap := s.heap.push (set0 w) }) ⟨rfl, rfl⟩) fun r z hr => ?_
  cases r with
  | error e => exact hr
  | ok fl =>
    cases fl with
    | ret o =>
      obtain ⟨rfl, rfl⟩ := hr
      have ty0 : Shared.TypeIs { s with heap := s.heap.push (set0 w) } (.ref s.heap.objs.size) "set" := ⟨_, Heap.get?_push_size _ rfl, rfl⟩
      have k4 := F.called_set.init.lookup
      have k5 := F.called_set.init.bind (.ref s.heap.objs.size)
      repeat (any_goals (first | assumption | wp_step))
      refine codeAny_mono (set_init (E := E) (by simp [quiet]) isl are few) fun r2 z2 hr2 => ?_
      cases r2 with
      | error e => exact hr2
      | ok fl2 =>
        cases fl2 with
        | ret r =>
          obtain ⟨rfl, h', tk, c, rfl, hm⟩ := hr2
          repeat (any_goals (first | assumption | wp_step))
          exact go _ _ _ hm
        | _ => exact hr2.elim
    | _ => exact hr.elim
/-- sorted(a set), however large -/
theorem set_sort {a : Addr} {S : Int → Bool} {n : Nat} {Q : Value → Shared → Prop} (R : SetR w s.heap a S n) (quiet : A.handled = none)
    (go : ∀ (z : Shared) (p : Addr) (out : Array Value) (c : Nat) (ns : List Int), (∀ b o, s.heap.get? b = some o → z.heap.get? b = some o) → z.gens = s.gens → z.os = s.os → s.heap.objs.size ≤ p → z.heap.get? p = some (seqObj "list" out c) →
      IntsAre out.toList ns → ns.Pairwise (· < ·) → (∀ k, k ∈ ns ↔ S k = true) → ns.length ≤ n → Q (.ref p) z) : wpAny (model P w) A (call (.builtin "sorted") [.ref a]) Q E s := by
  obtain ⟨o, es, ep, t, got, exact_, dat, good, nd, mem, few, fits, hn, ris, led⟩ := R
  refine Calls.call_function_entry kind_sorted plain_sorted entry_sorted (args_sorted1 _) ?_
  unfold Builtin.«sorted»
  refine wpAny_bind (m := checkCount "sorted" 1 1 _) (wpAny_pure (wpAny_bind (collect_set (A := A.in1) quiet ⟨o, got, exact_.1, dat⟩ fits few ris led fun z1 vs keep big g1 o1 perm => ?_)))
  have len : vs.length = es.size := by rw [perm.length_eq, List.length_map, Array.length_toList]
  have allI : ∀ v ∈ vs, ∃ k tk, v = Value.int k tk := fun v hv => by
    obtain ⟨e, he, q⟩ := List.mem_map.mp (perm.mem_iff.mp hv)
    obtain ⟨k, tk, h1, _⟩ := good e he
    exact ⟨k, tk, q.symm.trans h1⟩
  have are := SrtO.ints_iv allI
  have keys : (vs.map SrtO.iv).Perm (es.toList.map keyOf) := by
    have q := perm.map SrtO.iv
    rw [List.map_map] at q
    exact q
  have fit : vs.length ≤ sizeLine := by
    rw [len]
    exact fits_of_scanBound few
  refine wpAny_bind (wpAny_newList ?_ fit)
  have at1 : (z1.heap.push (seqObj "list" vs.toArray 0)).get? z1.heap.objs.size = some (seqObj "list" vs.toArray 0) := Heap.get?_push_size _ rfl
  refine wpAny_bind (wpAny_holding (wpAny_call_entry slot_list_sort ⟨_, at1, rfl⟩ entry_list_sort (SrtO.list_sort_ord SrtO.swo_int at1 fit (fun h2 => SrtO.ints_sortable are h2) fun out h1 h2 => ⟨_, rfl, ?_⟩) (args_list_sort _)))
  obtain ⟨k1, k2, k3⟩ := SrtO.ints_out are h1 h2
  obtain ⟨c, at2⟩ := sortedHeap_at (vs := vs) (out := out.toArray) at1
  have k4 := k2.trans keys
  refine wpAny_pure ⟨_, rfl, go _ z1.heap.objs.size out.toArray c (out.map SrtO.iv) (fun b u e => ?_) g1 o1 big at2 k1 (lt_of_le_nodup _ k3 (k4.nodup_iff.mpr nd)) (fun k => by rw [k4.mem_iff, ← mem k]) ?_⟩
  · have q := keep b u e
    have lt := Heap.lt_size q
    refine (sortedHeap_old (Nat.ne_of_lt lt) ?_).trans (Heap.get?_push_of_some _ q)
    rw [size_push']
    exact Nat.lt_succ_of_lt lt
  · rw [k4.length_eq, List.length_map, Array.length_toList]
    exact Nat.le_of_eq hn
end
section
variable {X : Cx}
/-- set(xs) of ints -/
def rSetOfI (K : PySem.W.Frag) (w : World) : List V → Hp → VK → Prop := fun vs H Q => ∃ (a : Addr) (ns : List Int), vs = [.ref a] ∧ SqL K H a (ns.map V.int) ∧ ns.length ≤ 4000 ∧ ∀ p c, H p = none → c ≤ ns.length → Q (.ref p) (upd H p (SetO w p (fun j => decide (j ∈ ns)) c))
theorem cr_setOfI (hc : X.calm = true) : CallR X (.type "set") (rSetOfI X.K X.w) := by
  intro pins s σ H vs us Q I r h
  obtain ⟨a, ns, rfl, hs, hl, q⟩ := h
  obtain ⟨its, rv, il, hz⟩ := I.list hs
  rw [Vals.ref1 r]
  refine set_call (I.ok.hd hc) il.isList rv.ints (by unfold scanBound; omega) fun h' tk c hm => ?_
  have fresh : H s.heap.objs.size = none := I.hok.fresh (Nat.le_refl _)
  exact ⟨.ref _, upd H s.heap.objs.size (SetO X.w s.heap.objs.size (fun j => decide (j ∈ ns)) c), I.laid (t' := tk) hm.2.2 (Nat.le_refl _) (setO_new hm.1), rfl, q _ c fresh hm.2.1⟩
/-- sorted(a set) -/
def rSortedSetA (w : World) : List V → Hp → VK → Prop := fun vs H Q => ∃ (a : Addr) (S : Int → Bool) (n : Nat), vs = [V.ref a] ∧ H a = some (SetO w a S n) ∧ n ≤ 4000 ∧
  ∀ (ns : List Int) (p : Addr), ns.Pairwise (· < ·) → (∀ k : Int, k ∈ ns ↔ S k = true) → H p = none → Q (.ref p) (upd H p (.lst (ns.map V.int)))
theorem cr_sortedSetA (hc : X.calm = true) : CallR X (.builtin "sorted") (rSortedSetA X.w) := by
  intro pins s σ H vs us Q I r h
  obtain ⟨a, S, n, rfl, ha, hn, q⟩ := h
  rw [Vals.ref1 r]
  refine set_sort (setO_get I ha) (I.ok.hd hc) fun z p out c ns keep g o hp at_ are lt mem len => ?_
  have fit : (ns.map V.int).length ≤ sizeLine := by
    rw [List.length_map, sizeLine_eq]
    omega
  have none_ : H p = none := I.hok.fresh hp
  have J : Inv X pins σ (upd H p (.lst (ns.map V.int))) { s with heap := z.heap, gens := z.gens, drawn := z.drawn, toks := z.toks } :=
    I.call (ch := []) (Un.laid keep hp none_) (I.hok.laid keep hp ⟨fit, out.toList, c, vals_of_ints are, at_⟩) (g ▸ I.bare) (fun _ q => nomatch q)
  have e : z = { s with heap := z.heap, gens := z.gens, drawn := z.drawn, toks := z.toks } := by
    cases z
    cases o
    rfl
  rw [e]
  exact ⟨.ref p, _, J, rfl, q ns p lt mem none_⟩
end
end Bk
set_option Elab.async false
set_option linter.all false
set_option maxRecDepth 100000
set_option maxHeartbeats 4000000
/-! BkX: sorted(set(xs)) over plain data; dicts by whole numbers. -/
namespace Bk
open PySem L2 PySem.Spec PyProof.Rows
/-- each once -/
def once : List Int → List Int
  | [] => []
  | x :: xs => if x ∈ xs then once xs else x :: once xs
theorem mem_once {x : Int} : ∀ {xs : List Int}, x ∈ once xs ↔ x ∈ xs
  | [] => Iff.rfl
  | y :: xs => by
    unfold once
    have ih := mem_once (x := x) (xs := xs)
    split
    · rename_i h
      rw [ih, List.mem_cons]
      exact ⟨.inr, fun z => z.elim (fun e => e ▸ h) id⟩
    · rw [List.mem_cons, List.mem_cons, ih]
theorem once_nodup : ∀ xs : List Int, (once xs).Nodup
  | [] => .nil
  | y :: xs => by
    unfold once
    split
    · exact once_nodup xs
    · rename_i h
      exact List.nodup_cons.mpr ⟨fun z => h (mem_once.mp z), once_nodup xs⟩
/-- the members, rising -/
def sortU (ns : List Int) : List Int := isort (once ns)
theorem sortU_uniq {ns ms : List Int} (h1 : ms.Pairwise (· < ·)) (h2 : ∀ k, k ∈ ms ↔ k ∈ ns) : ms = sortU ns := by
  refine isort_uniq ?_ (h1.imp fun h => Int.le_of_lt h)
  refine (List.perm_ext_iff_of_nodup (h1.imp fun h e => by omega) (once_nodup ns)).mpr fun k => ?_
  rw [h2, mem_once]
def xSortSet (f : XE) : XE := fun env => (f env).bind fun a => match a.its with
  | some xs => match D.ints xs with
    | some ns => if ns.length ≤ 4000 then .ok ⟨.li .sh, false, .lst ((sortU ns).map .int)⟩ else .bad
    | none => .bad
  | none => .bad
section
variable {J : Jx} {a e i : Expr} {f h k : XE} {p p2 pos pos2 : Pos}
theorem se_sortSet (hc : J.X.calm = true) (hg : Gl J.X "sorted") (hm : J.X.mg "sorted" = none) (hg2 : Gl J.X "set") (hm2 : J.X.mg "set" = none) (ha : SE J a f) (na : starEach [a] J.X.env = (false, eval a J.X.env) :: starEach [] J.X.env := by rfl)
    (hs : starEach [.Call (.Name "set" p2) [a] [] pos2] J.X.env = (false, eval (.Call (.Name "set" p2) [a] [] pos2) J.X.env) :: starEach [] J.X.env := by rfl) (h1 : (backTo pos2 (starEach [] J.X.env)).any (·.1) = false := by rfl) (h2 : (backTo pos (starEach [] J.X.env)).any (·.1) = false := by rfl) :
    SE J (.Call (.Name "sorted" p) [.Call (.Name "set" p2) [a] [] pos2] [] pos) (xSortSet f) :=
  (pe_callB (cr_sortedSetA hc) hg hm (by decide +kernel) (pa_cons (pe_callTy (cr_setOfI hc) hg2 hm2 boot_set (pa_cons ha pa_nil na) (by decide) (by decide) na h1) pa_nil hs) (by decide) (by decide) hs h2).imp fun sg H Q ⟨F, env, si, hq⟩ => ⟨F, env, si, (aft_bind hq).mono fun u H1 ⟨F1, va, w1, r1, hq1⟩ => by
    cases hi : va.its with
    | none => rw [hi] at hq1; exact (show False from hq1).elim
    | some xs =>
      rw [hi] at hq1
      obtain ⟨_, l, vs, rfl, hl, hr⟩ := r1.rw.items w1.fh hi
      replace hq1 : Aft J.c J.W sg F1 H1 Q (match D.ints xs with
        | some ns => if ns.length ≤ 4000 then .ok ⟨.li .sh, false, .lst ((sortU ns).map .int)⟩ else .bad
        | none => .bad) := hq1
      cases hn : D.ints xs with
      | none => rw [hn] at hq1; exact (show False from hq1).elim
      | some ns =>
        rw [hn] at hq1
        replace hq1 : Aft J.c J.W sg F1 H1 Q (if ns.length ≤ 4000 then .ok ⟨.li .sh, false, .lst ((sortU ns).map .int)⟩ else .bad) := hq1
        by_cases hz : ns.length ≤ 4000
        · rw [if_pos hz] at hq1
          rw [ints_reps hr hn] at hl
          refine ⟨l, ns, rfl, .inl (.inl hl), hz, fun q c hq hcn => ?_⟩
          refine ⟨q, _, c, rfl, upd_same, by omega, fun ms r lt mem hr2 => ?_⟩
          have e := sortU_uniq lt (ns := ns) fun k => by rw [mem k, decide_eq_true_eq]
          rw [e]
          exact Aft.newL (w1.fh.trans (Evl.Ex.new hq)) hr2 (reps_ints _) (hq1.grow ((Wd.refl w1.fh).heap (Evl.Ex.new hq)))
        · rw [if_neg hz] at hq1
          exact (show False from hq1).elim⟩
/-! ### dicts -/
def dGet : List Int → List D → Int → Option D
  | k :: ks, x :: xs, n => if k = n then some x else dGet ks xs n
  | _, _, _ => none
def dSet : List Int → List D → Int → D → List D
  | k :: ks, x :: xs, n, d => (if k = n then d else x) :: dSet ks xs n d
  | _, xs, _, _ => xs
def dKeys (ks : List Int) (n : Int) : List Int := if n ∈ ks then ks else ks ++ [n]
def dVals (ks : List Int) (xs : List D) (n : Int) (d : D) : List D := if n ∈ ks then dSet ks xs n d else xs ++ [d]
theorem dGet_put {n m : Int} {d : D} : ∀ {ks : List Int} {xs : List D}, ks.length = xs.length → dGet (dKeys ks n) (dVals ks xs n d) m = if m = n then some d else dGet ks xs m := by
  intro ks xs hl
  unfold dKeys dVals
  by_cases q : n ∈ ks
  · rw [if_pos q, if_pos q]
    induction ks generalizing xs with
    | nil => simp at q
    | cons k ks ih =>
      cases xs with
      | nil => simp at hl
      | cons x xs =>
        have hl2 : ks.length = xs.length := by simpa using hl
        unfold dSet dGet
        by_cases e : k = n
        · subst e
          rw [if_pos rfl]
          by_cases e2 : k = m
          · rw [if_pos e2, if_pos e2.symm]
          · rw [if_neg e2, if_neg (fun z => e2 z.symm)]
            by_cases q2 : k ∈ ks
            · rw [ih hl2 q2, if_neg fun z => e2 z.symm, if_neg e2]
            · rw [if_neg e2]
              clear ih q hl
              induction ks generalizing xs with
              | nil =>
                cases xs with
                | nil => rfl
                | cons _ _ => simp at hl2
              | cons j ks ih2 =>
                cases xs with
                | nil => simp at hl2
                | cons y xs =>
                  unfold dSet dGet
                  have nj : ¬ j = k := fun z => q2 (z ▸ List.mem_cons_self)
                  rw [if_neg nj, ih2 xs (by simpa using hl2) fun z => q2 (List.mem_cons_of_mem _ z)]
        · rw [if_neg e]
          have q2 : n ∈ ks := (List.mem_cons.mp q).resolve_left fun z => e z.symm
          by_cases e2 : k = m
          · subst e2
            rw [if_pos rfl, if_neg e, if_pos rfl]
          · rw [if_neg e2, if_neg e2, ih hl2 q2]
  · rw [if_neg q, if_neg q]
    induction ks generalizing xs with
    | nil =>
      cases xs with
      | nil =>
        show (if n = m then some d else none) = if m = n then some d else none
        by_cases e : m = n
        · rw [if_pos e, if_pos e.symm]
        · rw [if_neg e, if_neg fun z => e z.symm]
      | cons _ _ => simp at hl
    | cons k ks ih =>
      cases xs with
      | nil => simp at hl
      | cons x xs =>
        have q2 : n ∉ ks := fun z => q (List.mem_cons_of_mem _ z)
        have nk : ¬ n = k := fun z => q (z ▸ List.mem_cons_self)
        show (if k = m then some x else dGet (ks ++ [n]) (xs ++ [d]) m) = if m = n then some d else if k = m then some x else dGet ks xs m
        rw [ih (by simpa using hl) q2]
        by_cases e : k = m
        · subst e
          rw [if_pos rfl, if_neg fun z => nk z.symm, if_pos rfl]
        · rw [if_neg e, if_neg e]
theorem dSet_len {n : Int} {d : D} : ∀ {ks : List Int} {xs : List D}, (dSet ks xs n d).length = xs.length
  | [], _ => rfl
  | _ :: _, [] => rfl
  | _ :: ks, _ :: xs => congrArg (· + 1) (dSet_len (ks := ks) (xs := xs))
theorem dPut_len {n : Int} {d : D} {ks : List Int} {xs : List D} (hl : ks.length = xs.length) : (dKeys ks n).length = (dVals ks xs n d).length ∧ (dKeys ks n).length ≤ ks.length + 1 := by
  unfold dKeys dVals
  split
  · rw [dSet_len]
    exact ⟨hl, by omega⟩
  · rw [List.length_append, List.length_append, List.length_singleton, List.length_singleton]
    omega
section
variable {c : Ct} {F H : Hp}
theorem valV_rep {n : Int} : ∀ {kvs : List (Key × V)} {ks : List Int} {xs : List D}, kvs.map (·.1) = ks.map Sum.inl → Reps c F (kvs.map (·.2)) xs → match dGet ks xs n with
    | some d => ∃ v, valV kvs (Sum.inl n) = some v ∧ Rep c F v d
    | none => valV kvs (Sum.inl n) = none
  | [], ks, xs, hk, hr => by
    cases ks with
    | nil => rfl
    | cons _ _ => cases hk
  | (key, v) :: kvs, ks, xs, hk, hr => by
    cases ks with
    | nil => cases hk
    | cons j ks =>
      cases hr with
      | cons h1 h2 =>
        have e1 := (List.cons.inj hk).1
        have e2 := (List.cons.inj hk).2
        dsimp only at e1
        subst e1
        unfold dGet
        by_cases q : j = n
        · subst q
          rw [if_pos rfl]
          exact ⟨v, valV_pos rfl, h1⟩
        · rw [if_neg q]
          have nk : ¬ (Sum.inl j : Key) = Sum.inl n := fun z => q (Sum.inl.inj z)
          rw [valV_neg nk]
          exact valV_rep e2 h2
theorem any_key {n : Int} : ∀ {kvs : List (Key × V)} {ks : List Int}, kvs.map (·.1) = ks.map Sum.inl → ((kvs.any fun kv => decide (kv.1 = (Sum.inl n : Key))) = true ↔ n ∈ ks)
  | [], ks, hk => by
    cases ks with
    | nil => simp
    | cons _ _ => cases hk
  | (key, v) :: kvs, ks, hk => by
    cases ks with
    | nil => cases hk
    | cons j ks =>
      have e1 := (List.cons.inj hk).1
      have e2 := (List.cons.inj hk).2
      dsimp only at e1
      subst e1
      rw [List.any_cons, Bool.or_eq_true, any_key e2, List.mem_cons, decide_eq_true_eq]
      exact ⟨fun z => z.imp (fun z => (Sum.inl.inj z).symm) id, fun z => z.imp (fun z => by rw [z]) id⟩
theorem put_rep {n : Int} {v : V} {d : D} (hv : Rep c F v d) {kvs : List (Key × V)} {ks : List Int} {xs : List D} (hk : kvs.map (·.1) = ks.map Sum.inl) (hr : Reps c F (kvs.map (·.2)) xs) :
    (putK kvs (Sum.inl n) v).map (·.1) = (dKeys ks n).map Sum.inl ∧ Reps c F ((putK kvs (Sum.inl n) v).map (·.2)) (dVals ks xs n d) := by
  unfold putK dKeys dVals
  by_cases q : n ∈ ks
  · rw [if_pos ((any_key hk).mpr q), if_pos q, if_pos q]
    refine ⟨?_, ?_⟩
    · rw [← hk, List.map_map]
      refine List.map_congr_left fun kv _ => ?_
      show (if kv.1 = Sum.inl n then (kv.1, v) else kv).1 = kv.1
      split <;> rfl
    · clear q
      induction kvs generalizing ks xs with
      | nil =>
        cases hr
        cases ks with
        | nil => exact .nil
        | cons _ _ => cases hk
      | cons kv kvs ih =>
        cases ks with
        | nil => cases hk
        | cons j ks =>
          cases hr with
          | cons h1 h2 =>
            have e1 := (List.cons.inj hk).1
            have e2 := (List.cons.inj hk).2
            dsimp only at e1
            unfold dSet
            refine .cons ?_ (ih e2 h2)
            show Rep c F (if kv.1 = Sum.inl n then (kv.1, v) else kv).2 _
            rw [e1]
            by_cases z : j = n
            · subst z
              rw [if_pos rfl, if_pos rfl]
              exact hv
            · have nk : ¬ (Sum.inl j : Key) = Sum.inl n := fun y => z (Sum.inl.inj y)
              rw [if_neg z, if_neg nk]
              exact h1
  · rw [if_neg (fun z => q ((any_key hk).mp z)), if_neg q, if_neg q, List.map_append, List.map_append, List.map_append, hk]
    exact ⟨rfl, hr.append (.cons hv .nil)⟩
end
/-! ### a slot that holds a dict -/
section
variable {c : Ct} {F0 H0 F H : Hp} {sg : L2.St} {env : XEnv}
theorem Si.mutD {i : Nat} {ks : List Int} {xs : List Bk.D} (s : Si c F0 H0 F H sg env) (he : env[i]? = some (some (.di, .dic ks xs))) : ∃ a kvs, sg[i]? = some (some (.ref a)) ∧ H a = some (.dK kvs) ∧ kvs.map (·.1) = ks.map Sum.inl ∧ Reps c F (kvs.map (·.2)) xs ∧
    ∀ kvs2 ks2 ys, kvs2.map (·.1) = ks2.map Sum.inl → Reps c F (kvs2.map (·.2)) ys → Si c F0 H0 F (upd H a (.dK kvs2)) sg (env.set i (some (.di, .dic ks2 ys))) := by
  obtain ⟨S, s1, s2, s3⟩ := s.own
  obtain ⟨v, h1, a, kvs, ks1, zs, e1, e2, sa, ha, hk, hr0⟩ := s3 i _ _ he
  subst e1
  cases e2
  refine ⟨a, kvs, h1, ha, hk, hr0, fun kvs2 ks2 ys hk2 hr => ?_⟩
  have fa := (s2 i a sa)
  have eF : Ex F (upd H a (.dK kvs2)) := s.wd.fh.mut fa.2.1
  refine ⟨⟨s.wd.f, eF, s.wd.h.mut fa.1, s.wd.n⟩, by rw [List.length_set]; exact s.len, fun j b => if j = i then b = a else S j b, fun j k b hj hk => ?_, fun j b hj => ?_, fun j o d hjd => ?_⟩
  · by_cases q1 : j = i
    · by_cases q2 : k = i
      · rw [q1, q2]
      · simp only [if_pos q1] at hj
        simp only [if_neg q2] at hk
        subst hj
        exact absurd (s1 k i _ hk sa) q2
    · by_cases q2 : k = i
      · simp only [if_neg q1] at hj
        simp only [if_pos q2] at hk
        subst hk
        exact absurd (s1 j i _ hj sa) q1
      · simp only [if_neg q1] at hj
        simp only [if_neg q2] at hk
        exact s1 j k b hj hk
  · by_cases q : j = i
    · simp only [if_pos q] at hj
      subst hj
      refine ⟨fa.1, fa.2.1, ?_⟩
      rw [upd_same]
      exact fun z => by cases z
    · simp only [if_neg q] at hj
      have nb : b ≠ a := fun z => q (s1 j i b hj (by rw [z]; exact sa))
      rw [upd_ne nb]
      exact s2 j b hj
  · by_cases q : j = i
    · subst q
      have hlj : j < env.length := (List.getElem?_eq_some_iff.mp he).1
      rw [List.getElem?_set_self hlj] at hjd
      cases hjd
      refine ⟨.ref a, h1, ?_⟩
      simp only [if_pos]
      exact ⟨a, kvs2, ks2, ys, rfl, rfl, rfl, upd_same, hk2, hr⟩
    · rw [List.getElem?_set_ne (Ne.symm q)] at hjd
      obtain ⟨v, h4, h5⟩ := s3 j o d hjd
      refine ⟨v, h4, ?_⟩
      simp only [if_neg q]
      refine h5.frame (Evl.Ex.refl F) (fun b hb => ?_) fun b hb => (s2 j b hb).2.1
      exact upd_ne fun z => q (s1 j i b hb (by rw [z]; exact sa))
end
section
variable {J : Jx} {e i : Expr} {f h : XE} {pos pos' : Pos} {st : Stmt}
def xDict : XE := fun _ => .ok ⟨.di, false, .dic [] []⟩
theorem se_dict : SE J (.Dict [] [] pos) xDict := pe_dnewK.imp fun sg H Q ⟨F, env, si, hq⟩ => fun p hp => by
  refine hq F (upd H p (.dK [])) (.ref p) ((Wd.refl si.wd.fh).heap (Evl.Ex.new hp)) ⟨fun a => a = p, ⟨p, [], [], [], rfl, rfl, rfl, upd_same, rfl, .nil⟩, fun a ea => ?_⟩
  subst ea
  refine ⟨fun _ => hp, Evl.fresh_back si.wd.fh hp, ?_⟩
  rw [upd_same]
  exact fun z => by cases z
/-- the dict of a slot -/
def atDic : Option (Option (Ow × D)) → Option (List Int × List D)
  | some (some (.di, .dic ks xs)) => some (ks, xs)
  | _ => none
theorem atDic_some {o : Option (Option (Ow × D))} {p : List Int × List D} (h : atDic o = some p) : o = some (some (.di, .dic p.1 p.2)) := by
  unfold atDic at h
  split at h
  · cases h
    rfl
  · cases h
def xPut (i : Nat) (k f : XE) : XS := fun env => match atDic env[i]? with
  | some p => match f env with
    | .ok a => if a.b = true then .bad else match k env with
      | .ok b => match b.d with
        | .int n => if p.1.length < 100000 then .next (env.set i (some (.di, .dic (dKeys p.1 n) (dVals p.1 p.2 n a.d)))) else .bad
        | _ => .bad
      | .exc n => .exc n env
      | .bad => .bad
    | .exc n => .exc n env
    | .bad => .bad
  | none => .bad
theorem ss_put (m : Nat) {fk : XE} (h : PS J.X st (sDPut (tVar m) (tX J.c J.W J.F0 J.H0 fk) (tX J.c J.W J.F0 J.H0 f))) : SS J st (xPut m fk f) := h.imp fun D sg H ⟨F, env, si, hq⟩ => by
  unfold xPut at hq
  cases hp : atDic env[m]? with
  | none => rw [hp] at hq; exact hq.elim
  | some pr =>
    rw [hp] at hq
    obtain ⟨ks, xs⟩ := pr
    have hx := atDic_some hp
    dsimp only at hx hq
    refine ⟨F, env, si, aftS_bind (k := fun a => if a.b = true then .bad else match fk env with
      | .ok b => match b.d with
        | .int n => if ks.length < 100000 then .next (env.set m (some (.di, .dic (dKeys ks n) (dVals ks xs n a.d)))) else .bad
        | _ => .bad
      | .exc n => .exc n env
      | .bad => .bad) si hq fun F1 H1 u b w rv _ hk => ?_⟩
    obtain ⟨o, bb, d⟩ := b
    cases bb with
    | true => exact (show False from hk).elim
    | false =>
      obtain ⟨F2, w2, w3, r2⟩ := rv.share w
      replace hk : AftS J.c J.W J.F0 J.H0 F D (match fk env with
        | .ok b => match b.d with
          | .int n => if ks.length < 100000 then .next (env.set m (some (.di, .dic (dKeys ks n) (dVals ks xs n d)))) else .bad
          | _ => .bad
        | .exc n => .exc n env
        | .bad => .bad) := hk
      have si2 := si.grow w2
      obtain ⟨a2, kv2, h2, ha2, hk2, hr2, hm⟩ := Si.mutD si2 hx
      refine ⟨_, h2, F2, env, si2, ?_⟩
      refine aftS_bind (D := D) (k := fun b => match b.d with
        | .int n => if ks.length < 100000 then .next (env.set m (some (.di, .dic (dKeys ks n) (dVals ks xs n d)))) else .bad
        | _ => .bad) si2 (AftS.grow w2.f hk) fun F3 H3 v k w4 rk hfk hk3 => ?_
      obtain ⟨ok, bk, dk⟩ := k
      have rkk := rk.rep w4.fh
      cases rkk with
      | @int n =>
        replace hk3 : AftS J.c J.W J.F0 J.H0 F2 D (if ks.length < 100000 then .next (env.set m (some (.di, .dic (dKeys ks n) (dVals ks xs n d)))) else .bad) := hk3
        obtain ⟨a3, kv3, h3, ha3, hk4, hr3, hm3⟩ := Si.mutD (si2.grow w4) hx
        rw [h2] at h3
        cases h3
        by_cases hl : ks.length < 100000
        · rw [if_pos hl] at hk3
          obtain ⟨p1, p2⟩ := put_rep (n := n) (r2.mono w4.f) hk4 hr3
          have ll : kv3.length = ks.length := by
            have := congrArg List.length hk4
            rw [List.length_map, List.length_map] at this
            exact this
          have hz : 100000 ≤ sizeLine := by decide
          exact ⟨a2, _, rfl, DPut.k (k := Sum.inl n) ha3 (by omega), hk3 F3 _ sg w4.f (hm3 _ _ _ p1 p2)⟩
        · rw [if_neg hl] at hk3
          exact hk3.elim
      | _ => exact (show False from hk3).elim
def ofDic (o : Ow) (d : D) : Res Val := match o with
  | .sh => .ok (.sh d)
  | .di => .ok (.sh d)
  | _ => .bad
/-- d[k] -/
def xGetD (f k : XE) : XE := fun env => (f env).bind fun a => match a.d with
  | .dic ks xs => (k env).bind fun b => match b.d with
    | .int n => match dGet ks xs n with
      | some d => ofDic a.o d
      | none => .bad
    | _ => .bad
  | _ => .bad
theorem Rw.dict {c : Ct} {F H : Hp} {u : V} {o : Ow} {b : Bool} {ks : List Int} {xs : List D} (h : Rw c F H u ⟨o, b, .dic ks xs⟩) (e : Ex F H) : ∃ a kvs, u = .ref a ∧ H a = some (.dK kvs) ∧ kvs.map (·.1) = ks.map Sum.inl ∧ Reps c H (kvs.map (·.2)) xs ∧ ((o = .sh ∨ o = .di) → Reps c F (kvs.map (·.2)) xs) := by
  have hr := h.rep e
  cases hr with
  | @dic a kvs _ _ ha hk rr =>
    refine ⟨a, kvs, rfl, ha, hk, rr, fun ho => ?_⟩
    obtain ⟨S, h1, h2⟩ := h
    rcases ho with ho | ho
    · subst ho
      have h1 : Rep c F (.ref a) (.dic ks xs) := h1
      cases h1 with
      | @dic _ kv2 _ _ ha2 hk2 rr2 =>
        have := e _ _ ha2
        rw [ha] at this
        cases this
        exact rr2
    · subst ho
      obtain ⟨a2, kv2, ks2, xs2, e1, e2, sa, ha2, hk2, rr2⟩ := h1
      cases e1
      cases e2
      rw [ha] at ha2
      cases ha2
      exact rr2
theorem se_getD (hu : J.X.A.units + 65 < cLine) (ho : SE J e f) (hi : SE J i h) (hs : NoSl i) : SE J (.Subscript e i pos) (xGetD f h) := (pe_dget (by omega) ho hi hs).imp fun sg H Q ⟨F, env, si, hq⟩ => ⟨F, env, si, (aft_bind hq).mono fun x H1 ⟨F1, va, w1, r1, hq1⟩ => by
  obtain ⟨o, bb, d⟩ := va
  cases d with
  | dic ks xs =>
    replace hq1 : Aft J.c J.W sg F1 H1 Q ((h env).bind fun b => match b.d with
      | .int n => match dGet ks xs n with
        | some d => ofDic o d
        | none => .bad
      | _ => .bad) := hq1
    refine ⟨F1, env, si.grow w1, (aft_bind hq1).mono fun y H2 ⟨F2, vb, w2, r2, hq2⟩ => ?_⟩
    obtain ⟨ob, b2, db⟩ := vb
    have rb := r2.rep w2.fh
    cases rb with
    | @int n =>
      obtain ⟨a, kvs, rfl, ha, hk, rh, rf⟩ := Rw.dict (r1.rw.grow w2) w2.fh
      replace hq2 : Aft J.c J.W sg F2 H2 Q (match dGet ks xs n with
        | some d => ofDic o d
        | none => .bad) := hq2
      have vr := valV_rep (n := n) hk rh
      cases hg : dGet ks xs n with
      | none => rw [hg] at hq2; exact hq2.elim
      | some d =>
        rw [hg] at hq2 vr
        obtain ⟨v, hv, rv⟩ := vr
        have both : (o = .sh ∨ o = .di) → Aft J.c J.W sg F2 H2 Q (.ok (.sh d)) → Q v H2 := fun ho hq3 => by
          have vr2 := valV_rep (n := n) hk (rf ho)
          rw [hg] at vr2
          obtain ⟨v2, hv2, rv2⟩ := vr2
          rw [hv] at hv2
          cases hv2
          exact Aft.now w2.fh rv2 hq3
        refine ⟨a, v, rfl, ?_, ?_⟩
        · have := DGet.k (k := (Sum.inl n : Key)) ha
          rw [hv] at this
          exact this
        · cases o with
          | sh => exact both (.inl rfl) hq2
          | di => exact both (.inr rfl) hq2
          | _ => exact (show False from hq2).elim
    | _ => exact (show False from hq2).elim
  | _ => exact (show False from hq1).elim⟩
/-- k in d -/
def pInD (a b : Val) : Res Val := match a.d, b.d with
  | .int n, .dic ks xs => .ok (.sh (.bl (dGet ks xs n).isSome))
  | _, _ => .bad
theorem op_inD2 {X : Cx} (hu : X.A.units + 65 < cLine) : OpR X (compareOp .In) (fun x y H Q => ∃ a o, y = .ref a ∧ DGet H a x o ∧ Q (.bl o.isSome) H) := by
  intro pins s σ H x y v u Q I rx ry h
  obtain ⟨a, o, rfl, g, q⟩ := h
  cases ry
  exact d_in (by omega) I g rx fun s3 I3 => ⟨.bl o.isSome, H, I3, rfl, q⟩
theorem v2_inD {c : Ct} : V2 c (fun x y H Q => ∃ a o, y = .ref a ∧ DGet H a x o ∧ Q (.bl o.isSome) H) pInD := by
  intro W sg F H x y a b Q e ra rb h
  obtain ⟨oa, ba, da⟩ := a
  obtain ⟨ob, bb, db⟩ := b
  have ra' := ra.rep e
  cases da with
  | int n =>
    cases db with
    | dic ks xs =>
      cases ra'
      obtain ⟨a, kvs, rfl, ha, hk, rh, rf⟩ := Rw.dict rb e
      have vr := valV_rep (n := n) hk rh
      have g := DGet.k (k := (Sum.inl n : Key)) ha
      refine ⟨a, _, rfl, g, ?_⟩
      have e1 : (valV kvs (Sum.inl n : Key)).isSome = (dGet ks xs n).isSome := by
        cases hg : dGet ks xs n with
        | none => rw [hg] at vr; rw [vr]; rfl
        | some d =>
          rw [hg] at vr
          obtain ⟨v, hv, _⟩ := vr
          rw [hv]
          rfl
      rw [e1]
      exact Aft.now e .bl h
    | _ => exact (show False from h).elim
  | _ => exact (show False from h).elim
theorem hu1 {A : Around} {k : Nat} (hr : Room k A) : A.units + 1 < cLine := by have := hu65 hr; omega
end
end
end Bk
set_option Elab.async false
set_option linter.all false
set_option maxRecDepth 100000
set_option maxHeartbeats 4000000
/-! BkP: owned things within owned things: a tuple of fresh lists, a list of fresh lists; their parts changed. -/
namespace Bk
open PySem L2 PySem.Spec PyProof.Rows
/-! ### a part is looked at -/
def nestOf (o : Ow) (d : D) : Option (List D) := match o, d with
  | .tu (.li .sh), .tup ps => some ps
  | .li (.li .sh), .lst ps => some ps
  | _, _ => none
theorem nestOf_some {o : Ow} {d : D} {ps : List D} (h : nestOf o d = some ps) : (o = .tu (.li .sh) ∧ d = .tup ps) ∨ (o = .li (.li .sh) ∧ d = .lst ps) := by
  unfold nestOf at h
  split at h
  · cases h
    exact .inl ⟨rfl, rfl⟩
  · cases h
    exact .inr ⟨rfl, rfl⟩
  · cases h
def pIxO (a b : Val) : Res Val := match b.d with
  | .int i => match nestOf a.o a.d with
    | some ps => match atI ps i with
      | some d => .ok ⟨.li .sh, true, d⟩
      | none => .bad
    | none => .bad
  | _ => .bad
section
variable {c : Ct} {W : WX} {sg : L2.St} {F H F0 H0 : Hp} {u : V}
/-- the parts of an owned thing -/
theorem Rw.nest {o : Ow} {b : Bool} {d : D} {ps : List D} (h : Rw c F H u ⟨o, b, d⟩) (hn : nestOf o d = some ps) : ∃ (p : Addr) (vs : List V), u = .ref p ∧ (H p = some (.tup vs) ∧ d = .tup ps ∨ H p = some (.lst vs) ∧ d = .lst ps) ∧ vs.length = ps.length ∧
    ∀ (k : Nat) (v : V) (x : D), vs[k]? = some v → ps[k]? = some x → Rw c F H v ⟨.li .sh, true, x⟩ := by
  obtain ⟨S, h1, h2⟩ := h
  rcases nestOf_some hn with ⟨e1, e2⟩ | ⟨e1, e2⟩
  · dsimp only at h1
    rw [e1, e2] at h1
    obtain ⟨a, vs, xs, q1, q2, ha, hl, fa, sa, T, t1, t2, t3⟩ := h1
    cases q2
    exact ⟨a, vs, q1, .inl ⟨ha, e2⟩, hl, fun k v x hv hx => ⟨T k, t3 k v x hv hx, fun b hb => h2 b (t1 k b hb).1⟩⟩
  · dsimp only at h1
    rw [e1, e2] at h1
    obtain ⟨a, vs, xs, q1, q2, sa, ha, hl, T, t1, t2, t3⟩ := h1
    cases q2
    exact ⟨a, vs, q1, .inr ⟨ha, e2⟩, hl, fun k v x hv hx => ⟨T k, t3 k v x hv hx, fun b hb => h2 b (t1 k b hb).1⟩⟩
theorem atI_len {α β : Type} {xs : List α} {ys : List β} {i : Int} {y : β} (hl : xs.length = ys.length) (h : atI ys i = some y) : ∃ (k : Nat) (x : α), atI xs i = some x ∧ xs[k]? = some x ∧ ys[k]? = some y := by
  unfold atI at h ⊢
  rw [hl]
  cases q : ixN ys.length i with
  | none => rw [q] at h; cases h
  | some j =>
    rw [q] at h
    have h : ys[j]? = some y := h
    have hj := (List.getElem?_eq_some_iff.mp h).1
    exact ⟨j, xs[j]'(by omega), List.getElem?_eq_getElem (by omega), List.getElem?_eq_getElem (by omega), h⟩
theorem v2_ixO : V2 c (rIx c.K) pIxO := by
  intro W sg F H x y a b Q e ra rb h
  obtain ⟨oa, ba, da⟩ := a
  obtain ⟨ob, bb, db⟩ := b
  have rb' := rb.rep e
  dsimp only at rb'
  cases rb' with
  | @int i =>
    replace h : Aft c W sg F H Q (match nestOf oa da with
      | some ps => match atI ps i with
        | some d => .ok ⟨.li .sh, true, d⟩
        | none => .bad
      | none => .bad) := h
    cases hn : nestOf oa da with
    | none => rw [hn] at h; exact h.elim
    | some ps =>
      rw [hn] at h
      replace h : Aft c W sg F H Q (match atI ps i with
        | some d => .ok ⟨.li .sh, true, d⟩
        | none => .bad) := h
      obtain ⟨p, vs, rfl, hp, hl, hk⟩ := ra.nest hn
      cases hx : atI ps i with
      | none => rw [hx] at h; exact h.elim
      | some d =>
        rw [hx] at h
        obtain ⟨k, v, h1, h2, h3⟩ := atI_len hl hx
        obtain ⟨S, q1, q2⟩ := hk k v d h2 h3
        have fin : Q v H := h F H v (Wd.refl e) ⟨S, q1, fun a sa => ⟨fun z => (by cases z), q2 a sa⟩⟩
        rcases hp with ⟨hp, _⟩ | ⟨hp, _⟩
        · exact .inr (.inl ⟨p, vs, i, v, rfl, rfl, .inl (.inl hp), h1, fin⟩)
        · exact .inl ⟨p, vs, i, v, rfl, rfl, .inl (.inl hp), h1, fin⟩
  | _ => exact (show False from h).elim
end
/-! ### a part is changed -/
section
variable {c : Ct} {F0 H0 F H : Hp} {sg : L2.St} {env : XEnv}
def nestD (o : Ow) (ps : List D) : D := match o with
  | .tu _ => .tup ps
  | _ => .lst ps
theorem Si.mutN {i : Nat} {o : Ow} {d : D} {ps : List D} (s : Si c F0 H0 F H sg env) (he : env[i]? = some (some (o, d))) (hn : nestOf o d = some ps) : ∃ (a : Addr) (vs : List V), sg[i]? = some (some (.ref a)) ∧ (H a = some (.tup vs) ∧ d = .tup ps ∨ H a = some (.lst vs) ∧ d = .lst ps) ∧ vs.length = ps.length ∧
    ∀ (j : Nat) (v : V) (x : D), vs[j]? = some v → ps[j]? = some x → ∃ (b : Addr) (us : List V) (xs : List D), v = .ref b ∧ x = .lst xs ∧ H b = some (.lst us) ∧ Reps c F us xs ∧
      ∀ ws ys, Reps c F ws ys → Si c F0 H0 F (upd H b (.lst ws)) sg (env.set i (some (o, nestD o (ps.set j (.lst ys))))) := by
  obtain ⟨S, s1, s2, s3⟩ := s.own
  obtain ⟨v0, h1, h2⟩ := s3 i o d he
  have hli : i < env.length := (List.getElem?_eq_some_iff.mp he).1
  -- what both shapes have
  have core : ∀ (a : Addr) (vs : List V) (T : Nat → Addr → Prop), S i a → vs.length = ps.length → (∀ k b, T k b → S i b ∧ b ≠ a) → (∀ k j b, T k b → T j b → k = j) → (∀ k u x, vs[k]? = some u → ps[k]? = some x → Own c F H (.li .sh) u x (T k)) →
      (∀ (H' : Hp) (ps' : List D), H' a = H a → ps'.length = ps.length → (∀ k u x, vs[k]? = some u → ps'[k]? = some x → Own c F H' (.li .sh) u x (T k)) → Own c F H' o v0 (nestD o ps') (S i)) →
      ∀ (j : Nat) (v : V) (x : D), vs[j]? = some v → ps[j]? = some x → ∃ (b : Addr) (us : List V) (xs : List D), v = .ref b ∧ x = .lst xs ∧ H b = some (.lst us) ∧ Reps c F us xs ∧
        ∀ ws ys, Reps c F ws ys → Si c F0 H0 F (upd H b (.lst ws)) sg (env.set i (some (o, nestD o (ps.set j (.lst ys))))) := by
    intro a vs T sa hl t1 t2 t3 back j v x hv hx
    obtain ⟨b, us, xs, e1, e2, tb, hb, hl2, T2, _, _, u3⟩ := t3 j v x hv hx
    refine ⟨b, us, xs, e1, e2, hb, Reps.all hl2 fun k u x hu hx => u3 k u x hu hx, fun ws ys hr => ?_⟩
    have sb := (t1 j b tb).1
    have fb := s2 i b sb
    have eF : Ex F (upd H b (.lst ws)) := s.wd.fh.mut fb.2.1
    refine ⟨⟨s.wd.f, eF, s.wd.h.mut fb.1, s.wd.n⟩, by rw [List.length_set]; exact s.len, S, s1, fun k q hq => ?_, fun k o3 d3 hk => ?_⟩
    · have := s2 k q hq
      refine ⟨this.1, this.2.1, ?_⟩
      by_cases z : q = b
      · subst z
        rw [upd_same]
        exact fun z => by cases z
      · rw [upd_ne z]
        exact this.2.2
    · by_cases q : k = i
      · subst q
        rw [List.getElem?_set_self hli] at hk
        cases hk
        refine ⟨v0, h1, back _ _ (upd_ne (t1 j b tb).2.symm) (by rw [List.length_set]) fun k2 u x2 hu hx2 => ?_⟩
        by_cases z : k2 = j
        · subst z
          have hlj : k2 < ps.length := (List.getElem?_eq_some_iff.mp hx).1
          rw [List.getElem?_set_self hlj] at hx2
          cases hx2
          rw [hv] at hu
          cases hu
          refine ⟨b, ws, ys, e1, rfl, tb, upd_same, hr.length, fun _ _ => False, fun _ _ z => z.elim, fun _ _ _ z => z.elim, fun k u x hu hx => ?_⟩
          obtain ⟨d2, g2, g3⟩ := hr.get hu
          rw [hx] at g2
          cases g2
          exact g3
        · rw [List.getElem?_set_ne (Ne.symm z)] at hx2
          refine (t3 k2 u x2 hu hx2).frame (Evl.Ex.refl F) (fun q hq => upd_ne fun e => z (t2 k2 j b (e ▸ hq) tb)) fun q hq => (s2 k q (t1 k2 q hq).1).2.1
      · rw [List.getElem?_set_ne (Ne.symm q)] at hk
        obtain ⟨v, h4, h5⟩ := s3 k o3 d3 hk
        refine ⟨v, h4, h5.frame (Evl.Ex.refl F) (fun b2 hb2 => upd_ne fun z => q (s1 k i b2 hb2 (z ▸ sb))) fun b2 hb2 => (s2 k b2 hb2).2.1⟩
  rcases nestOf_some hn with ⟨e1, e2⟩ | ⟨e1, e2⟩
  · subst e1 e2
    obtain ⟨a, vs, xs, q1, q2, ha, hl, fa, sa, T, t1, t2, t3⟩ := h2
    cases q2
    subst q1
    exact ⟨a, vs, h1, .inl ⟨ha, rfl⟩, hl, core a vs T sa hl t1 t2 t3 fun H' ps' hH hl' hk => ⟨a, vs, ps', rfl, rfl, hH.trans ha, hl.trans hl'.symm, fa, sa, T, t1, t2, hk⟩⟩
  · subst e1 e2
    obtain ⟨a, vs, xs, q1, q2, sa, ha, hl, T, t1, t2, t3⟩ := h2
    cases q2
    subst q1
    exact ⟨a, vs, h1, .inr ⟨ha, rfl⟩, hl, core a vs T sa hl t1 t2 t3 fun H' ps' hH hl' hk => ⟨a, vs, ps', rfl, rfl, sa, hH.trans ha, hl.trans hl'.symm, T, t1, t2, hk⟩⟩
end
def nestAt : Option (Option (Ow × D)) → Option (Ow × List D)
  | some (some (o, d)) => (nestOf o d).map fun ps => (o, ps)
  | _ => none
theorem nestAt_some {x : Option (Option (Ow × D))} {o : Ow} {ps : List D} (h : nestAt x = some (o, ps)) : ∃ d, x = some (some (o, d)) ∧ nestOf o d = some ps := by
  match x, h with
  | some (some (o2, d)), h =>
    replace h : (nestOf o2 d).map (fun ps => (o2, ps)) = some (o, ps) := h
    cases q : nestOf o2 d with
    | none => rw [q] at h; cases h
    | some ps2 =>
      rw [q] at h
      cases h
      exact ⟨d, rfl, q⟩
  | some none, h => cases h
  | none, h => cases h
/-- xs[k].append(e), xs the owned lists (or tuple of lists) of slot i -/
def xAppAt (i : Nat) (fk f : XE) : XS := fun env => match nestAt env[i]? with
  | some p => match fk env with
    | .ok k => match k.d with
      | .int n => match ixN p.2.length n with
        | some j => match p.2[j]? with
          | some (.lst xs) => match f env with
            | .ok a => if a.b = true then .bad else if xs.length < 100000 then .next (env.set i (some (p.1, nestD p.1 (p.2.set j (.lst (xs ++ [a.d])))))) else .bad
            | .exc n => .exc n env
            | .bad => .bad
          | _ => .bad
        | none => .bad
      | _ => .bad
    | .exc n => .exc n env
    | .bad => .bad
  | none => .bad
section
variable {J : Jx} {st : Stmt} {f : XE} {e : Expr}
theorem ss_appAt {K : PySem.W.Frag} {i : Nat} {fk : XE} (h : PS J.X st (tDrop (tBM K "list" rAppend (tOp (rIx K) (tVar i) (tX J.c J.W J.F0 J.H0 fk)) (tCons (tX J.c J.W J.F0 J.H0 f) tNil)))) : SS J st (xAppAt i fk f) := h.imp fun D sg H ⟨F, env, si, hq⟩ => by
  unfold xAppAt at hq
  cases hp : nestAt env[i]? with
  | none => rw [hp] at hq; exact hq.elim
  | some p =>
    obtain ⟨o, ps⟩ := p
    rw [hp] at hq
    obtain ⟨d, hd, hn⟩ := nestAt_some hp
    obtain ⟨a, vs, h1, ha, hl, hm⟩ := si.mutN hd hn
    refine ⟨_, h1, F, env, si, ?_⟩
    refine aftS_bind (D := D) (k := fun k => match k.d with
      | .int n => match ixN ps.length n with
        | some j => match ps[j]? with
          | some (.lst xs) => match f env with
            | .ok a => if a.b = true then .bad else if xs.length < 100000 then .next (env.set i (some (o, nestD o (ps.set j (.lst (xs ++ [a.d])))))) else .bad
            | .exc n => .exc n env
            | .bad => .bad
          | _ => .bad
        | none => .bad
      | _ => .bad) si hq fun F1 H1 u k w rk _ hk => ?_
    obtain ⟨ok, bk, dk⟩ := k
    have rkk := rk.rep w.fh
    cases rkk with
    | @int n =>
      replace hk : AftS J.c J.W J.F0 J.H0 F D (match ixN ps.length n with
        | some j => match ps[j]? with
          | some (.lst xs) => match f env with
            | .ok a => if a.b = true then .bad else if xs.length < 100000 then .next (env.set i (some (o, nestD o (ps.set j (.lst (xs ++ [a.d])))))) else .bad
            | .exc n => .exc n env
            | .bad => .bad
          | _ => .bad
        | none => .bad) := hk
      cases hj : ixN ps.length n with
      | none => rw [hj] at hk; exact hk.elim
      | some j =>
        rw [hj] at hk
        replace hk : AftS J.c J.W J.F0 J.H0 F D (match ps[j]? with
          | some (.lst xs) => match f env with
            | .ok a => if a.b = true then .bad else if xs.length < 100000 then .next (env.set i (some (o, nestD o (ps.set j (.lst (xs ++ [a.d])))))) else .bad
            | .exc n => .exc n env
            | .bad => .bad
          | _ => .bad) := hk
        cases hx : ps[j]? with
        | none => rw [hx] at hk; exact hk.elim
        | some x =>
          have hlj := (List.getElem?_eq_some_iff.mp hx).1
          have hv : vs[j]? = some (vs[j]'(by omega)) := List.getElem?_eq_getElem (by omega)
          have si1 := si.grow w
          obtain ⟨a1, vs1, g1, ha1, hl1, hm1⟩ := si1.mutN hd hn
          rw [h1] at g1
          cases g1
          have vv : vs1 = vs := by
            rcases ha with ⟨ha, e1⟩ | ⟨ha, e1⟩ <;> rcases ha1 with ⟨ha1, e2⟩ | ⟨ha1, e2⟩
            · have := w.h _ _ ha
              rw [ha1] at this
              cases this
              rfl
            · rw [e1] at e2
              cases e2
            · rw [e1] at e2
              cases e2
            · have := w.h _ _ ha
              rw [ha1] at this
              cases this
              rfl
          subst vv
          obtain ⟨b, us, xs, eb, ex, hb, hr, _⟩ := hm1 j _ x hv hx
          subst ex
          rw [hx] at hk
          replace hk : AftS J.c J.W J.F0 J.H0 F D (match f env with
            | .ok a => if a.b = true then .bad else if xs.length < 100000 then .next (env.set i (some (o, nestD o (ps.set j (.lst (xs ++ [a.d])))))) else .bad
            | .exc n => .exc n env
            | .bad => .bad) := hk
          have hix : atI vs1 n = some (.ref b) := by
            unfold atI
            rw [hl, hj]
            exact hv.trans (by rw [eb])
          have fin : tyV K "list" (.ref b) H1 ∧ (tCons (tX J.c J.W J.F0 J.H0 f) tNil) sg H1 fun xs H2 => rAppend (.ref b) xs H2 fun _ H3 => D.nx sg H3 := by
            refine ⟨.inl ⟨rfl, _, .inl (.inl hb)⟩, F1, env, si1, ?_⟩
            refine aftS_bind (k := fun a => if a.b = true then .bad else if xs.length < 100000 then .next (env.set i (some (o, nestD o (ps.set j (.lst (xs ++ [a.d])))))) else .bad) si1 (AftS.grow w.f hk) fun F2 H2 u2 b2 w2 rv _ hk2 => ?_
            obtain ⟨o2, bb, d2⟩ := b2
            cases bb with
            | true => exact (show False from hk2).elim
            | false =>
              obtain ⟨F3, w3, w4, r3⟩ := rv.share w2
              replace hk2 : AftS J.c J.W J.F0 J.H0 F1 D (if xs.length < 100000 then .next (env.set i (some (o, nestD o (ps.set j (.lst (xs ++ [d2])))))) else .bad) := hk2
              by_cases hlx : xs.length < 100000
              · rw [if_pos hlx] at hk2
                obtain ⟨a3, vs3, g3, ha3, hl3, hm3⟩ := (si1.grow w3).mutN hd hn
                rw [h1] at g3
                cases g3
                have vv3 : vs3 = vs1 := by
                  rcases ha1 with ⟨ha1, e1⟩ | ⟨ha1, e1⟩ <;> rcases ha3 with ⟨ha3, e2⟩ | ⟨ha3, e2⟩
                  · have := w3.h _ _ ha1
                    rw [ha3] at this
                    cases this
                    rfl
                  · rw [e1] at e2
                    cases e2
                  · rw [e1] at e2
                    cases e2
                  · have := w3.h _ _ ha1
                    rw [ha3] at this
                    cases this
                    rfl
                subst vv3
                obtain ⟨b3, us3, xs3, eb3, ex3, hb3, hr3, hs3⟩ := hm3 j _ _ hv hx
                cases ex3
                rw [eb] at eb3
                cases eb3
                exact ⟨b, us3, u2, rfl, rfl, hb3, Evl.sz_lt (by rw [hr3.length]; exact hlx), hk2 F3 _ sg w3.f (hs3 _ _ (hr3.append (.cons r3 .nil)))⟩
              · rw [if_neg hlx] at hk2
                exact hk2.elim
          rcases ha1 with ⟨ha1, _⟩ | ⟨ha1, _⟩
          · exact .inr (.inl ⟨a, vs1, n, .ref b, rfl, rfl, .inl (.inl ha1), hix, fin⟩)
          · exact .inl ⟨a, vs1, n, .ref b, rfl, rfl, .inl (.inl ha1), hix, fin⟩
    | _ => exact (show False from hk).elim
end
/-! ### a tuple of two fresh lists -/
def pT2 (a b : Val) : Res Val := match a, b with
  | ⟨.li .sh, false, .lst xs⟩, ⟨.li .sh, false, .lst ys⟩ => .ok ⟨.tu (.li .sh), false, .tup [.lst xs, .lst ys]⟩
  | _, _ => .bad
def xTup2O (f h : XE) : XE := fun env => (f env).bind fun a => (h env).bind fun b => pT2 a b
theorem aft_bind0 {c : Ct} {W : WX} {sg : L2.St} {F H F1 H1 : Hp} {Q : VK} {f : Res Val} {g : Val → Res Val} (w1 : Wd F H F1 H1) (h : Aft c W sg F H Q (f.bind g)) : Aft c W sg F1 H1 (fun x Hx => ∃ F2 a, Wd F1 H1 F2 Hx ∧ Rv c H1 F2 Hx x a ∧ Aft c W sg F H Q (g a)) f := by
  cases f with
  | ok a => exact fun F2 H2 u w rv => ⟨F2, a, w, rv, h⟩
  | exc k => exact fun F2 H2 w => h F2 H2 (w1.trans w)
  | bad => exact h
section
variable {J : Jx} {a b : Expr} {f h : XE} {pos : Pos}
theorem se_tup2O {x1 : Nat} (ha : SE J a f) (hb : SE J b h) (hs1 : starEach [a, b] J.X.env = (false, eval a J.X.env) :: starEach [b] J.X.env := by rfl) (hs2 : starEach [b] J.X.env = (false, eval b J.X.env) :: starEach [] J.X.env := by rfl) : SE J (.Tuple [a, b] x1 pos) (xTup2O f h) := (pe_tup (pa_cons ha (pa_cons hb pa_nil hs2) hs1)).imp fun sg H Q ⟨F, env, si, hq⟩ => ⟨F, env, si, (aft_bind0 (Wd.refl si.wd.fh) hq).mono fun x H1 ⟨F1, va, w1, r1, hq1⟩ => ⟨F1, env, si.grow w1, (aft_bind0 w1 hq1).mono fun y H2 ⟨F2, vb, w2, r2, hq2⟩ => by
  obtain ⟨oa, ba, da⟩ := va
  obtain ⟨ob, bb, db⟩ := vb
  unfold pT2 at hq2
  split at hq2
  · rename_i xs ys e1 e2
    cases e1
    cases e2
    refine ⟨Evl.sz_of (show (2 : Nat) ≤ 100000 by decide), fun p hp => ?_⟩
    obtain ⟨S1, a1, a2⟩ := r1
    obtain ⟨S2, b1, b2⟩ := r2
    have g1 : ∀ q, S1 q → H2 q = H1 q := fun q sq => wd_same w2 (a2 q sq).2.2
    have k1 : ∀ q, S1 q → F2 q = none := fun q sq => wd_none w2 (a2 q sq).2.1 (a2 q sq).2.2
    have n1 : ∀ q, S1 q → q ≠ p := fun q sq z => by
      have := (a2 q sq).2.2
      rw [← g1 q sq, z] at this
      exact this hp
    have n2 : ∀ q, S2 q → q ≠ p := fun q sq z => (b2 q sq).2.2 (by rw [z]; exact hp)
    have dis : ∀ q, S1 q → S2 q → False := fun q s1 s2 => (a2 q s1).2.2 ((b2 q s2).1 rfl)
    have fp : F2 p = none := Evl.fresh_back w2.fh hp
    have a3 := a1.frame (F' := F2) (H' := upd H2 p (.tup [x, y])) w2.f (fun q sq => by rw [upd_ne (n1 q sq)]; exact g1 q sq) k1
    have b3 := b1.frame (F' := F2) (H' := upd H2 p (.tup [x, y])) (Evl.Ex.refl F2) (fun q sq => upd_ne (n2 q sq)) fun q sq => (b2 q sq).2.1
    refine hq2 F2 (upd H2 p (.tup [x, y])) (.ref p) ((w1.trans w2).heap (Evl.Ex.new hp)) ⟨fun q => q = p ∨ S1 q ∨ S2 q, ?_, fun q sq => ?_⟩
    · refine ⟨p, [x, y], [.lst xs, .lst ys], rfl, rfl, upd_same, rfl, fp, .inl rfl, fun k q => if k = 0 then S1 q else if k = 1 then S2 q else False, fun k q hk => ?_, fun k j q hk hj => ?_, fun k u d hu hd => ?_⟩
      · by_cases z0 : k = 0
        · simp only [if_pos z0] at hk
          exact ⟨.inr (.inl hk), n1 q hk⟩
        · by_cases z1 : k = 1
          · simp only [if_neg z0, if_pos z1] at hk
            exact ⟨.inr (.inr hk), n2 q hk⟩
          · simp only [if_neg z0, if_neg z1] at hk
      · by_cases z0 : k = 0 <;> by_cases y0 : j = 0
        · rw [z0, y0]
        · simp only [if_pos z0] at hk
          by_cases y1 : j = 1
          · simp only [if_neg y0, if_pos y1] at hj
            exact (dis q hk hj).elim
          · simp only [if_neg y0, if_neg y1] at hj
        · simp only [if_pos y0] at hj
          by_cases z1 : k = 1
          · simp only [if_neg z0, if_pos z1] at hk
            exact (dis q hj hk).elim
          · simp only [if_neg z0, if_neg z1] at hk
        · by_cases z1 : k = 1 <;> by_cases y1 : j = 1
          · rw [z1, y1]
          · simp only [if_neg y0, if_neg y1] at hj
          · simp only [if_neg z0, if_neg z1] at hk
          · simp only [if_neg z0, if_neg z1] at hk
      · match k, hu, hd with
        | 0, hu, hd =>
          cases hu
          cases hd
          simp only [if_pos]
          exact a3
        | 1, hu, hd =>
          cases hu
          cases hd
          exact b3
        | k + 2, hu, hd => cases hu
    · rcases sq with rfl | sq | sq
      · refine ⟨fun _ => Evl.fresh_back (w1.h.trans w2.h) hp, fp, ?_⟩
        rw [upd_same]
        exact fun z => by cases z
      · refine ⟨fun _ => (a2 q sq).1 rfl, k1 q sq, ?_⟩
        rw [upd_ne (n1 q sq), g1 q sq]
        exact (a2 q sq).2.2
      · refine ⟨fun _ => Evl.fresh_back w1.h ((b2 q sq).1 rfl), (b2 q sq).2.1, ?_⟩
        rw [upd_ne (n2 q sq)]
        exact (b2 q sq).2.2
  · exact hq2.elim⟩⟩
end
end Bk
set_option Elab.async false
set_option linter.all false
set_option maxRecDepth 100000
set_option maxHeartbeats 4000000
/-! BkQ: what BkP's ways compute, for simp. -/
namespace Bk
open PySem L2
variable {o o2 : Ow} {b b2 : Bool} {i : Int} {ps xs ys : List D} {f h : XE} {env : XEnv}
@[simp] theorem p_IxOt : pIxO ⟨.tu (.li .sh), b, .tup ps⟩ ⟨o, b2, .int i⟩ = match atI ps i with
  | some d => .ok ⟨.li .sh, true, d⟩
  | none => .bad := rfl
@[simp] theorem p_IxOl : pIxO ⟨.li (.li .sh), b, .lst ps⟩ ⟨o, b2, .int i⟩ = match atI ps i with
  | some d => .ok ⟨.li .sh, true, d⟩
  | none => .bad := rfl
@[simp] theorem nestAt_t : nestAt (some (some (.tu (.li .sh), .tup ps))) = some (.tu (.li .sh), ps) := rfl
@[simp] theorem nestAt_l : nestAt (some (some (.li (.li .sh), .lst ps))) = some (.li (.li .sh), ps) := rfl
@[simp] theorem nestD_t : nestD (.tu o) ps = .tup ps := rfl
@[simp] theorem nestD_l : nestD (.li o) ps = .lst ps := rfl
@[simp] theorem p_T2 : pT2 ⟨.li .sh, false, .lst xs⟩ ⟨.li .sh, false, .lst ys⟩ = .ok ⟨.tu (.li .sh), false, .tup [.lst xs, .lst ys]⟩ := rfl
@[simp] theorem e_Tup2O : xTup2O f h env = (f env).bind fun a => (h env).bind fun b => pT2 a b := rfl
@[simp] theorem e_AppAt (i : Nat) (fk : XE) : xAppAt i fk f env = match nestAt env[i]? with
  | some p => match fk env with
    | .ok k => match k.d with
      | .int n => match ixN p.2.length n with
        | some j => match p.2[j]? with
          | some (.lst xs) => match f env with
            | .ok a => if a.b = true then .bad else if xs.length < 100000 then .next (env.set i (some (p.1, nestD p.1 (p.2.set j (.lst (xs ++ [a.d])))))) else .bad
            | .exc n => .exc n env
            | .bad => .bad
          | _ => .bad
        | none => .bad
      | _ => .bad
    | .exc n => .exc n env
    | .bad => .bad
  | none => .bad := rfl
end Bk
set_option Elab.async false
set_option linter.all false
set_option maxRecDepth 100000
set_option maxHeartbeats 4000000
/-! BkR: a handler that goes on behind the try. -/
namespace Bk
open PySem L2
/-- no caught error within, objects too -/
def D.noE : Nat → D → Bool
  | _, .non => true
  | _, .bl _ => true
  | _, .int _ => true
  | _, .str _ => true
  | n + 1, .lst xs => xs.all (D.noE n)
  | n + 1, .tup xs => xs.all (D.noE n)
  | n + 1, .obj xs => xs.all (D.noE n)
  | n + 1, .fz xs => xs.all (D.noE n)
  | n + 1, .dic _ xs => xs.all (D.noE n)
  | _, _ => false
mutual
theorem Rep.noE {c c' : Ct} {F : Hp} (hK : c'.K = c.K) (hC : c'.C = c.C) : ∀ (n : Nat) {v : V} {d : D}, d.noE n = true → Rep c F v d → Rep c' F v d
  | _, _, _, _, .non => .non
  | _, _, _, _, .bl => .bl
  | _, _, _, _, .int => .int
  | _, _, _, _, .str => .str
  | 0, _, _, h, .lst _ _ => nomatch h
  | n + 1, _, _, h, .lst a r => .lst a (Reps.noE hK hC n h r)
  | 0, _, _, h, .tup _ _ => nomatch h
  | n + 1, _, _, h, .tup a r => .tup a (Reps.noE hK hC n h r)
  | 0, _, _, h, .fz _ _ => nomatch h
  | n + 1, _, _, h, .fz a r => .fz (by rw [hK]; exact a) (Reps.noE hK hC n h r)
  | 0, _, _, h, .obj _ _ _ => nomatch h
  | n + 1, _, _, h, .obj a r l => .obj (by rw [hC]; exact a) (Reps.noE hK hC n h r) l
  | 0, _, _, h, .dic _ _ _ => nomatch h
  | n + 1, _, _, h, .dic a k r => .dic a k (Reps.noE hK hC n h r)
  | 0, _, _, h, .exn _ => nomatch h
  | _ + 1, _, _, h, .exn _ => nomatch h
theorem Reps.noE {c c' : Ct} {F : Hp} (hK : c'.K = c.K) (hC : c'.C = c.C) : ∀ (n : Nat) {vs : List V} {ds : List D}, ds.all (D.noE n) = true → Reps c F vs ds → Reps c' F vs ds
  | _, _, _, _, .nil => .nil
  | n, _, _, h, .cons a r => by
    rw [List.all_cons, Bool.and_eq_true] at h
    exact .cons (Rep.noE hK hC n h.1 a) (Reps.noE hK hC n h.2 r)
end
theorem noE_get {n : Nat} {xs : List D} {k : Nat} {x : D} (h : xs.all (D.noE n) = true) (hx : xs[k]? = some x) : x.noE n = true := List.all_eq_true.mp h x (List.mem_of_getElem? hx)
theorem Own.noE {c c' : Ct} {F H : Hp} (hK : c'.K = c.K) (hC : c'.C = c.C) (hi : ∀ a, c.ix a → c'.ix a) : ∀ (n : Nat) {o : Ow} {v : V} {d : D} {S : Addr → Prop}, d.noE n = true → Own c F H o v d S → Own c' F H o v d S
  | n, .sh, v, d, S, hd, h => Rep.noE hK hC n hd h
  | 0, .li e, v, d, S, hd, h => by
    obtain ⟨a, vs, xs, e1, e2, _⟩ := h
    subst e2
    exact nomatch hd
  | n + 1, .li e, v, d, S, hd, h => by
    obtain ⟨a, vs, xs, e1, e2, sa, ha, hl, T, t1, t2, t3⟩ := h
    subst e2
    exact ⟨a, vs, xs, e1, rfl, sa, ha, hl, T, t1, t2, fun k u x hu hx => Own.noE hK hC hi n (noE_get hd hx) (t3 k u x hu hx)⟩
  | 0, .tu e, v, d, S, hd, h => by
    obtain ⟨a, vs, xs, e1, e2, _⟩ := h
    subst e2
    exact nomatch hd
  | n + 1, .tu e, v, d, S, hd, h => by
    obtain ⟨a, vs, xs, e1, e2, ha, hl, fa, sa, T, t1, t2, t3⟩ := h
    subst e2
    exact ⟨a, vs, xs, e1, rfl, ha, hl, fa, sa, T, t1, t2, fun k u x hu hx => Own.noE hK hC hi n (noE_get hd hx) (t3 k u x hu hx)⟩
  | 0, .di, v, d, S, hd, h => by
    obtain ⟨a, kvs, ks, xs, e1, e2, _⟩ := h
    subst e2
    exact nomatch hd
  | n + 1, .di, v, d, S, hd, h => by
    obtain ⟨a, kvs, ks, xs, e1, e2, sa, ha, hk, r⟩ := h
    subst e2
    exact ⟨a, kvs, ks, xs, e1, rfl, sa, ha, hk, Reps.noE hK hC n hd r⟩
  | 0, .io, v, d, S, hd, h => by
    obtain ⟨a, vs, xs, e1, e2, _⟩ := h
    subst e2
    exact nomatch hd
  | n + 1, .io, v, d, S, hd, h => by
    obtain ⟨a, vs, xs, e1, e2, sa, hia, ha, r⟩ := h
    subst e2
    exact ⟨a, vs, xs, e1, rfl, sa, hi a hia, ha, Reps.noE hK hC n hd r⟩
def slotNoE : Option (Ow × D) → Bool
  | none => true
  | some (_, d) => d.noE 7
def envNoE (e : XEnv) : Bool := e.all slotNoE
theorem Si.noE {c c' : Ct} {F0 H0 F H : Hp} {sg : L2.St} {env : XEnv} (hK : c'.K = c.K) (hC : c'.C = c.C) (hi : ∀ a, c.ix a → c'.ix a) (he : envNoE env = true) (s : Si c F0 H0 F H sg env) : Si c' F0 H0 F H sg env := by
  obtain ⟨S, s1, s2, s3⟩ := s.own
  refine ⟨s.wd, s.len, S, s1, s2, fun i o d e => ?_⟩
  obtain ⟨v, h1, h2⟩ := s3 i o d e
  exact ⟨v, h1, Own.noE hK hC hi 7 (List.all_eq_true.mp he _ (List.mem_of_getElem? e)) h2⟩
def scOut (i : Nat) : Out → Out
  | .ret r => scRet (.ret r)
  | .next e => if envNoE (e.set i none) = true then .next (e.set i none) else .bad
  | _ => .bad
def xTryN (pk : Nat → Option Bool) (i : Nat) (bd hd : XS) : XS := fun env => match bd env with
  | .exc k e => match pk k with
    | some true => scOut i (hd (e.set i (some (.sh, .exn k))))
    | some false => .exc k e
    | none => .bad
  | o => o
theorem aft_scN {c : Ct} {W : WX} {F0 H0 F : Hp} {D D' : Ends} {o : Out} {i : Nat} {a : Addr} {m : Nat} (hr : D'.rt = D.rt) (hn : D'.nx = fun σ' H' => D.nx (σ'.set i none) H') (h : AftS c W F0 H0 F D (scOut i o)) : AftS (ctX c a m) WF F0 H0 F D' o := by
  cases o with
  | ret r => exact aft_sc hr h
  | next e =>
    replace h : AftS c W F0 H0 F D (if envNoE (e.set i none) = true then .next (e.set i none) else .bad) := h
    by_cases q : envNoE (e.set i none) = true
    · rw [if_pos q] at h
      intro F' H' sg' ex s'
      rw [hn]
      exact h F' H' _ ex ((s'.drop i none).noE (c := ctX c a m) (c' := c) rfl rfl (fun _ z => z) q)
    · rw [if_neg q] at h
      exact (show False from h).elim
  | _ => exact (show False from h).elim
section
variable {J : Jx}
theorem ss_tryN {x en : Str} {cv : Value} {body suite : List Stmt} {b0 : Stmt} {np pos' pos : Pos} {bd hd : XS} (i n : Nat) (pk : Nat → Option Bool) (hs : J.X.stack = J.X.env :: J.X.outer) (hf : J.X.env.frame = some J.X.env.locals) (hN : J.X.N.Nodup) (hi : J.X.N[i]? = some en) (hln : J.X.env.kindOf en = some .local)
    (hc : Names J.X x cv) (tk : Takes J.X J.W) (hpx : ∀ a k, ¬ J.c.px a k)
    (hk : ∀ k b, pk k = some b → PySem.W.exmOne J.X.K (.ref (J.c.ea k)) cv = some b) (hkn : ∀ k, pk k = some true → k < n)
    (hb : ∀ (W : WX) (pn : List (Addr × Obj)) (xe : Value → Shared → Prop), Takes (J.X.tr pn xe) W → PassesOwn (model J.X.prog J.X.w) J.X.A J.X.env xe → SSs ⟨J.X.tr pn xe, J.c, W, J.F0, J.H0⟩ body bd)
    (hsu : ∀ (a : Addr) (oe : Obj) (pn : List (Addr × Obj)) (m : Nat), m < n → Zc (.ref (J.c.ea m)) none oe → (∃ vs, oe.data = .fields vs) → SSs ⟨J.X.suite a ((a, oe) :: pn), ctX J.c a m, WF, J.F0, J.H0⟩ (b0 :: suite) hd) :
    SS J (.Try body [.ExceptHandler (some (.Name x np)) (some en) (b0 :: suite) pos'] [] [] pos) (xTryN pk i bd hd) :=
  (ps_try_as (tb := fun W => tXS J.c W J.F0 J.H0 bd) (ts := fun a cls d => fun D σ H => ∃ m, m < n ∧ cls = .ref (J.c.ea m) ∧ d = none ∧ tXS (ctX J.c a m) WF J.F0 J.H0 hd D σ H) hs hf hN hi hln hc tk (fun W pn xe t1 t2 => hb W pn xe t1 t2)
    (fun a oe cls d pn hz hfv => ⟨fun pins s σ H D I ⟨m, hm, e1, e2, h⟩ => by
      subst e1 e2
      exact (hsu a oe pn m hm hz hfv).run pins s σ H D I h⟩)).imp fun D sg H ⟨F, env, si, hq⟩ => ⟨F, env, si, by
  unfold xTryN at hq
  cases q : bd env with
  | next e => rw [q] at hq; exact hq
  | ret r => rw [q] at hq; exact hq
  | rete d x => rw [q] at hq; exact hq
  | brk e => rw [q] at hq; exact hq
  | cont e => rw [q] at hq; exact hq
  | bad => rw [q] at hq; exact hq
  | exc k e1 =>
    rw [q] at hq
    replace hq : AftS J.c J.W J.F0 J.H0 F D (match pk k with
      | some true => scOut i (hd (e1.set i (some (.sh, .exn k))))
      | some false => .exc k e1
      | none => .bad) := hq
    intro F' H' sg' e s'
    cases hp : pk k with
    | none => rw [hp] at hq; exact hq.elim
    | some b =>
      rw [hp] at hq
      refine ⟨b, hk k b hp, fun hbt a ha => ?_, fun hbf => ?_⟩
      · subst hbt
        refine ⟨k, hkn k hp, rfl, rfl, F', e1.set i (some (.sh, .exn k)), ?_, AftS.grow e (aft_scN (D := D) rfl rfl hq)⟩
        have s2 : Si (ctX J.c a k) J.F0 J.H0 F' H' sg' e1 := Si.px (c := J.c) (c' := ctX J.c a k) rfl rfl (fun b j h => absurd h (hpx b j)) (fun _ h => h) s'
        exact s2.store (Wd.refl s2.wd.fh) (Rv.sh (.exn ⟨rfl, rfl⟩)) i
      · subst hbf
        have hq2 : AftS J.c J.W J.F0 J.H0 F D (.exc k e1) := hq
        exact hq2 F' H' sg' e s'⟩
end
def kTryN (pk : Nat → Option Bool) (i : Nat) (hd : XS) : Out → Out
  | .exc k e => match pk k with
    | some true => scOut i (hd (e.set i (some (.sh, .exn k))))
    | some false => .exc k e
    | none => .bad
  | o => o
section
variable (pk : Nat → Option Bool) (i n k : Nat) (bd hd : XS) (env : XEnv)
@[simp] theorem e_TryN : xTryN pk i bd hd env = kTryN pk i hd (bd env) := by
  unfold xTryN
  cases bd env <;> rfl
@[simp] theorem kTryN_next : kTryN pk i hd (.next env) = .next env := rfl
@[simp] theorem kTryN_ret (r : Val) : kTryN pk i hd (.ret r) = .ret r := rfl
theorem kTryN_exc (h : pk k = some true) : kTryN pk i hd (.exc k env) = scOut i (hd (env.set i (some (.sh, .exn k)))) := by
  show (match pk k with
    | some true => scOut i (hd (env.set i (some (.sh, .exn k))))
    | some false => .exc k env
    | none => .bad) = _
  rw [h]
theorem scOut_next {e : XEnv} (h : envNoE (e.set i none) = true) : scOut i (.next e) = .next (e.set i none) := if_pos h
end
end Bk
set_option Elab.async false
set_option linter.all false
set_option maxRecDepth 100000
set_option maxHeartbeats 4000000
/-! BkT: lists of fresh lists: made, lengthened, checked; pop(0). -/
namespace Bk
open PySem L2 PySem.Spec PyProof.Rows
/-! ### [] that will hold fresh lists -/
def xLstN : XE := fun _ => .ok ⟨.li (.li .sh), false, .lst []⟩
section
variable {J : Jx} {pos : Pos}
theorem se_lstN : SE J (.List [] pos) xLstN := (pe_lst pa_nil).imp fun sg H Q ⟨F, env, si, hq⟩ => by
  refine ⟨Evl.sz_of (show (0 : Nat) ≤ 100000 by decide), fun p hp => ?_⟩
  have fp : F p = none := Evl.fresh_back si.wd.fh hp
  refine hq F (upd H p (.lst [])) (.ref p) ((Wd.refl si.wd.fh).heap (Evl.Ex.new hp)) ⟨fun a => a = p, ⟨p, [], [], rfl, rfl, rfl, upd_same, rfl, fun _ _ => False, fun _ _ z => z.elim, fun _ _ _ z => z.elim, fun k u x hu _ => by simp at hu⟩, fun a ea => ?_⟩
  subst ea
  refine ⟨fun _ => hp, fp, ?_⟩
  rw [upd_same]
  exact fun z => by cases z
end
/-! ### a fresh list is put at its end -/
section
variable {c : Ct} {F0 H0 F H F' H' : Hp} {sg : L2.St} {env : XEnv}
theorem Si.pushN {i : Nat} {xs : List D} {u : V} {d : D} (s : Si c F0 H0 F H sg env) (he : env[i]? = some (some (.li (.li .sh), .lst xs))) (w : Wd F H F' H') (r : Rv c H F' H' u ⟨.li .sh, false, d⟩) :
    ∃ a vs, sg[i]? = some (some (.ref a)) ∧ H' a = some (.lst vs) ∧ vs.length = xs.length ∧ Si c F0 H0 F' (upd H' a (.lst (vs ++ [u]))) sg (env.set i (some (.li (.li .sh), .lst (xs ++ [d])))) := by
  obtain ⟨S, s1, s2, s3⟩ := s.own
  obtain ⟨v, h1, a, vs, zs, e1, e2, sa, ha, hl, T, t1, t2, t3⟩ := s3 i _ _ he
  subst e1
  cases e2
  obtain ⟨R, r1, r2⟩ := r
  have hli : i < env.length := (List.getElem?_eq_some_iff.mp he).1
  have s' := s.grow w
  have sH : ∀ j q, S j q → ¬ R q := fun j q sq rq => (s2 j q sq).2.2 ((r2 q rq).1 rfl)
  have hS : ∀ j q, S j q → H0 q = none ∧ F' q = none ∧ H' q ≠ none := fun j q sq => ⟨(s2 j q sq).1, wd_none w (s2 j q sq).2.1 (s2 j q sq).2.2, by rw [wd_same w (s2 j q sq).2.2]; exact (s2 j q sq).2.2⟩
  have hR : ∀ q, R q → H0 q = none ∧ F' q = none ∧ H' q ≠ none := fun q rq => ⟨Evl.fresh_back s.wd.h ((r2 q rq).1 rfl), (r2 q rq).2⟩
  have ha' : H' a = some (.lst vs) := w.h _ _ ha
  have fa := hS i a sa
  have eF : Ex F' (upd H' a (.lst (vs ++ [u]))) := s'.wd.fh.mut fa.2.1
  refine ⟨a, vs, h1, ha', hl, ⟨s'.wd.f, eF, s'.wd.h.mut fa.1, s'.wd.n⟩, by rw [List.length_set]; exact s.len, fun j q => if j = i then S i q ∨ R q else S j q, fun j k q hj hk => ?_, fun j q hj => ?_, fun j o3 d3 hk => ?_⟩
  · by_cases q1 : j = i <;> by_cases q2 : k = i
    · rw [q1, q2]
    · simp only [if_pos q1] at hj
      simp only [if_neg q2] at hk
      rcases hj with hj | hj
      · exact (q2 (s1 k i q hk hj)).elim
      · exact (sH k q hk hj).elim
    · simp only [if_neg q1] at hj
      simp only [if_pos q2] at hk
      rcases hk with hk | hk
      · exact (q1 (s1 j i q hj hk)).elim
      · exact (sH j q hj hk).elim
    · simp only [if_neg q1] at hj
      simp only [if_neg q2] at hk
      exact s1 j k q hj hk
  · have base : H0 q = none ∧ F' q = none ∧ H' q ≠ none := by
      by_cases q1 : j = i
      · simp only [if_pos q1] at hj
        rcases hj with hj | hj
        · exact hS i q hj
        · exact hR q hj
      · simp only [if_neg q1] at hj
        exact hS j q hj
    refine ⟨base.1, base.2.1, ?_⟩
    by_cases z : q = a
    · rw [z, upd_same]
      exact fun z => by cases z
    · rw [upd_ne z]
      exact base.2.2
  · by_cases q : j = i
    · subst q
      rw [List.getElem?_set_self hli] at hk
      cases hk
      refine ⟨.ref a, h1, ?_⟩
      simp only [if_pos]
      refine ⟨a, vs ++ [u], xs ++ [d], rfl, rfl, .inl sa, upd_same, by rw [List.length_append, List.length_append, hl]; rfl, fun k q => if k < vs.length then T k q else if k = vs.length then R q else False, fun k q hk => ?_, fun k m q hk hm => ?_, fun k u2 x2 hu hx => ?_⟩
      · by_cases z : k < vs.length
        · simp only [if_pos z] at hk
          exact ⟨.inl (t1 k q hk).1, (t1 k q hk).2⟩
        · by_cases y : k = vs.length
          · simp only [if_neg z, if_pos y] at hk
            exact ⟨.inr hk, fun e => sH j q (e ▸ sa) hk⟩
          · simp only [if_neg z, if_neg y] at hk
      · by_cases z : k < vs.length
        · simp only [if_pos z] at hk
          by_cases z2 : m < vs.length
          · simp only [if_pos z2] at hm
            exact t2 k m q hk hm
          · by_cases y2 : m = vs.length
            · simp only [if_neg z2, if_pos y2] at hm
              exact (sH j q (t1 k q hk).1 hm).elim
            · simp only [if_neg z2, if_neg y2] at hm
        · by_cases y : k = vs.length
          · simp only [if_neg z, if_pos y] at hk
            by_cases z2 : m < vs.length
            · simp only [if_pos z2] at hm
              exact (sH j q (t1 m q hm).1 hk).elim
            · by_cases y2 : m = vs.length
              · rw [y, y2]
              · simp only [if_neg z2, if_neg y2] at hm
          · simp only [if_neg z, if_neg y] at hk
      · by_cases z : k < vs.length
        · rw [List.getElem?_append_left z] at hu
          rw [List.getElem?_append_left (by omega)] at hx
          simp only [if_pos z]
          refine (t3 k u2 x2 hu hx).frame w.f (fun q hq => ?_) fun q hq => (hS j q (t1 k q hq).1).2.1
          rw [upd_ne (t1 k q hq).2]
          exact wd_same w (s2 j q (t1 k q hq).1).2.2
        · rw [List.getElem?_append_right (by omega)] at hu
          rw [List.getElem?_append_right (by omega)] at hx
          have k0 : k - vs.length = 0 := by
            cases hq : k - vs.length with
            | zero => rfl
            | succ m =>
              rw [hq] at hu
              simp at hu
          have y : k = vs.length := by omega
          have kx : k - xs.length = 0 := by omega
          rw [k0] at hu
          rw [kx] at hx
          cases hu
          cases hx
          simp only [if_neg z, if_pos y]
          exact r1.frame (Evl.Ex.refl F') (fun q hq => upd_ne fun e => sH j q (e ▸ sa) hq) fun q hq => (hR q hq).2.1
    · rw [List.getElem?_set_ne (Ne.symm q)] at hk
      obtain ⟨v, h4, h5⟩ := s3 j o3 d3 hk
      refine ⟨v, h4, ?_⟩
      simp only [if_neg q]
      refine h5.frame w.f (fun b2 hb2 => ?_) fun b2 hb2 => (hS j b2 hb2).2.1
      rw [upd_ne fun z => q (s1 j i b2 hb2 (by rw [z]; exact sa))]
      exact wd_same w (s2 j b2 hb2).2.2
end
def atNL : Option (Option (Ow × D)) → Option (List D)
  | some (some (.li (.li .sh), .lst xs)) => some xs
  | _ => none
theorem atNL_some {x : Option (Option (Ow × D))} {xs : List D} (h : atNL x = some xs) : x = some (some (.li (.li .sh), .lst xs)) := by
  unfold atNL at h
  split at h
  · cases h
    rfl
  · cases h
def freshL : Val → Option D
  | ⟨.li .sh, false, d⟩ => some d
  | _ => none
theorem freshL_some {a : Val} {d : D} (h : freshL a = some d) : a = ⟨.li .sh, false, d⟩ := by
  unfold freshL at h
  split at h
  · cases h
    rfl
  · cases h
/-- xs.append(e), e a fresh list, xs the list of fresh lists of slot i -/
def xAppN (i : Nat) (f : XE) : XS := fun env => match atNL env[i]? with
  | some xs => match f env with
    | .ok a => match freshL a with
      | some d => if xs.length < 100000 then .next (env.set i (some (.li (.li .sh), .lst (xs ++ [d])))) else .bad
      | none => .bad
    | .exc n => .exc n env
    | .bad => .bad
  | none => .bad
/-- xs.pop(0) -/
def xPop0 (i : Nat) : XS := fun env => match env[i]? with
  | some (some (.li .sh, .lst xs)) => match xs with
    | _ :: ys => .next (env.set i (some (.li .sh, .lst ys)))
    | [] => .bad
  | _ => .bad
section
variable {J : Jx} {st : Stmt} {f : XE}
theorem ss_appN {K : PySem.W.Frag} {i : Nat} (h : PS J.X st (tDrop (tBM K "list" rAppend (tVar i) (tCons (tX J.c J.W J.F0 J.H0 f) tNil)))) : SS J st (xAppN i f) := h.imp fun D sg H ⟨F, env, si, hq⟩ => by
  unfold xAppN at hq
  cases hp : atNL env[i]? with
  | none => rw [hp] at hq; exact hq.elim
  | some xs =>
    rw [hp] at hq
    have hx := atNL_some hp
    obtain ⟨S, s1, s2, s3⟩ := si.own
    obtain ⟨v, h1, a, vs, zs, e1, e2, sa, ha, hl, _⟩ := s3 i _ _ hx
    subst e1
    refine ⟨_, h1, .inl ⟨rfl, _, .inl (.inl ha)⟩, F, env, si, ?_⟩
    refine aftS_bind (k := fun a => match freshL a with
      | some d => if xs.length < 100000 then .next (env.set i (some (.li (.li .sh), .lst (xs ++ [d])))) else .bad
      | none => .bad) si hq fun F1 H1 u b w rv _ hk => ?_
    cases hf : freshL b with
    | none => rw [hf] at hk; exact (show False from hk).elim
    | some d =>
      rw [hf] at hk
      have eb := freshL_some hf
      subst eb
      replace hk : AftS J.c J.W J.F0 J.H0 F D (if xs.length < 100000 then .next (env.set i (some (.li (.li .sh), .lst (xs ++ [d])))) else .bad) := hk
      by_cases hlx : xs.length < 100000
      · rw [if_pos hlx] at hk
        obtain ⟨a2, vs2, g1, g2, g3, g4⟩ := si.pushN hx w rv
        rw [h1] at g1
        cases g1
        exact ⟨a, vs2, u, rfl, rfl, g2, Evl.sz_lt (by rw [g3]; exact hlx), hk F1 _ sg w.f g4⟩
      · rw [if_neg hlx] at hk
        exact hk.elim
theorem ss_pop0 {K : PySem.W.Frag} {i : Nat} (h : PS J.X st (tDrop (tBM K "list" rPopAt (tVar i) (tCons (tX J.c J.W J.F0 J.H0 (xC (.int 0))) tNil)))) : SS J st (xPop0 i) := h.imp fun D sg H ⟨F, env, si, hq⟩ => by
  refine ownL (k := fun xs => match xs with
    | _ :: ys => .next (env.set i (some (.li .sh, .lst ys)))
    | [] => .bad) hq fun xs hx hq => ?_
  cases xs with
  | nil => exact (show False from hq).elim
  | cons y ys =>
    replace hq : AftS J.c J.W J.F0 J.H0 F D (.next (env.set i (some (.li .sh, .lst ys)))) := hq
    obtain ⟨a, vs, h1, ha, hr, _⟩ := Si.mut (ys := []) si hx
    refine ⟨_, h1, .inl ⟨rfl, _, .inl (.inl ha)⟩, F, env, si, fun F1 H1 u w rv => ?_⟩
    have rr := rv.repF
    cases rr
    obtain ⟨a2, vs2, g1, g2, g3, g4⟩ := Si.mut (ys := []) (si.grow w) hx
    rw [h1] at g1
    cases g1
    cases g3 with
    | @cons v0 _ vs0 _ r1 r2 =>
      refine ⟨a, v0 :: vs0, 0, 0, v0, rfl, rfl, g2, by decide, by decide, ?_, rfl, hq F1 _ sg w.f (g4 _ _ r2)⟩
      unfold seqIndex?
      simp
end
/-! ### a list of fresh lists is checked -/
section
variable {c : Ct} {F0 H0 F H : Hp} {sg : L2.St} {env : XEnv}
theorem Si.hide (s : Si c F0 H0 F H sg env) (i : Nat) : Si c F0 H0 F H sg (env.set i none) := by
  obtain ⟨S, s1, s2, s3⟩ := s.own
  refine ⟨s.wd, by rw [List.length_set]; exact s.len, S, s1, s2, fun j o d e => ?_⟩
  by_cases q : j = i
  · subst q
    by_cases hl : j < env.length
    · rw [List.getElem?_set_self hl] at e
      cases e
    · rw [List.getElem?_eq_none_iff.mpr (by rw [List.length_set]; omega)] at e
      cases e
  · rw [List.getElem?_set_ne (Ne.symm q)] at e
    exact s3 j o d e
/-- a slot whose value is known is told -/
theorem Si.tell {v : V} {d : D} (s : Si c F0 H0 F H sg env) {j : Nat} (hv : sg[j]? = some (some v)) (r : Rep c F v d) : Si c F0 H0 F H sg (env.set j (some (.sh, d))) := by
  obtain ⟨S, s1, s2, s3⟩ := s.own
  refine ⟨s.wd, by rw [List.length_set]; exact s.len, fun i a => if i = j then False else S i a, fun i k a hi hk => ?_, fun i a hi => ?_, fun i o d2 e => ?_⟩
  · by_cases q1 : i = j
    · simp only [if_pos q1] at hi
    · by_cases q2 : k = j
      · simp only [if_pos q2] at hk
      · simp only [if_neg q1] at hi
        simp only [if_neg q2] at hk
        exact s1 i k a hi hk
  · by_cases q1 : i = j
    · simp only [if_pos q1] at hi
    · simp only [if_neg q1] at hi
      exact s2 i a hi
  · by_cases q : i = j
    · subst q
      have hl : i < env.length := by
        rw [← s.len]
        exact (List.getElem?_eq_some_iff.mp hv).1
      rw [List.getElem?_set_self hl] at e
      cases e
      exact ⟨v, hv, r⟩
    · rw [List.getElem?_set_ne (Ne.symm q)] at e
      obtain ⟨v2, h1, h2⟩ := s3 i o d2 e
      refine ⟨v2, h1, ?_⟩
      simp only [if_neg q]
      exact h2
end
def isF : Res Bool → Bool
  | .ok false => true
  | _ => false
theorem isF_eq {r : Res Bool} (h : isF r = true) : r = .ok false := by
  unfold isF at h
  split at h
  · rfl
  · cases h
def chk1 (f2 : XB) (e : XEnv) (k : Nat) : List D → Bool
  | [] => true
  | y :: ys => isF (f2 (e.set k (some (.sh, y)))) && chk1 f2 e k ys
def chk2 (f1 f2 : XB) (e : XEnv) (j k : Nat) : List D → Bool
  | [] => true
  | .lst ys :: xs => isF (f1 (e.set j (some (.sh, .lst ys)))) && chk1 f2 (e.set j (some (.sh, .lst ys))) k ys && chk2 f1 f2 e j k xs
  | _ :: _ => false
theorem chk1_get {f2 : XB} {e : XEnv} {k : Nat} : ∀ {ys : List D} {n : Nat} {y : D}, chk1 f2 e k ys = true → ys[n]? = some y → f2 (e.set k (some (.sh, y))) = .ok false
  | y :: ys, 0, _, h, hy => by
    cases hy
    unfold chk1 at h
    rw [Bool.and_eq_true] at h
    exact isF_eq h.1
  | y :: ys, n + 1, z, h, hy => by
    unfold chk1 at h
    rw [Bool.and_eq_true] at h
    exact chk1_get h.2 (by simpa using hy)
  | [], n, y, h, hy => by simp at hy
theorem chk2_get {f1 f2 : XB} {e : XEnv} {j k : Nat} : ∀ {ps : List D} {n : Nat} {x : D}, chk2 f1 f2 e j k ps = true → ps[n]? = some x → ∃ ys, x = .lst ys ∧ f1 (e.set j (some (.sh, .lst ys))) = .ok false ∧ chk1 f2 (e.set j (some (.sh, .lst ys))) k ys = true
  | [], n, x, h, hx => by simp at hx
  | p :: ps, n, x, h, hx => by
    cases p with
    | lst ys =>
      unfold chk2 at h
      rw [Bool.and_eq_true, Bool.and_eq_true] at h
      cases n with
      | zero =>
        cases hx
        exact ⟨ys, rfl, isF_eq h.1.1, h.1.2⟩
      | succ n => exact chk2_get h.2 (by simpa using hx)
    | _ => exact nomatch h
/-- for x in xs: if t1: return ..; for y in x: if t2: return .. (no test holds) -/
def xChkN (i j k : Nat) (f1 f2 : XB) : XS := fun env => match atNL env[i]? with
  | some ps => if (chk2 f1 f2 (((env.set j none).set k none).set i (some (.sh, .lst ps))) j k ps && decide (j < env.length)) = true then .next ((env.set j none).set k none) else .bad
  | none => .bad
section
variable {J : Jx} {st : Stmt} {f1 f2 : XB} {t1 t2 : TS}
theorem ss_chkN {K K2 : PySem.W.Frag} {i j k : Nat} (hij : i ≠ j) (hik : i ≠ k) (hjk : j ≠ k) (h : PS J.X st (tFor (iList K (tVar i)) (gName j) (tSeq (tIfS (tXB J.c J.W J.F0 J.H0 f1) t1 tNext) (tFor (iList K2 (tVar j)) (gName k) (tIfS (tXB J.c J.W J.F0 J.H0 f2) t2 tNext))))) : SS J st (xChkN i j k f1 f2) := h.imp fun D sg H ⟨F, env, si, hq⟩ => by
  unfold xChkN at hq
  cases hp : atNL env[i]? with
  | none => rw [hp] at hq; exact hq.elim
  | some ps =>
    rw [hp] at hq
    replace hq : AftS J.c J.W J.F0 J.H0 F D (if (chk2 f1 f2 (((env.set j none).set k none).set i (some (.sh, .lst ps))) j k ps && decide (j < env.length)) = true then .next ((env.set j none).set k none) else .bad) := hq
    by_cases hc0 : (chk2 f1 f2 (((env.set j none).set k none).set i (some (.sh, .lst ps))) j k ps && decide (j < env.length)) = true
    · rw [if_pos hc0] at hq
      rw [Bool.and_eq_true, decide_eq_true_eq] at hc0
      obtain ⟨hc, hjl⟩ := hc0
      have hx := atNL_some hp
      have hil : i < env.length := (List.getElem?_eq_some_iff.mp hx).1
      obtain ⟨S, s1, s2, s3⟩ := si.own
      obtain ⟨v, h1, a, vs, zs, e1, e2, sa, ha, hl, _⟩ := s3 i _ _ hx
      subst e1
      cases e2
      have sE0 : Si J.c J.F0 J.H0 F H sg ((env.set j none).set k none) := (si.hide j).hide k
      have lE : ((env.set j none).set k none).length = env.length := by rw [List.length_set, List.length_set]
      have xE : ((env.set j none).set k none)[i]? = some (some (.li (.li .sh), .lst ps)) := by
        rw [List.getElem?_set_ne (Ne.symm hik), List.getElem?_set_ne (Ne.symm hij)]
        exact hx
      have kE : ((env.set j none).set k none).set k none = (env.set j none).set k none := List.set_set ..
      have jE : ((env.set j none).set k none).set j none = (env.set j none).set k none := by
        rw [List.set_comm _ _ (Ne.symm hjk), List.set_set]
      generalize (env.set j none).set k none = E0 at *
      -- the frozen view
      have froz : ∀ (sg2 : L2.St) (Hx : Hp), Si J.c J.F0 J.H0 F Hx sg2 E0 → sg2[i]? = some (some (.ref a)) → Hx a = some (.lst vs) → ∃ F', Ex F' Hx ∧ Si J.c J.F0 J.H0 F' Hx sg2 (E0.set i (some (.sh, .lst ps))) ∧ Reps J.c F' vs ps := by
        intro sg2 Hx s g1 ga
        obtain ⟨F', w1, ef, sF⟩ := s.freeze xE
        obtain ⟨v, q1, q2⟩ := sF.shared (i := i) (List.getElem?_set_self (by omega))
        rw [g1] at q1
        cases q1
        cases q2 with
        | lst hF hr =>
          have := sF.wd.fh _ _ hF
          rw [ga] at this
          cases this
          exact ⟨F', sF.wd.fh, sF, hr⟩
      refine ⟨_, h1, a, rfl, ⟨vs, .inl (.inl ha)⟩, fun n m sg2 Hx => m = ps.length - n ∧ n ≤ ps.length ∧ sg2[i]? = some (some (.ref a)) ∧ Wd F H F Hx ∧ Si J.c J.F0 J.H0 F Hx sg2 E0, ⟨ps.length, by simp, Nat.zero_le _, h1, Wd.refl si.wd.fh, sE0⟩, ?_⟩
      rintro n m sg2 Hx ⟨rfl, hn, g1, w, sx⟩
      have haX := w.h _ _ ha
      by_cases hlt : n < ps.length
      · have hvn : vs[n]? = some (vs[n]'(by omega)) := List.getElem?_eq_getElem (by omega)
        have hpn : ps[n]? = some ps[n] := List.getElem?_eq_getElem hlt
        refine .inr ⟨⟨vs, _, .inl (.inl haX), hvn⟩, fun sg3 H3 => sg3[i]? = some (some (.ref a)) ∧ Wd F H F H3 ∧ Si J.c J.F0 J.H0 F H3 sg3 E0, fun sg3 H3 hN => ⟨ps.length - (n + 1), by omega, rfl, by omega, hN⟩, fun x H' y => ?_⟩
        obtain ⟨eH, ey⟩ := y
        subst eH
        have ex := ey vs (.inl (.inl haX))
        rw [hvn] at ex
        cases ex
        obtain ⟨ys, ep, c1, c2⟩ := chk2_get hc hpn
        generalize hxv : vs[n]'(by omega) = x at *
        -- slot j is x
        have hj2 : (sg2.set j (some x))[j]? = some (some x) := List.getElem?_set_self (by rw [sx.len, lE]; exact hjl)
        have hi2 : (sg2.set j (some x))[i]? = some (some (.ref a)) := by
          rw [List.getElem?_set_ne (Ne.symm hij)]
          exact g1
        have sx2 : Si J.c J.F0 J.H0 F H' (sg2.set j (some x)) E0 := by
          have := sx.drop j (some x)
          rw [jE] at this
          exact this
        -- x in a frozen view
        have xin : ∀ (sg4 : L2.St) (H4 : Hp), Si J.c J.F0 J.H0 F H4 sg4 E0 → sg4[i]? = some (some (.ref a)) → sg4[j]? = some (some x) → H4 a = some (.lst vs) → ∃ F', Ex F' H4 ∧ Si J.c J.F0 J.H0 F' H4 sg4 ((E0.set i (some (.sh, .lst ps))).set j (some (.sh, .lst ys))) ∧ ∃ b us, x = .ref b ∧ F' b = some (.lst us) ∧ Reps J.c F' us ys := by
          intro sg4 H4 s4 q1 q2 q3
          obtain ⟨F', fx, sF, hr⟩ := froz sg4 H4 s4 q1 q3
          obtain ⟨d, hd, rd⟩ := hr.get hvn
          rw [hpn] at hd
          cases hd
          rw [ep] at rd
          have st := sF.tell q2 rd
          cases rd with
          | lst hb hbr => exact ⟨F', fx, st, _, _, rfl, hb, hbr⟩
        obtain ⟨F', fx, sF, b, us, exb, hb, hbr⟩ := xin _ _ sx2 hi2 hj2 haX
        refine ⟨F', _, sF, ?_⟩
        rw [c1]
        intro F2 H2 w2
        refine iteF ?_
        have hb2 : H2 b = some (.lst us) := w2.h _ _ (fx _ _ hb)
        have wA : Wd F H F H2 := w.heap w2.h
        have sA : Si J.c J.F0 J.H0 F H2 (sg2.set j (some x)) E0 := sx2.grow ((Wd.refl sx2.wd.fh).heap w2.h)
        refine ⟨x, hj2, b, exb, ⟨us, .inl (.inl hb2)⟩, fun n2 m2 sg4 H4 => m2 = ys.length - n2 ∧ n2 ≤ ys.length ∧ sg4[i]? = some (some (.ref a)) ∧ sg4[j]? = some (some x) ∧ Wd F H F H4 ∧ Si J.c J.F0 J.H0 F H4 sg4 E0 ∧ H4 b = some (.lst us), ⟨ys.length, by simp, Nat.zero_le _, hi2, hj2, wA, sA, hb2⟩, ?_⟩
        rintro n2 m2 sg4 H4 ⟨rfl, hn2, q1, q2, wB, sB, hb4⟩
        have lus := hbr.length
        by_cases hlt2 : n2 < ys.length
        · have hun : us[n2]? = some (us[n2]'(by omega)) := List.getElem?_eq_getElem (by omega)
          have hyn : ys[n2]? = some ys[n2] := List.getElem?_eq_getElem hlt2
          refine .inr ⟨⟨us, _, .inl (.inl hb4), hun⟩, fun sg5 H5 => sg5[i]? = some (some (.ref a)) ∧ sg5[j]? = some (some x) ∧ Wd F H F H5 ∧ Si J.c J.F0 J.H0 F H5 sg5 E0 ∧ H5 b = some (.lst us), fun sg5 H5 hN => ⟨ys.length - (n2 + 1), by omega, rfl, by omega, hN⟩, fun z H6 y6 => ?_⟩
          obtain ⟨eH6, ey6⟩ := y6
          subst eH6
          have ez := ey6 us (.inl (.inl hb4))
          rw [hun] at ez
          cases ez
          have k1 := chk1_get c2 hyn
          obtain ⟨F7, fx7, sF7, b7, us7, exb7, hb7, hbr7⟩ := xin _ _ sB q1 q2 (wB.h _ _ ha)
          rw [exb] at exb7
          cases exb7
          have := fx7 _ _ hb7
          rw [hb4] at this
          cases this
          obtain ⟨d, hd, rd⟩ := hbr7.get hun
          rw [hyn] at hd
          cases hd
          refine ⟨F7, _, sF7.put rd k, ?_⟩
          rw [k1]
          intro F8 H8 w8
          refine iteF ?_
          refine ⟨?_, ?_, wB.heap w8.h, ?_, w8.h _ _ hb4⟩
          · rw [List.getElem?_set_ne (Ne.symm hik)]
            exact q1
          · rw [List.getElem?_set_ne (Ne.symm hjk)]
            exact q2
          · have := (sB.drop k (some (us[n2]'(by omega)))).grow ((Wd.refl sB.wd.fh).heap w8.h)
            rw [kE] at this
            exact this
        · have e : n2 = ys.length := by omega
          exact .inl ⟨⟨us, .inl (.inl hb4), by omega⟩, q1, wB, sB⟩
      · exact .inl ⟨⟨vs, .inl (.inl haX), by omega⟩, hq F Hx sg2 (Evl.Ex.refl F) sx⟩
    · rw [if_neg hc0] at hq
      exact hq.elim
end
end Bk
set_option Elab.async false
set_option linter.all false
set_option maxRecDepth 100000
set_option maxHeartbeats 4000000
/-! BkN: what BkT's ways compute, for simp. -/
namespace Bk
open PySem L2
variable {f : XE} {env : XEnv} {d : D} {xs : List D}
@[simp] theorem e_LstN : xLstN env = .ok ⟨.li (.li .sh), false, .lst []⟩ := rfl
@[simp] theorem atNL_l : atNL (some (some (.li (.li .sh), .lst xs))) = some xs := rfl
@[simp] theorem freshL_l : freshL ⟨.li .sh, false, d⟩ = some d := rfl
@[simp] theorem e_AppN (i : Nat) : xAppN i f env = match atNL env[i]? with
  | some xs => match f env with
    | .ok a => match freshL a with
      | some d => if xs.length < 100000 then .next (env.set i (some (.li (.li .sh), .lst (xs ++ [d])))) else .bad
      | none => .bad
    | .exc n => .exc n env
    | .bad => .bad
  | none => .bad := rfl
@[simp] theorem e_Pop0 (i : Nat) : xPop0 i env = match env[i]? with
  | some (some (.li .sh, .lst xs)) => match xs with
    | _ :: ys => .next (env.set i (some (.li .sh, .lst ys)))
    | [] => .bad
  | _ => .bad := rfl
theorem chk1_all {f2 : XB} {e : XEnv} {k : Nat} : ∀ {ys : List D}, (∀ y ∈ ys, f2 (e.set k (some (.sh, y))) = .ok false) → chk1 f2 e k ys = true
  | [], _ => rfl
  | y :: ys, h => by
    unfold chk1
    rw [h y List.mem_cons_self, chk1_all fun z hz => h z (List.mem_cons_of_mem _ hz)]
    rfl
theorem chk2_all {f1 f2 : XB} {e : XEnv} {j k : Nat} : ∀ {ps : List (List D)}, (∀ ys ∈ ps, f1 (e.set j (some (.sh, .lst ys))) = .ok false ∧ ∀ y ∈ ys, f2 ((e.set j (some (.sh, .lst ys))).set k (some (.sh, y))) = .ok false) → chk2 f1 f2 e j k (ps.map .lst) = true
  | [], _ => rfl
  | ys :: ps, h => by
    have h1 := h ys List.mem_cons_self
    rw [List.map_cons]
    unfold chk2
    rw [h1.1, chk1_all h1.2, chk2_all fun z hz => h z (List.mem_cons_of_mem _ hz)]
    rfl
end Bk
set_option Elab.async false
set_option linter.all false
set_option maxRecDepth 100000
set_option maxHeartbeats 4000000
/-! BkM: comprehensions that give fresh lists; a part of a list of fresh lists stored; insert into a part. -/
namespace Bk
open PySem L2 PySem.Spec PyProof.Rows
/-- a turn gives a fresh list -/
def lcStepN (tg : Tg) (f : XE) (env : XEnv) (d : D) : Res (Option D) := match tg.put d env with
  | none => .bad
  | some e1 => match f e1 with
    | .ok a => match freshL a with
      | some d => .ok (some d)
      | none => .bad
    | _ => .bad
def xLcN (vs : List Nat) (it : XI) (tg : Tg) (f : XE) : XE := fun env => (it env).bind fun ds => if ds.length ≤ 100000 then (match lcGo (lcStepN tg f (wipeX env vs)) ds with
  | .ok xs => .ok ⟨.li (.li .sh), false, .lst xs⟩
  | _ => .bad) else .bad
/-- each of us owned, by places that are new behind G -/
def Owns (c : Ct) (G F H : Hp) (L : Addr) (us : List V) (xs : List D) : Prop := us.length = xs.length ∧ ∃ T : Nat → Addr → Prop, (∀ k b, T k b → b ≠ L ∧ G b = none ∧ F b = none ∧ H b ≠ none) ∧ (∀ k j b, T k b → T j b → k = j) ∧ ∀ k u x, us[k]? = some u → xs[k]? = some x → Own c F H (.li .sh) u x (T k)
section
variable {c : Ct} {W : WX} {F0 H0 : Hp} {sg : L2.St} {F H G F' H' : Hp} {env : XEnv} {L : Addr} {us : List V} {xs : List D}
theorem Owns.nil : Owns c G F H L [] [] := ⟨rfl, fun _ _ => False, fun _ _ z => z.elim, fun _ _ _ z => z.elim, fun k u x hu _ => by simp at hu⟩
theorem Owns.grow (w : Wd F H F' H') (o : Owns c G F H L us xs) : Owns c G F' H' L us xs := by
  obtain ⟨hl, T, t1, t2, t3⟩ := o
  exact ⟨hl, T, fun k b hb => ⟨(t1 k b hb).1, (t1 k b hb).2.1, wd_none w (t1 k b hb).2.2.1 (t1 k b hb).2.2.2, by rw [wd_same w (t1 k b hb).2.2.2]; exact (t1 k b hb).2.2.2⟩, t2, fun k u x hu hx =>
    (t3 k u x hu hx).frame w.f (fun b hb => wd_same w (t1 k b hb).2.2.2) fun b hb => wd_none w (t1 k b hb).2.2.1 (t1 k b hb).2.2.2⟩
theorem Owns.upd {ws : List V} (o : Owns c G F H L us xs) : Owns c G F (upd H L (.lst ws)) L us xs := by
  obtain ⟨hl, T, t1, t2, t3⟩ := o
  exact ⟨hl, T, fun k b hb => ⟨(t1 k b hb).1, (t1 k b hb).2.1, (t1 k b hb).2.2.1, by rw [upd_ne (t1 k b hb).1]; exact (t1 k b hb).2.2.2⟩, t2, fun k u x hu hx =>
    (t3 k u x hu hx).frame (Evl.Ex.refl F) (fun b hb => upd_ne (t1 k b hb).1) fun b hb => (t1 k b hb).2.2.1⟩
/-- one more: o stood at (F, H); the new one came out as the heap grew to (F', H') -/
theorem Owns.add {u : V} {d : D} (o : Owns c G F H L us xs) (w : Wd F H F' H') (eG : ∀ b, H b = none → G b = none) (hL : H L ≠ none) (rv : Rv c H F' H' u ⟨.li .sh, false, d⟩) : Owns c G F' H' L (us ++ [u]) (xs ++ [d]) := by
  obtain ⟨hl, T, t1, t2, t3⟩ := o
  obtain ⟨R, r1, r2⟩ := rv
  have dis : ∀ k b, T k b → R b → False := fun k b h1 h2 => (t1 k b h1).2.2.2 ((r2 b h2).1 rfl)
  refine ⟨by rw [List.length_append, List.length_append, hl]; rfl, fun k q => if k < us.length then T k q else if k = us.length then R q else False, fun k q hk => ?_, fun k m q hk hm => ?_, fun k u2 x2 hu hx => ?_⟩
  · by_cases z : k < us.length
    · simp only [if_pos z] at hk
      have := t1 k q hk
      exact ⟨this.1, this.2.1, wd_none w this.2.2.1 this.2.2.2, by rw [wd_same w this.2.2.2]; exact this.2.2.2⟩
    · by_cases y : k = us.length
      · simp only [if_neg z, if_pos y] at hk
        have := r2 q hk
        exact ⟨fun e => hL (e ▸ this.1 rfl), eG q (this.1 rfl), this.2.1, this.2.2⟩
      · simp only [if_neg z, if_neg y] at hk
  · by_cases z : k < us.length
    · simp only [if_pos z] at hk
      by_cases z2 : m < us.length
      · simp only [if_pos z2] at hm
        exact t2 k m q hk hm
      · by_cases y2 : m = us.length
        · simp only [if_neg z2, if_pos y2] at hm
          exact (dis k q hk hm).elim
        · simp only [if_neg z2, if_neg y2] at hm
    · by_cases y : k = us.length
      · simp only [if_neg z, if_pos y] at hk
        by_cases z2 : m < us.length
        · simp only [if_pos z2] at hm
          exact (dis m q hm hk).elim
        · by_cases y2 : m = us.length
          · rw [y, y2]
          · simp only [if_neg z2, if_neg y2] at hm
      · simp only [if_neg z, if_neg y] at hk
  · by_cases z : k < us.length
    · rw [List.getElem?_append_left z] at hu
      rw [List.getElem?_append_left (by omega)] at hx
      simp only [if_pos z]
      exact (t3 k u2 x2 hu hx).frame w.f (fun q hq => wd_same w (t1 k q hq).2.2.2) fun q hq => wd_none w (t1 k q hq).2.2.1 (t1 k q hq).2.2.2
    · rw [List.getElem?_append_right (by omega)] at hu
      rw [List.getElem?_append_right (by omega)] at hx
      have k0 : k - us.length = 0 := by
        cases hq : k - us.length with
        | zero => rfl
        | succ m =>
          rw [hq] at hu
          simp at hu
      have y : k = us.length := by omega
      have kx : k - xs.length = 0 := by omega
      rw [k0] at hu
      rw [kx] at hx
      cases hu
      cases hx
      simp only [if_neg z, if_pos y]
      exact r1
theorem tX_lcN {K : PySem.W.Frag} {vs : List Nat} {it : XI} {tg : Tg} {f : XE} {Q : VK} (hv : ∀ i ∈ tg.ixs, i ∈ vs) (h : tX c W F0 H0 (xLcN vs it tg f) sg H Q) : tLc (tXI c W F0 H0 it) (tg.t K) (tXB c WF F0 H0 xYes) (tX c WF F0 H0 f) vs sg H Q := by
  obtain ⟨F, env, si, hq⟩ := h
  refine ⟨F, env, si, ?_⟩
  unfold xLcN at hq
  cases hit : it env with
  | exc k => rw [hit] at hq; exact hq
  | bad => rw [hit] at hq; exact hq
  | ok ds =>
    rw [hit] at hq
    intro F1 H1 Ji w1 hJ L hL
    replace hq : Aft c W sg F H Q (if ds.length ≤ 100000 then (match lcGo (lcStepN tg f (wipeX env vs)) ds with
      | .ok xs => .ok ⟨.li (.li .sh), false, .lst xs⟩
      | _ => .bad) else .bad) := hq
    by_cases hlen : ds.length ≤ 100000
    · rw [if_pos hlen] at hq
      cases htot : lcGo (lcStepN tg f (wipeX env vs)) ds with
      | exc k => rw [htot] at hq; exact hq.elim
      | bad => rw [htot] at hq; exact hq.elim
      | ok tot =>
        rw [htot] at hq
        replace hq : Aft c W sg F H Q (.ok ⟨.li (.li .sh), false, .lst tot⟩) := hq
        refine ⟨fun i m Hx => m = ds.length - i ∧ i ≤ ds.length ∧ ∃ Fi xs us rest, Hx L = some (.lst us) ∧ Owns c H1 Fi Hx L us xs ∧ Wd F1 H1 Fi Hx ∧ Fi L = none ∧ xs.length ≤ i ∧ lcGo (lcStepN tg f (wipeX env vs)) (ds.drop i) = .ok rest ∧ tot = xs ++ rest,
          ⟨ds.length, by simp, Nat.zero_le _, F1, [], [], tot, upd_same, Owns.nil, ⟨Evl.Ex.refl F1, w1.fh.trans (Evl.Ex.new hL), Evl.Ex.new hL, fun a h1 h2 => absurd h1 h2⟩, Evl.fresh_back w1.fh hL, Nat.le_refl _, htot, rfl⟩, ?_⟩
        rintro i m Hx ⟨rfl, hi, Fi, xs, us, rest, hD, hr, wi, fD, hxl, hrest, htt⟩
        by_cases hlt : i < ds.length
        · refine .inr ?_
          obtain ⟨d, hd⟩ : ∃ d, ds[i]? = some d := ⟨ds[i], by simp [hlt]⟩
          have hdrop : ds.drop i = d :: ds.drop (i + 1) := by
            obtain ⟨e1, e2⟩ := List.getElem?_eq_some_iff.mp hd
            rw [← e2]
            exact List.drop_eq_getElem_cons hlt
          rw [hdrop] at hrest
          obtain ⟨o, r', hs, hr', htt'⟩ := lcGo_cons hrest
          obtain ⟨jg, jy⟩ := (hJ i Hx (wi.f.trans wi.fh)).1 d hd
          refine ⟨jg, fun H' => ∃ m', m' < ds.length - i ∧ (m' = ds.length - (i + 1) ∧ i + 1 ≤ ds.length ∧ ∃ Fi xs us rest, H' L = some (.lst us) ∧ Owns c H1 Fi H' L us xs ∧ Wd F1 H1 Fi H' ∧ Fi L = none ∧ xs.length ≤ i + 1 ∧ lcGo (lcStepN tg f (wipeX env vs)) (ds.drop (i + 1)) = .ok rest ∧ tot = xs ++ rest), fun H' hn => hn, fun x H' y => ?_⟩
          obtain ⟨eH, rx⟩ := jy x H' y
          subst eH
          unfold lcStepN at hs
          cases hp : tg.put d (wipeX env vs) with
          | none => rw [hp] at hs; cases hs
          | some e1 =>
            rw [hp] at hs
            have si1 : Si c F0 H0 Fi H' (L2.wipe sg vs) (wipeX env vs) := (si.grow (w1.trans wi)).wipe vs
            refine Tg.ok K si1 (rx.mono wi.f) hp fun vv si2 => ⟨wipe_setAll vv sg hv, Fi, e1, si2, ?_⟩
            replace hs : (match f e1 with
              | .ok a => match freshL a with
                | some d => .ok (some d)
                | none => .bad
              | _ => .bad) = Res.ok o := hs
            intro F2 H2 w2
            cases hf : f e1 with
            | exc k => rw [hf] at hs; cases hs
            | bad => rw [hf] at hs; cases hs
            | ok a =>
              rw [hf] at hs
              replace hs : (match freshL a with
                | some d => Res.ok (some d)
                | none => .bad) = Res.ok o := hs
              cases hfr : freshL a with
              | none => rw [hfr] at hs; cases hs
              | some da =>
                rw [hfr] at hs
                have ea := freshL_some hfr
                subst ea
                cases hs
                refine iteT ⟨F2, e1, si2.grow w2, ?_⟩
                rw [hf]
                intro F3 H3 u w3 rv
                have w6 : Wd Fi H' F3 H3 := w2.trans w3
                have hD2 : H2 L = some (.lst us) := w2.h _ _ hD
                have hD3 : H3 L = some (.lst us) := w6.h _ _ hD
                have fD3 : F3 L = none := wd_none w6 fD (by rw [hD]; exact fun z => by cases z)
                have w7 : Wd F1 H1 F3 H3 := wi.trans w6
                have ad := (hr.grow w2).add w3 (fun b hb => Evl.fresh_back (wi.trans w2).h hb) (by rw [hD2]; exact fun z => by cases z) rv
                refine ⟨us, hD3, Evl.sz_lt (by rw [hr.1]; omega), ds.length - (i + 1), by omega, rfl, by omega, F3, xs ++ [da], us ++ [u], r', upd_same, ad.upd, ⟨w7.f, w7.fh.mut fD3, w7.h.mut hL, w7.n⟩, fD3, by rw [List.length_append, List.length_singleton]; omega, hr', ?_⟩
                rw [htt, htt', List.append_assoc]
                rfl
        · have e : i = ds.length := by omega
          refine .inl ⟨(hJ i Hx (wi.f.trans wi.fh)).2 e, ?_⟩
          rw [e, List.drop_length] at hrest
          cases hrest
          rw [List.append_nil] at htt
          subst htt
          have wt := w1.trans wi
          obtain ⟨hl, T, t1, t2, t3⟩ := hr
          refine hq Fi Hx (.ref L) wt ⟨fun a => a = L ∨ ∃ k, T k a, ⟨L, us, tot, rfl, rfl, .inl rfl, hD, hl, T, fun k b hb => ⟨.inr ⟨k, hb⟩, (t1 k b hb).1⟩, t2, t3⟩, fun a ea => ?_⟩
          rcases ea with rfl | ⟨k, hk⟩
          · exact ⟨fun _ => Evl.fresh_back w1.h hL, fD, by rw [hD]; exact fun z => by cases z⟩
          · exact ⟨fun _ => Evl.fresh_back w1.h (t1 k a hk).2.1, (t1 k a hk).2.2⟩
    · rw [if_neg hlen] at hq
      exact hq.elim
end
section
variable {J : Jx} {pos : Pos} {f : XE} {elt tgt iter : Expr} {scope : Scope} {it : XI} {tg : Tg}
theorem se_lcN (own : List (Str × Nat)) (hc : J.X.calm = true) (hN : J.X.N.Nodup) (hi : SI J tgt iter it) (ok : BlkOk J.X.N J.X.env.scope scope own)
    (hg : ∀ s H C cl fp, PG (J.blk s H scope C cl fp).X tgt (tg.t J.X.K)) (he : ∀ s H C cl fp, SE (J.blk s H scope C cl fp) elt f) (hv : ∀ i ∈ tg.ixs, i ∈ own.map (·.2) := by decide)
    (hs : ∀ x, foldedSetIterable iter J.X.env x = pure x := by intro _; rfl) : SE J (.ListComp elt [⟨tgt, iter, [], 0⟩] scope pos) (xLcN (own.map (·.2)) it tg f) :=
  (pe_lc hc hN hi ok hg (fun s H C cl fp => spt_nil (J := J.blk s H scope C cl fp)) he hs).imp fun sg H Q h => tX_lcN hv h
theorem ss_setLcN {x : Str} {pos' pos2 : Pos} (i : Nat) (own : List (Str × Nat)) (hc : J.X.calm = true) (hN : J.X.N.Nodup) (hi : SI J tgt iter it) (ok : BlkOk J.X.N J.X.env.scope scope own)
    (hg : ∀ s H C cl fp, PG (J.blk s H scope C cl fp).X tgt (tg.t J.X.K)) (he : ∀ s H C cl fp, SE (J.blk s H scope C cl fp) elt f) (hy : J.X.N[i]? = some x := by rfl) (hyl : J.X.env.scope.names.lookup x = some .local := by rfl)
    (hsw : swapsWith (.ListComp elt [⟨tgt, iter, [], 0⟩] scope pos) (some (.Name x pos')) pos2.line J.X.env = pure true := by exact sw_true rfl rfl rfl (by decide +kernel)) (hv : ∀ i ∈ tg.ixs, i ∈ own.map (·.2) := by decide)
    (hs : ∀ x, foldedSetIterable iter J.X.env x = pure x := by intro _; rfl) : SS J (.Assign [.Name x pos'] (.ListComp elt [⟨tgt, iter, [], 0⟩] scope pos) pos2) (xSet i (xLcN (own.map (·.2)) it tg f)) :=
  (ps_setLc hc hN hy hyl hsw hi ok hg (fun s H C cl fp => spt_nil (J := J.blk s H scope C cl fp)) he hs).imp fun D sg H q => set_tS (tX_lcN hv) q
end
/-! ### a part is stored anew -/
section
variable {c : Ct} {F0 H0 F H F' H' : Hp} {sg : L2.St} {env : XEnv}
theorem Si.setN {i j : Nat} {xs : List D} {u : V} {d : D} (s : Si c F0 H0 F H sg env) (he : env[i]? = some (some (.li (.li .sh), .lst xs))) (w : Wd F H F' H') (r : Rv c H F' H' u ⟨.li .sh, false, d⟩) :
    ∃ a vs, sg[i]? = some (some (.ref a)) ∧ H' a = some (.lst vs) ∧ vs.length = xs.length ∧ Si c F0 H0 F' (upd H' a (.lst (vs.set j u))) sg (env.set i (some (.li (.li .sh), .lst (xs.set j d)))) := by
  obtain ⟨S, s1, s2, s3⟩ := s.own
  obtain ⟨v, h1, a, vs, zs, e1, e2, sa, ha, hl, T, t1, t2, t3⟩ := s3 i _ _ he
  subst e1
  cases e2
  obtain ⟨R, r1, r2⟩ := r
  have hli : i < env.length := (List.getElem?_eq_some_iff.mp he).1
  have s' := s.grow w
  have sH : ∀ j q, S j q → ¬ R q := fun j q sq rq => (s2 j q sq).2.2 ((r2 q rq).1 rfl)
  have hS : ∀ j q, S j q → H0 q = none ∧ F' q = none ∧ H' q ≠ none := fun j q sq => ⟨(s2 j q sq).1, wd_none w (s2 j q sq).2.1 (s2 j q sq).2.2, by rw [wd_same w (s2 j q sq).2.2]; exact (s2 j q sq).2.2⟩
  have hR : ∀ q, R q → H0 q = none ∧ F' q = none ∧ H' q ≠ none := fun q rq => ⟨Evl.fresh_back s.wd.h ((r2 q rq).1 rfl), (r2 q rq).2⟩
  have ha' : H' a = some (.lst vs) := w.h _ _ ha
  have fa := hS i a sa
  have eF : Ex F' (upd H' a (.lst (vs.set j u))) := s'.wd.fh.mut fa.2.1
  refine ⟨a, vs, h1, ha', hl, ⟨s'.wd.f, eF, s'.wd.h.mut fa.1, s'.wd.n⟩, by rw [List.length_set]; exact s.len, fun n q => if n = i then S i q ∨ R q else S n q, fun n k q hj hk => ?_, fun n q hj => ?_, fun n o3 d3 hk => ?_⟩
  · by_cases q1 : n = i <;> by_cases q2 : k = i
    · rw [q1, q2]
    · simp only [if_pos q1] at hj
      simp only [if_neg q2] at hk
      rcases hj with hj | hj
      · exact (q2 (s1 k i q hk hj)).elim
      · exact (sH k q hk hj).elim
    · simp only [if_neg q1] at hj
      simp only [if_pos q2] at hk
      rcases hk with hk | hk
      · exact (q1 (s1 n i q hj hk)).elim
      · exact (sH n q hj hk).elim
    · simp only [if_neg q1] at hj
      simp only [if_neg q2] at hk
      exact s1 n k q hj hk
  · have base : H0 q = none ∧ F' q = none ∧ H' q ≠ none := by
      by_cases q1 : n = i
      · simp only [if_pos q1] at hj
        rcases hj with hj | hj
        · exact hS i q hj
        · exact hR q hj
      · simp only [if_neg q1] at hj
        exact hS n q hj
    refine ⟨base.1, base.2.1, ?_⟩
    by_cases z : q = a
    · rw [z, upd_same]
      exact fun z => by cases z
    · rw [upd_ne z]
      exact base.2.2
  · by_cases q : n = i
    · subst q
      rw [List.getElem?_set_self hli] at hk
      cases hk
      refine ⟨.ref a, h1, ?_⟩
      simp only [if_pos]
      refine ⟨a, vs.set j u, xs.set j d, rfl, rfl, .inl sa, upd_same, by rw [List.length_set, List.length_set, hl], fun k q => if k = j then R q else T k q, fun k q hk => ?_, fun k m q hk hm => ?_, fun k u2 x2 hu hx => ?_⟩
      · by_cases z : k = j
        · simp only [if_pos z] at hk
          exact ⟨.inr hk, fun e => sH n q (e ▸ sa) hk⟩
        · simp only [if_neg z] at hk
          exact ⟨.inl (t1 k q hk).1, (t1 k q hk).2⟩
      · by_cases z : k = j <;> by_cases z2 : m = j
        · rw [z, z2]
        · simp only [if_pos z] at hk
          simp only [if_neg z2] at hm
          exact (sH n q (t1 m q hm).1 hk).elim
        · simp only [if_neg z] at hk
          simp only [if_pos z2] at hm
          exact (sH n q (t1 k q hk).1 hm).elim
        · simp only [if_neg z] at hk
          simp only [if_neg z2] at hm
          exact t2 k m q hk hm
      · by_cases z : k = j
        · subst z
          have l1 : k < vs.length := by
            have := (List.getElem?_eq_some_iff.mp hu).1
            rw [List.length_set] at this
            exact this
          rw [List.getElem?_set_self l1] at hu
          rw [List.getElem?_set_self (by omega)] at hx
          cases hu
          cases hx
          simp only [if_pos]
          exact r1.frame (Evl.Ex.refl F') (fun q hq => upd_ne fun e => sH n q (e ▸ sa) hq) fun q hq => (hR q hq).2.1
        · rw [List.getElem?_set_ne (Ne.symm z)] at hu hx
          simp only [if_neg z]
          refine (t3 k u2 x2 hu hx).frame w.f (fun q hq => ?_) fun q hq => (hS n q (t1 k q hq).1).2.1
          rw [upd_ne (t1 k q hq).2]
          exact wd_same w (s2 n q (t1 k q hq).1).2.2
    · rw [List.getElem?_set_ne (Ne.symm q)] at hk
      obtain ⟨v, h4, h5⟩ := s3 n o3 d3 hk
      refine ⟨v, h4, ?_⟩
      simp only [if_neg q]
      refine h5.frame w.f (fun b2 hb2 => ?_) fun b2 hb2 => (hS n b2 hb2).2.1
      rw [upd_ne fun z => q (s1 n i b2 hb2 (by rw [z]; exact sa))]
      exact wd_same w (s2 n b2 hb2).2.2
end
/-- xs[k] = e, e a fresh list, xs the list of fresh lists of slot i -/
def xSetN (i : Nat) (fk f : XE) : XS := fun env => match atNL env[i]? with
  | some xs => match f env with
    | .ok a => match freshL a with
      | some d => match fk env with
        | .ok k => match k.d with
          | .int n => match ixN xs.length n with
            | some j => .next (env.set i (some (.li (.li .sh), .lst (xs.set j d))))
            | none => .bad
          | _ => .bad
        | .exc n => .exc n env
        | .bad => .bad
      | none => .bad
    | .exc n => .exc n env
    | .bad => .bad
  | none => .bad
section
variable {J : Jx} {st : Stmt} {f : XE}
theorem ss_setN {i : Nat} {fk : XE} (h : PS J.X st (tAsg (tX J.c J.W J.F0 J.H0 f) (gSub (tVar i) (tX J.c J.W J.F0 J.H0 fk) rSetL))) : SS J st (xSetN i fk f) := h.imp fun D sg H ⟨F, env, si, hq⟩ => by
  unfold xSetN at hq
  cases hp : atNL env[i]? with
  | none => rw [hp] at hq; exact hq.elim
  | some xs =>
    rw [hp] at hq
    have hx := atNL_some hp
    refine ⟨F, env, si, aftS_bind (k := fun a => match freshL a with
      | some d => match fk env with
        | .ok k => match k.d with
          | .int n => match ixN xs.length n with
            | some j => .next (env.set i (some (.li (.li .sh), .lst (xs.set j d))))
            | none => .bad
          | _ => .bad
        | .exc n => .exc n env
        | .bad => .bad
      | none => .bad) si hq fun F1 H1 u b w rv _ hk => ?_⟩
    cases hf : freshL b with
    | none => rw [hf] at hk; exact (show False from hk).elim
    | some d =>
      rw [hf] at hk
      have eb := freshL_some hf
      subst eb
      replace hk : AftS J.c J.W J.F0 J.H0 F D (match fk env with
        | .ok k => match k.d with
          | .int n => match ixN xs.length n with
            | some j => .next (env.set i (some (.li (.li .sh), .lst (xs.set j d))))
            | none => .bad
          | _ => .bad
        | .exc n => .exc n env
        | .bad => .bad) := hk
      have si1 := si.grow w
      obtain ⟨a, vs, h1, _⟩ := si.setN (j := 0) hx w rv
      refine ⟨_, h1, F1, env, si1, ?_⟩
      refine aftS_bind (D := D) (k := fun k => match k.d with
        | .int n => match ixN xs.length n with
          | some j => .next (env.set i (some (.li (.li .sh), .lst (xs.set j d))))
          | none => .bad
        | _ => .bad) si1 (AftS.grow w.f hk) fun F3 H3 v k w4 rk hfk hk2 => ?_
      obtain ⟨ok, bk, dk⟩ := k
      have rkk := rk.rep w4.fh
      cases rkk with
      | @int n =>
        replace hk2 : AftS J.c J.W J.F0 J.H0 F1 D (match ixN xs.length n with
          | some j => .next (env.set i (some (.li (.li .sh), .lst (xs.set j d))))
          | none => .bad) := hk2
        cases hj : ixN xs.length n with
        | none => rw [hj] at hk2; exact hk2.elim
        | some j =>
          rw [hj] at hk2
          obtain ⟨a3, vs3, g1, g2, g3, g4⟩ := si.setN (j := j) hx (w.trans w4) (rv.grow w4)
          rw [h1] at g1
          cases g1
          exact ⟨a, vs3, n, j, rfl, rfl, g2, by rw [g3]; exact hj, hk2 F3 _ sg w4.f g4⟩
      | _ => exact (show False from hk2).elim
end
/-! ### xs[k].insert(n, e) -/
def xInsAt (i : Nat) (fk fi f : XE) : XS := fun env => match nestAt env[i]? with
  | some p => match fk env with
    | .ok k => match k.d with
      | .int n => match ixN p.2.length n with
        | some j => match p.2[j]? with
          | some (.lst xs) => match fi env with
            | .ok q => match q.d with
              | .int m => match f env with
                | .ok a => if a.b = true then .bad else if xs.length < 100000 ∧ 0 ≤ m ∧ m ≤ 100000 then .next (env.set i (some (p.1, nestD p.1 (p.2.set j (.lst (xs.take m.toNat ++ [a.d] ++ xs.drop m.toNat)))))) else .bad
                | .exc n => .exc n env
                | .bad => .bad
              | _ => .bad
            | .exc n => .exc n env
            | .bad => .bad
          | _ => .bad
        | none => .bad
      | _ => .bad
    | .exc n => .exc n env
    | .bad => .bad
  | none => .bad
section
variable {J : Jx} {st : Stmt} {f : XE}
def rIns (x : V) (vs : List V) (H : Hp) (Q : VK) : Prop := ∃ (l : Addr) (xs : List V) (i : Int) (y : V), x = .ref l ∧ vs = [.int i, y] ∧ H l = some (.lst xs) ∧ xs.length < sizeLine ∧ 0 ≤ i ∧ i < 2 ^ 63 ∧ Q .non (upd H l (.lst (xs.take i.toNat ++ [y] ++ xs.drop i.toNat)))
theorem mutN_same {c : Ct} {F0 H0 F H F' H' : Hp} {sg : L2.St} {env : XEnv} {i : Nat} {o : Ow} {d : D} {ps : List D} {a : Addr} {vs vs1 : List V} (w : Wd F H F' H') (h1 : H a = some (.tup vs) ∧ d = .tup ps ∨ H a = some (.lst vs) ∧ d = .lst ps) (h2 : H' a = some (.tup vs1) ∧ d = .tup ps ∨ H' a = some (.lst vs1) ∧ d = .lst ps) : vs1 = vs := by
  rcases h1 with ⟨ha, e1⟩ | ⟨ha, e1⟩ <;> rcases h2 with ⟨ha1, e2⟩ | ⟨ha1, e2⟩
  · have := w.h _ _ ha
    rw [ha1] at this
    cases this
    rfl
  · rw [e1] at e2
    cases e2
  · rw [e1] at e2
    cases e2
  · have := w.h _ _ ha
    rw [ha1] at this
    cases this
    rfl
theorem ss_insAt {K : PySem.W.Frag} {i : Nat} {fk fi : XE} (h : PS J.X st (tDrop (tBM K "list" rIns (tOp (rIx K) (tVar i) (tX J.c J.W J.F0 J.H0 fk)) (tCons (tX J.c J.W J.F0 J.H0 fi) (tCons (tX J.c J.W J.F0 J.H0 f) tNil))))) : SS J st (xInsAt i fk fi f) := h.imp fun D sg H ⟨F, env, si, hq⟩ => by
  unfold xInsAt at hq
  cases hp : nestAt env[i]? with
  | none => rw [hp] at hq; exact hq.elim
  | some p =>
    obtain ⟨o, ps⟩ := p
    rw [hp] at hq
    obtain ⟨d, hd, hn⟩ := nestAt_some hp
    obtain ⟨a, vs, h1, ha, hl, hm⟩ := si.mutN hd hn
    refine ⟨_, h1, F, env, si, ?_⟩
    refine aftS_bind (D := D) (k := fun k => match k.d with
      | .int n => match ixN ps.length n with
        | some j => match ps[j]? with
          | some (.lst xs) => match fi env with
            | .ok q => match q.d with
              | .int m => match f env with
                | .ok a => if a.b = true then .bad else if xs.length < 100000 ∧ 0 ≤ m ∧ m ≤ 100000 then .next (env.set i (some (o, nestD o (ps.set j (.lst (xs.take m.toNat ++ [a.d] ++ xs.drop m.toNat)))))) else .bad
                | .exc n => .exc n env
                | .bad => .bad
              | _ => .bad
            | .exc n => .exc n env
            | .bad => .bad
          | _ => .bad
        | none => .bad
      | _ => .bad) si hq fun F1 H1 u k w rk _ hk => ?_
    obtain ⟨ok, bk, dk⟩ := k
    have rkk := rk.rep w.fh
    cases rkk with
    | @int n =>
      replace hk : AftS J.c J.W J.F0 J.H0 F D (match ixN ps.length n with
        | some j => match ps[j]? with
          | some (.lst xs) => match fi env with
            | .ok q => match q.d with
              | .int m => match f env with
                | .ok a => if a.b = true then .bad else if xs.length < 100000 ∧ 0 ≤ m ∧ m ≤ 100000 then .next (env.set i (some (o, nestD o (ps.set j (.lst (xs.take m.toNat ++ [a.d] ++ xs.drop m.toNat)))))) else .bad
                | .exc n => .exc n env
                | .bad => .bad
              | _ => .bad
            | .exc n => .exc n env
            | .bad => .bad
          | _ => .bad
        | none => .bad) := hk
      cases hj : ixN ps.length n with
      | none => rw [hj] at hk; exact hk.elim
      | some j =>
        rw [hj] at hk
        replace hk : AftS J.c J.W J.F0 J.H0 F D (match ps[j]? with
          | some (.lst xs) => match fi env with
            | .ok q => match q.d with
              | .int m => match f env with
                | .ok a => if a.b = true then .bad else if xs.length < 100000 ∧ 0 ≤ m ∧ m ≤ 100000 then .next (env.set i (some (o, nestD o (ps.set j (.lst (xs.take m.toNat ++ [a.d] ++ xs.drop m.toNat)))))) else .bad
                | .exc n => .exc n env
                | .bad => .bad
              | _ => .bad
            | .exc n => .exc n env
            | .bad => .bad
          | _ => .bad) := hk
        cases hx : ps[j]? with
        | none => rw [hx] at hk; exact hk.elim
        | some x =>
          have hlj := (List.getElem?_eq_some_iff.mp hx).1
          have hv : vs[j]? = some (vs[j]'(by omega)) := List.getElem?_eq_getElem (by omega)
          have si1 := si.grow w
          obtain ⟨a1, vs1, g1, ha1, hl1, hm1⟩ := si1.mutN hd hn
          rw [h1] at g1
          cases g1
          have vv := mutN_same (c := J.c) (F0 := F) (H0 := H) (sg := sg) (env := env) (i := i) (o := o) w ha ha1
          subst vv
          obtain ⟨b, us, xs, eb, ex, hb, hr, _⟩ := hm1 j _ x hv hx
          subst ex
          rw [hx] at hk
          replace hk : AftS J.c J.W J.F0 J.H0 F D (match fi env with
            | .ok q => match q.d with
              | .int m => match f env with
                | .ok a => if a.b = true then .bad else if xs.length < 100000 ∧ 0 ≤ m ∧ m ≤ 100000 then .next (env.set i (some (o, nestD o (ps.set j (.lst (xs.take m.toNat ++ [a.d] ++ xs.drop m.toNat)))))) else .bad
                | .exc n => .exc n env
                | .bad => .bad
              | _ => .bad
            | .exc n => .exc n env
            | .bad => .bad) := hk
          have hix : atI vs1 n = some (.ref b) := by
            unfold atI
            rw [hl, hj]
            exact hv.trans (by rw [eb])
          have fin : tyV K "list" (.ref b) H1 ∧ (tCons (tX J.c J.W J.F0 J.H0 fi) (tCons (tX J.c J.W J.F0 J.H0 f) tNil)) sg H1 fun xs H2 => rIns (.ref b) xs H2 fun _ H3 => D.nx sg H3 := by
            refine ⟨.inl ⟨rfl, _, .inl (.inl hb)⟩, F1, env, si1, ?_⟩
            refine aftS_bind (D := D) (k := fun q => match q.d with
              | .int m => match f env with
                | .ok a => if a.b = true then .bad else if xs.length < 100000 ∧ 0 ≤ m ∧ m ≤ 100000 then .next (env.set i (some (o, nestD o (ps.set j (.lst (xs.take m.toNat ++ [a.d] ++ xs.drop m.toNat)))))) else .bad
                | .exc n => .exc n env
                | .bad => .bad
              | _ => .bad) si1 (AftS.grow w.f hk) fun F5 H5 u5 q5 w5 rq _ hk5 => ?_
            obtain ⟨oq, bq, dq⟩ := q5
            have rqq := rq.rep w5.fh
            cases rqq with
            | @int m =>
              replace hk5 : AftS J.c J.W J.F0 J.H0 F1 D (match f env with
                | .ok a => if a.b = true then .bad else if xs.length < 100000 ∧ 0 ≤ m ∧ m ≤ 100000 then .next (env.set i (some (o, nestD o (ps.set j (.lst (xs.take m.toNat ++ [a.d] ++ xs.drop m.toNat)))))) else .bad
                | .exc n => .exc n env
                | .bad => .bad) := hk5
              have si5 := si1.grow w5
              refine ⟨F5, env, si5, ?_⟩
              refine aftS_bind (k := fun a => if a.b = true then .bad else if xs.length < 100000 ∧ 0 ≤ m ∧ m ≤ 100000 then .next (env.set i (some (o, nestD o (ps.set j (.lst (xs.take m.toNat ++ [a.d] ++ xs.drop m.toNat)))))) else .bad) si5 (AftS.grow w5.f hk5) fun F2 H2 u2 b2 w2 rv _ hk2 => ?_
              obtain ⟨o2, bb, d2⟩ := b2
              cases bb with
              | true => exact (show False from hk2).elim
              | false =>
                obtain ⟨F3, w3, w4, r3⟩ := rv.share w2
                replace hk2 : AftS J.c J.W J.F0 J.H0 F5 D (if xs.length < 100000 ∧ 0 ≤ m ∧ m ≤ 100000 then .next (env.set i (some (o, nestD o (ps.set j (.lst (xs.take m.toNat ++ [d2] ++ xs.drop m.toNat)))))) else .bad) := hk2
                by_cases hlx : xs.length < 100000 ∧ 0 ≤ m ∧ m ≤ 100000
                · rw [if_pos hlx] at hk2
                  obtain ⟨a3, vs3, g3, ha3, hl3, hm3⟩ := (si5.grow w3).mutN hd hn
                  rw [h1] at g3
                  cases g3
                  have vv3 := mutN_same (c := J.c) (F0 := F) (H0 := H) (sg := sg) (env := env) (i := i) (o := o) (w5.trans w3) ha1 ha3
                  subst vv3
                  obtain ⟨b3, us3, xs3, eb3, ex3, hb3, hr3, hs3⟩ := hm3 j _ _ hv hx
                  cases ex3
                  rw [eb] at eb3
                  cases eb3
                  exact ⟨b, us3, m, u2, rfl, rfl, hb3, Evl.sz_lt (by rw [hr3.length]; exact hlx.1), hlx.2.1, by omega, hk2 F3 _ sg w3.f (hs3 _ _ (((hr3.take m.toNat).append (.cons r3 .nil)).append (hr3.drop m.toNat)))⟩
                · rw [if_neg hlx] at hk2
                  exact hk2.elim
            | _ => exact (show False from hk5).elim
          rcases ha1 with ⟨ha1, _⟩ | ⟨ha1, _⟩
          · exact .inr (.inl ⟨a, _, n, .ref b, rfl, rfl, .inl (.inl ha1), hix, fin⟩)
          · exact .inl ⟨a, _, n, .ref b, rfl, rfl, .inl (.inl ha1), hix, fin⟩
    | _ => exact (show False from hk).elim
end
/-! ### t[lo:hi], t a tuple, not the whole of it -/
def kSlT (a : Val) (l h : Option Int) : Res Val := match a with
  | ⟨.sh, _, .tup xs⟩ => if HT.sIx xs.length 0 l = 0 ∧ HT.sIx xs.length xs.length h = xs.length then .bad else .ok (.sh (.tup (cut xs l h)))
  | _ => .bad
def xSlT (f : XE) (lo hi : XP) : XE := fun env => (f env).bind fun a => (lo env).bind fun l => (hi env).bind fun h => kSlT a l h
section
variable {J : Jx} {a : Expr} {f : XE} {pos : Pos}
theorem se_slT {lo hi : Option Expr} {p2 : Pos} {fl fh : XP} (ha : SE J a f) (hl : SPo J lo fl) (hh : SPo J hi fh) : SE J (.Subscript a (.Slice lo hi none p2) pos) (xSlT f fl fh) := (pe_slice sl_tup ha hl hh).imp fun sg H Q ⟨F, env, si, hq⟩ => ⟨F, env, si, (aft_bind hq).mono fun x H1 ⟨F1, va, w1, r1, hq1⟩ => by
  refine ⟨F1, env, si.grow w1, (aft_bindP hq1).mono fun l H2 ⟨F2, w2, hq2⟩ => ?_⟩
  refine ⟨F2, env, (si.grow w1).grow w2, (aft_bindP hq2).mono fun u H3 ⟨F3, w3, hq3⟩ => ?_⟩
  have r3 := (r1.rw.grow w2).grow w3
  obtain ⟨oa, ba, da⟩ := va
  cases oa with
  | sh =>
    cases da with
    | tup xs =>
      replace hq3 : Aft J.c J.W sg F3 H3 Q (if HT.sIx xs.length 0 l = 0 ∧ HT.sIx xs.length xs.length u = xs.length then .bad else .ok (.sh (.tup (cut xs l u)))) := hq3
      have rr := r3.sh1
      cases rr with
      | @tup p vs _ hp hr =>
        by_cases q : HT.sIx xs.length 0 l = 0 ∧ HT.sIx xs.length xs.length u = xs.length
        · rw [if_pos q] at hq3
          exact hq3.elim
        · rw [if_neg q] at hq3
          exact ⟨p, vs, rfl, .inl (.inl (w3.fh _ _ hp)), by rw [hr.length]; exact q, fun p2 hp2 => Aft.newT w3.fh hp2 (cut_reps l u hr) hq3⟩
    | _ => exact (show False from hq3).elim
  | _ => exact (show False from hq3).elim⟩
end
@[simp] theorem e_SlT (f : XE) (lo hi : XP) (env : XEnv) : xSlT f lo hi env = (f env).bind fun a => (lo env).bind fun l => (hi env).bind fun h => kSlT a l h := rfl
end Bk
set_option Elab.async false
set_option linter.all false
set_option maxRecDepth 100000
set_option maxHeartbeats 4000000
/-! BkAA: a comprehension whose element may raise. -/
namespace L2
open PySem PySem.Spec PyProof.Rows
/-- what a call in X lets out is taken -/
def TakesC (X : Cx) (W : WX) : Prop := ∀ sg, PassesAt (L2.CX X.prog X.w) X sg (WE W sg)
section
variable {X : Cx}
/-- an exception out of the block: noted by the def's frame, the block let go -/
theorem out_of_block {W0 : WX} {pins pins2 : List (Addr × Obj)} {sg sgb : St} {H3 Hb : Hp} {s3 sb s' : Shared} {scope : Scope} {ce : Env} {fp : List Addr} {u : Value} {Q : Value → Shared → Prop} {D C : Addr} {xe : Value → Shared → Prop}
    (hs2 : X.stack = X.env :: X.outer) (hf : X.env.frame = some X.env.locals) (tk : Takes X W0) (I3 : Inv X pins sg H3 s3) (f3 : ∀ b ∈ fp, FpOk X pins H3 b) (hC : s3.heap.objs.size = C) (cL : ce.locals = C) (cF : ce.frame = X.env.frame)
    (Ib : Inv ((X.blk s3 H3 scope ce fp).wish xe) pins2 sgb Hb sb) (c : L2.CX X.prog X.w X.stack Hb sb (fun cls d H => W0 cls d sg H) u s') :
    notedBy (model X.prog X.w) X.A ce (fun e s' => compEnds (model X.prog X.w) X.A X.xe none Q (.ref D) ce (.error e) s') u s' := by
  obtain ⟨a, B, H', cls, d, rfl, fl, hokB, ub, na, os, ag, hE⟩ := c
  have Ix : Inv X pins sg Hb sb := I3.call' (ch := fp) Ib.os Ib.base Ib.hok Ib.bare fun b hb => ⟨(f3 b hb).2.2.2.1, (f3 b hb).2.1, (f3 b hb).2.2.2.2.1, (f3 b hb).2.2.2.2.2⟩
  have nC : Hb C = none := by
    have z : Hb ce.locals = none := Ib.free
    rw [cL] at z
    exact z
  have fC : FpOk X pins Hb C := hC ▸ I3.fpOk (Nat.le_refl _) (by rw [hC]; exact nC)
  have cnf : C ∉ frs X.stack := fun hm => by
    rcases List.mem_cons.mp (I3.stkSub C hm) with z | z
    · exact fC.2.1 z
    · exact fC.2.2.1 z
  obtain ⟨mC, hmC, _⟩ := Ib.loc
  have hmC : sb.heap.Ns ce.locals mC := hmC
  rw [cL] at hmC
  obtain ⟨oC, es, ep, hoC, hdC, rC⟩ := hmC
  have bC : B.get? C = some oC := ub.keep C oC hoC nC cnf
  have nC' : H' C = none := ub.free C oC hoC nC
  show wpAny (model X.prog X.w) X.A (noteFrame (.ref a) ce) _ _ s'
  rw [noteFrame_env (.ref a) cF]
  refine HandSPX.looks_onZ Zc.steady (by rw [I3.ok.frames, hs2]) hf (hs2 ▸ fl) fun h1 hh up1 => ?_
  obtain ⟨k1, k2, k3, oe, vs, T, oT, ts, he', hz, hd', h1', hnT, hTe, hT, hdT, h3'⟩ := hh
  have c1 : h1.get? C = some oC := k1 C oC bC
  refine ⟨mC, cL ▸ ⟨oC, es, ep, c1, hdC, rC⟩, fun h2 m2 hn2 sb2 => ?_⟩
  rw [cL] at hn2 sb2
  have aC : a ≠ C := fun z => by rw [z, c1] at he'; cases he'; rw [hdC] at hd'; cases hd'
  have tC : T ≠ C := fun z => by rw [z, c1] at hT; cases hT; rw [hdC] at hdT; cases hdT
  obtain ⟨B1, hB1⟩ : ∃ B1, B1 = PySem.W.hideAll B [C] := ⟨_, rfl⟩
  have b1 : ∀ b o, b ≠ C → B.get? b = some o → B1.get? b = some o := fun b o hb e => by rw [hB1]; exact PySem.W.hideAll_get _ e (by simpa using hb)
  have b2 : ∀ b o, B1.get? b = some o → B.get? b = some o ∧ b ≠ C := fun b o e => by
    rw [hB1] at e
    refine ⟨PySem.W.of_hideAll _ e, fun z => ?_⟩
    subst z
    rw [PySem.W.hideAll_none [b] (by simp)] at e
    cases e
  have b3 : ∀ b, B.get? b = none → B1.get? b = none := fun b e => by
    cases q : B1.get? b with
    | none => rfl
    | some o => rw [(b2 b o q).1] at e; cases e
  have t1 : B1.StaysIn h2 := fun b o e => (sb2.2 b (b2 b o e).2).trans (k1 b o (b2 b o e).1)
  have t2 : h2.FunFrames B1 (X.env :: X.outer) := funFrames_none (Heap.FunFrames.sameBut sb2 hn2 k3) fun L hL => b3 L (k3.mem hL).1
  have t3 : HandSPX.TracedZ h2 B1 a (Zc cls d) (rawInt X.env.locals) := ⟨oe, vs, T, oT, ts, (sb2.2 a aC).trans he', hz, hd', h1', b3 T hnT, hTe, (sb2.2 T tC).trans hT, hdT, h3'⟩
  unfold PySem.passOn
  refine wpAny_bind (wpAny_field ((sb2.2 a aC).trans he') hd' h1' ?_)
  rw [if_neg (show ¬ ((Value.ref T == Value.none) = true) from by simp)]
  rw [cF, hf]
  refine wpAny_bind (HandSPX.setFlight_anyZ (fr := some X.env.locals) t1 t2 t3 fun h3 j1 j2 j3 j4 => ?_)
  refine wpAny_throw ?_
  -- the def's air
  obtain ⟨G, g1, g2⟩ := restrict s'.heap fun b => (B1.get? b).isSome || decide (b ∈ frs X.stack)
  have st : B.StaysIn s'.heap := fl.1
  have gB : ∀ b o, B1.get? b = some o → G.get? b = some o := fun b o e => by
    rw [g1 b (by simp [e])]
    exact st b o (b2 b o e).1
  have gF : ∀ b, b ∈ frs X.stack → G.get? b = s'.heap.get? b := fun b hb => g1 b (by simp [hb])
  have og : ∀ b o, G.get? b = some o → s'.heap.get? b = some o ∧ ((B1.get? b).isSome = true ∨ b ∈ frs X.stack) := fun b o e => by
    cases q : ((B1.get? b).isSome || decide (b ∈ frs X.stack)) with
    | false => rw [g2 b q] at e; cases e
    | true =>
      rw [g1 b q] at e
      exact ⟨e, by simpa [Bool.or_eq_true] using q⟩
  have gC : ∀ b o, G.get? b = some o → b ≠ C := fun b o e z => by
    rcases (og b o e).2 with q | q
    · obtain ⟨o', q'⟩ := Option.isSome_iff_exists.mp q
      exact (b2 b o' q').2 z
    · exact cnf (z ▸ q)
  refine tk _ _ ⟨a, B1, { sb with heap := G, gens := s'.gens, drawn := s'.drawn, toks := s'.toks }, pins, sg, H', cls, d, rfl, ?_, fun b o e hb => ?_, ?_, ?_, na, os, ag, hE⟩
  · refine Ix.call (ch := [C]) ⟨fun b o e n hb hc => gB b o (b1 b o (fun z => hc (by simp [z])) (ub.keep b o e n hb)), fun b o e n hb hc => ?_, fun b o e n hc => ub.free b o e n, fun b o e hc => ?_, ub.tups, ub.frzs, ub.tbls⟩ ?_ ag ?_
    · obtain ⟨sl, q⟩ := ub.slot b o e hb
      exact ⟨sl, by rw [gF b hb]; exact q⟩
    · by_cases hb : b ∈ frs X.stack
      · obtain ⟨sl, q⟩ := ub.slot b o e hb
        exact ⟨_, by rw [gF b hb]; exact q⟩
      · obtain ⟨o', q⟩ := ub.there b o e hb
        exact ⟨o', gB b o' (b1 b o' (fun z => hc (by simp [z])) q)⟩
    · intro b u e
      refine ObjOk.stay (H := H') (h := B) (hokB b u e) (fun x v hx q => gB x v (b1 x v (fun w => ?_) q)) (fun _ q => q) fun _ _ q => q
      rcases hx with z | z
      · rw [← z, w, nC'] at e; cases e
      · rw [w, nC'] at z; cases z
    · intro b hb
      have e : b = C := by simpa using hb
      subst e
      exact ⟨fC.2.2.2.1, fC.2.1, fC.2.2.2.2.1, fC.2.2.2.2.2⟩
  · obtain ⟨e', h⟩ := og b o e
    rcases h with h | h
    · obtain ⟨o', q⟩ := Option.isSome_iff_exists.mp h
      have z := st b o' (b2 b o' q).1
      rw [e'] at z; cases z
      exact q
    · exact absurd h hb
  · intro b o e nf
    obtain ⟨e', _⟩ := og b o e
    obtain ⟨sl, q⟩ := up1 b o e' nf
    have q2 : h2.get? b = some { o with slots := sl } := (sb2.2 b (gC b o e)).trans q
    obtain ⟨sl2, q3⟩ := j4 b _ q2 nf
    exact ⟨sl2, q3⟩
  · rw [hs2]
    exact .inr (.inr ⟨j1, b3 a k2, j2, j3⟩)
end
end L2
set_option Elab.async false
set_option linter.all false
set_option maxRecDepth 100000
set_option maxHeartbeats 4000000
/-! BkAB: [f(x) for x in ..] where f may raise, over plain data. -/
namespace Bk
open PySem L2 PySem.Spec PyProof.Rows
/-- item by item, the first exception is the end -/
def lcGoX (step : D → Res D) : List D → Res (List D)
  | [] => .ok []
  | d :: ds => match step d with
    | .ok x => match lcGoX step ds with
      | .ok r => .ok (x :: r)
      | .exc k => .exc k
      | .bad => .bad
    | .exc k => .exc k
    | .bad => .bad
def lcStepX (tg : Tg) (f : XE) (env : XEnv) (d : D) : Res D := match tg.put d env with
  | none => .bad
  | some e1 => match f e1 with
    | .ok a => if a.b = true then .bad else .ok a.d
    | .exc k => .exc k
    | .bad => .bad
def endX (xs : List D) : Res (List D) → Res Val
  | .ok r => .ok ⟨.li .sh, false, .lst (xs ++ r)⟩
  | .exc k => .exc k
  | .bad => .bad
def xLcX (vs : List Nat) (it : XI) (tg : Tg) (f : XE) : XE := fun env => (it env).bind fun ds => if ds.length ≤ 100000 then endX [] (lcGoX (lcStepX tg f (wipeX env vs)) ds) else .bad
section
variable {J : Jx} {c : Ct} {W : WX} {F0 H0 : Hp} {X : Cx} {pos : Pos} {sg : L2.St} {F H F1 H1 Fi Hx : Hp} {env : XEnv} {Q : VK} {L : Addr}
/-- the list so far: its items stand for xs, the rest is to come -/
structure SoFar (c : Ct) (W : WX) (sg : L2.St) (F H F1 H1 : Hp) (Q : VK) (L : Addr) (step : D → Res D) (ds : List D) (i : Nat) (Hx : Hp) : Prop where
  at_ : ∃ Fi xs us, Hx L = some (.lst us) ∧ Reps c Fi us xs ∧ Wd F1 H1 Fi Hx ∧ Fi L = none ∧ xs.length ≤ i ∧ Aft c W sg F H Q (endX xs (lcGoX step (ds.drop i)))
theorem drop_at {ds : List D} {i : Nat} {d : D} (hd : ds[i]? = some d) : ds.drop i = d :: ds.drop (i + 1) := by
  obtain ⟨e1, e2⟩ := List.getElem?_eq_some_iff.mp hd
  rw [← e2]
  exact List.drop_eq_getElem_cons e1
theorem endX_snoc {xs : List D} {x : D} {r : Res (List D)} : endX (xs ++ [x]) r = endX xs (match r with
    | .ok r => .ok (x :: r)
    | .exc k => .exc k
    | .bad => .bad) := by
  cases r with
  | ok r =>
    show Res.ok (Val.mk _ _ (.lst ((xs ++ [x]) ++ r))) = Res.ok (Val.mk _ _ (.lst (xs ++ x :: r)))
    rw [List.append_assoc]
    rfl
  | exc k => rfl
  | bad => rfl
variable {elt tgt iter : Expr} {scope : Scope} {it : XI} {tg : Tg} {f : XE}
theorem se_lcX (own : List (Str × Nat)) (hs2 : J.X.stack = J.X.env :: J.X.outer) (hf : J.X.env.frame = some J.X.env.locals) (tk : Takes J.X J.W) (hc : J.X.calm = true) (hN : J.X.N.Nodup) (hi : SI J tgt iter it) (ok : BlkOk J.X.N J.X.env.scope scope own)
    (hg : ∀ s H C cl fp, PG (J.blk s H scope C cl fp).X tgt (tg.t J.X.K)) (he : ∀ W1 xe s H C cl fp, TakesC ((J.blk s H scope C cl fp).X.wish xe) W1 → SE ⟨(J.blk s H scope C cl fp).X.wish xe, J.c, W1, J.F0, J.H0⟩ elt f) (hv : ∀ i ∈ tg.ixs, i ∈ own.map (·.2) := by decide)
    (hs : ∀ x, foldedSetIterable iter J.X.env x = pure x := by intro _; rfl) : SE J (.ListComp elt [⟨tgt, iter, [], 0⟩] scope pos) (xLcX (own.map (·.2)) it tg f) := by
  obtain ⟨X, c, W, F0, H0⟩ := J
  dsimp only at *
  refine ⟨fun pins s sg H Q I h => ?_⟩
  obtain ⟨F, env, si, hq⟩ := h
  have hI : tXI c W F0 H0 it sg H (fun Ji H1 => ∃ F1 ds, Wd F H F1 H1 ∧ ItOk c Ji F1 ds ∧ ds.length ≤ 100000 ∧ Aft c W sg F H Q (endX [] (lcGoX (lcStepX tg f (wipeX env (own.map (·.2)))) ds))) := by
    refine ⟨F, env, si, ?_⟩
    unfold xLcX at hq
    cases hit : it env with
    | exc k => rw [hit] at hq; exact hq
    | bad => rw [hit] at hq; exact hq
    | ok ds =>
      rw [hit] at hq
      intro F1 H1 Ji w1 hJ
      replace hq : Aft c W sg F H Q (if ds.length ≤ 100000 then endX [] (lcGoX (lcStepX tg f (wipeX env (own.map (·.2)))) ds) else .bad) := hq
      by_cases hl : ds.length ≤ 100000
      · rw [if_pos hl] at hq
        exact ⟨F1, ds, w1, hJ, hl, hq⟩
      · rw [if_neg hl] at hq
        exact hq.elim
  clear hq
  generalize hvs : own.map (·.2) = vs at *
  have free : ∀ y ∈ scope.names, y.2 = .free → ∃ c, X.env.cells.lookup y.1 = some c := fun y hy e => (ok.free y hy e).elim (fun k => I.ok.has _ (.inl k)) fun k => I.ok.has _ (.inr k)
  rw [eval_ListComp]
  refine comprehension_at (use := none) rfl hs (closure_ok free) ok.kind (fun y hy e => by rw [ok.uniq y hy, e]) (thn (hi.run pins s sg H _ I hI) fun xv s1 hx => thn hx fun itv s2 h2 => ?_)
  obtain ⟨it0, fp, tn, Ji, H2, e, I2, T, st2, f2, F1, ds, w1, hJ, hlen, hq⟩ := h2
  subst e
  refine wpAny_newObj_type (newEnv_comp ?_) (by show 0 ≤ sizeLine; decide)
  generalize hL : s2.heap.objs.size = L
  have nL : H2 L = none := I2.hok.fresh (Nat.le_of_eq hL)
  -- the list is laid
  generalize hs3 : ({ s2 with heap := s2.heap.push { cls := .type "list", data := .seq ([] : List Value).toArray } } : Shared) = s3
  have e3 : s3.heap = s2.heap.push { cls := .type "list", data := .seq ([] : List Value).toArray } := by rw [← hs3]
  have grown : ∀ b o, s2.heap.get? b = some o → s3.heap.get? b = some o := fun b o e => by
    rw [e3]
    exact Heap.get?_push_of_some _ e
  have I3 : Inv X pins sg (upd H2 L (.lst [])) s3 := by
    have z := I2.laid (a := L) (o := .lst []) (h' := s3.heap) (t' := s2.toks) grown (Nat.le_of_eq hL) ⟨Nat.zero_le _, [], 0, .nil, by rw [e3, ← hL]; exact Heap.get?_push_size _ rfl⟩
    rw [← hs3] at z ⊢
    exact z
  have old : ∀ b ∈ fp, b < s2.heap.objs.size := fun b hb => by
    obtain ⟨o, e, _⟩ := T.obj _ _ st2 b hb
    exact Heap.lt_size e
  have f3 : ∀ b ∈ fp, FpOk X pins (upd H2 L (.lst [])) b := fun b hb => ⟨by
    rw [upd_ne (by rw [← hL]; exact Nat.ne_of_lt (old b hb))]
    exact (f2 b hb).1, (f2 b hb).2⟩
  have f3' : ∀ b ∈ fp, FpOk X pins (upd H2 L (.lst [])) b ∧ b < s3.heap.objs.size := fun b hb => ⟨f3 b hb, by
    rw [e3, Heap.size_push]
    exact Nat.lt_succ_of_lt (old b hb)⟩
  have st3 : tn 0 s3.heap := T.keep _ _ _ st2 fun b _ o e => grown b o e
  have I4 := block_start I3 ok hN f3'
  have pg := hg s3 (upd H2 L (.lst [])) s3.heap.objs.size (cellsFrom (s3.heap.objs.size + 1) scope.names (cloFrom X.env.cells scope.names [])) fp
  have pe := fun W1 xe => he W1 xe s3 (upd H2 L (.lst [])) s3.heap.objs.size (cellsFrom (s3.heap.objs.size + 1) scope.names (cloFrom X.env.cells scope.names [])) fp
  show codeAny _ _ (.compStart (.ListComp elt [⟨tgt, iter, [], 0⟩] scope pos) 0 (.ref it0) (.ref L) (compEnvC scope (cellsFrom (s3.heap.objs.size + 1) scope.names (cloFrom X.env.cells scope.names [])) s3.heap.objs.size X.env))
    (compEnds (model X.prog X.w) X.A X.xe none (EP X pins sg Q) (.ref L) (compEnvC scope (cellsFrom (s3.heap.objs.size + 1) scope.names (cloFrom X.env.cells scope.names [])) s3.heap.objs.size X.env)) { s3 with heap := pushCells (s3.heap.push { cls := .type "dict", data := .dict #[] }) scope.names }
  generalize hce : compEnvC scope (cellsFrom (s3.heap.objs.size + 1) scope.names (cloFrom X.env.cells scope.names [])) s3.heap.objs.size X.env = ce at I4 pg pe ⊢
  have cL : ce.locals = s3.heap.objs.size := by subst hce; rfl
  have cF : ce.frame = X.env.frame := by subst hce; rfl
  generalize hs4 : ({ s3 with heap := pushCells (s3.heap.push { cls := .type "dict", data := .dict #[] }) scope.names } : Shared) = s4 at I4 ⊢
  have st4 : tn 0 s4.heap := T.keep _ _ _ st3 fun b _ o e => by
    rw [← hs4]
    exact pushCells_keeps _ _ _ _ (Heap.get?_push_of_some _ e)
  have sofar0 : SoFar c W sg F H F1 H2 Q L (lcStepX tg f (wipeX env vs)) ds 0 (upd H2 L (.lst [])) :=
    ⟨F1, [], [], upd_same, .nil, ⟨Evl.Ex.refl F1, w1.fh.trans (Evl.Ex.new nL), Evl.Ex.new nL, fun a h1 h2 => absurd h1 h2⟩, Evl.fresh_back w1.fh nL, Nat.le_refl _, hq⟩
  generalize hH3 : upd H2 L (.lst []) = H3 at I3 I4 pg pe f3 sofar0
  have none3 : ∀ b ∈ fp, H3 b = none := fun b hb => (f3 b hb).1
  -- what the iterator asks of a state of the block
  have mine : ∀ {σ' : L2.St} {H' : Hp} {s' : Shared}, Inv (X.blk s3 H3 scope ce fp) [] σ' H' s' → (∀ b ∈ fp, H' b = none) → ∀ b ∈ fp, FpOk (X.blk s3 H3 scope ce fp) [] H' b := fun {σ' H' s'} I' hn b hb =>
    ⟨hn b hb, (I'.ok.exf b hb).1, I'.ok.exfs b hb, .inl hb, (I'.ok.exf b hb).2, fun p hp => absurd (show p ∈ ([] : List (Addr × Obj)) ++ [] from hp) (by simp)⟩
  -- what leaves the block
  have tkc : TakesC ((X.blk s3 H3 scope ce fp).wish (notedBy (model X.prog X.w) X.A ce fun e s' => compEnds (model X.prog X.w) X.A X.xe none (EP X pins sg Q) (.ref L) ce (.error e) s')) (fun cls d _ Hb => W cls d sg Hb) :=
    fun sgb pins2 Hb sb u s' Ib cx => out_of_block hs2 hf tk I3 f3 rfl cL cF Ib cx
  have pe := pe _ _ tkc
  have lp : codeAny (model X.prog X.w) X.A (.compLoop (.ListComp elt [⟨tgt, iter, [], 0⟩] scope pos) 0 (.ref it0) (.ref L) ce) (compEnds (model X.prog X.w) X.A X.xe none (EP X pins sg Q) (.ref L) ce) s4 := by
    refine compLoop_any (fun m s' => ∃ i H', m = ds.length - i ∧ i ≤ ds.length ∧ Inv (X.blk s3 H3 scope ce fp) [] (L2.wipe sg vs) H' s' ∧ tn i s'.heap ∧ (∀ b ∈ fp, H' b = none) ∧ SoFar c W sg F H F1 H2 Q L (lcStepX tg f (wipeX env vs)) ds i H') ?_ _ ⟨0, H3, rfl, Nat.zero_le _, hvs ▸ I4, st4, none3, sofar0⟩
    rintro m s5 ⟨i, H5, rfl, hi5, I5, st5, n5, sf⟩
    obtain ⟨Fi, xs, us, hD, hr, wi, fL, hxl, hrest⟩ := sf.at_
    by_cases hlt : i < ds.length
    · -- one more
      obtain ⟨d, hd⟩ : ∃ d, ds[i]? = some d := ⟨ds[i], by simp [hlt]⟩
      obtain ⟨jg, jy⟩ := (hJ i H5 (wi.f.trans wi.fh)).1 d hd
      rw [drop_at hd] at hrest
      refine thnF (T.item (X.blk s3 H3 scope ce fp) rfl rfl rfl hc i [] s5 _ H5 (fun _ _ => False) I5 (mine I5 n5) st5 jg) fun r s6 ⟨u, hr6, h6⟩ => ?_
      subst hr6
      refine thnF h6 fun _ s7 ⟨x, H7, I7, r7, y7, st7, n7⟩ => ?_
      obtain ⟨eH, rx⟩ := jy x H7 y7
      subst eH
      have I7' := I7.pinned (mine I7 n7) (T.obj _ _ st7)
      -- what the step says
      have hstep : ∃ e1, tg.put d (wipeX env vs) = some e1 ∧ Aft c W sg F H Q (endX xs (match (match f e1 with
          | .ok a => if a.b = true then Res.bad else .ok a.d
          | .exc k => .exc k
          | .bad => .bad) with
        | .ok x => match lcGoX (lcStepX tg f (wipeX env vs)) (ds.drop (i + 1)) with
          | .ok r => .ok (x :: r)
          | .exc k => .exc k
          | .bad => .bad
        | .exc k => .exc k
        | .bad => .bad)) := by
        rw [lcGoX] at hrest
        unfold lcStepX at hrest
        cases hp : tg.put d (wipeX env vs) with
        | none => rw [hp] at hrest; exact hrest.elim
        | some e1 =>
          rw [hp] at hrest
          exact ⟨e1, rfl, hrest⟩
      obtain ⟨e1, hp, hstep⟩ := hstep
      have si1 : Si c F0 H0 Fi H7 (L2.wipe sg vs) (wipeX env vs) := (si.grow (w1.trans wi)).wipe vs
      have goal := Tg.ok (Q := fun σ8 H8 => H8 = H7 ∧ L2.wipe σ8 vs = L2.wipe sg vs ∧ Si c F0 H0 Fi H7 σ8 e1) X.K si1 (rx.mono wi.f) hp fun vv si2 => ⟨rfl, wipe_setAll vv sg hv, si2⟩
      refine thnF (pg.run _ s7 _ H7 x u _ I7' r7 goal) fun _ s8 ⟨σ8, H8, I8, e8, hw8, si8⟩ => ?_
      subst e8
      refine wpAny_tests_nil ?_
      rw [if_pos rfl]
      have hte : tX c (fun cls d _ Hb => W cls d sg Hb) F0 H0 f σ8 H8 (fun y H10 => ∃ da F4, Rep c F4 y da ∧ Wd Fi H8 F4 H10 ∧ Aft c W sg F H Q (endX (xs ++ [da]) (lcGoX (lcStepX tg f (wipeX env vs)) (ds.drop (i + 1))))) := by
        refine ⟨Fi, e1, si8, ?_⟩
        cases hfe : f e1 with
        | bad => rw [hfe] at hstep; exact hstep.elim
        | exc k => rw [hfe] at hstep; exact fun F' H' w' => hstep F' H' ((w1.trans wi).trans w')
        | ok a =>
          rw [hfe] at hstep
          obtain ⟨oa, ba, da⟩ := a
          cases ba with
          | true => exact hstep.elim
          | false =>
            intro F3 H9 y w3 rv
            obtain ⟨F4, w4, w5, ru⟩ := rv.share w3
            refine ⟨da, F4, ru, w4, ?_⟩
            rw [endX_snoc]
            exact hstep
      refine thn (pe.run _ s8 σ8 H8 _ (I8.wish _) hte) fun v s10 ⟨yv, H10, I10, r10, da, F4, ru, w4, hgo⟩ => ?_
      have hD10 : H10 L = some (.lst us) := w4.h _ _ hD
      have fL4 : F4 L = none := wd_none w4 fL (by rw [hD]; exact fun z => by cases z)
      have w7 : Wd F1 H2 F4 H10 := wi.trans w4
      refine app_ok (X := X.blk s3 H3 scope ce fp) I10.unwish hD10 (Evl.sz_lt (by rw [hr.length]; omega)) r10 fun s11 I11 => ?_
      have kept : ∀ b ∈ fp, ∀ o, s7.heap.get? b = some o → s11.heap.get? b = some o ∧ (upd H10 L (.lst (us ++ [yv]))) b = none := fun b hb o e =>
        let z := I11.pin (b, o) (List.mem_append_right _ (List.mem_append_right _ (mem_pinsAt hb e)))
        ⟨z.1, z.2.1⟩
      refine ⟨ds.length - (i + 1), by omega, i + 1, upd H10 L (.lst (us ++ [yv])), rfl, by omega, (I11.unpinned (pins := [])).weak (by rw [← hw8, wipe_length]) (fun j v e => ?_), T.keep _ _ _ st7 fun b hb o e => (kept b hb o e).1, fun b hb => ?_, ?_⟩
      · rw [← hw8] at e
        exact (wipe_some e).1
      · obtain ⟨o, e, _⟩ := T.obj _ _ st7 b hb
        exact (kept b hb o e).2
      · exact ⟨F4, xs ++ [da], us ++ [yv], upd_same, (hr.mono w4.f).append (.cons ru .nil), ⟨w7.f, w7.fh.mut fL4, w7.h.mut nL, w7.n⟩, fL4, by rw [List.length_append, List.length_singleton]; omega, hgo⟩
    · -- the end
      have e : i = ds.length := by omega
      refine thnF (T.done (X.blk s3 H3 scope ce fp) rfl rfl rfl hc i [] s5 _ H5 (fun _ _ => False) I5 (mine I5 n5) st5 ((hJ i H5 (wi.f.trans wi.fh)).2 e)) fun r s6 ⟨hr6, I6⟩ => ?_
      subst hr6
      have I7 : Inv X pins sg H5 s6 := I3.call' (ch := fp) I6.os I6.base I6.hok I6.bare fun b hb => ⟨(f3 b hb).2.2.2.1, (f3 b hb).2.1, (f3 b hb).2.2.2.2.1, (f3 b hb).2.2.2.2.2⟩
      have nC : H5 s3.heap.objs.size = none := by
        have z : H5 ce.locals = none := I6.free
        rw [cL] at z
        exact z
      obtain ⟨mm, hmm, _⟩ := I6.loc
      refine ⟨mm, hmm, fun h'' sb => ?_⟩
      rw [cL] at sb
      obtain ⟨g0, g1, g2, g3, g4, g5⟩ := I3.fpOk (Nat.le_refl _) nC
      refine ⟨.ref L, H5, I7.turned (t' := s6.toks) (fun b o hb e => (sb.2 b hb).trans e) g0 g1 g3 g4 g5, rfl, ?_⟩
      rw [e, List.drop_length] at hrest
      replace hrest : Aft c W sg F H Q (.ok ⟨.li .sh, false, .lst (xs ++ [])⟩) := hrest
      rw [List.append_nil] at hrest
      have wt := w1.trans wi
      refine hrest Fi H5 (.ref L) wt ⟨fun a => a = L, ⟨L, us, xs, rfl, rfl, rfl, hD, hr.length, fun _ _ => False, fun _ _ z => z.elim, fun _ _ _ z => z.elim, fun k u x hu hx => ?_⟩, fun a ea => ?_⟩
      · obtain ⟨d, h1, h2⟩ := hr.get hu
        rw [hx] at h1
        cases h1
        exact h2
      · subst ea
        exact ⟨fun _ => Evl.fresh_back w1.h nL, fL, by rw [hD]; exact fun z => by cases z⟩
  exact codeAny_compStart_list lp (T.self X.A 0 _ _ _ st4 lp)
end
end Bk
set_option Elab.async false
set_option linter.all false
set_option maxRecDepth 100000
set_option maxHeartbeats 4000000
/-! BkAC: a call within such a block. -/
namespace Bk
open PySem L2 PySem.Spec PyProof.Rows
section
variable {J : Jx} {pos p : Pos} {e : Expr} {es : List Expr}
theorem se_callC {nm : Str} {k : Nat} {ps : List Str} {F : XF} {fs : XA} (g : Gf J.X.prog J.X.w J.X.K J.X.mg J.X.base J.c nm k ps F) (hr : Room k J.X.A) (tk : TakesC J.X J.W) (hx : Gl J.X nm) (ha : SA J (e :: es) fs) (hdb : (nm == ("__debug__" : Str)) = false := by decide)
    (he : starEach (e :: es) J.X.env = (false, eval e J.X.env) :: starEach es J.X.env := by rfl) (hpl : (backTo pos (starEach es J.X.env)).any (·.1) = false := by rfl) : SE J (.Call (.Name nm p) (e :: es) [] pos) (xCall F fs) := by
  obtain ⟨f, fd, G, m, kp, b⟩ := g.ex
  exact (pe_callS G hr hx m kp b tk ha hdb he hpl).imp fun sg H Q ⟨F1, env, si, hq⟩ => ⟨F1, env, si, (aft_bindA hq).mono fun us H1 ⟨F2, ds, w1, r1, _, hq1⟩ => ⟨F2, ds, w1.fh, r1, hq1.sg fun _ _ _ z => z⟩⟩
end
@[simp] theorem e_LcX (vs : List Nat) (it : XI) (tg : Tg) (f : XE) (env : XEnv) : xLcX vs it tg f env = (it env).bind fun ds => if ds.length ≤ 100000 then endX [] (lcGoX (lcStepX tg f (wipeX env vs)) ds) else .bad := rfl
end Bk
set_option Elab.async false
set_option linter.all false
set_option maxRecDepth 100000
set_option maxHeartbeats 4000000
/-! BkAD: texts: upper, slices, replace (a token must be out). -/
namespace L2
open PySem PySem.Spec PyProof.Rows
/-- behind st a token is out -/
def PS1 (X : Cx) (st : Stmt) (t : TS) : Prop :=
  ∀ (pins : List (Addr × Obj)) (s : Shared) (sg : St) (H : Hp) (D : Ends), Inv X pins sg H s → t D sg H → wpAny (model X.prog X.w) X.A (exec st X.env) (fun f s' => 1 ≤ s'.toks ∧ SP X pins D f s') X.xe s
section
variable {X : Cx} {st : Stmt} {rest : List Stmt} {t u : TS} {e a b : Expr} {te ta tb : TE} {tc : TT} {pos : Pos}
theorem pss_tok (h1 : PS1 X st t) (h2 : PSsT X rest u) : PSs X (st :: rest) (tSeq t u) := by
  refine ⟨fun pins s sg H D I h => ?_⟩
  refine wpAny_execs_cons (thn (h1 pins s sg H { D with nx := u D } I h) fun f s1 q => ?_)
  obtain ⟨hk, q⟩ := q
  cases f with
  | next =>
    obtain ⟨sg2, H2, I2, q2⟩ := q
    exact h2 pins s1 sg2 H2 D hk I2 q2
  | ret v => exact q
  | brk => exact q
  | cont => exact q
theorem ps1_setM1 {id : String} {name x y : Str} {i j : Nat} {apos pos' p1 pos2 c0 : Pos} {r : V → List V → Hp → VK → Prop} {to : TE} (slot : Slot "str" name id) (ty : typeOf (.builtin id) = pure (.type "method_descriptor")) (rule : MtR X id r)
    (hto : ∀ sg H Q, to sg H Q → Q (.str y) H) (he : PE X e te) (hN : X.N.Nodup) (hi : X.N[i]? = some x) (hx : Loc X.env.scope x)
    (hs : starEach [e] X.env = [(false, eval e X.env)] := by rfl) (hbase : attributeBase (.Constant (.str y) j c0) name X.env (eval (.Constant (.str y) j c0) X.env) = eval (.Constant (.str y) j c0) X.env := by rfl) (hline : (apos.endLine == p1.line) = true := by rfl)
    (hsw : swapsWith (.Call (.Attribute (.Constant (.str y) j c0) name apos) [e] [] p1) (some (.Name x pos')) pos2.line X.env = pure false := by rfl) (hf : X.fn x = true ∨ X.env.scope.names.lookup x = some .local := by first | exact .inl rfl | exact .inr rfl | assumption) :
    PS1 X (.Assign [.Name x pos'] (.Call (.Attribute (.Constant (.str y) j c0) name apos) [e] [] p1) pos2) (tAsg (tM1 r to te) (gName i)) := by
  intro pins s sg H D I h
  obtain ⟨_, h⟩ := hto _ _ _ h
  refine wpAny_Assign_Name (PySem.Call_method1 hbase hs hline (Calls.Constant_str ?_)) hsw
  refine ⟨"str", _, F.plainAttrs_str, slot, ty, typeIs_str _ _ _, (fun _ e => nomatch e), wpAny_mono (PySem.wpAny_toks_of (n := 1) (by show 1 ≤ s.toks + 1; omega) (Calls.callWith_builtin rfl (Calls.evalArgs_plain (Calls.spliced_cons
    (thn (he.run pins _ sg H _ (I.tok (s.toks + 1)) h) fun u s2 ⟨z, H2, I2, r2, q2⟩ => Calls.spliced_nil (rule pins s2 sg H2 _ [z] _ [u] _ I2 (show RelV (.str y) (Value.str y s.toks) from ⟨_, rfl⟩) (.cons r2 .nil) q2)))))) (fun v s3 q => ?_) fun _ _ z => z.2⟩
  obtain ⟨hk, y3, H3, I3, r3, q3⟩ := q
  exact wpAny_mono (PySem.wpAny_toks_of hk (store_ok (Q := fun _ s' => SP X pins D .next s') (E := X.xe) I3 hN hi hx r3 (fun s4 I4 => ⟨_, H3, I4, q3⟩) hf)) (fun _ _ q => q) fun _ _ z => z.2
theorem pst_set {i : Nat} {x : Str} {pos' : Pos} (hN : X.N.Nodup) (hi : X.N[i]? = some x) (hx : Loc X.env.scope x) (he : PET X e te) (hs : swapsWith e (some (.Name x pos')) pos.line X.env = pure false := by rfl) (hf : X.fn x = true ∨ X.env.scope.names.lookup x = some .local := by first | exact .inl rfl | exact .inr rfl | assumption) :
    PST X (.Assign [.Name x pos'] e pos) (tAsg te (gName i)) := by
  intro pins s sg H D h0 I h
  refine wpAny_Assign_Name (thn (he pins s sg H _ h0 I h) fun v s1 ⟨y, H1, I1, r1, q1⟩ => ?_) hs
  exact store_ok I1 hN hi hx r1 (fun s2 I2 => ⟨_, H1, I2, q1⟩) hf
theorem pet_ifExp {c : Expr} (hc : PT X c tc) (ha : PET X a ta) (hb : PET X b tb) : PET X (.IfExp c a b pos) (tIf tc ta tb) := by
  intro pins s sg H Q h0 I h
  refine wpAny_IfExp (wpAny_mono (PySem.wpAny_toks (hc.run pins s sg H _ I h)) (fun d s1 q => ?_) fun _ _ z => z.2)
  obtain ⟨hk, H1, I1, q1⟩ := q
  cases d with
  | true => exact ha pins s1 sg H1 Q (Nat.le_trans h0 hk) I1 q1
  | false => exact hb pins s1 sg H1 Q (Nat.le_trans h0 hk) I1 q1
end
end L2
namespace Bk
open PySem L2 PySem.Spec PyProof.Rows
def xM0 (g : Str → Res Val) (f : XE) : XE := fun env => (f env).bind fun a => match a.d with
  | .str x => g x
  | _ => .bad
def gUpper (x : Str) : Res Val := if x.length ≤ 100000 then .ok (.sh (.str (Txt.upper x))) else .bad
def gRepl (y z : Str) (x : Str) : Res Val := if x.length ≤ 100000 ∧ z.length ≤ 100 then .ok (.sh (.str (Txt.replace x y z))) else .bad
def kSlS (a : Val) (l u : Option Int) : Res Val := match a.d with
  | .str x => if x.length ≤ 100000 then .ok (.sh (.str (cutS x l u))) else .bad
  | _ => .bad
def xSlS (f : XE) (lo hi : XP) : XE := fun env => (f env).bind fun a => (lo env).bind fun l => (hi env).bind fun h => kSlS a l h
abbrev SST (J : Jx) (st : Stmt) (g : XS) : Prop := PST J.X st (tXS J.c J.W J.F0 J.H0 g)
abbrev SSsT (J : Jx) (sts : List Stmt) (g : XS) : Prop := PSsT J.X sts (tXS J.c J.W J.F0 J.H0 g)
abbrev SET (J : Jx) (e : Expr) (f : XE) : Prop := PET J.X e (tX J.c J.W J.F0 J.H0 f)
section
variable {J : Jx} {c : Ct} {W : WX} {F0 H0 : Hp} {X : Cx} {pos p2 : Pos} {a b e o : Expr} {f h : XE} {g gg : XS} {t : XB} {st : Stmt} {sts : List Stmt} {fl fh : XP}
theorem tX_m0 {r : V → List V → Hp → VK → Prop} {k : Str → Res Val} (hg : ∀ (W : WX) sg F H x Q, Ex F H → Aft c W sg F H Q (k x) → r (.str x) [] H Q) {sg : L2.St} {H : Hp} {Q : VK} (hq : tX c W F0 H0 (xM0 k f) sg H Q) : tM0 r (tX c W F0 H0 f) sg H Q := by
  obtain ⟨F, env, si, hq⟩ := hq
  refine ⟨F, env, si, (aft_bind hq).mono fun x H1 ⟨F1, va, w1, r1, hq1⟩ => ?_⟩
  have rr := r1.rep w1.fh
  obtain ⟨oa, ba, da⟩ := va
  cases da with
  | str z =>
    cases rr
    exact ⟨⟨_, rfl⟩, hg W sg F1 H1 z Q w1.fh hq1⟩
  | _ => exact (show False from hq1).elim
theorem se_upper {apos : Pos} (ho : SE J o f) (hbase : attributeBase o "upper" J.X.env (eval o J.X.env) = eval o J.X.env := by rfl) (hline : (apos.endLine == pos.line) = true := by rfl) :
    SE J (.Call (.Attribute o "upper" apos) [] [] pos) (xM0 gUpper f) := (pe_upper ho hbase hline).imp fun _ _ _ q => tX_m0 (fun W sg F H x Q e hq => by
  unfold gUpper at hq
  by_cases z : x.length ≤ 100000
  · rw [if_pos z] at hq
    exact ⟨x, rfl, rfl, by omega, Aft.now e .str hq⟩
  · rw [if_neg z] at hq
    exact hq.elim) q
theorem se_slS {lo hi : Option Expr} (ha : SE J a f) (hl : SPo J lo fl) (hh : SPo J hi fh) : SE J (.Subscript a (.Slice lo hi none p2) pos) (xSlS f fl fh) := (pe_slice sl_str ha hl hh).imp fun sg H Q ⟨F, env, si, hq⟩ => ⟨F, env, si, (aft_bind hq).mono fun x H1 ⟨F1, va, w1, r1, hq1⟩ => by
  refine ⟨F1, env, si.grow w1, (aft_bindP hq1).mono fun l H2 ⟨F2, w2, hq2⟩ => ?_⟩
  refine ⟨F2, env, (si.grow w1).grow w2, (aft_bindP hq2).mono fun u H3 ⟨F3, w3, hq3⟩ => ?_⟩
  have rr := r1.rep w1.fh
  obtain ⟨oa, ba, da⟩ := va
  cases da with
  | str z =>
    cases rr
    replace hq3 : Aft J.c J.W sg F3 H3 Q (if z.length ≤ 100000 then .ok (.sh (.str (cutS z l u))) else .bad) := hq3
    by_cases y : z.length ≤ 100000
    · rw [if_pos y] at hq3
      have hz : 100000 ≤ sizeLine := by decide
      exact ⟨z, rfl, by omega, Aft.now w3.fh .str hq3⟩
    · rw [if_neg y] at hq3
      exact hq3.elim
  | _ => exact (show False from hq3).elim⟩
/-! ### a token is out -/
theorem _root_.L2.PST.imp {t t' : TS} (h : PST X st t) (k : ∀ D sg H, t' D sg H → t D sg H) : PST X st t' := fun pins s sg H D h0 I q => h pins s sg H D h0 I (k D sg H q)
theorem _root_.L2.PSsT.imp {t t' : TS} (h : PSsT X sts t) (k : ∀ D sg H, t' D sg H → t D sg H) : PSsT X sts t' := fun pins s sg H D h0 I q => h pins s sg H D h0 I (k D sg H q)
theorem _root_.L2.PET.imp {t t' : TE} (h : PET X e t) (k : ∀ sg H Q, t' sg H Q → t sg H Q) : PET X e t' := fun pins s sg H Q h0 I q => h pins s sg H Q h0 I (k sg H Q q)
theorem sst_of (h : SS J st g) : SST J st g := PST.of h
theorem ssst_of (h : SSs J sts g) : SSsT J sts g := PSsT.of h
theorem set_of (h : SE J e f) : SET J e f := fun pins s sg H Q _ I q => h.run pins s sg H Q I q
theorem tXS_seq {D : Ends} {sg : L2.St} {H : Hp} (q : tXS c W F0 H0 (xSeq g gg) D sg H) : tSeq (tXS c W F0 H0 g) (tXS c W F0 H0 gg) D sg H := by
  obtain ⟨F, env, si, hq⟩ := q
  refine ⟨F, env, si, ?_⟩
  unfold xSeq at hq
  cases q : g env with
  | next x =>
    rw [q] at hq
    exact fun F' H' sg' e s => ⟨F', x, s, AftS.grow e hq⟩
  | ret r => rw [q] at hq; exact hq
  | rete d x => rw [q] at hq; exact hq
  | brk x => rw [q] at hq; exact hq
  | cont x => rw [q] at hq; exact hq
  | exc k x => rw [q] at hq; exact hq
  | bad => rw [q] at hq; exact hq
theorem ssst_cons (h1 : SST J st g) (h2 : SSsT J sts gg) : SSsT J (st :: sts) (xSeq g gg) := PSsT.imp (psst_cons h1 h2) fun D sg H q => tXS_seq q
theorem ssst_one (h1 : SST J st g) : SSsT J [st] g := PSsT.imp (CwR.psst_one h1) fun D sg H q => by
  obtain ⟨F, env, si, hq⟩ := q
  refine ⟨F, env, si, ?_⟩
  cases q : g env with
  | next x => rw [q] at hq; exact hq
  | ret r => rw [q] at hq; exact hq
  | rete d x => rw [q] at hq; exact hq
  | brk x => rw [q] at hq; exact hq
  | cont x => rw [q] at hq; exact hq
  | exc k x => rw [q] at hq; exact hq
  | bad => rw [q] at hq; exact hq
theorem sst_if {x y : List Stmt} (hc : SB J e t) (ha : SSsT J x g) (hb : SSsT J y gg) : SST J (.If e x y pos) (xIfS t g gg) := PST.imp (CwR.pst_if hc ha hb) fun D sg H ⟨F, env, si, hq⟩ => ⟨F, env, si, by
  refine aftS_bindB (k := fun b => if b = true then g env else gg env) si hq fun F1 H1 b w hk => ?_
  cases b with
  | true => exact iteT ⟨F1, env, si.grow w, AftS.grow w.f hk⟩
  | false => exact iteF ⟨F1, env, si.grow w, AftS.grow w.f hk⟩⟩
theorem set_if (hc : SB J e t) (ha : SET J a f) (hb : SET J b h) : SET J (.IfExp e a b pos) (xIf t f h) := PET.imp (pet_ifExp hc ha hb) fun sg H Q ⟨F, env, si, hq⟩ => ⟨F, env, si, (aft_bindBX hq).mono fun k H1 ⟨F1, w1, hq1⟩ => by
  cases k with
  | true => exact iteT ⟨F1, env, si.grow w1, hq1⟩
  | false => exact iteF ⟨F1, env, si.grow w1, hq1⟩⟩
theorem sst_set {x : Str} {pos' : Pos} (i : Nat) (hN : J.X.N.Nodup) (he : SET J e f) (hi : J.X.N[i]? = some x := by rfl) (hx : Loc J.X.env.scope x := by first | exact Or.inl rfl | exact Or.inr rfl) (hs : swapsWith e (some (.Name x pos')) pos.line J.X.env = pure false := by rfl)
    (hf : J.X.fn x = true ∨ J.X.env.scope.names.lookup x = some .local := by first | exact .inl rfl | exact .inr rfl) : SST J (.Assign [.Name x pos'] e pos) (xSet i f) := PST.imp (pst_set hN hi hx he hs hf) fun D sg H q => set_tS id q
theorem set_repl {y z : Str} {j k : Nat} {c0 c1 apos : Pos} (ho : SE J o f) (hyz : (y == z) = false := by decide)
    (hst : starEach [.Constant (.str y) j c0, .Constant (.str z) k c1] J.X.env = [(false, eval (.Constant (.str y) j c0) J.X.env), (false, eval (.Constant (.str z) k c1) J.X.env)] := by rfl)
    (hbase : attributeBase o "replace" J.X.env (eval o J.X.env) = eval o J.X.env := by rfl) (hline : (apos.endLine == pos.line) = true := by rfl) :
    SET J (.Call (.Attribute o "replace" apos) [.Constant (.str y) j c0, .Constant (.str z) k c1] [] pos) (xM0 (gRepl y z) f) := PET.imp (CwR.pet_replC ho hyz hst hbase hline) fun sg H Q ⟨F, env, si, hq⟩ => ⟨F, env, si, (aft_bind hq).mono fun x H1 ⟨F1, va, w1, r1, hq1⟩ => by
  have rr := r1.rep w1.fh
  obtain ⟨oa, ba, da⟩ := va
  cases da with
  | str w =>
    cases rr
    replace hq1 : Aft J.c J.W sg F1 H1 Q (if w.length ≤ 100000 ∧ z.length ≤ 100 then .ok (.sh (.str (Txt.replace w y z))) else .bad) := hq1
    by_cases q : w.length ≤ 100000 ∧ z.length ≤ 100
    · rw [if_pos q] at hq1
      refine ⟨w, rfl, ?_, Aft.now w1.fh .str hq1⟩
      have h1 : (w.length + 1) * z.length ≤ 100001 * 100 := Nat.mul_le_mul (by omega) q.2
      have := q.1
      omega
    · rw [if_neg q] at hq1
      exact hq1.elim
  | _ => exact (show False from hq1).elim⟩
/-- x = 'y'.join(e), then the rest with a token out -/
theorem sss_join {x y : Str} {pos' pos2 c0 apos : Pos} {j : Nat} (i : Nat) (hN : J.X.N.Nodup) (he : SE J e f) (h2 : SSsT J sts gg) (hi : J.X.N[i]? = some x := by rfl) (hx : Loc J.X.env.scope x := by first | exact Or.inl rfl | exact Or.inr rfl)
    (hs : starEach [e] J.X.env = [(false, eval e J.X.env)] := by rfl) (hbase : attributeBase (.Constant (.str y) j c0) "join" J.X.env (eval (.Constant (.str y) j c0) J.X.env) = eval (.Constant (.str y) j c0) J.X.env := by rfl) (hline : (apos.endLine == pos.line) = true := by rfl)
    (hsw : swapsWith (.Call (.Attribute (.Constant (.str y) j c0) "join" apos) [e] [] pos) (some (.Name x pos')) pos2.line J.X.env = pure false := by rfl) (hf : J.X.fn x = true ∨ J.X.env.scope.names.lookup x = some .local := by first | exact .inl rfl | exact .inr rfl) :
    SSs J (.Assign [.Name x pos'] (.Call (.Attribute (.Constant (.str y) j c0) "join" apos) [e] [] pos) pos2 :: sts) (xSeq (xSet i (xM1 gJoin (xC (.str y)) f)) gg) :=
  (pss_tok (ps1_setM1 (y := y) (j := j) (c0 := c0) F.slot_str_join F.type_str_join mt_join (to := tX J.c J.W J.F0 J.H0 (xC (.str y))) (fun sg H Q ⟨F, env, si, hq⟩ => hq F H _ (Wd.refl si.wd.fh) (Rv.sh .str)) he hN hi hx hs hbase hline hsw hf) h2).imp fun D sg H q => by
    obtain ⟨F, env, si, hq⟩ := tXS_seq q
    exact set_tS (fun z => tX_m1 m1_join z) ⟨F, env, si, hq⟩
end
@[simp] theorem e_M0 (g : Str → Res Val) (f : XE) (env : XEnv) : xM0 g f env = (f env).bind fun a => match a.d with
  | .str x => g x
  | _ => .bad := rfl
@[simp] theorem e_SlS (f : XE) (lo hi : XP) (env : XEnv) : xSlS f lo hi env = (f env).bind fun a => (lo env).bind fun l => (hi env).bind fun h => kSlS a l h := rfl
end Bk
set_option Elab.async false
set_option linter.all false
set_option maxRecDepth 100000
set_option maxHeartbeats 4000000
/-! KF: each def of the program and the law as a function over plain data (printed by gen.py). -/
namespace Bk
open PySem L2
/-- what «except LeafError» catches -/
def pk_LeafError : Nat → Option Bool
  | 0 => some true
  | 1 => some true
  | 2 => some true
  | 3 => some true
  | 4 => some true
  | 5 => some true
  | 6 => some true
  | 7 => some true
  | _ => none
theorem pkn_LeafError : ∀ k, pk_LeafError k = some true → k < 8 := by
  intro k h
  rcases k with _ | _ | _ | _ | _ | _ | _ | _ | k
  all_goals first | decide | cases h
/-- _law_row_by(script, first, most): 0=script 1=first 2=most 3=out 4=cell 5=crease -/
def F_law_row_by : XF := xFun 3 6 (xSeq (xSet 3 (xLst (xANil))) (
  xSeq (xFor (.nm 4) (xIList (xSl (xV 0) (xPSome (xV 1)) (xPSome (xOp2 pAdd (xV 1) (xV 2))))) (xSeq (xSet 5 (xOp2 pAdd (xC (.int 1)) (xOp2 pMod (xOp2 pDiv (xV 4) (xC (.int 8))) (xOp2 pIx (xLst (xACons (xC (.int 9)) (xACons (xC (.int 40)) (xACons (xC (.int 1000)) (xACons (xC (.int 999999999)) (xANil)))))) (xOp2 pMod (xOp2 pDiv (xV 4) (xC (.int 4))) (xC (.int 4))))))) (
  xApp 3 (xTup (xACons (xOp2 pIx (xLst (xACons (xC (.str "west")) (xACons (xC (.str "east")) (xACons (xC (.str "north")) (xACons (xC (.str "south")) (xANil)))))) (xOp2 pMod (xV 4) (xC (.int 4)))) (xACons (xOp2 pEq (xOp2 pMod (xOp2 pDiv (xV 4) (xC (.int 16))) (xC (.int 2))) (xC (.int 1))) (xACons (xV 5) (xANil)))))))) (
  xRetV 3)))
/-- crease_of(figures): 0=figures 1=sign -/
def F_crease_of : XF := xFun 1 2 (xSeq (xIfS (xOr (xT (xOp2 pEq (xV 0) (xC (.str "")))) (xOr (xT (xOp2 pEq (xOp2 pIx (xV 0) (xC (.int 0))) (xC (.str "0")))) (xT (xOp2 pGt (xBlt pLen (xVCons (xV 0) (xVNil))) (xC (.int 9)))))) (xRaise 7) (xSkip)) (
  xSeq (xFor (.nm 1) (xIStr (xV 0)) (xIfS (xT (xOp2 (pInS true) (xV 1) (xC (.str "0123456789")))) (xRaise 7) (xSkip))) (
  xRet (xBlt pIntS (xVCons (xV 0) (xVNil))))))
/-- fold_of(text): 0=text 1=parts -/
def F_fold_of : XF := xFun 1 2 (xSeq (xSet 1 (xM1 gSplit (xV 0) (xC (.str " ")))) (
  xSeq (xIfS (xT (xOp2 pNe (xBlt pLen (xVCons (xV 1) (xVNil))) (xC (.int 3)))) (xRaise 7) (xSkip)) (
  xSeq (xIfS (xT (xOp2 (pIn true) (xOp2 pIx (xV 1) (xC (.int 0))) (xTup (xACons (xC (.str "west")) (xACons (xC (.str "east")) (xACons (xC (.str "north")) (xACons (xC (.str "south")) (xANil)))))))) (xRaise 7) (xSkip)) (
  xSeq (xIfS (xAnd (xT (xOp2 pNe (xOp2 pIx (xV 1) (xC (.int 1))) (xC (.str "over")))) (xT (xOp2 pNe (xOp2 pIx (xV 1) (xC (.int 1))) (xC (.str "under"))))) (xRaise 7) (xSkip)) (
  xRet (xTup (xACons (xOp2 pIx (xV 1) (xC (.int 0))) (xACons (xOp2 pEq (xOp2 pIx (xV 1) (xC (.int 1))) (xC (.str "over"))) (xACons (xCallB F_crease_of (xVCons (xOp2 pIx (xV 1) (xC (.int 2))) (xVNil))) (xANil))))))))))
/-- read(text): 0=text 1=part -/
def F_read : XF := xFun 1 2 (xSeq (xIfS (xT (xOp2 pEq (xV 0) (xC (.str "")))) (xRet (xLst (xANil))) (xSkip)) (
  xRet (xLcX [1] (xIList (xM1 gSplit (xV 0) (xC (.str ", ")))) (.nm 1) (xCall F_fold_of (xACons (xV 1) (xANil))))))
/-- _law_word_of(e): 0=e 1=kinds -/
def F_law_word_of : XF := xFun 1 2 (xSeq (xSet 1 (xLst (xACons (xIsE 0 (xV 0)) (xACons (xIsE 1 (xV 0)) (xACons (xIsE 2 (xV 0)) (xACons (xIsE 3 (xV 0)) (xANil))))))) (
  xSeq (xSet 1 (xOp2 pAdd (xV 1) (xLst (xACons (xIsE 4 (xV 0)) (xACons (xIsE 5 (xV 0)) (xACons (xIsE 6 (xV 0)) (xACons (xIsE 7 (xV 0)) (xANil)))))))) (
  xSeq (xIfS (xOr (xT (xOp2 pNe (xCnt (xV 1)) (xC (.int 1)))) (xNotB (xT (xIsVE (xV 0))))) (xRet (xC (.str "other"))) (xSkip)) (
  xRet (xOp2 pIx (xLst (xACons (xC (.str "sheet")) (xACons (xC (.str "fold")) (xACons (xC (.str "place")) (xACons (xC (.str "ajar")) (xACons (xC (.str "severed")) (xACons (xC (.str "bolted")) (xACons (xC (.str "loose")) (xACons (xC (.str "word")) (xANil)))))))))) (xIdx (xV 1)))))))
/-- _law_refused(text): 0=text 1=e -/
def F_law_refused : XF := xFun 1 2 (xSeq (xTryE (pk_LeafError) 1 (xDrop (xCall F_read (xACons (xV 0) (xANil)))) (xRet (xOp2 pEq (xCallX 8 F_law_word_of (xV 1)) (xC (.str "word"))))) (
  xRet (xC (.bl false))))
/-- _law_written(fold): 0=fold 1=way -/
def F_law_written : XF := xFun 1 2 (xSeq (xSet 1 (xIf (xT (xOp2 pIx (xV 0) (xC (.int 1)))) (xC (.str "over")) (xC (.str "under")))) (
  xRet (xOp2 pAdd (xOp2 pAdd (xOp2 pAdd (xOp2 pAdd (xOp2 pIx (xV 0) (xC (.int 0))) (xC (.str " "))) (xV 1)) (xC (.str " "))) (xBlt pStr (xVCons (xOp2 pIx (xV 0) (xC (.int 2))) (xVNil))))))
/-- _law_whole(found): 0=found -/
def F_law_whole : XF := xFun 1 1 (xRet (xAndV (xIsi "int" (xV 0)) (xNotV (xIsi "bool" (xV 0)))))
/-- _law_same_folds(found, due): 0=found 1=due 2=k 3=one -/
def F_law_same_folds : XF := xFun 2 4 (xSeq (xIfS (xOr (xNotB (xT (xIsi "list" (xV 0)))) (xT (xOp2 pNe (xBlt pLen (xVCons (xV 0) (xVNil))) (xBlt pLen (xVCons (xV 1) (xVNil)))))) (xRet (xC (.bl false))) (xSkip)) (
  xSeq (xFor (.nm 2) (xIRange (xVCons (xBlt pLen (xVCons (xV 1) (xVNil))) (xVNil))) (xSeq (xSet 3 (xOp2 pIx (xV 0) (xV 2))) (
  xSeq (xIfS (xOr (xNotB (xT (xIsi "tuple" (xV 3)))) (xOr (xT (xOp2 pNe (xBlt pLen (xVCons (xV 3) (xVNil))) (xC (.int 3)))) (xNotB (xT (xIsi "str" (xOp2 pIx (xV 3) (xC (.int 0)))))))) (xRet (xC (.bl false))) (xSkip)) (
  xIfS (xOr (xNotB (xT (xIsi "bool" (xOp2 pIx (xV 3) (xC (.int 1)))))) (xOr (xNotB (xT (xCallB F_law_whole (xVCons (xOp2 pIx (xV 3) (xC (.int 2))) (xVNil))))) (xT (xOp2 pNe (xV 3) (xOp2 pIx (xV 1) (xV 2)))))) (xRet (xC (.bl false))) (xSkip))))) (
  xRet (xC (.bl true)))))
/-- _law_cell_at(script, k): 0=script 1=k -/
def F_law_cell_at : XF := xFun 2 2 (xSeq (xIfS (xT (xOp2 pLt (xV 1) (xBlt pLen (xVCons (xV 0) (xVNil))))) (xRet (xOp2 pIx (xV 0) (xV 1))) (xSkip)) (
  xRet (xC (.int 0))))
/-- _law_spoilt(fold, way): 0=fold 1=way 2=side 3=word 4=figures 5=some -/
def F_law_spoilt : XF := xFun 2 6 (xSeq (xSet 2 (xOp2 pIx (xV 0) (xC (.int 0)))) (
  xSeq (xSet 3 (xIf (xT (xOp2 pIx (xV 0) (xC (.int 1)))) (xC (.str "over")) (xC (.str "under")))) (
  xSeq (xSet 4 (xBlt pStr (xVCons (xOp2 pIx (xV 0) (xC (.int 2))) (xVNil)))) (
  xSeq (xSet 5 (xLst (xACons (xOp2 pAdd (xOp2 pAdd (xOp2 pAdd (xC (.str "up ")) (xV 3)) (xC (.str " "))) (xV 4)) (xACons (xOp2 pAdd (xOp2 pAdd (xOp2 pAdd (xOp2 pAdd (xM0 gUpper (xV 2)) (xC (.str " "))) (xV 3)) (xC (.str " "))) (xV 4)) (xACons (xOp2 pAdd (xOp2 pAdd (xV 2) (xC (.str " Over "))) (xV 4)) (xANil)))))) (
  xSeq (xSet 5 (xOp2 pAdd (xV 5) (xLst (xACons (xOp2 pAdd (xOp2 pAdd (xV 2) (xC (.str " "))) (xV 4)) (xACons (xOp2 pAdd (xOp2 pAdd (xV 3) (xC (.str " "))) (xV 4)) (xACons (xOp2 pAdd (xOp2 pAdd (xV 2) (xC (.str " "))) (xV 3)) (xACons (xOp2 pAdd (xOp2 pAdd (xOp2 pAdd (xV 2) (xC (.str " "))) (xV 3)) (xC (.str " "))) (xANil)))))))) (
  xSeq (xSet 5 (xOp2 pAdd (xV 5) (xLst (xACons (xOp2 pAdd (xOp2 pAdd (xOp2 pAdd (xOp2 pAdd (xV 2) (xC (.str "  "))) (xV 3)) (xC (.str " "))) (xV 4)) (xACons (xOp2 pAdd (xOp2 pAdd (xOp2 pAdd (xOp2 pAdd (xV 2) (xC (.str " "))) (xV 3)) (xC (.str "  "))) (xV 4)) (xANil)))))) (
  xSeq (xSet 5 (xOp2 pAdd (xV 5) (xLst (xACons (xOp2 pAdd (xOp2 pAdd (xOp2 pAdd (xOp2 pAdd (xC (.str " ")) (xV 2)) (xC (.str " "))) (xV 3)) (xC (.str " 1"))) (xANil))))) (
  xSeq (xSet 5 (xOp2 pAdd (xV 5) (xLst (xACons (xOp2 pAdd (xOp2 pAdd (xOp2 pAdd (xOp2 pAdd (xOp2 pAdd (xV 2) (xC (.str " "))) (xV 3)) (xC (.str " "))) (xV 4)) (xC (.str " "))) (xACons (xOp2 pAdd (xOp2 pAdd (xOp2 pAdd (xOp2 pAdd (xV 2) (xC (.str " "))) (xV 3)) (xC (.str " +"))) (xV 4)) (xANil)))))) (
  xSeq (xSet 5 (xOp2 pAdd (xV 5) (xLst (xACons (xOp2 pAdd (xOp2 pAdd (xOp2 pAdd (xOp2 pAdd (xV 2) (xC (.str " "))) (xV 3)) (xC (.str " -"))) (xV 4)) (xACons (xOp2 pAdd (xOp2 pAdd (xOp2 pAdd (xOp2 pAdd (xV 2) (xC (.str " "))) (xV 3)) (xC (.str " 0"))) (xV 4)) (xACons (xOp2 pAdd (xOp2 pAdd (xOp2 pAdd (xV 2) (xC (.str " "))) (xV 3)) (xC (.str " 0"))) (xANil))))))) (
  xSeq (xSet 5 (xOp2 pAdd (xV 5) (xLst (xACons (xOp2 pAdd (xOp2 pAdd (xOp2 pAdd (xOp2 pAdd (xOp2 pAdd (xV 2) (xC (.str " "))) (xV 3)) (xC (.str " "))) (xV 4)) (xC (.str "a"))) (xACons (xOp2 pAdd (xOp2 pAdd (xOp2 pAdd (xV 2) (xC (.str " "))) (xV 3)) (xC (.str " 1000000000"))) (xACons (xC (.str "")) (xANil))))))) (
  xSeq (xSet 5 (xOp2 pAdd (xV 5) (xLst (xACons (xOp2 pAdd (xOp2 pAdd (xOp2 pAdd (xOp2 pAdd (xOp2 pAdd (xV 2) (xC (.str " "))) (xV 3)) (xC (.str " "))) (xV 4)) (xC (.str " 1"))) (xACons (xOp2 pAdd (xOp2 pAdd (xOp2 pAdd (xOp2 pAdd (xOp2 pAdd (xV 2) (xC (.str " "))) (xV 3)) (xC (.str " "))) (xV 4)) (xC (.str "\n"))) (xACons (xSlS (xV 2) (xPNone) (xPSome (xC (.int (-1))))) (xANil))))))) (
  xSeq (xSet 5 (xOp2 pAdd (xV 5) (xLst (xACons (xOp2 pAdd (xOp2 pAdd (xOp2 pAdd (xOp2 pAdd (xOp2 pAdd (xV 2) (xC (.str " "))) (xV 3)) (xC (.str " "))) (xV 4)) (xC (.str ","))) (xACons (xOp2 pAdd (xOp2 pAdd (xOp2 pAdd (xOp2 pAdd (xV 2) (xC (.str ","))) (xV 3)) (xC (.str ","))) (xV 4)) (xACons (xOp2 pAdd (xV 2) (xC (.str "west over 1"))) (xANil))))))) (
  xSeq (xSet 5 (xOp2 pAdd (xV 5) (xLst (xACons (xOp2 pAdd (xOp2 pAdd (xOp2 pAdd (xV 2) (xC (.str " "))) (xV 3)) (xC (.str " 1_0"))) (xACons (xOp2 pAdd (xOp2 pAdd (xOp2 pAdd (xOp2 pAdd (xOp2 pAdd (xV 2) (xC (.str " "))) (xV 3)) (xC (.str " "))) (xV 4)) (xC (.str "\t"))) (xANil)))))) (
  xSeq (xSet 5 (xOp2 pAdd (xV 5) (xLst (xACons (xOp2 pAdd (xOp2 pAdd (xOp2 pAdd (xOp2 pAdd (xV 2) (xC (.str "\t"))) (xV 3)) (xC (.str " "))) (xV 4)) (xACons (xOp2 pAdd (xOp2 pAdd (xOp2 pAdd (xOp2 pAdd (xV 2) (xC (.str " "))) (xV 3)) (xC (.str " \t"))) (xV 4)) (xANil)))))) (
  xRet (xOp2 pIx (xV 5) (xOp2 pMod (xV 1) (xC (.int 28)))))))))))))))))))
/-- law(script): 0=script 1=due 2=parts 3=way 4=at 5=text 6=fold -/
def F_law : XF := xFun 1 7 (xSeq (xSet 1 (xCall F_law_row_by (xACons (xV 0) (xACons (xC (.int 3)) (xACons (xC (.int 30)) (xANil)))))) (
  xFz 1 (xSeq (xSet 2 (xLc [6] (xIList (xV 1)) (.nm 6) (xYes) (xCallB F_law_written (xVCons (xV 6) (xVNil))))) (
  xSeq (xSet 3 (xOp2 pMod (xOp2 pDiv (xCallB F_law_cell_at (xVCons (xV 0) (xVCons (xC (.int 0)) (xVNil)))) (xC (.int 2))) (xC (.int 31)))) (
  xSeq (xIfS (xOr (xT (xOp2 pEq (xOp2 pMod (xCallB F_law_cell_at (xVCons (xV 0) (xVCons (xC (.int 0)) (xVNil)))) (xC (.int 2))) (xC (.int 0)))) (xT (xOp2 pEq (xV 1) (xLst (xANil))))) (xRet (xCallB F_law_same_folds (xVCons (xCall F_read (xACons (xM1 gJoin (xC (.str ", ")) (xV 2)) (xANil))) (xVCons (xV 1) (xVNil))))) (xSkip)) (
  xSeq (xSet 4 (xOp2 pMod (xCallB F_law_cell_at (xVCons (xV 0) (xVCons (xC (.int 1)) (xVNil)))) (xBlt pLen (xVCons (xV 2) (xVNil))))) (
  xSeq (xSetI 2 (xV 4) (xIf (xT (xOp2 pLt (xV 3) (xC (.int 28)))) (xCallB F_law_spoilt (xVCons (xOp2 pIx (xV 1) (xV 4)) (xVCons (xV 3) (xVNil)))) (xOp2 pIx (xV 2) (xV 4)))) (
  xSeq (xSet 5 (xM1 gJoin (xC (.str ", ")) (xV 2))) (
  xSeq (xIfS (xAnd (xT (xOp2 pLt (xV 3) (xC (.int 28)))) (xT (xOp2 pEq (xV 5) (xC (.str ""))))) (xRet (xCallB F_law_same_folds (xVCons (xCall F_read (xACons (xV 5) (xANil))) (xVCons (xLst (xANil)) (xVNil))))) (xSkip)) (
  xSeq (xIfS (xT (xOp2 pEq (xV 3) (xC (.int 28)))) (xSet 5 (xOp2 pAdd (xV 5) (xC (.str ",")))) (xSkip)) (
  xSeq (xIfS (xT (xOp2 pEq (xV 3) (xC (.int 29)))) (xSet 5 (xOp2 pAdd (xV 5) (xC (.str ", ")))) (xSkip)) (
  xSeq (xIfS (xT (xOp2 pEq (xV 3) (xC (.int 30)))) (xSet 5 (xIf (xT (xOp2 pGt (xBlt pLen (xVCons (xV 2) (xVNil))) (xC (.int 1)))) (xM0 (gRepl ", " ",") (xV 5)) (xC (.str " ")))) (xSkip)) (
  xRet (xCallB F_law_refused (xVCons (xV 5) (xVNil))))))))))))))))
end Bk
set_option Elab.async false
set_option linter.all false
set_option maxRecDepth 100000
set_option maxHeartbeats 4000000
/-! MA: folds over plain spots, no program in sight. -/
namespace Fd
structure Spot where
  x : Int
  y : Int
  l : Int
  e : Bool
  n : Bool
inductive Side where
  | west | east | north | south
  deriving DecidableEq
def Side.lev : Side → Bool
  | .north => true
  | .south => true
  | _ => false
def Side.far : Side → Bool
  | .east => true
  | .south => true
  | _ => false
structure Fold where
  side : Side
  over : Bool
  cr : Int
abbrev Cell := Nat × Bool × Bool
def al (v : Bool) (s : Spot) : Int := if v = true then s.y else s.x
def ac (v : Bool) (s : Spot) : Int := if v = true then s.x else s.y
def gapOf (cr a : Int) : Int := if cr ≤ a then a - cr else cr - 1 - a
def plOf (far : Bool) (cr grown a : Int) : Int := if far = true then grown - 1 - gapOf cr a else gapOf cr a
def mvs (far : Bool) (cr a : Int) : Bool := decide (cr ≤ a) == far
def spotF (f : Fold) (grown top low : Int) (s : Spot) : Spot :=
  { x := if f.side.lev = true then s.x else plOf f.side.far f.cr grown s.x
    y := if f.side.lev = true then plOf f.side.far f.cr grown s.y else s.y
    l := if mvs f.side.far f.cr (al f.side.lev s) = true then (if f.over = true then 2 * top + 1 - s.l else 2 * low - 1 - s.l) else s.l
    e := if mvs f.side.far f.cr (al f.side.lev s) = true ∧ f.side.lev = false then !s.e else s.e
    n := if mvs f.side.far f.cr (al f.side.lev s) = true ∧ f.side.lev = true then !s.n else s.n }
def cell (S : Nat → Spot) (k : Nat) : Cell := (k, (S k).e, (S k).n)
def IsHeap (N : Nat) (S : Nat → Spot) (x y : Int) (ks : List Nat) : Prop :=
  ks.Pairwise (fun a b => (S b).l < (S a).l) ∧ ∀ k, k ∈ ks ↔ k < N ∧ (S k).x = x ∧ (S k).y = y
structure Good (N : Nat) (S : Nat → Spot) (wide high : Int) : Prop where
  bnd : ∀ k, k < N → 0 ≤ (S k).x ∧ (S k).x < wide ∧ 0 ≤ (S k).y ∧ (S k).y < high
  full : ∀ x y, 0 ≤ x → x < wide → 0 ≤ y → y < high → ∃ k, k < N ∧ (S k).x = x ∧ (S k).y = y
  inj : ∀ j k, j < N → k < N → (S j).x = (S k).x → (S j).y = (S k).y → (S j).l = (S k).l → j = k
/-- the bounds of all layers -/
def Lay (N : Nat) (S : Nat → Spot) (top low : Int) : Prop := ∀ k, k < N → low ≤ (S k).l ∧ (S k).l ≤ top
def gapAt (extent cr : Int) (far : Bool) (at_ : Int) : Int := if far = true then max cr (extent - cr) - 1 - at_ else at_
def nearT (cr gap : Int) : Option Int := if gap < cr then some (cr - 1 - gap) else none
def beyT (extent cr gap : Int) : Option Int := if gap < extent - cr then some (cr + gap) else none
def meetM (extent cr : Int) (far : Bool) (at_ : Int) : Option Int := if far = true then beyT extent cr (gapAt extent cr far at_) else nearT cr (gapAt extent cr far at_)
def meetS (extent cr : Int) (far : Bool) (at_ : Int) : Option Int := if far = true then nearT cr (gapAt extent cr far at_) else beyT extent cr (gapAt extent cr far at_)

theorem meetM_iff {extent cr at_ a : Int} {far : Bool} (h1 : 1 ≤ cr) (h2 : cr < extent) (h3 : 0 ≤ at_) (h4 : at_ < max cr (extent - cr)) (h5 : 0 ≤ a) (h6 : a < extent) :
    meetM extent cr far at_ = some a ↔ plOf far cr (max cr (extent - cr)) a = at_ ∧ mvs far cr a = true := by
  unfold meetM plOf mvs gapAt nearT beyT gapOf
  cases far <;> by_cases h : cr ≤ a <;> simp [h] <;> omega
theorem meetS_iff {extent cr at_ a : Int} {far : Bool} (h1 : 1 ≤ cr) (h2 : cr < extent) (h3 : 0 ≤ at_) (h4 : at_ < max cr (extent - cr)) (h5 : 0 ≤ a) (h6 : a < extent) :
    meetS extent cr far at_ = some a ↔ plOf far cr (max cr (extent - cr)) a = at_ ∧ mvs far cr a = false := by
  unfold meetS plOf mvs gapAt nearT beyT gapOf
  cases far <;> by_cases h : cr ≤ a <;> simp [h] <;> omega
theorem meetM_bnd {extent cr at_ a : Int} {far : Bool} (h1 : 1 ≤ cr) (h2 : cr < extent) (h3 : 0 ≤ at_) (h4 : at_ < max cr (extent - cr)) (h : meetM extent cr far at_ = some a) : 0 ≤ a ∧ a < extent := by
  unfold meetM gapAt nearT beyT at h
  cases far <;> simp at h <;> omega
theorem meetS_bnd {extent cr at_ a : Int} {far : Bool} (h1 : 1 ≤ cr) (h2 : cr < extent) (h3 : 0 ≤ at_) (h4 : at_ < max cr (extent - cr)) (h : meetS extent cr far at_ = some a) : 0 ≤ a ∧ a < extent := by
  unfold meetS gapAt nearT beyT at h
  cases far <;> simp at h <;> omega
theorem meet_some {extent cr at_ : Int} {far : Bool} (h1 : 1 ≤ cr) (h2 : cr < extent) (h3 : 0 ≤ at_) (h4 : at_ < max cr (extent - cr)) :
    (∃ a, meetM extent cr far at_ = some a) ∨ ∃ a, meetS extent cr far at_ = some a := by
  unfold meetM meetS gapAt nearT beyT
  cases far <;> simp <;> omega
theorem plOf_bnd {extent cr a : Int} {far : Bool} (h1 : 1 ≤ cr) (h2 : cr < extent) (h5 : 0 ≤ a) (h6 : a < extent) : 0 ≤ plOf far cr (max cr (extent - cr)) a ∧ plOf far cr (max cr (extent - cr)) a < max cr (extent - cr) := by
  unfold plOf gapOf
  cases far <;> by_cases h : cr ≤ a <;> simp [h] <;> omega

/-- the sizes behind a fold -/
def ext (v : Bool) (wide high : Int) : Int := if v = true then high else wide
def wideF (f : Fold) (wide : Int) : Int := if f.side.lev = true then wide else max f.cr (wide - f.cr)
def highF (f : Fold) (high : Int) : Int := if f.side.lev = true then max f.cr (high - f.cr) else high
def grownF (f : Fold) (wide high : Int) : Int := max f.cr (ext f.side.lev wide high - f.cr)
/-- which cells come from an old place -/
def OldHeap (N : Nat) (S : Nat → Spot) (v : Bool) (o : Option Int) (c : Int) (ks : List Nat) : Prop :=
  ks.Pairwise (fun a b => (S b).l < (S a).l) ∧ ∀ k, k ∈ ks ↔ k < N ∧ o = some (al v (S k)) ∧ ac v (S k) = c
theorem oldHeap_none {N S v c} : OldHeap N S v none c [] := ⟨.nil, fun k => by simp⟩
theorem oldHeap_some {N S v a c ks} (h : IsHeap N S (if v = true then c else a) (if v = true then a else c) ks) : OldHeap N S v (some a) c ks := by
  refine ⟨h.1, fun k => ?_⟩
  rw [h.2 k]
  unfold al ac
  cases v
  · simp only [Bool.false_eq_true, if_false, Option.some.injEq]
    exact and_congr_right fun _ => ⟨fun q => ⟨q.1.symm, q.2⟩, fun q => ⟨q.1.symm, q.2⟩⟩
  · simp only [if_true, Option.some.injEq]
    exact and_congr_right fun _ => ⟨fun q => ⟨q.2.symm, q.1⟩, fun q => ⟨q.2, q.1.symm⟩⟩
section
variable {N : Nat} {S : Nat → Spot} {wide high top low : Int} {f : Fold}
theorem spotF_al {s : Spot} {g : Int} : al f.side.lev (spotF f g top low s) = plOf f.side.far f.cr g (al f.side.lev s) := by
  unfold al spotF
  cases h : f.side.lev <;> simp
theorem spotF_ac {s : Spot} {g : Int} : ac f.side.lev (spotF f g top low s) = ac f.side.lev s := by
  unfold ac spotF
  cases h : f.side.lev <;> simp
theorem Good.alb (G : Good N S wide high) (v : Bool) {k : Nat} (hk : k < N) : 0 ≤ al v (S k) ∧ al v (S k) < ext v wide high ∧ 0 ≤ ac v (S k) ∧ ac v (S k) < ext (!v) wide high := by
  have h := G.bnd k hk
  unfold al ac ext
  cases v <;> simp <;> omega
theorem spotF_lm {s : Spot} {g : Int} (h : mvs f.side.far f.cr (al f.side.lev s) = true) : (spotF f g top low s).l = if f.over = true then 2 * top + 1 - s.l else 2 * low - 1 - s.l := by
  unfold spotF
  rw [h]
  simp
theorem spotF_ls {s : Spot} {g : Int} (h : mvs f.side.far f.cr (al f.side.lev s) = false) : (spotF f g top low s).l = s.l := by
  unfold spotF
  rw [h]
  simp
def flipC (v : Bool) (c : Cell) : Cell := if v = true then (c.1, c.2.1, !c.2.2) else (c.1, !c.2.1, c.2.2)
def turnT (v : Bool) (h : List Cell) : List Cell := h.reverse.map (flipC v)
theorem cell_mv {g : Int} {k : Nat} (h : mvs f.side.far f.cr (al f.side.lev (S k)) = true) : cell (fun k => spotF f g top low (S k)) k = flipC f.side.lev (cell S k) := by
  unfold cell spotF flipC
  dsimp only
  rw [h]
  cases f.side.lev <;> simp
theorem cell_st {g : Int} {k : Nat} (h : mvs f.side.far f.cr (al f.side.lev (S k)) = false) : cell (fun k => spotF f g top low (S k)) k = cell S k := by
  unfold cell spotF
  dsimp only
  rw [h]
  simp
/-- the heap that a fold makes at a place -/
theorem fold_heap (G : Good N S wide high) (L : Lay N S top low) (h1 : 1 ≤ f.cr) (h2 : f.cr < ext f.side.lev wide high) {at_ c : Int} (h3 : 0 ≤ at_) (h4 : at_ < grownF f wide high)
    {km kt : List Nat} (hm : OldHeap N S f.side.lev (meetM (ext f.side.lev wide high) f.cr f.side.far at_) c km) (ht : OldHeap N S f.side.lev (meetS (ext f.side.lev wide high) f.cr f.side.far at_) c kt) :
    ∃ ks, OldHeap N (fun k => spotF f (grownF f wide high) top low (S k)) f.side.lev (some at_) c ks ∧
      ks.map (cell fun k => spotF f (grownF f wide high) top low (S k)) = if f.over = true then turnT f.side.lev (km.map (cell S)) ++ kt.map (cell S) else kt.map (cell S) ++ turnT f.side.lev (km.map (cell S)) := by
  have mm : ∀ k, k ∈ km ↔ k < N ∧ (plOf f.side.far f.cr (grownF f wide high) (al f.side.lev (S k)) = at_ ∧ mvs f.side.far f.cr (al f.side.lev (S k)) = true) ∧ ac f.side.lev (S k) = c := fun k => by
    rw [hm.2 k]
    refine and_congr_right fun hk => and_congr_left fun _ => ?_
    have hb := G.alb f.side.lev hk
    exact meetM_iff h1 h2 h3 h4 hb.1 hb.2.1
  have mt : ∀ k, k ∈ kt ↔ k < N ∧ (plOf f.side.far f.cr (grownF f wide high) (al f.side.lev (S k)) = at_ ∧ mvs f.side.far f.cr (al f.side.lev (S k)) = false) ∧ ac f.side.lev (S k) = c := fun k => by
    rw [ht.2 k]
    refine and_congr_right fun hk => and_congr_left fun _ => ?_
    have hb := G.alb f.side.lev hk
    exact meetS_iff h1 h2 h3 h4 hb.1 hb.2.1
  have pm : km.reverse.Pairwise (fun a b => (spotF f (grownF f wide high) top low (S b)).l < (spotF f (grownF f wide high) top low (S a)).l) := by
    rw [List.pairwise_reverse]
    refine List.Pairwise.imp_of_mem (fun {a b} ha hb hab => ?_) hm.1
    rw [spotF_lm ((mm a).mp ha).2.1.2, spotF_lm ((mm b).mp hb).2.1.2]
    cases f.over <;> simp <;> omega
  have pt : kt.Pairwise (fun a b => (spotF f (grownF f wide high) top low (S b)).l < (spotF f (grownF f wide high) top low (S a)).l) := by
    refine List.Pairwise.imp_of_mem (fun {a b} ha hb hab => ?_) ht.1
    rw [spotF_ls ((mt a).mp ha).2.1.2, spotF_ls ((mt b).mp hb).2.1.2]
    exact hab
  have cm : km.reverse.map (cell fun k => spotF f (grownF f wide high) top low (S k)) = turnT f.side.lev (km.map (cell S)) := by
    unfold turnT
    rw [← List.map_reverse, List.map_map]
    refine List.map_congr_left fun k hk => ?_
    exact cell_mv ((mm k).mp (List.mem_reverse.mp hk)).2.1.2
  have ct : kt.map (cell fun k => spotF f (grownF f wide high) top low (S k)) = kt.map (cell S) :=
    List.map_congr_left fun k hk => cell_st ((mt k).mp hk).2.1.2
  have mem : ∀ k, (k ∈ km ∨ k ∈ kt) ↔ k < N ∧ (some at_ = some (al f.side.lev (spotF f (grownF f wide high) top low (S k)))) ∧ ac f.side.lev (spotF f (grownF f wide high) top low (S k)) = c := fun k => by
    rw [mm k, mt k, spotF_al, spotF_ac]
    simp only [Option.some.injEq]
    cases mvs f.side.far f.cr (al f.side.lev (S k)) <;> simp <;> omega
  cases ho : f.over with
  | true =>
    refine ⟨km.reverse ++ kt, ⟨List.pairwise_append.mpr ⟨pm, pt, fun a ha b hb => ?_⟩, fun k => ?_⟩, ?_⟩
    · rw [List.mem_reverse] at ha
      rw [spotF_lm ((mm a).mp ha).2.1.2, spotF_ls ((mt b).mp hb).2.1.2, ho]
      have q1 := L a ((mm a).mp ha).1
      have q2 := L b ((mt b).mp hb).1
      simp
      omega
    · rw [← mem k, List.mem_append, List.mem_reverse]
    · rw [List.map_append, cm, ct]
      simp
  | false =>
    refine ⟨kt ++ km.reverse, ⟨List.pairwise_append.mpr ⟨pt, pm, fun b hb a ha => ?_⟩, fun k => ?_⟩, ?_⟩
    · rw [List.mem_reverse] at ha
      rw [spotF_lm ((mm a).mp ha).2.1.2, spotF_ls ((mt b).mp hb).2.1.2, ho]
      have q1 := L a ((mm a).mp ha).1
      have q2 := L b ((mt b).mp hb).1
      simp
      omega
    · rw [← mem k, List.mem_append, List.mem_reverse, or_comm]
    · rw [List.map_append, cm, ct]
      simp
/-- a fold keeps the sheet good -/
theorem fold_good (G : Good N S wide high) (L : Lay N S top low) (h1 : 1 ≤ f.cr) (h2 : f.cr < ext f.side.lev wide high) :
    Good N (fun k => spotF f (grownF f wide high) top low (S k)) (wideF f wide) (highF f high) := by
  have bnd : ∀ k, k < N → 0 ≤ plOf f.side.far f.cr (grownF f wide high) (al f.side.lev (S k)) ∧ plOf f.side.far f.cr (grownF f wide high) (al f.side.lev (S k)) < grownF f wide high := fun k hk => by
    have hb := G.alb f.side.lev hk
    exact plOf_bnd h1 h2 hb.1 hb.2.1
  constructor
  · intro k hk
    have q1 := bnd k hk
    have q2 := G.bnd k hk
    unfold spotF wideF highF
    unfold al at q1
    have e : grownF f wide high = max f.cr ((if f.side.lev = true then high else wide) - f.cr) := rfl
    cases hl : f.side.lev <;> rw [hl] at q1 e <;> simp only [Bool.false_eq_true, if_false, if_true] at q1 e ⊢ <;> omega
  · intro x y hx hx2 hy hy2
    have key : ∀ at_ c, 0 ≤ at_ → at_ < grownF f wide high → 0 ≤ c → c < ext (!f.side.lev) wide high → ∃ k, k < N ∧ plOf f.side.far f.cr (grownF f wide high) (al f.side.lev (S k)) = at_ ∧ ac f.side.lev (S k) = c := by
      intro at_ c h3 h4 h5 h6
      have pick : ∀ a, 0 ≤ a → a < ext f.side.lev wide high → ∃ k, k < N ∧ al f.side.lev (S k) = a ∧ ac f.side.lev (S k) = c := by
        intro a ha hb
        unfold al ac
        unfold ext at hb h6
        cases hl : f.side.lev <;> rw [hl] at hb h6 <;> simp at hb h6 ⊢
        · exact G.full a c ha hb h5 h6
        · obtain ⟨k, q1, q2, q3⟩ := G.full c a h5 h6 ha hb
          exact ⟨k, q1, q3, q2⟩
      rcases meet_some (far := f.side.far) h1 h2 h3 h4 with ⟨a, ha⟩ | ⟨a, ha⟩
      · have hb := meetM_bnd h1 h2 h3 h4 ha
        obtain ⟨k, q1, q2, q3⟩ := pick a hb.1 hb.2
        refine ⟨k, q1, ?_, q3⟩
        rw [q2]
        exact ((meetM_iff h1 h2 h3 h4 hb.1 hb.2).mp ha).1
      · have hb := meetS_bnd h1 h2 h3 h4 ha
        obtain ⟨k, q1, q2, q3⟩ := pick a hb.1 hb.2
        refine ⟨k, q1, ?_, q3⟩
        rw [q2]
        exact ((meetS_iff h1 h2 h3 h4 hb.1 hb.2).mp ha).1
    unfold wideF at hx2
    unfold highF at hy2
    unfold grownF ext al ac at key
    unfold spotF grownF ext
    cases hl : f.side.lev <;> rw [hl] at key hx2 hy2 <;> simp at key hx2 hy2 ⊢
    · exact key x y hx hx2 hy hy2
    · obtain ⟨k, q1, q2, q3⟩ := key y x hy hy2 hx hx2
      exact ⟨k, q1, q3, q2⟩
  · intro j k hj hk hx hy hlay
    have e1 : plOf f.side.far f.cr (grownF f wide high) (al f.side.lev (S j)) = plOf f.side.far f.cr (grownF f wide high) (al f.side.lev (S k)) ∧ ac f.side.lev (S j) = ac f.side.lev (S k) := by
      rw [← spotF_al (top := top) (low := low), ← spotF_al (top := top) (low := low), ← spotF_ac (top := top) (low := low) (g := grownF f wide high), ← spotF_ac (s := S k) (top := top) (low := low) (g := grownF f wide high)]
      unfold al ac
      rw [hx, hy]
      exact ⟨rfl, rfl⟩
    have bj := G.alb f.side.lev hj
    have bk := G.alb f.side.lev hk
    have lj := L j hj
    have lk := L k hk
    have e2 : mvs f.side.far f.cr (al f.side.lev (S j)) = mvs f.side.far f.cr (al f.side.lev (S k)) := by
      cases q1 : mvs f.side.far f.cr (al f.side.lev (S j)) <;> cases q2 : mvs f.side.far f.cr (al f.side.lev (S k)) <;> try rfl
      · rw [spotF_ls q1, spotF_lm q2] at hlay
        cases ho : f.over <;> rw [ho] at hlay <;> simp at hlay <;> omega
      · rw [spotF_lm q1, spotF_ls q2] at hlay
        cases ho : f.over <;> rw [ho] at hlay <;> simp at hlay <;> omega
    have e3 : al f.side.lev (S j) = al f.side.lev (S k) := by
      have h := e1.1
      unfold plOf gapOf at h
      unfold mvs at e2
      cases hf : f.side.far <;> rw [hf] at h e2 <;> by_cases c1 : f.cr ≤ al f.side.lev (S j) <;> by_cases c2 : f.cr ≤ al f.side.lev (S k) <;> simp [c1, c2] at h e2 <;> omega
    have e4 : (S j).l = (S k).l := by
      cases q2 : mvs f.side.far f.cr (al f.side.lev (S k))
      · rw [q2] at e2
        rw [spotF_ls q2, spotF_ls e2] at hlay
        exact hlay
      · rw [q2] at e2
        rw [spotF_lm q2, spotF_lm e2] at hlay
        cases ho : f.over <;> rw [ho] at hlay <;> simp at hlay <;> omega
    have e5 := e1.2
    unfold al at e3
    unfold ac at e5
    cases hl : f.side.lev <;> rw [hl] at e3 e5 <;> simp at e3 e5
    · exact G.inj j k hj hk e3 e5 e4
    · exact G.inj j k hj hk e5 e3 e4
end
/-- the flat sheet -/
def flatS (c : Nat) (k : Nat) : Spot := ⟨((k % c : Nat) : Int), ((k / c : Nat) : Int), 0, false, false⟩
theorem flat_good {c r : Nat} (hc : 0 < c) : Good (c * r) (flatS c) c r := by
  constructor
  · intro k hk
    have h1 := Nat.mod_lt k hc
    have h2 : k / c < r := Nat.div_lt_of_lt_mul hk
    unfold flatS
    dsimp only
    generalize k % c = p at *
    generalize k / c = q at *
    omega
  · intro x y h1 h2 h3 h4
    refine ⟨y.toNat * c + x.toNat, ?_, ?_, ?_⟩
    · have : y.toNat * c + c ≤ r * c := by
        rw [← Nat.succ_mul]
        exact Nat.mul_le_mul_right c (by omega)
      rw [Nat.mul_comm c r]
      omega
    · unfold flatS
      dsimp only
      rw [Nat.add_comm, Nat.add_mul_mod_self_right, Nat.mod_eq_of_lt (by omega)]
      omega
    · unfold flatS
      dsimp only
      rw [Nat.add_comm, Nat.add_mul_div_right _ _ hc, Nat.div_eq_of_lt (by omega)]
      omega
  · intro j k _ _ h1 h2 _
    unfold flatS at h1 h2
    dsimp only at h1 h2
    rw [← Nat.div_add_mod j c, ← Nat.div_add_mod k c]
    have e1 : j % c = k % c := by omega
    have e2 : j / c = k / c := by omega
    rw [e1, e2]
theorem flat_heap {c r : Nat} (hc : 0 < c) {x y : Int} (h1 : 0 ≤ x) (h2 : x < c) (h3 : 0 ≤ y) (h4 : y < r) : IsHeap (c * r) (flatS c) x y [(y * c + x).toNat] := by
  have G := flat_good (r := r) hc
  obtain ⟨k, hk, ex, ey⟩ := G.full x y h1 h2 h3 h4
  have e : (y * (c : Int) + x).toNat = k := by
    unfold flatS at ex ey
    dsimp only at ex ey
    have := Nat.div_add_mod k c
    rw [← ex, ← ey, ← Int.natCast_mul, ← Int.natCast_add, Int.toNat_natCast, Nat.mul_comm]
    exact this
  rw [e]
  refine ⟨List.pairwise_singleton _ _, fun j => ?_⟩
  rw [List.mem_singleton]
  constructor
  · rintro rfl
    exact ⟨hk, ex, ey⟩
  · rintro ⟨hj, jx, jy⟩
    exact G.inj j k hj hk (jx.trans ex.symm) (jy.trans ey.symm) rfl
theorem lay_ex (N : Nat) (S : Nat → Spot) : ∃ top low, Lay N S top low := by
  induction N with
  | zero => exact ⟨0, 0, fun k hk => absurd hk (Nat.not_lt_zero _)⟩
  | succ N ih =>
    obtain ⟨t, w, h⟩ := ih
    refine ⟨max t (S N).l, min w (S N).l, fun k hk => ?_⟩
    by_cases q : k = N
    · subst q
      omega
    · have := h k (by omega)
      omega
end Fd
set_option Elab.async false
set_option linter.all false
set_option maxRecDepth 100000
set_option maxHeartbeats 4000000
/-! MB: what the program's defs compute, over plain data. -/
namespace Fd
open Bk PySem L2
def cellD (c : Cell) : D := .tup [.int (c.1 : Int), .bl c.2.1, .bl c.2.2]
def heapD (h : List Cell) : D := .lst (h.map cellD)
def sideS : Side → Str
  | .west => "west"
  | .east => "east"
  | .north => "north"
  | .south => "south"
def foldD (f : Fold) : D := .tup [.str (sideS f.side), .bl f.over, .int f.cr]
def spotD (s : Spot) : D := .tup [.int s.x, .int s.y, .int s.l, .bl s.e, .bl s.n]
def optD : Option Int → D
  | none => .non
  | some i => .int i
structure PileT where
  cols : Int
  rows : Int
  wide : Int
  high : Int
  heaps : List (List Cell)
  folds : List Fold
  cuts : List (Nat × Nat)
def prD (p : Nat × Nat) : D := .tup [.int (p.1 : Int), .int (p.2 : Int)]
def pileL (P : PileT) : List D := [.int P.cols, .int P.rows, .int P.wide, .int P.high, .lst (P.heaps.map heapD), .lst (P.folds.map foldD), .lst (P.cuts.map prD)]
def pileD (P : PileT) : D := .obj (pileL P)

@[simp] theorem ne_west_east : ((Str.ofString "west" : Str) = Str.ofString "east") = False := eq_false (by decide +kernel)
@[simp] theorem ne_west_north : ((Str.ofString "west" : Str) = Str.ofString "north") = False := eq_false (by decide +kernel)
@[simp] theorem ne_west_south : ((Str.ofString "west" : Str) = Str.ofString "south") = False := eq_false (by decide +kernel)
@[simp] theorem ne_east_west : ((Str.ofString "east" : Str) = Str.ofString "west") = False := eq_false (by decide +kernel)
@[simp] theorem ne_east_north : ((Str.ofString "east" : Str) = Str.ofString "north") = False := eq_false (by decide +kernel)
@[simp] theorem ne_east_south : ((Str.ofString "east" : Str) = Str.ofString "south") = False := eq_false (by decide +kernel)
@[simp] theorem ne_north_west : ((Str.ofString "north" : Str) = Str.ofString "west") = False := eq_false (by decide +kernel)
@[simp] theorem ne_north_east : ((Str.ofString "north" : Str) = Str.ofString "east") = False := eq_false (by decide +kernel)
@[simp] theorem ne_north_south : ((Str.ofString "north" : Str) = Str.ofString "south") = False := eq_false (by decide +kernel)
@[simp] theorem ne_south_west : ((Str.ofString "south" : Str) = Str.ofString "west") = False := eq_false (by decide +kernel)
@[simp] theorem ne_south_east : ((Str.ofString "south" : Str) = Str.ofString "east") = False := eq_false (by decide +kernel)
@[simp] theorem ne_south_north : ((Str.ofString "south" : Str) = Str.ofString "north") = False := eq_false (by decide +kernel)
@[simp] theorem ok_west : PyData.strOk (Str.ofString "west") = true := by decide +kernel
@[simp] theorem ok_east : PyData.strOk (Str.ofString "east") = true := by decide +kernel
@[simp] theorem ok_north : PyData.strOk (Str.ofString "north") = true := by decide +kernel
@[simp] theorem ok_south : PyData.strOk (Str.ofString "south") = true := by decide +kernel
def oldT (P : PileT) (v : Bool) (o : Option Int) (c : Int) : List Cell := match o with
  | none => []
  | some a => P.heaps.getD (if v = true then a * P.wide + c else c * P.wide + a).toNat []
theorem getD_map {α : Type} {h : List α} {f : α → D} {i : Nat} {d : α} (hi : i < h.length) : (h.map f)[i]? = some (f (h.getD i d)) := by
  rw [List.getElem?_map, List.getElem?_eq_getElem hi, List.getD_eq_getElem?_getD, List.getElem?_eq_getElem hi]
  rfl
end Fd
set_option Elab.async false
set_option linter.all false
set_option maxRecDepth 100000
set_option maxHeartbeats 4000000
/-! MC: met, folded. -/
namespace Fd
open Bk PySem L2
section
variable (P : PileT) (c : Bool)
@[simp] theorem fldP0 : pFld 0 ⟨.sh, c, pileD P⟩ = .ok (.sh (.int P.cols)) := rfl
@[simp] theorem fldP1 : pFld 1 ⟨.sh, c, pileD P⟩ = .ok (.sh (.int P.rows)) := rfl
@[simp] theorem fldP2 : pFld 2 ⟨.sh, c, pileD P⟩ = .ok (.sh (.int P.wide)) := rfl
@[simp] theorem fldP3 : pFld 3 ⟨.sh, c, pileD P⟩ = .ok (.sh (.int P.high)) := rfl
@[simp] theorem fldP4 : pFld 4 ⟨.sh, c, pileD P⟩ = .ok (.sh (.lst (P.heaps.map heapD))) := rfl
@[simp] theorem fldP5 : pFld 5 ⟨.sh, c, pileD P⟩ = .ok (.sh (.lst (P.folds.map foldD))) := rfl
@[simp] theorem fldP6 : pFld 6 ⟨.sh, c, pileD P⟩ = .ok (.sh (.lst (P.cuts.map prD))) := rfl
end
@[simp] theorem kMethP (F : XF) (r : Res (List D)) (P : PileT) (b : Bool) : kMeth F r ⟨.sh, b, pileD P⟩ = r.bind fun ds => F (pileD P :: ds) := rfl
structure Shape (P : PileT) : Prop where
  w1 : 1 ≤ P.wide
  h1 : 1 ≤ P.high
  w64 : P.wide ≤ 64
  h64 : P.high ≤ 64
  len : P.heaps.length = (P.wide * P.high).toNat
  hp : ∀ h ∈ P.heaps, h.length ≤ 64
theorem Shape.ix {P : PileT} (G : Shape P) {x y : Int} (h1 : 0 ≤ x) (h2 : x < P.wide) (h3 : 0 ≤ y) (h4 : y < P.high) : 0 ≤ y * P.wide + x ∧ y * P.wide + x < P.heaps.length := by
  have e1 := G.len
  have q : (y + 1) * P.wide ≤ P.high * P.wide := Int.mul_le_mul_of_nonneg_right (by omega) (by omega)
  rw [Int.add_mul, Int.one_mul] at q
  have q2 := Int.mul_nonneg h3 (show 0 ≤ P.wide by omega)
  rw [Int.mul_comm] at e1
  omega
theorem old_len {P : PileT} (G : Shape P) (v : Bool) (o : Option Int) (c : Int) : (oldT P v o c).length ≤ 64 := by
  unfold oldT
  cases o with
  | none => simp
  | some a =>
    dsimp only
    rw [List.getD_eq_getElem?_getD]
    cases q : P.heaps[(if v = true then a * P.wide + c else c * P.wide + a).toNat]? with
    | none => simp
    | some h => exact G.hp h (List.mem_of_getElem? q)
def metT (P : PileT) (f : Fold) (x y : Int) : List Cell :=
  if f.over = true then turnT f.side.lev (oldT P f.side.lev (meetM (ext f.side.lev P.wide P.high) f.cr f.side.far (ext f.side.lev x y)) (ext (!f.side.lev) x y)) ++ oldT P f.side.lev (meetS (ext f.side.lev P.wide P.high) f.cr f.side.far (ext f.side.lev x y)) (ext (!f.side.lev) x y)
  else oldT P f.side.lev (meetS (ext f.side.lev P.wide P.high) f.cr f.side.far (ext f.side.lev x y)) (ext (!f.side.lev) x y) ++ turnT f.side.lev (oldT P f.side.lev (meetM (ext f.side.lev P.wide P.high) f.cr f.side.far (ext f.side.lev x y)) (ext (!f.side.lev) x y))
theorem turn_len {v : Bool} {h : List Cell} : (turnT v h).length = h.length := by
  unfold turnT
  rw [List.length_map, List.length_reverse]
theorem met_len {P : PileT} (G : Shape P) (f : Fold) (x y : Int) : (metT P f x y).length ≤ 128 := by
  unfold metT
  have a := old_len G f.side.lev (meetM (ext f.side.lev P.wide P.high) f.cr f.side.far (ext f.side.lev x y)) (ext (!f.side.lev) x y)
  have b := old_len G f.side.lev (meetS (ext f.side.lev P.wide P.high) f.cr f.side.far (ext f.side.lev x y)) (ext (!f.side.lev) x y)
  cases f.over <;> simp [turn_len] <;> omega
theorem heap_add {A B : List Cell} (b1 b2 : Bool) (o1 o2 : Ow) (h1 : o1 = .sh ∨ o1 = .li .sh) (h2 : o2 = .sh ∨ o2 = .li .sh) (ha : A.length ≤ 10000) (hb : B.length ≤ 10000) : pAdd ⟨o1, b1, heapD A⟩ ⟨o2, b2, heapD B⟩ = .ok ⟨.li .sh, false, heapD (A ++ B)⟩ := by
  have hl : A.length + B.length ≤ 100000 := by omega
  rcases h1 with rfl | rfl <;> rcases h2 with rfl | rfl <;> simp [heapD, hl]
/-- rows of places -/
def grid {α : Type} (w h : Nat) (g : Nat → Nat → α) : List α := (List.range h).flatMap fun y => (List.range w).map fun x => g x y
theorem grid_succ {α : Type} {w h : Nat} {g : Nat → Nat → α} : grid w (h + 1) g = grid w h g ++ (List.range w).map fun x => g x h := by
  unfold grid
  rw [List.range_succ, List.flatMap_append]
  simp
theorem grid_len {α : Type} {w h : Nat} {g : Nat → Nat → α} : (grid w h g).length = w * h := by
  induction h with
  | zero => rfl
  | succ h ih => rw [grid_succ, List.length_append, ih, List.length_map, List.length_range, Nat.mul_succ]
theorem grid_get {α : Type} {w h x y : Nat} {g : Nat → Nat → α} (hx : x < w) (hy : y < h) : (grid w h g)[y * w + x]? = some (g x y) := by
  induction h with
  | zero => omega
  | succ h ih =>
    rw [grid_succ]
    by_cases q : y < h
    · rw [List.getElem?_append_left, ih q]
      rw [grid_len]
      have : (y + 1) * w ≤ h * w := Nat.mul_le_mul_right w q
      rw [Nat.add_mul, Nat.one_mul] at this
      rw [Nat.mul_comm w h]
      omega
    · have e : y = h := by omega
      subst e
      rw [List.getElem?_append_right (by rw [grid_len, Nat.mul_comm]; omega), grid_len, Nat.mul_comm w y, Nat.add_sub_cancel_left, List.getElem?_map, List.getElem?_range hx]
      rfl
theorem grid_all {α : Type} {w h : Nat} {g : Nat → Nat → α} {a : α} (ha : a ∈ grid w h g) : ∃ x y, x < w ∧ y < h ∧ a = g x y := by
  unfold grid at ha
  rw [List.mem_flatMap] at ha
  obtain ⟨y, hy, ha⟩ := ha
  rw [List.mem_map] at ha
  obtain ⟨x, hx, e⟩ := ha
  rw [List.mem_range] at hx hy
  exact ⟨x, y, hx, hy, e.symm⟩
def foldT (P : PileT) (f : Fold) : PileT := ⟨P.cols, P.rows, wideF f P.wide, highF f P.high, grid (wideF f P.wide).toNat (highF f P.high).toNat fun x y => metT P f (x : Int) (y : Int), P.folds ++ [f], []⟩
end Fd
set_option Elab.async false
set_option linter.all false
set_option maxRecDepth 100000
set_option maxHeartbeats 4000000
/-! MD: laid, heap, done; the law's helpers. -/
namespace Fd
open Bk PySem L2
@[simp] theorem rangeD_len (n : Int) : (rangeD n).length = n.toNat := by simp [rangeD]
def laidT (c r : Int) : PileT := ⟨c, r, c, r, (List.range (c * r).toNat).map fun k => [(k, false, false)], [], []⟩
theorem sizes_bnd {c r m : Int} (hc : 1 ≤ c) (hr : 1 ≤ r) (h : c * r ≤ m) : c ≤ m ∧ r ≤ m ∧ 1 ≤ c * r := by
  have h1 : c * 1 ≤ c * r := Int.mul_le_mul_of_nonneg_left hr (by omega)
  have h2 : 1 * r ≤ c * r := Int.mul_le_mul_of_nonneg_right hc (by omega)
  omega
def heapT (P : PileT) (x y : Int) : List Cell := P.heaps.getD (y * P.wide + x).toNat []
/-! ### the law's helpers -/
@[simp] theorem ev_cell_at (ns : List Int) (k : Nat) : F_law_cell_at [.fz (ns.map .int), .int (k : Int)] = .ok (.sh (.int (ns.getD k 0))) := by
  by_cases h : k < ns.length
  · have h2 : (k : Int) < (ns.length : Nat) := by omega
    simp [F_law_cell_at, h2, h]
  · have h2 : ¬ (k : Int) < (ns.length : Nat) := by omega
    simp [F_law_cell_at, h2, h]
@[simp] theorem ev_whole_i (i : Int) : F_law_whole [.int i] = .ok (.sh (.bl true)) := by simp [F_law_whole]
@[simp] theorem ev_whole_b (b : Bool) : F_law_whole [.bl b] = .ok (.sh (.bl false)) := by simp [F_law_whole]
def spotsD (N : Nat) (S : Nat → Spot) : D := .lst ((List.range N).map fun k => spotD (S k))
def flatI (c : Int) (k : Nat) : Spot := ⟨(k : Int) % c, (k : Int) / c, 0, false, false⟩
theorem flatI_nat (c : Nat) : flatI (c : Int) = flatS c := by
  funext k
  unfold flatI flatS
  rw [Int.natCast_emod, Int.natCast_ediv]
theorem flatI_good {c r : Int} (hc : 1 ≤ c) (hr : 1 ≤ r) : Good (c * r).toNat (flatI c) c r := by
  obtain ⟨a, rfl⟩ : ∃ a : Nat, c = a := ⟨c.toNat, by omega⟩
  obtain ⟨b, rfl⟩ : ∃ a : Nat, r = a := ⟨r.toNat, by omega⟩
  rw [flatI_nat, ← Int.natCast_mul, Int.toNat_natCast]
  exact flat_good (by omega)
theorem flatI_heap {c r x y : Int} (hc : 1 ≤ c) (hr : 1 ≤ r) (h1 : 0 ≤ x) (h2 : x < c) (h3 : 0 ≤ y) (h4 : y < r) : IsHeap (c * r).toNat (flatI c) x y [(y * c + x).toNat] := by
  obtain ⟨a, rfl⟩ : ∃ a : Nat, c = a := ⟨c.toNat, by omega⟩
  obtain ⟨b, rfl⟩ : ∃ a : Nat, r = a := ⟨r.toNat, by omega⟩
  rw [flatI_nat, ← Int.natCast_mul, Int.toNat_natCast]
  exact flat_heap (by omega) h1 h2 h3 h4
def foldByT (cell wide high : Int) : Fold :=
  let lv := wide = 1 ∨ (1 < high ∧ cell % 2 = 1)
  ⟨if lv then (if cell / 2 % 2 = 0 then .north else .south) else (if cell / 2 % 2 = 0 then .west else .east), decide (cell / 4 % 2 = 1), 1 + cell / 8 % ((if lv then high else wide) - 1)⟩
theorem foldByT_ok {cell wide high : Int} (h1 : 1 ≤ wide) (h2 : 1 ≤ high) (h : ¬ (wide = 1 ∧ high = 1)) : 1 ≤ (foldByT cell wide high).cr ∧ (foldByT cell wide high).cr < ext (foldByT cell wide high).side.lev wide high := by
  unfold foldByT
  by_cases q : wide = 1 ∨ (1 < high ∧ cell % 2 = 1)
  · simp only [q, if_true]
    have e : (if cell / 2 % 2 = 0 then Side.north else Side.south).lev = true := by split <;> rfl
    rw [e]
    have := Int.emod_nonneg (cell / 8) (show high - 1 ≠ 0 by omega)
    have := Int.emod_lt_of_pos (cell / 8) (show 0 < high - 1 by omega)
    simp [ext]
    omega
  · simp only [q, if_false]
    have e : (if cell / 2 % 2 = 0 then Side.west else Side.east).lev = false := by split <;> rfl
    rw [e]
    have := Int.emod_nonneg (cell / 8) (show wide - 1 ≠ 0 by omega)
    have := Int.emod_lt_of_pos (cell / 8) (show 0 < wide - 1 by omega)
    simp [ext]
    omega
end Fd
set_option Elab.async false
set_option linter.all false
set_option maxRecDepth 100000
set_option maxHeartbeats 4000000
/-! ME: the law's own folds and heaps. -/
namespace Fd
open Bk PySem L2
theorem maxR {N : Nat} {g : Nat → Int} {o : Ow} {b : Bool} (hN : 0 < N) : ∃ m, pMax1 [⟨o, b, .lst ((List.range N).map fun k => .int (g k))⟩] = .ok (.sh (.int m)) ∧ (∀ k, k < N → g k ≤ m) ∧ ∃ k, k < N ∧ g k = m := by
  have e : ((List.range N).map fun k => D.int (g k)) = ((List.range N).map g).map D.int := by rw [List.map_map]; rfl
  cases q : (List.range N).map g with
  | nil =>
    have := congrArg List.length q
    rw [List.length_map, List.length_range] at this
    simp at this
    omega
  | cons x xs =>
    have mm : ∀ z, z ∈ x :: xs ↔ ∃ k, k < N ∧ g k = z := fun z => by rw [← q, List.mem_map]; simp [List.mem_range]
    obtain ⟨h1, h2, h3⟩ := foldl_max xs x
    refine ⟨xs.foldl max x, ?_, fun k hk => ?_, ?_⟩
    · rw [e, q]
      unfold pMax1 pInts
      dsimp only
      rw [ints_map]
      rfl
    · rcases List.mem_cons.mp ((mm (g k)).mpr ⟨k, hk, rfl⟩) with hy | hy
      · rw [hy]; exact h1
      · exact h2 _ hy
    · refine (mm _).mp ?_
      rcases h3 with h3 | h3
      · rw [h3]; exact List.mem_cons_self
      · exact List.mem_cons_of_mem _ h3
theorem minR {N : Nat} {g : Nat → Int} {o : Ow} {b : Bool} (hN : 0 < N) : ∃ m, pMin1 [⟨o, b, .lst ((List.range N).map fun k => .int (g k))⟩] = .ok (.sh (.int m)) ∧ (∀ k, k < N → m ≤ g k) ∧ ∃ k, k < N ∧ g k = m := by
  have e : ((List.range N).map fun k => D.int (g k)) = ((List.range N).map g).map D.int := by rw [List.map_map]; rfl
  cases q : (List.range N).map g with
  | nil =>
    have := congrArg List.length q
    rw [List.length_map, List.length_range] at this
    simp at this
    omega
  | cons x xs =>
    have mm : ∀ z, z ∈ x :: xs ↔ ∃ k, k < N ∧ g k = z := fun z => by rw [← q, List.mem_map]; simp [List.mem_range]
    obtain ⟨h1, h2, h3⟩ := foldl_min xs x
    refine ⟨xs.foldl min x, ?_, fun k hk => ?_, ?_⟩
    · rw [e, q]
      unfold pMin1 pInts
      dsimp only
      rw [ints_map]
      rfl
    · rcases List.mem_cons.mp ((mm (g k)).mpr ⟨k, hk, rfl⟩) with hy | hy
      · rw [hy]; exact h1
      · exact h2 _ hy
    · refine (mm _).mp ?_
      rcases h3 with h3 | h3
      · rw [h3]; exact List.mem_cons_self
      · exact List.mem_cons_of_mem _ h3
theorem spots_lc {N : Nat} {S : Nat → Spot} {step : D → Res (Option D)} {g : Nat → D} (h : ∀ k, k < N → step (spotD (S k)) = .ok (some (g k))) : lcGo step ((List.range N).map fun k => spotD (S k)) = .ok ((List.range N).map g) :=
  lcGo_map (enc := fun k => spotD (S k)) fun k hk => h k (List.mem_range.mp hk)
theorem Good.max {N : Nat} {S : Nat → Spot} {wide high : Int} (G : Good N S wide high) (v : Bool) (h1 : 1 ≤ wide) (h2 : 1 ≤ high) {m : Int} (hm : ∀ k, k < N → al v (S k) ≤ m) (hx : ∃ k, k < N ∧ al v (S k) = m) : m = ext v wide high - 1 := by
  obtain ⟨k, hk, ek⟩ := hx
  have b := G.alb v hk
  have : ext v wide high - 1 ≤ m := by
    unfold ext al at *
    cases v <;> simp at hm ⊢
    · obtain ⟨j, hj, e1, e2⟩ := G.full (wide - 1) 0 (by omega) (by omega) (by omega) (by omega)
      have := hm j hj
      omega
    · obtain ⟨j, hj, e1, e2⟩ := G.full 0 (high - 1) (by omega) (by omega) (by omega) (by omega)
      have := hm j hj
      omega
  omega
theorem Good.pos {N : Nat} {S : Nat → Spot} {wide high : Int} (G : Good N S wide high) (h1 : 1 ≤ wide) (h2 : 1 ≤ high) : 0 < N := by
  obtain ⟨k, hk, _⟩ := G.full 0 0 (by omega) (by omega) (by omega) (by omega)
  omega
/-! ### the law's heap -/
def kyD (S : Nat → Spot) (k : Nat) : Int × Int := (0 - (S k).l, (k : Int))
theorem heap_psort {N : Nat} {S : Nat → Spot} {x y : Int} {ks : List Nat} (h : IsHeap N S x y ks) : psort (((List.range N).filter fun k => decide ((S k).x = x) && decide ((S k).y = y)).map (kyD S)) = ks.map (kyD S) := by
  symm
  refine psort_uniq ?_ ?_
  · refine List.Perm.map _ ((List.perm_ext_iff_of_nodup ?_ ?_).mpr fun k => ?_)
    · exact h.1.imp fun {a b} hab e => by subst e; omega
    · exact List.nodup_range.filter _
    · rw [h.2 k, List.mem_filter, List.mem_range, Bool.and_eq_true, decide_eq_true_eq, decide_eq_true_eq]
  · refine List.pairwise_map.mpr (h.1.imp fun {a b} hab => ?_)
    rw [lexLe_iff]
    unfold kyD
    dsimp only
    omega
end Fd
set_option Elab.async false
set_option linter.all false
set_option maxRecDepth 100000
set_option maxHeartbeats 4000000
/-! MG: a pile that spots tell; comparisons of the law. -/
namespace Fd
open Bk PySem L2
structure Mt (P : PileT) (N : Nat) (S : Nat → Spot) : Prop where
  good : Good N S P.wide P.high
  sh : Shape P
  n64 : N ≤ 64
  hp : ∀ x y, 0 ≤ x → x < P.wide → 0 ≤ y → y < P.high → ∃ ks, IsHeap N S x y ks ∧ heapT P x y = ks.map (cell S)
theorem isHeap_len {N : Nat} {S : Nat → Spot} {x y : Int} {ks : List Nat} (h : IsHeap N S x y ks) : ks.length ≤ N := by
  have h1 : ks.Nodup := h.1.imp fun {a b} hab e => by subst e; omega
  have h2 : ks.Perm ((List.range N).filter fun k => decide ((S k).x = x) && decide ((S k).y = y)) := (List.perm_ext_iff_of_nodup h1 (List.nodup_range.filter _)).mpr fun k => by
    rw [h.2 k, List.mem_filter, List.mem_range, Bool.and_eq_true, decide_eq_true_eq, decide_eq_true_eq]
  rw [h2.length_eq]
  have := List.length_filter_le (fun k => decide ((S k).x = x) && decide ((S k).y = y)) (List.range N)
  rw [List.length_range] at this
  exact this
theorem Mt.laid {c r : Int} (hc : 1 ≤ c) (hr : 1 ≤ r) (h : c * r ≤ 64) : Mt (laidT c r) (c * r).toNat (flatI c) := by
  have b := sizes_bnd hc hr h
  have sh : Shape (laidT c r) := ⟨hc, hr, b.1, b.2.1, by unfold laidT; simp, fun h hh => by
    unfold laidT at hh
    simp at hh
    obtain ⟨k, _, rfl⟩ := hh
    simp⟩
  refine ⟨flatI_good hc hr, sh, by omega, fun x y h1 h2 h3 h4 => ⟨_, flatI_heap hc hr h1 h2 h3 h4, ?_⟩⟩
  have ix := sh.ix h1 h2 h3 h4
  have e : (laidT c r).heaps.length = (c * r).toNat := by unfold laidT; simp
  have e2 : (laidT c r).wide = c := rfl
  rw [e, e2] at ix
  unfold heapT
  have e3 : (laidT c r).heaps = (List.range (c * r).toNat).map fun k => [(k, false, false)] := rfl
  rw [e2, e3, List.getD_eq_getElem?_getD, List.getElem?_map, List.getElem?_range (by omega)]
  rfl
theorem Mt.old {P : PileT} {N : Nat} {S : Nat → Spot} (M : Mt P N S) (v : Bool) {o : Option Int} {c : Int} (ho : ∀ a, o = some a → 0 ≤ a ∧ a < ext v P.wide P.high) (hc : 0 ≤ c) (hc2 : c < ext (!v) P.wide P.high) :
    ∃ ks, OldHeap N S v o c ks ∧ oldT P v o c = ks.map (cell S) := by
  cases o with
  | none => exact ⟨[], oldHeap_none, rfl⟩
  | some a =>
    have h := ho a rfl
    unfold ext at h hc2
    cases v <;> simp at h hc2
    · obtain ⟨ks, h1, h2⟩ := M.hp a c h.1 h.2 hc hc2
      exact ⟨ks, oldHeap_some (by simpa using h1), h2⟩
    · obtain ⟨ks, h1, h2⟩ := M.hp c a hc hc2 h.1 h.2
      exact ⟨ks, oldHeap_some (by simpa using h1), h2⟩
theorem Mt.met {P : PileT} {N : Nat} {S : Nat → Spot} (M : Mt P N S) {f : Fold} {top low : Int} (L : Lay N S top low) (h1 : 1 ≤ f.cr) (h2 : f.cr < ext f.side.lev P.wide P.high) {x y : Int} (hx : 0 ≤ x) (hx2 : x < wideF f P.wide) (hy : 0 ≤ y) (hy2 : y < highF f P.high) :
    ∃ ks, IsHeap N (fun k => spotF f (grownF f P.wide P.high) top low (S k)) x y ks ∧ metT P f x y = ks.map (cell fun k => spotF f (grownF f P.wide P.high) top low (S k)) := by
  have a3 : 0 ≤ ext f.side.lev x y := by unfold ext; cases f.side.lev <;> simp [hx, hy]
  have a4 : ext f.side.lev x y < grownF f P.wide P.high := by
    unfold grownF ext wideF highF at *
    cases hl : f.side.lev <;> rw [hl] at hx2 hy2 <;> simp at hx2 hy2 ⊢ <;> omega
  have a5 : 0 ≤ ext (!f.side.lev) x y := by unfold ext; cases f.side.lev <;> simp [hx, hy]
  have a6 : ext (!f.side.lev) x y < ext (!f.side.lev) P.wide P.high := by
    unfold ext wideF highF at *
    cases hl : f.side.lev <;> rw [hl] at hx2 hy2 <;> simp at hx2 hy2 ⊢ <;> omega
  obtain ⟨km, m1, m2⟩ := M.old f.side.lev (o := meetM (ext f.side.lev P.wide P.high) f.cr f.side.far (ext f.side.lev x y)) (fun a ha => meetM_bnd h1 h2 a3 a4 ha) a5 a6
  obtain ⟨kt, t1, t2⟩ := M.old f.side.lev (o := meetS (ext f.side.lev P.wide P.high) f.cr f.side.far (ext f.side.lev x y)) (fun a ha => meetS_bnd h1 h2 a3 a4 ha) a5 a6
  obtain ⟨ks, k1, k2⟩ := fold_heap M.good L h1 h2 a3 a4 m1 t1
  refine ⟨ks, ⟨k1.1, fun k => ?_⟩, ?_⟩
  · rw [k1.2 k]
    refine and_congr_right fun _ => ?_
    unfold al ac ext
    cases f.side.lev
    · simp only [Bool.false_eq_true, if_false, Bool.not_false, if_true, Option.some.injEq]
      exact ⟨fun q => ⟨q.1.symm, q.2⟩, fun q => ⟨q.1.symm, q.2⟩⟩
    · simp only [Bool.false_eq_true, if_false, Bool.not_true, if_true, Option.some.injEq]
      exact ⟨fun q => ⟨q.2, q.1.symm⟩, fun q => ⟨q.2.symm, q.1⟩⟩
  · unfold metT
    rw [k2, m2, t2]
theorem ext_le {f : Fold} {w h : Int} (h1 : 1 ≤ f.cr) (h2 : f.cr < ext f.side.lev w h) (hw : 1 ≤ w) (hh : 1 ≤ h) : 1 ≤ wideF f w ∧ wideF f w ≤ w ∧ 1 ≤ highF f h ∧ highF f h ≤ h := by
  unfold wideF highF
  unfold ext at h2
  cases hl : f.side.lev <;> rw [hl] at h2 <;> simp at h2 ⊢ <;> omega
theorem Mt.fold {P : PileT} {N : Nat} {S : Nat → Spot} (M : Mt P N S) {f : Fold} {top low : Int} (L : Lay N S top low) (h1 : 1 ≤ f.cr) (h2 : f.cr < ext f.side.lev P.wide P.high) :
    Mt (foldT P f) N (fun k => spotF f (grownF f P.wide P.high) top low (S k)) := by
  have b := ext_le h1 h2 M.sh.w1 M.sh.h1
  have w64 := M.sh.w64
  have h64 := M.sh.h64
  have ew : ((wideF f P.wide).toNat : Int) = wideF f P.wide := by omega
  have eh : ((highF f P.high).toNat : Int) = highF f P.high := by omega
  have n64 := M.n64
  have sh : Shape (foldT P f) := by
    refine ⟨b.1, b.2.2.1, ?_, ?_, ?_, ?_⟩
    · show wideF f P.wide ≤ 64
      omega
    · show highF f P.high ≤ 64
      omega
    · show (grid _ _ _).length = (wideF f P.wide * highF f P.high).toNat
      rw [grid_len, Int.toNat_mul (by omega) (by omega)]
    · intro h hh
      obtain ⟨x, y, hx, hy, rfl⟩ := grid_all hh
      obtain ⟨ks, k1, k2⟩ := M.met L h1 h2 (x := x) (y := y) (by omega) (by omega) (by omega) (by omega)
      have e : metT P f (x : Int) (y : Int) = _ := k2
      rw [e, List.length_map]
      have := isHeap_len k1
      omega
  refine ⟨fold_good M.good L h1 h2, sh, M.n64, fun x y hx hx2 hy hy2 => ?_⟩
  obtain ⟨ks, k1, k2⟩ := M.met L h1 h2 hx hx2 hy hy2
  refine ⟨ks, k1, ?_⟩
  rw [← k2]
  have q : x.toNat < (wideF f P.wide).toNat := by have : x < wideF f P.wide := hx2; omega
  have q2 : y.toNat < (highF f P.high).toNat := by have : y < highF f P.high := hy2; omega
  have e : (y * (foldT P f).wide + x).toNat = y.toNat * (wideF f P.wide).toNat + x.toNat := by
    show (y * wideF f P.wide + x).toNat = _
    rw [Int.toNat_add (Int.mul_nonneg hy (by omega)) hx, Int.toNat_mul hy (by omega)]
  unfold heapT
  rw [e, List.getD_eq_getElem?_getD]
  have g := grid_get (g := fun a b : Nat => metT P f (a : Int) (b : Int)) q q2
  have e2 : (foldT P f).heaps = grid (wideF f P.wide).toNat (highF f P.high).toNat fun a b => metT P f (a : Int) (b : Int) := rfl
  rw [e2, g, Int.toNat_of_nonneg hx, Int.toNat_of_nonneg hy]
  rfl
/-! ### comparisons -/
theorem ok_side (s : Side) : PyData.strOk (sideS s) = true := by cases s <;> simp [sideS]
theorem ev_same_folds {fs : List Fold} (hl : fs.length ≤ 10000) : F_law_same_folds [.lst (fs.map foldD), .lst (fs.map foldD)] = .ok (.sh (.bl true)) := by
  simp [F_law_same_folds, show -100000 ≤ (fs.length : Int) by omega, show (fs.length : Int) ≤ 100000 by omega]
  refine rng_fun (fun i env => ∃ u v, env = [some (.sh, .lst (fs.map foldD)), some (.sh, .lst (fs.map foldD)), u, v]) ⟨none, none, rfl⟩ ?_ ?_
  · rintro i env hi ⟨u, v, rfl⟩
    have hi2 : i < fs.length := by omega
    have e : (fs.map foldD)[i]? = some (foldD fs[i]) := by simp [hi2]
    generalize fs.map foldD = L at *
    simp [e, foldD, ok_side]
  · rintro e2 ⟨u, v, rfl⟩
    simp
theorem lc_x {N : Nat} {S : Nat → Spot} {env : XEnv} {j : Nat} (hj : j < env.length) : lcGo (lcStep (.nm j) xYes (xOp2 pIx (xV j) (xC (.int 0))) env) ((List.range N).map fun k => spotD (S k)) = .ok ((List.range N).map fun k => .int (S k).x) :=
  spots_lc fun k hk => by simp [lcStep, spotD, hj]
theorem lc_y {N : Nat} {S : Nat → Spot} {env : XEnv} {j : Nat} (hj : j < env.length) : lcGo (lcStep (.nm j) xYes (xOp2 pIx (xV j) (xC (.int 1))) env) ((List.range N).map fun k => spotD (S k)) = .ok ((List.range N).map fun k => .int (S k).y) :=
  spots_lc fun k hk => by simp [lcStep, spotD, hj]
theorem Mt.maxx {P : PileT} {N : Nat} {S : Nat → Spot} (M : Mt P N S) (o : Ow) (b : Bool) : pMax1 [⟨o, b, .lst ((List.range N).map fun k => .int (S k).x)⟩] = .ok (.sh (.int (P.wide - 1))) := by
  obtain ⟨m, em, m1, m2⟩ := maxR (N := N) (g := fun k => (S k).x) (o := o) (b := b) (M.good.pos M.sh.w1 M.sh.h1)
  have := M.good.max false M.sh.w1 M.sh.h1 m1 m2
  unfold ext at this
  simp at this
  rw [em, this]
theorem Mt.maxy {P : PileT} {N : Nat} {S : Nat → Spot} (M : Mt P N S) (o : Ow) (b : Bool) : pMax1 [⟨o, b, .lst ((List.range N).map fun k => .int (S k).y)⟩] = .ok (.sh (.int (P.high - 1))) := by
  obtain ⟨m, em, m1, m2⟩ := maxR (N := N) (g := fun k => (S k).y) (o := o) (b := b) (M.good.pos M.sh.w1 M.sh.h1)
  have := M.good.max true M.sh.w1 M.sh.h1 m1 m2
  unfold ext at this
  simp at this
  rw [em, this]
theorem cut_map {α β : Type} (f : α → β) (xs : List α) (l h : Option Int) : cut (xs.map f) l h = (cut xs l h).map f := by
  unfold cut
  rw [List.length_map, List.map_take, List.map_drop]
theorem cut_len {α : Type} (xs : List α) (l h : Option Int) : (cut xs l h).length ≤ xs.length := by
  unfold cut
  rw [List.length_take, List.length_drop]
  omega
theorem foldD_def (f : Fold) : foldD f = .tup [.str (sideS f.side), .bl f.over, .int f.cr] := rfl
theorem one_add (w : Int) : 1 + (w - 1) = w := by omega
end Fd
set_option Elab.async false
set_option linter.all false
set_option maxRecDepth 100000
set_option maxHeartbeats 4000000
/-! MW: the word of an error. -/
namespace Fd
open Bk PySem L2
def wordT : Nat → Str
  | 0 => "sheet"
  | 1 => "fold"
  | 2 => "place"
  | 3 => "ajar"
  | 4 => "severed"
  | 5 => "bolted"
  | 6 => "loose"
  | _ => "word"
theorem ev_word {k : Nat} (h : k < 8) : F_law_word_of [.exn k] = .ok (.sh (.str (wordT k))) := by
  have q : k = 0 ∨ k = 1 ∨ k = 2 ∨ k = 3 ∨ k = 4 ∨ k = 5 ∨ k = 6 ∨ k = 7 := by omega
  rcases q with rfl | rfl | rfl | rfl | rfl | rfl | rfl | rfl <;> rfl
end Fd
set_option Elab.async false
set_option linter.all false
set_option maxRecDepth 100000
set_option maxHeartbeats 8000000
/-! MR: folds written and read. -/
namespace Fd
open Bk PySem L2
def wayS (b : Bool) : Str := if b = true then "over" else "under"
def numS (i : Int) : Str := Str.ofString (toString i)
def writ (f : Fold) : Str := sideS f.side ++ " " ++ wayS f.over ++ " " ++ numS f.cr
/-- a crease that nine figures write -/
def Cr9 (f : Fold) : Prop := 1 ≤ f.cr ∧ f.cr ≤ 999999999
theorem p_Str {o : Ow} {b : Bool} {i : Int} : pStr [⟨o, b, .int i⟩] = if i.natAbs.log2 < 1920 then .ok (.sh (.str (numS i))) else .bad := rfl
theorem tl_blank : TL.tl (Str.ofString " ") = [32] := by decide +kernel
theorem tl_comma : TL.tl (Str.ofString ", ") = [44, 32] := by decide +kernel
theorem numS_tl {i : Int} (h : 0 ≤ i) : TL.tl (numS i) = TL.numL i.toNat := by
  have e : i = ((i.toNat : Nat) : Int) := by omega
  unfold numS
  rw [e, TL.tl_num, Int.toNat_natCast]
theorem numS_len {i : Int} (h : 0 ≤ i) (h2 : i ≤ 999999999) : (numS i).length ≤ 9 := by
  rw [TL.len_tl, numS_tl h]
  exact TL.numL_len (by decide) (by omega)
theorem numL_head : ∀ (n : Nat), 1 ≤ n → ∃ c r, TL.numL n = c :: r ∧ c ≠ 48 := by
  intro n
  induction n using Nat.strongRecOn with
  | ind n ih =>
    intro h
    by_cases q : n < 10
    · exact ⟨48 + n, [], TL.numL_lt q, by omega⟩
    · obtain ⟨c, r, e, hc⟩ := ih (n / 10) (by omega) (by omega)
      exact ⟨c, r ++ [48 + n % 10], by rw [TL.numL_step (by omega), e]; rfl, hc⟩
theorem len_side (s : Side) : (sideS s).length ≤ 5 := by cases s <;> decide +kernel
theorem len_way (b : Bool) : (wayS b).length ≤ 5 := by cases b <;> decide +kernel
theorem len_app (x y : Str) : (x ++ y).length = x.length + y.length := by
  rw [TL.len_tl, TL.tl_append, List.length_append, ← TL.len_tl, ← TL.len_tl]
theorem len_blank : (Str.ofString " ").length = 1 := by decide +kernel
theorem len_writ {f : Fold} (h : Cr9 f) : (writ f).length ≤ 30 := by
  unfold writ
  have h1 := len_side f.side
  have h2 := len_way f.over
  have h3 := numS_len (by have := h.1; omega) h.2
  simp only [len_app, len_blank]
  omega
theorem not32 (s : Side) : 32 ∉ TL.tl (sideS s) ∧ 44 ∉ TL.tl (sideS s) := by cases s <;> decide +kernel
theorem not32w (b : Bool) : 32 ∉ TL.tl (wayS b) ∧ 44 ∉ TL.tl (wayS b) := by cases b <;> decide +kernel
theorem writ_join (f : Fold) : writ f = Txt.join " " [sideS f.side, wayS f.over, numS f.cr] := by
  refine TL.ext_tl ?_
  rw [TL.join_eq, TL.tl_join]
  unfold writ
  simp only [TL.tl_append, List.map_cons, List.map_nil, TL.joinL, List.append_assoc]
theorem writ_split {f : Fold} (h : Cr9 f) : Txt.split (writ f) " " = [sideS f.side, wayS f.over, numS f.cr] := by
  rw [writ_join]
  refine TL.split_join tl_blank (by decide +kernel) (by simp) fun p hp => ?_
  simp only [List.mem_cons, List.not_mem_nil, or_false] at hp
  rcases hp with rfl | rfl | rfl
  · exact (not32 _).1
  · exact (not32w _).1
  · rw [numS_tl (by have := h.1; omega)]
    exact TL.numL_free (by omega)
theorem no_comma {f : Fold} (h : Cr9 f) : 44 ∉ TL.tl (writ f) := by
  unfold writ
  simp only [TL.tl_append, tl_blank, List.mem_append, not_or]
  refine ⟨⟨⟨⟨(not32 _).2, by decide⟩, (not32w _).2⟩, by decide⟩, ?_⟩
  rw [numS_tl (by have := h.1; omega)]
  exact TL.numL_free (by omega)
theorem row_split {fs : List Fold} (hne : fs ≠ []) (h : ∀ f ∈ fs, Cr9 f) : Txt.split (Txt.join ", " (fs.map writ)) ", " = fs.map writ := by
  refine TL.split_join tl_comma (by decide +kernel) (by simpa using hne) fun p hp => ?_
  obtain ⟨f, hf, rfl⟩ := List.mem_map.mp hp
  exact no_comma (h f hf)
theorem sum_writ : ∀ {fs : List Fold}, (∀ f ∈ fs, Cr9 f) → ((fs.map writ).map (·.length)).sum ≤ 30 * fs.length
  | [], _ => Nat.le_refl _
  | f :: fs, h => by
    have := sum_writ (fs := fs) fun g hg => h g (List.mem_cons_of_mem _ hg)
    have := len_writ (h f List.mem_cons_self)
    simp only [List.map_cons, List.sum_cons, List.length_cons] at *
    omega
theorem log_small {i : Int} (h : 0 ≤ i) (h2 : i ≤ 999999999) : i.natAbs.log2 < 1920 := by
  have h1 := Nat.log2_le_self i.natAbs
  by_cases q : i.natAbs = 0
  · rw [q]
    decide
  · rw [Nat.log2_lt q]
    have : (2 : Nat) ^ 30 ≤ 2 ^ 1920 := Nat.pow_le_pow_right (by decide) (by decide)
    have e : (2 : Nat) ^ 30 = 1073741824 := by decide
    omega
theorem len_join {fs : List Fold} (h : ∀ f ∈ fs, Cr9 f) : (Txt.join ", " (fs.map writ)).length ≤ 32 * fs.length := by
  rw [TL.len_tl, TL.join_eq, TL.tl_join]
  have : ∀ l : List Fold, (∀ f ∈ l, Cr9 f) → (TL.joinL (TL.tl ", ") ((l.map writ).map TL.tl)).length ≤ 32 * l.length := by
    intro l
    induction l with
    | nil => intro _; exact Nat.le_refl _
    | cons f l ih =>
      intro hl
      have i1 := ih fun g hg => hl g (List.mem_cons_of_mem _ hg)
      have i2 := len_writ (hl f List.mem_cons_self)
      rw [TL.len_tl] at i2
      cases l with
      | nil =>
        simp only [List.map_cons, List.map_nil, TL.joinL, List.length_cons, List.length_nil]
        omega
      | cons g l =>
        simp only [List.map_cons, TL.joinL, List.length_cons, List.length_append, tl_comma, List.length_nil] at i1 ⊢
        omega
  exact this fs h
theorem num_facts {i : Int} (h : 1 ≤ i) (h2 : i ≤ 999999999) : numS i ≠ "" ∧ (∃ k, (numS i).cps.toList[0]? = some k ∧ k ≠ 48) ∧ (numS i).length ≤ 9 ∧ (∀ k ∈ (numS i).cps.toList, 48 ≤ k ∧ k ≤ 57) ∧ PySem.intText? (numS i) = some i := by
  have e := numS_tl (i := i) (by omega)
  obtain ⟨c, r, e1, hc⟩ := numL_head i.toNat (by omega)
  have l := numS_len (i := i) (by omega) h2
  refine ⟨fun z => ?_, ⟨c, ?_, hc⟩, l, fun k hk => ?_, ?_⟩
  · rw [z] at e
    have : TL.tl "" = [] := by decide +kernel
    rw [this, e1] at e
    cases e
  · show (TL.tl (numS i))[0]? = _
    rw [e, e1]
    rfl
  · have : k ∈ TL.numL i.toNat := by rw [← e]; exact hk
    have q : ¬ (k < 48 ∨ 57 < k) := fun z => TL.numL_free (n := i.toNat) (s := k) z this
    omega
  · have z := TL.int_num (n := i.toNat) (by
      have := TL.numL_len (n := i.toNat) (k := 9) (by decide) (by omega)
      omega)
    rw [show ((i.toNat : Nat) : Int) = i by omega] at z
    exact z
theorem ev_crease {i : Int} (h : 1 ≤ i) (h2 : i ≤ 999999999) : F_crease_of [.str (numS i)] = .ok (.sh (.int i)) := by
  obtain ⟨f1, ⟨k0, f2, f3⟩, f4, f5, f6⟩ := num_facts h h2
  generalize numS i = z at *
  have n0 : ¬ (⟨#[k0]⟩ : Str) = Str.ofString "0" := by
    intro q
    have : TL.tl (⟨#[k0]⟩ : Str) = TL.tl (Str.ofString "0") := by rw [q]
    have e : TL.tl (Str.ofString "0") = [48] := by decide +kernel
    rw [e] at this
    have e2 : TL.tl (⟨#[k0]⟩ : Str) = [k0] := rfl
    rw [e2] at this
    cases this
    exact f3 rfl
  have l5 : z.length ≤ 100000 := by omega
  have l6 : ¬ (9 : Int) < (z.length : Int) := by omega
  have l7 : z.length ≤ 640 := by omega
  have ix : pIx (Val.sh (.str z)) (Val.sh (.int 0)) = .ok (.sh (.str ⟨#[k0]⟩)) := by
    show (if z.length ≤ 100000 then match atI z.cps.toList 0 with
      | some k => Res.ok (Val.sh (.str ⟨#[k]⟩))
      | none => Res.bad
      else Res.bad) = _
    rw [if_pos l5, atI_0, f2]
  have pin : pIntS [Val.sh (.str z)] = .ok (.sh (.int i)) := by
    show (if z.length ≤ 640 then match PySem.intText? z with
        | some n => Res.ok (Val.sh (.int n))
        | none => .bad
      else .bad) = _
    rw [if_pos l7, f6]
  have figs : TL.tl (Str.ofString "0123456789") = [48, 49, 50, 51, 52, 53, 54, 55, 56, 57] := by decide +kernel
  have sgn : ∀ k ∈ z.cps.toList, pInS true (Val.sh (.str ⟨#[k]⟩)) (Val.sh (.str "0123456789")) = .ok (.sh (.bl false)) := by
    intro k hk
    have hd := f5 k hk
    have : k ∈ TL.tl (Str.ofString "0123456789") := by
      rw [figs]
      simp only [List.mem_cons, List.not_mem_nil, or_false]
      omega
    show Res.ok (Val.sh (.bl (if true = true then !decide (k ∈ TL.tl (Str.ofString "0123456789")) else decide (k ∈ TL.tl (Str.ofString "0123456789"))))) = _
    rw [if_pos rfl, decide_eq_true this]
    rfl
  have hit : ∀ env : XEnv, env[0]? = some (some (.sh, .str z)) → xIStr (xV 0) env = .ok (signsD z) := fun env he => by
    unfold xIStr
    rw [e_V, he]
    rfl
  have h0 := hit [some (.sh, .str z), none] rfl
  simp [F_crease_of, f1, ix, n0, l5, l6, h0]
  refine for_fun (enc := fun k => D.str ⟨#[k]⟩) z.cps.toList (fun i env => ∃ u, env = [some (.sh, .str z), u]) rfl ⟨none, rfl⟩ ?_ ?_
  · rintro i k env hk ⟨u, rfl⟩
    have s1 := sgn k (List.mem_of_getElem? hk)
    simp [s1]
  · rintro e2 ⟨u, rfl⟩
    simp [pin]
theorem ev_fold_of {f : Fold} (h : Cr9 f) : F_fold_of [.str (writ f)] = .ok (.sh (foldD f)) := by
  have sp := writ_split h
  have ec := ev_crease h.1 h.2
  have lw := len_writ h
  have e1 : gSplit (writ f) (Val.sh (.str " ")) = .ok ⟨.li .sh, false, .lst [.str (sideS f.side), .str (wayS f.over), .str (numS f.cr)]⟩ := by
    show (if ((Str.ofString " ").length == 0) = false ∧ (writ f).length ≤ 99998 then Res.ok (Val.mk (.li .sh) false (.lst ((Txt.split (writ f) " ").map .str))) else .bad) = _
    rw [len_blank, if_pos ⟨rfl, by omega⟩, sp]
    rfl
  generalize writ f = z at *
  obtain ⟨sd, ov, cr⟩ := f
  dsimp only at *
  have e2 : ∀ env : XEnv, env[0]? = some (some (.sh, .str z)) → xM1 gSplit (xV 0) (xC (.str " ")) env = .ok ⟨.li .sh, false, .lst [.str (sideS sd), .str (wayS ov), .str (numS cr)]⟩ := fun env he => by
    unfold xM1
    rw [e_V, he]
    exact e1
  have e3 := e2 [some (.sh, .str z), none] rfl
  have o1 : ¬ Str.ofString "under" = Str.ofString "over" := by decide +kernel
  cases ov <;> cases sd <;> simp [F_fold_of, e3, wayS, sideS, ec, foldD, o1]
end Fd
set_option Elab.async false
set_option linter.all false
set_option maxRecDepth 100000
set_option maxHeartbeats 8000000
/-! MRB: rows of folds that the law draws. -/
namespace Fd
open Bk PySem L2
def sideN (k : Int) : Side := if k = 0 then .west else if k = 1 then .east else if k = 2 then .north else .south
def modN (k : Int) : Int := if k = 0 then 9 else if k = 1 then 40 else if k = 2 then 1000 else 999999999
def rowF (cell : Int) : Fold := ⟨sideN (cell % 4), decide (cell / 16 % 2 = 1), 1 + cell / 8 % modN (cell / 4 % 4)⟩
theorem rowF_ok (cell : Int) : Cr9 (rowF cell) := by
  have h0 := Int.emod_nonneg (cell / 4) (show (4 : Int) ≠ 0 by decide)
  unfold rowF Cr9
  dsimp only
  have m : 1 ≤ modN (cell / 4 % 4) ∧ modN (cell / 4 % 4) ≤ 999999999 := by
    unfold modN
    split
    · omega
    · split
      · omega
      · split <;> omega
  have a := Int.emod_nonneg (cell / 8) (show modN (cell / 4 % 4) ≠ 0 by omega)
  have b := Int.emod_lt_of_pos (cell / 8) (show 0 < modN (cell / 4 % 4) by omega)
  omega
theorem ev_row_by (ns : List Int) (a b : Int) (hl : ns.length ≤ 1000) : F_law_row_by [.fz (ns.map .int), .int a, .int b] = .ok ⟨.li .sh, false, .lst (((cut ns (some a) (some (a + b))).map rowF).map foldD)⟩ := by
  have cl := cut_len ns (some a) (some (a + b))
  simp [F_law_row_by, cut_map]
  generalize cut ns (some a) (some (a + b)) = cs at *
  refine for_fun (enc := fun i : Int => D.int i) cs (fun i env => ∃ u v, env = [some (.sh, .fz (ns.map .int)), some (.sh, .int a), some (.sh, .int b), some (.li .sh, .lst (((cs.take i).map rowF).map foldD)), u, v]) rfl ⟨none, none, rfl⟩ ?_ ?_
  · rintro i x env hx ⟨u, v, rfl⟩
    have hi := (List.getElem?_eq_some_iff.mp hx).1
    have tk : ((cs.take (i + 1)).map rowF).map foldD = ((cs.take i).map rowF).map foldD ++ [foldD (rowF x)] := by
      rw [List.take_succ, hx, List.map_append, List.map_append]
      rfl
    have tl : (((cs.take i).map rowF).map foldD).length < 100000 := by
      rw [List.length_map, List.length_map, List.length_take]
      omega
    rw [tk]
    generalize ((cs.take i).map rowF).map foldD = LF at *
    have a1 : x / 4 % 4 = 0 ∨ x / 4 % 4 = 1 ∨ x / 4 % 4 = 2 ∨ x / 4 % 4 = 3 := by omega
    have a2 : x % 4 = 0 ∨ x % 4 = 1 ∨ x % 4 = 2 ∨ x % 4 = 3 := by omega
    unfold rowF modN sideN foldD
    rcases a1 with a1 | a1 | a1 | a1 <;> rcases a2 with a2 | a2 | a2 | a2 <;> simp [a1, a2, tl, sideS]
  · rintro e2 ⟨u, v, rfl⟩
    rw [List.take_length]
    simp
theorem ev_written {f : Fold} (h : Cr9 f) : F_law_written [foldD f] = .ok (.sh (.str (writ f))) := by
  have l1 := len_side f.side
  have l3 := numS_len (by have := h.1; omega) h.2
  have lg := log_small (i := f.cr) (by have := h.1; omega) h.2
  obtain ⟨sd, ov, cr⟩ := f
  dsimp only [foldD] at *
  have s1 : (sideS sd).length + 1 ≤ 100000 := by omega
  cases ov
  · have w : (Str.ofString "under").length = 5 := by decide +kernel
    have s2 : (sideS sd).length + 1 + 5 ≤ 100000 := by omega
    have s3 : (sideS sd).length + 1 + 5 + 1 ≤ 100000 := by omega
    have s4 : (sideS sd).length + 1 + 5 + 1 + (numS cr).length ≤ 100000 := by omega
    simp [F_law_written, p_Str, len_app, len_blank, w, s1, s2, s3, s4, lg, writ, wayS]
  · have w : (Str.ofString "over").length = 4 := by decide +kernel
    have s2 : (sideS sd).length + 1 + 4 ≤ 100000 := by omega
    have s3 : (sideS sd).length + 1 + 4 + 1 ≤ 100000 := by omega
    have s4 : (sideS sd).length + 1 + 4 + 1 + (numS cr).length ≤ 100000 := by omega
    simp [F_law_written, p_Str, len_app, len_blank, w, s1, s2, s3, s4, lg, writ, wayS]
end Fd
set_option Elab.async false
set_option linter.all false
set_option maxRecDepth 100000
set_option maxHeartbeats 8000000
/-! KA: texts cut; what is refused. -/
namespace Fd
open Bk PySem L2
theorem nb {b : Bool} (h : (!b) = true) : b = false := by cases b <;> simp_all
theorem forGo_step (tg : Tg) (bd : XS) (d : D) (ds : List D) (env : XEnv) : forGo tg bd (d :: ds) env = (match stepO tg bd d env with
  | .next e2 => forGo tg bd ds e2
  | .cont e2 => forGo tg bd ds e2
  | .brk e2 => .next e2
  | o => o) := by
  rw [forGo]
  unfold stepO
  cases tg.put d env <;> rfl

/-! ### cut at blanks -/
theorem spl_count : ∀ (l acc : List Nat), (TL.spl [32] 0 acc l).length = l.count 32 + 1
  | [], acc => rfl
  | c :: r, acc => by
    by_cases q : c = 32
    · subst q
      have h : TL.pre [32] (32 :: r) = true := rfl
      rw [TL.spl_hit h, List.length_cons, List.count_cons_self]
      have := spl_count r []
      exact congrArg (· + 1) this
    · rw [TL.spl_miss (TL.pre_of_head _ _ q), spl_count r, List.count_cons_of_ne q]
theorem blank_len (x : Str) : (Txt.split x " ").length = (TL.tl x).count 32 + 1 := by
  have e := TL.split_spl x (Str.ofString " ") (by rw [tl_blank]; simp) (TL.kind_ok (by decide +kernel))
  rw [tl_blank] at e
  rw [← spl_count (TL.tl x) [], ← e, List.length_map]
theorem split3 {t a b c : Str} (e : TL.tl t = TL.tl a ++ 32 :: (TL.tl b ++ 32 :: TL.tl c)) (ha : 32 ∉ TL.tl a) (hb : 32 ∉ TL.tl b) (hc : 32 ∉ TL.tl c) : Txt.split t " " = [a, b, c] := by
  have z : t = Txt.join " " [a, b, c] := by
    refine TL.ext_tl ?_
    rw [TL.join_eq, TL.tl_join, tl_blank, e]
    rfl
  rw [z]
  refine TL.split_join tl_blank (by decide +kernel) (by simp) fun p hp => ?_
  simp only [List.mem_cons, List.not_mem_nil, or_false] at hp
  rcases hp with rfl | rfl | rfl
  · exact ha
  · exact hb
  · exact hc
/-! ### cut at commas with a blank -/
/-- no comma with a blank behind it -/
def nocs : List Nat → Bool
  | [] => true
  | a :: r => !(a == 44 && r.head? == some 32) && nocs r
theorem pre_cs {a : Nat} {r : List Nat} : TL.pre [44, 32] (a :: r) = (a == 44 && r.head? == some 32) := by
  unfold TL.pre
  cases r with
  | nil =>
    cases h : (a == 44) <;> simp [h]
  | cons b r =>
    show (([a, b] : List Nat) == [44, 32]) = (a == 44 && (some b == some 32))
    cases h : (a == 44) <;> cases h2 : (b == 32) <;> simp_all
theorem spl_cs : ∀ (p acc rest : List Nat), nocs p = true → TL.spl [44, 32] 0 acc (p ++ 44 :: 32 :: rest) = (acc ++ p) :: TL.spl [44, 32] 0 [] rest
  | [], acc, rest, _ => by
    have h : TL.pre [44, 32] (44 :: 32 :: rest) = true := rfl
    show TL.spl [44, 32] 0 acc (44 :: 32 :: rest) = _
    rw [TL.spl_hit h, List.append_nil]
    rfl
  | c :: p, acc, rest, h => by
    unfold nocs at h
    rw [Bool.and_eq_true] at h
    have m : TL.pre [44, 32] (c :: (p ++ 44 :: 32 :: rest)) = false := by
      rw [pre_cs]
      cases p with
      | nil => cases h2 : (c == 44) <;> simp
      | cons d p => exact nb h.1
    show TL.spl [44, 32] 0 acc (c :: (p ++ 44 :: 32 :: rest)) = _
    rw [TL.spl_miss m, spl_cs p _ _ h.2, List.append_assoc]
    rfl
theorem spl_cs1 : ∀ (p acc : List Nat), nocs p = true → TL.spl [44, 32] 0 acc p = [acc ++ p]
  | [], acc, _ => by rw [TL.spl_nil, List.append_nil]
  | c :: p, acc, h => by
    unfold nocs at h
    rw [Bool.and_eq_true] at h
    have m : TL.pre [44, 32] (c :: p) = false := by
      rw [pre_cs]
      exact nb h.1
    rw [TL.spl_miss m, spl_cs1 p _ h.2, List.append_assoc]
    rfl
theorem spl_csj : ∀ {parts : List (List Nat)}, parts ≠ [] → (∀ p ∈ parts, nocs p = true) → TL.spl [44, 32] 0 [] (TL.joinL [44, 32] parts) = parts
  | [], h, _ => absurd rfl h
  | [p], _, hp => by
    show TL.spl [44, 32] 0 [] p = [p]
    rw [spl_cs1 p [] (hp p (List.mem_singleton.mpr rfl))]
    rfl
  | p :: q :: r, _, hp => by
    show TL.spl [44, 32] 0 [] (p ++ 44 :: 32 :: TL.joinL [44, 32] (q :: r)) = p :: q :: r
    rw [spl_cs p [] _ (hp p (List.mem_cons_self ..)), spl_csj (by simp) fun z hz => hp z (List.mem_cons_of_mem _ hz)]
    rfl
theorem row_cut {ps : List Str} (hne : ps ≠ []) (h : ∀ p ∈ ps, nocs (TL.tl p) = true) : Txt.split (Txt.join ", " ps) ", " = ps := by
  refine TL.map_tl_inj ?_
  rw [TL.split_spl _ (Str.ofString ", ") (by rw [tl_comma]; simp) (TL.kind_ok (by decide +kernel)), TL.join_eq, TL.tl_join, tl_comma]
  refine spl_csj (fun e => hne (List.map_eq_nil_iff.mp e)) fun p hp => ?_
  obtain ⟨z, hz, rfl⟩ := List.mem_map.mp hp
  exact h z hz
theorem nocs_free : ∀ {l : List Nat}, 44 ∉ l → nocs l = true
  | [], _ => rfl
  | a :: r, h => by
    unfold nocs
    rw [nocs_free fun z => h (List.mem_cons_of_mem _ z)]
    have : (a == 44) = false := by
      have : a ≠ 44 := fun z => h (z ▸ List.mem_cons_self)
      simpa using this
    rw [this]
    rfl
theorem nocs_blank : ∀ {l : List Nat}, 32 ∉ l → nocs l = true
  | [], _ => rfl
  | a :: r, h => by
    unfold nocs
    rw [nocs_blank fun z => h (List.mem_cons_of_mem _ z)]
    have : (r.head? == some 32) = false := by
      cases r with
      | nil => rfl
      | cons b r =>
        have : b ≠ 32 := fun z => h (z ▸ List.mem_cons_of_mem _ List.mem_cons_self)
        simpa using this
    rw [this, Bool.and_false]
    rfl
theorem nocs_last : ∀ {l : List Nat} {c : Nat}, nocs l = true → c ≠ 32 → nocs (l ++ [c]) = true
  | [], c, _, hc => by
    unfold nocs nocs
    simp
  | a :: r, c, h, hc => by
    unfold nocs at h
    rw [Bool.and_eq_true] at h
    show (!(a == 44 && (r ++ [c]).head? == some 32) && nocs (r ++ [c])) = true
    rw [nocs_last h.2 hc, Bool.and_true]
    cases r with
    | nil =>
      have : (c == 32) = false := by simpa using hc
      show (!(a == 44 && (some c == some 32))) = true
      cases h2 : (a == 44) <;> simp [hc]
    | cons b r => exact h.1
/-! ### the crease -/
theorem ev_crease_bad {x : Str} (hl : x.length ≤ 1000) (h : x = "" ∨ (∃ r, TL.tl x = 48 :: r) ∨ 9 < x.length ∨ ∃ k ∈ TL.tl x, ¬ (48 ≤ k ∧ k ≤ 57)) : F_crease_of [.str x] = .exc 7 := by
  by_cases q0 : x = Str.ofString ""
  · simp [F_crease_of, q0]
  · obtain ⟨k0, r, er⟩ : ∃ k0 r, TL.tl x = k0 :: r := by
      cases e : TL.tl x with
      | nil => exact absurd (TL.ext_tl (e.trans (by decide +kernel))) q0
      | cons k r => exact ⟨k, r, rfl⟩
    have l5 : x.length ≤ 100000 := by omega
    have ix : pIx (Val.sh (.str x)) (Val.sh (.int 0)) = .ok (.sh (.str ⟨#[k0]⟩)) := by
      show (if x.length ≤ 100000 then match atI x.cps.toList 0 with
        | some k => Res.ok (Val.sh (.str ⟨#[k]⟩))
        | none => Res.bad
        else Res.bad) = _
      have e2 : x.cps.toList[0]? = some k0 := by
        show (TL.tl x)[0]? = _
        rw [er]
        rfl
      rw [if_pos l5, atI_0, e2]
    by_cases q1 : k0 = 48
    · have e0 : (⟨#[k0]⟩ : Str) = Str.ofString "0" := by
        subst q1
        decide +kernel
      rw [e0] at ix
      simp [F_crease_of, q0, ix]
    · have n0 : ¬ (⟨#[k0]⟩ : Str) = Str.ofString "0" := by
        intro q
        have : TL.tl (⟨#[k0]⟩ : Str) = TL.tl (Str.ofString "0") := by rw [q]
        have e : TL.tl (Str.ofString "0") = [48] := by decide +kernel
        rw [e] at this
        have e2 : TL.tl (⟨#[k0]⟩ : Str) = [k0] := rfl
        rw [e2] at this
        cases this
        exact q1 rfl
      by_cases q2 : (9 : Int) < (x.length : Int)
      · simp [F_crease_of, q0, ix, n0, l5, q2]
      · have h4 : ∃ k ∈ TL.tl x, ¬ (48 ≤ k ∧ k ≤ 57) := by
          rcases h with h | ⟨r2, h⟩ | h | h
          · exact absurd h q0
          · rw [er] at h
            cases h
            exact absurd rfl q1
          · omega
          · exact h
        have figs : TL.tl (Str.ofString "0123456789") = [48, 49, 50, 51, 52, 53, 54, 55, 56, 57] := by decide +kernel
        have sgn : ∀ k : Nat, pInS true (Val.sh (.str ⟨#[k]⟩)) (Val.sh (.str "0123456789")) = .ok (.sh (.bl (!decide (48 ≤ k ∧ k ≤ 57)))) := by
          intro k
          show Res.ok (Val.sh (.bl (if true = true then !decide (k ∈ TL.tl (Str.ofString "0123456789")) else decide (k ∈ TL.tl (Str.ofString "0123456789"))))) = _
          rw [if_pos rfl, figs]
          have : decide (k ∈ [48, 49, 50, 51, 52, 53, 54, 55, 56, 57]) = decide (48 ≤ k ∧ k ≤ 57) := by
            rw [decide_eq_decide]
            simp only [List.mem_cons, List.not_mem_nil, or_false]
            omega
          rw [this]
        have hit : ∀ env : XEnv, env[0]? = some (some (.sh, .str x)) → xIStr (xV 0) env = .ok (signsD x) := fun env he => by
          unfold xIStr
          rw [e_V, he]
          rfl
        have h0 := hit [some (.sh, .str x), none] rfl
        have lp : ∀ (l : List Nat) (u : Option (Ow × D)), (∃ k ∈ l, ¬ (48 ≤ k ∧ k ≤ 57)) → ∃ e2, forGo (.nm 1) (xIfS (xT (xOp2 (pInS true) (xV 1) (xC (.str "0123456789")))) (xRaise 7) xSkip) (l.map fun k => D.str ⟨#[k]⟩) [some (.sh, .str x), u] = .exc 7 e2 := by
          intro l
          induction l with
          | nil => rintro u ⟨k, hk, _⟩; cases hk
          | cons k l ih =>
            rintro u hx
            have s1 := sgn k
            rw [List.map_cons]
            by_cases q : 48 ≤ k ∧ k ≤ 57
            · have hx2 : ∃ k ∈ l, ¬ (48 ≤ k ∧ k ≤ 57) := by
                obtain ⟨k2, m2, h2⟩ := hx
                rcases List.mem_cons.mp m2 with rfl | m2
                · exact absurd q h2
                · exact ⟨k2, m2, h2⟩
              obtain ⟨e2, ee⟩ := ih (some (.sh, .str ⟨#[k]⟩)) hx2
              refine ⟨e2, ?_⟩
              rw [decide_eq_true q] at s1
              rw [forGo_step]
              simp [s1, ee]
            · refine ⟨[some (.sh, .str x), some (.sh, .str ⟨#[k]⟩)], ?_⟩
              rw [decide_eq_false q] at s1
              rw [forGo_step]
              simp [s1]
        obtain ⟨e2, ee⟩ := lp x.cps.toList none h4
        have sd : signsD x = x.cps.toList.map fun k => D.str ⟨#[k]⟩ := rfl
        simp [F_crease_of, q0, ix, n0, l5, q2, h0, sd, ee]
end Fd
set_option Elab.async false
set_option linter.all false
set_option maxRecDepth 100000
set_option maxHeartbeats 8000000
/-! KB: what the reader refuses. -/
namespace Fd
open Bk PySem L2
theorem gSplit_blank {t : Str} (hl : t.length ≤ 99998) : gSplit t (Val.sh (.str " ")) = .ok ⟨.li .sh, false, .lst ((Txt.split t " ").map .str)⟩ := by
  show (if ((Str.ofString " ").length == 0) = false ∧ t.length ≤ 99998 then Res.ok (Val.mk (.li .sh) false (.lst ((Txt.split t " ").map .str))) else .bad) = _
  rw [len_blank, if_pos ⟨rfl, hl⟩]
theorem fold_env {t : Str} {L : List D} (e : gSplit t (Val.sh (.str " ")) = .ok ⟨.li .sh, false, .lst L⟩) : xM1 gSplit (xV 0) (xC (.str " ")) [some (.sh, .str t), none] = .ok ⟨.li .sh, false, .lst L⟩ := by
  unfold xM1
  rw [e_V]
  exact e
theorem bad_count {t : Str} (hl : t.length ≤ 99998) (h : (TL.tl t).count 32 ≠ 2) : F_fold_of [.str t] = .exc 7 := by
  have e := fold_env (gSplit_blank hl)
  have n : ((Txt.split t " ").map D.str).length ≠ 3 := by
    rw [List.length_map, blank_len]
    omega
  have n2 : ¬ (((Txt.split t " ").map D.str).length : Int) = 3 := by omega
  generalize (Txt.split t " ").map D.str = L at *
  simp [F_fold_of, e, n2]
theorem bad_side {t a b c : Str} (hl : t.length ≤ 99998) (sp : Txt.split t " " = [a, b, c]) (h : ∀ s : Side, ¬ sideS s = a) : F_fold_of [.str t] = .exc 7 := by
  have e := fold_env (gSplit_blank hl)
  rw [sp] at e
  have h1 : ¬ Str.ofString "west" = a := h .west
  have h2 : ¬ Str.ofString "east" = a := h .east
  have h3 : ¬ Str.ofString "north" = a := h .north
  have h4 : ¬ Str.ofString "south" = a := h .south
  simp only [List.map_cons, List.map_nil] at e
  simp [F_fold_of, e, h1, h2, h3, h4]
theorem bad_way {t b c : Str} {s : Side} (hl : t.length ≤ 99998) (sp : Txt.split t " " = [sideS s, b, c]) (h1 : ¬ b = Str.ofString "over") (h2 : ¬ b = Str.ofString "under") : F_fold_of [.str t] = .exc 7 := by
  have e := fold_env (gSplit_blank hl)
  rw [sp] at e
  simp only [List.map_cons, List.map_nil] at e
  cases s <;> simp [sideS] at e <;> simp [F_fold_of, e, h1, h2]
theorem bad_crease {t c : Str} {s : Side} {w : Bool} (hl : t.length ≤ 99998) (sp : Txt.split t " " = [sideS s, wayS w, c]) (h : F_crease_of [.str c] = .exc 7) : F_fold_of [.str t] = .exc 7 := by
  have e := fold_env (gSplit_blank hl)
  rw [sp] at e
  have o1 : ¬ Str.ofString "under" = Str.ofString "over" := by decide +kernel
  simp only [List.map_cons, List.map_nil] at e
  cases s <;> cases w <;> simp [sideS, wayS] at e <;> simp [F_fold_of, e, h, o1]
/-! ### the row -/
theorem goX_ok {step : D → Res D} {α : Type} {f g : α → D} : ∀ {xs : List α}, (∀ x ∈ xs, step (f x) = .ok (g x)) → lcGoX step (xs.map f) = .ok (xs.map g)
  | [], _ => rfl
  | x :: xs, h => by
    rw [List.map_cons, lcGoX, h x List.mem_cons_self, goX_ok fun y hy => h y (List.mem_cons_of_mem _ hy)]
    rfl
theorem goX_exc {step : D → Res D} {α : Type} {f g : α → D} {d : D} {k : Nat} {rest : List D} : ∀ {xs : List α}, (∀ x ∈ xs, step (f x) = .ok (g x)) → step d = .exc k → lcGoX step (xs.map f ++ d :: rest) = .exc k
  | [], _, hd => by
    show lcGoX step (d :: rest) = _
    rw [lcGoX, hd]
  | x :: xs, h, hd => by
    show lcGoX step (f x :: (xs.map f ++ d :: rest)) = _
    rw [lcGoX, h x List.mem_cons_self, goX_exc (fun y hy => h y (List.mem_cons_of_mem _ hy)) hd]
theorem read_env {z : Str} {ps : List Str} (hz : z.length ≤ 99998) (sp : Txt.split z ", " = ps) : xM1 gSplit (xV 0) (xC (.str ", ")) [some (.sh, .str z), none] = .ok ⟨.li .sh, false, .lst (ps.map .str)⟩ := by
  have lc : (Str.ofString ", ").length = 2 := by decide +kernel
  unfold xM1
  rw [e_V]
  show (if ((Str.ofString ", ").length == 0) = false ∧ z.length ≤ 99998 then Res.ok (Val.mk (.li .sh) false (.lst ((Txt.split z ", ").map .str))) else .bad) = _
  rw [lc, if_pos ⟨rfl, hz⟩, sp]
theorem step_ok {f : Fold} (h : Cr9 f) (u : Option (Ow × D)) (z : D) : lcStepX (.nm 1) (xCall F_fold_of (xACons (xV 1) xANil)) [some (.sh, z), u] (.str (writ f)) = .ok (foldD f) := by
  have := ev_fold_of h
  simp [lcStepX, this]
theorem step_exc {p : Str} (h : F_fold_of [.str p] = .exc 7) (u : Option (Ow × D)) (z : D) : lcStepX (.nm 1) (xCall F_fold_of (xACons (xV 1) xANil)) [some (.sh, z), u] (.str p) = .exc 7 := by
  simp [lcStepX, h]
theorem ev_read_empty : F_read [.str (Str.ofString "")] = .ok ⟨.li .sh, false, .lst []⟩ := by
  simp [F_read]
theorem ev_read {fs : List Fold} (h : ∀ f ∈ fs, Cr9 f) (hl : fs.length ≤ 1000) : F_read [.str (Txt.join ", " (fs.map writ))] = .ok ⟨.li .sh, false, .lst (fs.map foldD)⟩ := by
  by_cases hne : fs = []
  · subst hne
    exact ev_read_empty
  · have ne : ¬ Txt.join ", " (fs.map writ) = Str.ofString "" := by
      intro z
      cases fs with
      | nil => exact hne rfl
      | cons f fs =>
        have e := congrArg TL.tl z
        rw [TL.join_eq, TL.tl_join] at e
        have e0 : TL.tl (Str.ofString "") = [] := by decide +kernel
        rw [e0] at e
        have w : TL.tl (writ f) ≠ [] := by
          unfold writ
          simp only [TL.tl_append, tl_blank]
          simp
        cases fs with
        | nil => exact w e
        | cons g fs =>
          simp only [List.map_cons, TL.joinL] at e
          exact w (List.append_eq_nil_iff.mp e).1
    have lj := len_join h
    have e3 := read_env (z := Txt.join ", " (fs.map writ)) (by omega) (row_split hne h)
    generalize Txt.join ", " (fs.map writ) = z at *
    have l3 : ((fs.map writ).map D.str).length ≤ 100000 := by
      rw [List.length_map, List.length_map]
      omega
    have lc : ∀ u d, lcGoX (lcStepX (.nm 1) (xCall F_fold_of (xACons (xV 1) xANil)) [some (.sh, d), u]) ((fs.map writ).map .str) = .ok (fs.map foldD) := fun u d => by
      rw [List.map_map]
      exact goX_ok (f := D.str ∘ writ) fun f hf => step_ok (h f hf) u d
    generalize (fs.map writ).map D.str = L at *
    simp [F_read, ne, e3, l3, lc, endX]
theorem ev_read_bad {fs : List Fold} {p z : Str} {post ps : List Str} (h : ∀ f ∈ fs, Cr9 f) (hz : z.length ≤ 99998) (ne : ¬ z = Str.ofString "") (sp : Txt.split z ", " = ps) (eps : ps = fs.map writ ++ p :: post) (hl : ps.length ≤ 1000) (hp : F_fold_of [.str p] = .exc 7) : F_read [.str z] = .exc 7 := by
  have e3 := read_env hz sp
  have l3 : (ps.map D.str).length ≤ 100000 := by
    rw [List.length_map]
    omega
  have lc : ∀ u d, lcGoX (lcStepX (.nm 1) (xCall F_fold_of (xACons (xV 1) xANil)) [some (.sh, d), u]) (ps.map .str) = .exc 7 := fun u d => by
    rw [eps, List.map_append, List.map_cons, List.map_map]
    exact goX_exc (f := D.str ∘ writ) (g := foldD) (fun f hf => step_ok (h f hf) u d) (step_exc hp u d)
  clear eps sp
  generalize ps.map D.str = L at *
  simp [F_read, ne, e3, l3, lc, endX]
theorem ev_refused {z : Str} (h : F_read [.str z] = .exc 7) : F_law_refused [.str z] = .ok (.sh (.bl true)) := by
  have w := ev_word (k := 7) (by omega)
  simp [F_law_refused, h, kTryE_exc, pk_LeafError, w, wordT]
end Fd
set_option Elab.async false
set_option linter.all false
set_option maxRecDepth 100000
set_option maxHeartbeats 4000000
/-! KS: the law's body, cut (printed by seg.py). -/
namespace Bk
open PySem L2
def sf14 : XS := (xRet (xOp2 pIx (xV 5) (xOp2 pMod (xV 1) (xC (.int 28)))))
def sf13 : XS := xSeq (xSet 5 (xOp2 pAdd (xV 5) (xLst (xACons (xOp2 pAdd (xOp2 pAdd (xOp2 pAdd (xOp2 pAdd (xV 2) (xC (.str "\t"))) (xV 3)) (xC (.str " "))) (xV 4)) (xACons (xOp2 pAdd (xOp2 pAdd (xOp2 pAdd (xOp2 pAdd (xV 2) (xC (.str " "))) (xV 3)) (xC (.str " \t"))) (xV 4)) (xANil)))))) (
  sf14)
def sf12 : XS := xSeq (xSet 5 (xOp2 pAdd (xV 5) (xLst (xACons (xOp2 pAdd (xOp2 pAdd (xOp2 pAdd (xV 2) (xC (.str " "))) (xV 3)) (xC (.str " 1_0"))) (xACons (xOp2 pAdd (xOp2 pAdd (xOp2 pAdd (xOp2 pAdd (xOp2 pAdd (xV 2) (xC (.str " "))) (xV 3)) (xC (.str " "))) (xV 4)) (xC (.str "\t"))) (xANil)))))) (
  sf13)
def sf11 : XS := xSeq (xSet 5 (xOp2 pAdd (xV 5) (xLst (xACons (xOp2 pAdd (xOp2 pAdd (xOp2 pAdd (xOp2 pAdd (xOp2 pAdd (xV 2) (xC (.str " "))) (xV 3)) (xC (.str " "))) (xV 4)) (xC (.str ","))) (xACons (xOp2 pAdd (xOp2 pAdd (xOp2 pAdd (xOp2 pAdd (xV 2) (xC (.str ","))) (xV 3)) (xC (.str ","))) (xV 4)) (xACons (xOp2 pAdd (xV 2) (xC (.str "west over 1"))) (xANil))))))) (
  sf12)
def sf10 : XS := xSeq (xSet 5 (xOp2 pAdd (xV 5) (xLst (xACons (xOp2 pAdd (xOp2 pAdd (xOp2 pAdd (xOp2 pAdd (xOp2 pAdd (xV 2) (xC (.str " "))) (xV 3)) (xC (.str " "))) (xV 4)) (xC (.str " 1"))) (xACons (xOp2 pAdd (xOp2 pAdd (xOp2 pAdd (xOp2 pAdd (xOp2 pAdd (xV 2) (xC (.str " "))) (xV 3)) (xC (.str " "))) (xV 4)) (xC (.str "\n"))) (xACons (xSlS (xV 2) (xPNone) (xPSome (xC (.int (-1))))) (xANil))))))) (
  sf11)
def sf9 : XS := xSeq (xSet 5 (xOp2 pAdd (xV 5) (xLst (xACons (xOp2 pAdd (xOp2 pAdd (xOp2 pAdd (xOp2 pAdd (xOp2 pAdd (xV 2) (xC (.str " "))) (xV 3)) (xC (.str " "))) (xV 4)) (xC (.str "a"))) (xACons (xOp2 pAdd (xOp2 pAdd (xOp2 pAdd (xV 2) (xC (.str " "))) (xV 3)) (xC (.str " 1000000000"))) (xACons (xC (.str "")) (xANil))))))) (
  sf10)
def sf8 : XS := xSeq (xSet 5 (xOp2 pAdd (xV 5) (xLst (xACons (xOp2 pAdd (xOp2 pAdd (xOp2 pAdd (xOp2 pAdd (xV 2) (xC (.str " "))) (xV 3)) (xC (.str " -"))) (xV 4)) (xACons (xOp2 pAdd (xOp2 pAdd (xOp2 pAdd (xOp2 pAdd (xV 2) (xC (.str " "))) (xV 3)) (xC (.str " 0"))) (xV 4)) (xACons (xOp2 pAdd (xOp2 pAdd (xOp2 pAdd (xV 2) (xC (.str " "))) (xV 3)) (xC (.str " 0"))) (xANil))))))) (
  sf9)
def sf7 : XS := xSeq (xSet 5 (xOp2 pAdd (xV 5) (xLst (xACons (xOp2 pAdd (xOp2 pAdd (xOp2 pAdd (xOp2 pAdd (xOp2 pAdd (xV 2) (xC (.str " "))) (xV 3)) (xC (.str " "))) (xV 4)) (xC (.str " "))) (xACons (xOp2 pAdd (xOp2 pAdd (xOp2 pAdd (xOp2 pAdd (xV 2) (xC (.str " "))) (xV 3)) (xC (.str " +"))) (xV 4)) (xANil)))))) (
  sf8)
def sf6 : XS := xSeq (xSet 5 (xOp2 pAdd (xV 5) (xLst (xACons (xOp2 pAdd (xOp2 pAdd (xOp2 pAdd (xOp2 pAdd (xC (.str " ")) (xV 2)) (xC (.str " "))) (xV 3)) (xC (.str " 1"))) (xANil))))) (
  sf7)
def sf5 : XS := xSeq (xSet 5 (xOp2 pAdd (xV 5) (xLst (xACons (xOp2 pAdd (xOp2 pAdd (xOp2 pAdd (xOp2 pAdd (xV 2) (xC (.str "  "))) (xV 3)) (xC (.str " "))) (xV 4)) (xACons (xOp2 pAdd (xOp2 pAdd (xOp2 pAdd (xOp2 pAdd (xV 2) (xC (.str " "))) (xV 3)) (xC (.str "  "))) (xV 4)) (xANil)))))) (
  sf6)
def sf4 : XS := xSeq (xSet 5 (xOp2 pAdd (xV 5) (xLst (xACons (xOp2 pAdd (xOp2 pAdd (xV 2) (xC (.str " "))) (xV 4)) (xACons (xOp2 pAdd (xOp2 pAdd (xV 3) (xC (.str " "))) (xV 4)) (xACons (xOp2 pAdd (xOp2 pAdd (xV 2) (xC (.str " "))) (xV 3)) (xACons (xOp2 pAdd (xOp2 pAdd (xOp2 pAdd (xV 2) (xC (.str " "))) (xV 3)) (xC (.str " "))) (xANil)))))))) (
  sf5)
def sf3 : XS := xSeq (xSet 5 (xLst (xACons (xOp2 pAdd (xOp2 pAdd (xOp2 pAdd (xC (.str "up ")) (xV 3)) (xC (.str " "))) (xV 4)) (xACons (xOp2 pAdd (xOp2 pAdd (xOp2 pAdd (xOp2 pAdd (xM0 gUpper (xV 2)) (xC (.str " "))) (xV 3)) (xC (.str " "))) (xV 4)) (xACons (xOp2 pAdd (xOp2 pAdd (xV 2) (xC (.str " Over "))) (xV 4)) (xANil)))))) (
  sf4)
def sf2 : XS := xSeq (xSet 4 (xBlt pStr (xVCons (xOp2 pIx (xV 0) (xC (.int 2))) (xVNil)))) (
  sf3)
def sf1 : XS := xSeq (xSet 3 (xIf (xT (xOp2 pIx (xV 0) (xC (.int 1)))) (xC (.str "over")) (xC (.str "under")))) (
  sf2)
def sf0 : XS := xSeq (xSet 2 (xOp2 pIx (xV 0) (xC (.int 0)))) (
  sf1)
/-- segment 0 with any rest -/
def sfT0 (T : XS) : XS := xSeq (xSet 2 (xOp2 pIx (xV 0) (xC (.int 0)))) (
  T)
theorem sf0_eq : sf0 = sfT0 sf1 := rfl
/-- segment 1 with any rest -/
def sfT1 (T : XS) : XS := xSeq (xSet 3 (xIf (xT (xOp2 pIx (xV 0) (xC (.int 1)))) (xC (.str "over")) (xC (.str "under")))) (
  T)
theorem sf1_eq : sf1 = sfT1 sf2 := rfl
/-- segment 2 with any rest -/
def sfT2 (T : XS) : XS := xSeq (xSet 4 (xBlt pStr (xVCons (xOp2 pIx (xV 0) (xC (.int 2))) (xVNil)))) (
  T)
theorem sf2_eq : sf2 = sfT2 sf3 := rfl
/-- segment 3 with any rest -/
def sfT3 (T : XS) : XS := xSeq (xSet 5 (xLst (xACons (xOp2 pAdd (xOp2 pAdd (xOp2 pAdd (xC (.str "up ")) (xV 3)) (xC (.str " "))) (xV 4)) (xACons (xOp2 pAdd (xOp2 pAdd (xOp2 pAdd (xOp2 pAdd (xM0 gUpper (xV 2)) (xC (.str " "))) (xV 3)) (xC (.str " "))) (xV 4)) (xACons (xOp2 pAdd (xOp2 pAdd (xV 2) (xC (.str " Over "))) (xV 4)) (xANil)))))) (
  T)
theorem sf3_eq : sf3 = sfT3 sf4 := rfl
/-- segment 4 with any rest -/
def sfT4 (T : XS) : XS := xSeq (xSet 5 (xOp2 pAdd (xV 5) (xLst (xACons (xOp2 pAdd (xOp2 pAdd (xV 2) (xC (.str " "))) (xV 4)) (xACons (xOp2 pAdd (xOp2 pAdd (xV 3) (xC (.str " "))) (xV 4)) (xACons (xOp2 pAdd (xOp2 pAdd (xV 2) (xC (.str " "))) (xV 3)) (xACons (xOp2 pAdd (xOp2 pAdd (xOp2 pAdd (xV 2) (xC (.str " "))) (xV 3)) (xC (.str " "))) (xANil)))))))) (
  T)
theorem sf4_eq : sf4 = sfT4 sf5 := rfl
/-- segment 5 with any rest -/
def sfT5 (T : XS) : XS := xSeq (xSet 5 (xOp2 pAdd (xV 5) (xLst (xACons (xOp2 pAdd (xOp2 pAdd (xOp2 pAdd (xOp2 pAdd (xV 2) (xC (.str "  "))) (xV 3)) (xC (.str " "))) (xV 4)) (xACons (xOp2 pAdd (xOp2 pAdd (xOp2 pAdd (xOp2 pAdd (xV 2) (xC (.str " "))) (xV 3)) (xC (.str "  "))) (xV 4)) (xANil)))))) (
  T)
theorem sf5_eq : sf5 = sfT5 sf6 := rfl
/-- segment 6 with any rest -/
def sfT6 (T : XS) : XS := xSeq (xSet 5 (xOp2 pAdd (xV 5) (xLst (xACons (xOp2 pAdd (xOp2 pAdd (xOp2 pAdd (xOp2 pAdd (xC (.str " ")) (xV 2)) (xC (.str " "))) (xV 3)) (xC (.str " 1"))) (xANil))))) (
  T)
theorem sf6_eq : sf6 = sfT6 sf7 := rfl
/-- segment 7 with any rest -/
def sfT7 (T : XS) : XS := xSeq (xSet 5 (xOp2 pAdd (xV 5) (xLst (xACons (xOp2 pAdd (xOp2 pAdd (xOp2 pAdd (xOp2 pAdd (xOp2 pAdd (xV 2) (xC (.str " "))) (xV 3)) (xC (.str " "))) (xV 4)) (xC (.str " "))) (xACons (xOp2 pAdd (xOp2 pAdd (xOp2 pAdd (xOp2 pAdd (xV 2) (xC (.str " "))) (xV 3)) (xC (.str " +"))) (xV 4)) (xANil)))))) (
  T)
theorem sf7_eq : sf7 = sfT7 sf8 := rfl
/-- segment 8 with any rest -/
def sfT8 (T : XS) : XS := xSeq (xSet 5 (xOp2 pAdd (xV 5) (xLst (xACons (xOp2 pAdd (xOp2 pAdd (xOp2 pAdd (xOp2 pAdd (xV 2) (xC (.str " "))) (xV 3)) (xC (.str " -"))) (xV 4)) (xACons (xOp2 pAdd (xOp2 pAdd (xOp2 pAdd (xOp2 pAdd (xV 2) (xC (.str " "))) (xV 3)) (xC (.str " 0"))) (xV 4)) (xACons (xOp2 pAdd (xOp2 pAdd (xOp2 pAdd (xV 2) (xC (.str " "))) (xV 3)) (xC (.str " 0"))) (xANil))))))) (
  T)
theorem sf8_eq : sf8 = sfT8 sf9 := rfl
/-- segment 9 with any rest -/
def sfT9 (T : XS) : XS := xSeq (xSet 5 (xOp2 pAdd (xV 5) (xLst (xACons (xOp2 pAdd (xOp2 pAdd (xOp2 pAdd (xOp2 pAdd (xOp2 pAdd (xV 2) (xC (.str " "))) (xV 3)) (xC (.str " "))) (xV 4)) (xC (.str "a"))) (xACons (xOp2 pAdd (xOp2 pAdd (xOp2 pAdd (xV 2) (xC (.str " "))) (xV 3)) (xC (.str " 1000000000"))) (xACons (xC (.str "")) (xANil))))))) (
  T)
theorem sf9_eq : sf9 = sfT9 sf10 := rfl
/-- segment 10 with any rest -/
def sfT10 (T : XS) : XS := xSeq (xSet 5 (xOp2 pAdd (xV 5) (xLst (xACons (xOp2 pAdd (xOp2 pAdd (xOp2 pAdd (xOp2 pAdd (xOp2 pAdd (xV 2) (xC (.str " "))) (xV 3)) (xC (.str " "))) (xV 4)) (xC (.str " 1"))) (xACons (xOp2 pAdd (xOp2 pAdd (xOp2 pAdd (xOp2 pAdd (xOp2 pAdd (xV 2) (xC (.str " "))) (xV 3)) (xC (.str " "))) (xV 4)) (xC (.str "\n"))) (xACons (xSlS (xV 2) (xPNone) (xPSome (xC (.int (-1))))) (xANil))))))) (
  T)
theorem sf10_eq : sf10 = sfT10 sf11 := rfl
/-- segment 11 with any rest -/
def sfT11 (T : XS) : XS := xSeq (xSet 5 (xOp2 pAdd (xV 5) (xLst (xACons (xOp2 pAdd (xOp2 pAdd (xOp2 pAdd (xOp2 pAdd (xOp2 pAdd (xV 2) (xC (.str " "))) (xV 3)) (xC (.str " "))) (xV 4)) (xC (.str ","))) (xACons (xOp2 pAdd (xOp2 pAdd (xOp2 pAdd (xOp2 pAdd (xV 2) (xC (.str ","))) (xV 3)) (xC (.str ","))) (xV 4)) (xACons (xOp2 pAdd (xV 2) (xC (.str "west over 1"))) (xANil))))))) (
  T)
theorem sf11_eq : sf11 = sfT11 sf12 := rfl
/-- segment 12 with any rest -/
def sfT12 (T : XS) : XS := xSeq (xSet 5 (xOp2 pAdd (xV 5) (xLst (xACons (xOp2 pAdd (xOp2 pAdd (xOp2 pAdd (xV 2) (xC (.str " "))) (xV 3)) (xC (.str " 1_0"))) (xACons (xOp2 pAdd (xOp2 pAdd (xOp2 pAdd (xOp2 pAdd (xOp2 pAdd (xV 2) (xC (.str " "))) (xV 3)) (xC (.str " "))) (xV 4)) (xC (.str "\t"))) (xANil)))))) (
  T)
theorem sf12_eq : sf12 = sfT12 sf13 := rfl
/-- segment 13 with any rest -/
def sfT13 (T : XS) : XS := xSeq (xSet 5 (xOp2 pAdd (xV 5) (xLst (xACons (xOp2 pAdd (xOp2 pAdd (xOp2 pAdd (xOp2 pAdd (xV 2) (xC (.str "\t"))) (xV 3)) (xC (.str " "))) (xV 4)) (xACons (xOp2 pAdd (xOp2 pAdd (xOp2 pAdd (xOp2 pAdd (xV 2) (xC (.str " "))) (xV 3)) (xC (.str " \t"))) (xV 4)) (xANil)))))) (
  T)
theorem sf13_eq : sf13 = sfT13 sf14 := rfl
theorem law_spoilt_seg (d0 d1 : D) : F_law_spoilt [d0, d1] = kFun (sf0 [some (.sh, d0), some (.sh, d1), none, none, none, none]) := rfl
end Bk
set_option Elab.async false
set_option linter.all false
set_option maxRecDepth 100000
set_option maxHeartbeats 8000000
/-! KC: the spoilt texts, evaluated (printed by mk14.py). -/
namespace Fd
open Bk PySem L2
theorem adS {a b : Str} {o o2 : Ow} {c d : Bool} (h : a.length + b.length ≤ 1000) : pAdd ⟨o, c, .str a⟩ ⟨o2, d, .str b⟩ = .ok (.sh (.str (a ++ b))) := by
  rw [p_AddS, if_pos (by omega)]
abbrev EF (f0 : D) (way : Int) (s w z : Str) (x5 : Option (Ow × D)) : XEnv := [some (.sh, f0), some (.sh, .int way), some (.sh, .str s), some (.sh, .str w), some (.sh, .str z), x5]
theorem lit0 : (Str.ofString "up ").length = 3 := by decide +kernel
theorem lit1 : (Str.ofString " ").length = 1 := by decide +kernel
theorem lit2 : (Str.ofString " Over ").length = 6 := by decide +kernel
theorem lit3 : (Str.ofString "  ").length = 2 := by decide +kernel
theorem lit4 : (Str.ofString " 1").length = 2 := by decide +kernel
theorem lit5 : (Str.ofString " +").length = 2 := by decide +kernel
theorem lit6 : (Str.ofString " -").length = 2 := by decide +kernel
theorem lit7 : (Str.ofString " 0").length = 2 := by decide +kernel
theorem lit8 : (Str.ofString "a").length = 1 := by decide +kernel
theorem lit9 : (Str.ofString " 1000000000").length = 11 := by decide +kernel
theorem lit10 : (Str.ofString "").length = 0 := by decide +kernel
theorem lit11 : (Str.ofString "\n").length = 1 := by decide +kernel
theorem lit12 : (Str.ofString ",").length = 1 := by decide +kernel
theorem lit13 : (Str.ofString "west over 1").length = 11 := by decide +kernel
theorem lit14 : (Str.ofString " 1_0").length = 4 := by decide +kernel
theorem lit15 : (Str.ofString "\t").length = 1 := by decide +kernel
theorem lit16 : (Str.ofString " \t").length = 2 := by decide +kernel
section
variable {f0 : D} {way : Int} {s w z u v : Str} (hs : s.length ≤ 5) (hw : w.length ≤ 5) (hz : z.length ≤ 9) (hu : u.length ≤ 20) (gu : gUpper s = .ok (.sh (.str u))) (gv : kSlS (Val.sh (.str s)) none (some (-1)) = .ok (.sh (.str v)))
include hs hw hz hu gu gv
theorem sfS3 : sf3 (EF f0 way s w z none) = sf4 (EF f0 way s w z (some (.li .sh, .lst [D.str ((Str.ofString "up ") ++ w ++ Str.ofString " " ++ z), D.str (u ++ Str.ofString " " ++ w ++ Str.ofString " " ++ z), D.str (s ++ Str.ofString " Over " ++ z)]))) := by
  have q0 : 3 + w.length + 1 + z.length ≤ 100000 := by omega
  have q1 : 3 + w.length + 1 ≤ 100000 := by omega
  have q2 : 3 + w.length ≤ 100000 := by omega
  have q3 : u.length + 1 + w.length + 1 + z.length ≤ 100000 := by omega
  have q4 : u.length + 1 + w.length + 1 ≤ 100000 := by omega
  have q5 : u.length + 1 + w.length ≤ 100000 := by omega
  have q6 : u.length + 1 ≤ 100000 := by omega
  have q7 : s.length + 6 + z.length ≤ 100000 := by omega
  have q8 : s.length + 6 ≤ 100000 := by omega
  rw [sf3_eq]
  unfold sfT3
  generalize sf4 = T
  simp [len_app, lit0, lit1, lit2, lit3, lit4, lit5, lit6, lit7, lit8, lit9, lit10, lit11, lit12, lit13, lit14, lit15, lit16, gu, gv, q0, q1, q2, q3, q4, q5, q6, q7, q8]
theorem sfS4 {L : List D} (hl : L.length ≤ 100) : sf4 (EF f0 way s w z (some (.li .sh, .lst L))) = sf5 (EF f0 way s w z (some (.li .sh, .lst (L ++ [D.str (s ++ Str.ofString " " ++ z), D.str (w ++ Str.ofString " " ++ z), D.str (s ++ Str.ofString " " ++ w), D.str (s ++ Str.ofString " " ++ w ++ Str.ofString " ")])))) := by
  have l1 : L.length + 4 ≤ 100000 := by omega
  have q0 : s.length + 1 + z.length ≤ 100000 := by omega
  have q1 : s.length + 1 ≤ 100000 := by omega
  have q2 : w.length + 1 + z.length ≤ 100000 := by omega
  have q3 : w.length + 1 ≤ 100000 := by omega
  have q4 : s.length + 1 + w.length ≤ 100000 := by omega
  have q5 : s.length + 1 + w.length + 1 ≤ 100000 := by omega
  rw [sf4_eq]
  unfold sfT4
  generalize sf5 = T
  simp [len_app, lit0, lit1, lit2, lit3, lit4, lit5, lit6, lit7, lit8, lit9, lit10, lit11, lit12, lit13, lit14, lit15, lit16, gu, gv, l1, q0, q1, q2, q3, q4, q5]
theorem sfS5 {L : List D} (hl : L.length ≤ 100) : sf5 (EF f0 way s w z (some (.li .sh, .lst L))) = sf6 (EF f0 way s w z (some (.li .sh, .lst (L ++ [D.str (s ++ Str.ofString "  " ++ w ++ Str.ofString " " ++ z), D.str (s ++ Str.ofString " " ++ w ++ Str.ofString "  " ++ z)])))) := by
  have l1 : L.length + 2 ≤ 100000 := by omega
  have q0 : s.length + 2 + w.length + 1 + z.length ≤ 100000 := by omega
  have q1 : s.length + 2 + w.length + 1 ≤ 100000 := by omega
  have q2 : s.length + 2 + w.length ≤ 100000 := by omega
  have q3 : s.length + 2 ≤ 100000 := by omega
  have q4 : s.length + 1 + w.length + 2 + z.length ≤ 100000 := by omega
  have q5 : s.length + 1 + w.length + 2 ≤ 100000 := by omega
  have q6 : s.length + 1 + w.length ≤ 100000 := by omega
  have q7 : s.length + 1 ≤ 100000 := by omega
  rw [sf5_eq]
  unfold sfT5
  generalize sf6 = T
  simp [len_app, lit0, lit1, lit2, lit3, lit4, lit5, lit6, lit7, lit8, lit9, lit10, lit11, lit12, lit13, lit14, lit15, lit16, gu, gv, l1, q0, q1, q2, q3, q4, q5, q6, q7]
theorem sfS6 {L : List D} (hl : L.length ≤ 100) : sf6 (EF f0 way s w z (some (.li .sh, .lst L))) = sf7 (EF f0 way s w z (some (.li .sh, .lst (L ++ [D.str ((Str.ofString " ") ++ s ++ Str.ofString " " ++ w ++ Str.ofString " 1")])))) := by
  have l1 : L.length + 1 ≤ 100000 := by omega
  have q0 : 1 + s.length + 1 + w.length + 2 ≤ 100000 := by omega
  have q1 : 1 + s.length + 1 + w.length ≤ 100000 := by omega
  have q2 : 1 + s.length + 1 ≤ 100000 := by omega
  have q3 : 1 + s.length ≤ 100000 := by omega
  rw [sf6_eq]
  unfold sfT6
  generalize sf7 = T
  simp [len_app, lit0, lit1, lit2, lit3, lit4, lit5, lit6, lit7, lit8, lit9, lit10, lit11, lit12, lit13, lit14, lit15, lit16, gu, gv, l1, q0, q1, q2, q3]
theorem sfS7 {L : List D} (hl : L.length ≤ 100) : sf7 (EF f0 way s w z (some (.li .sh, .lst L))) = sf8 (EF f0 way s w z (some (.li .sh, .lst (L ++ [D.str (s ++ Str.ofString " " ++ w ++ Str.ofString " " ++ z ++ Str.ofString " "), D.str (s ++ Str.ofString " " ++ w ++ Str.ofString " +" ++ z)])))) := by
  have l1 : L.length + 2 ≤ 100000 := by omega
  have q0 : s.length + 1 + w.length + 1 + z.length + 1 ≤ 100000 := by omega
  have q1 : s.length + 1 + w.length + 1 + z.length ≤ 100000 := by omega
  have q2 : s.length + 1 + w.length + 1 ≤ 100000 := by omega
  have q3 : s.length + 1 + w.length ≤ 100000 := by omega
  have q4 : s.length + 1 ≤ 100000 := by omega
  have q5 : s.length + 1 + w.length + 2 + z.length ≤ 100000 := by omega
  have q6 : s.length + 1 + w.length + 2 ≤ 100000 := by omega
  rw [sf7_eq]
  unfold sfT7
  generalize sf8 = T
  simp [len_app, lit0, lit1, lit2, lit3, lit4, lit5, lit6, lit7, lit8, lit9, lit10, lit11, lit12, lit13, lit14, lit15, lit16, gu, gv, l1, q0, q1, q2, q3, q4, q5, q6]
theorem sfS8 {L : List D} (hl : L.length ≤ 100) : sf8 (EF f0 way s w z (some (.li .sh, .lst L))) = sf9 (EF f0 way s w z (some (.li .sh, .lst (L ++ [D.str (s ++ Str.ofString " " ++ w ++ Str.ofString " -" ++ z), D.str (s ++ Str.ofString " " ++ w ++ Str.ofString " 0" ++ z), D.str (s ++ Str.ofString " " ++ w ++ Str.ofString " 0")])))) := by
  have l1 : L.length + 3 ≤ 100000 := by omega
  have q0 : s.length + 1 + w.length + 2 + z.length ≤ 100000 := by omega
  have q1 : s.length + 1 + w.length + 2 ≤ 100000 := by omega
  have q2 : s.length + 1 + w.length ≤ 100000 := by omega
  have q3 : s.length + 1 ≤ 100000 := by omega
  rw [sf8_eq]
  unfold sfT8
  generalize sf9 = T
  simp [len_app, lit0, lit1, lit2, lit3, lit4, lit5, lit6, lit7, lit8, lit9, lit10, lit11, lit12, lit13, lit14, lit15, lit16, gu, gv, l1, q0, q1, q2, q3]
theorem sfS9 {L : List D} (hl : L.length ≤ 100) : sf9 (EF f0 way s w z (some (.li .sh, .lst L))) = sf10 (EF f0 way s w z (some (.li .sh, .lst (L ++ [D.str (s ++ Str.ofString " " ++ w ++ Str.ofString " " ++ z ++ Str.ofString "a"), D.str (s ++ Str.ofString " " ++ w ++ Str.ofString " 1000000000"), D.str (Str.ofString "")])))) := by
  have l1 : L.length + 3 ≤ 100000 := by omega
  have q0 : s.length + 1 + w.length + 1 + z.length + 1 ≤ 100000 := by omega
  have q1 : s.length + 1 + w.length + 1 + z.length ≤ 100000 := by omega
  have q2 : s.length + 1 + w.length + 1 ≤ 100000 := by omega
  have q3 : s.length + 1 + w.length ≤ 100000 := by omega
  have q4 : s.length + 1 ≤ 100000 := by omega
  have q5 : s.length + 1 + w.length + 11 ≤ 100000 := by omega
  rw [sf9_eq]
  unfold sfT9
  generalize sf10 = T
  simp [len_app, lit0, lit1, lit2, lit3, lit4, lit5, lit6, lit7, lit8, lit9, lit10, lit11, lit12, lit13, lit14, lit15, lit16, gu, gv, l1, q0, q1, q2, q3, q4, q5]
theorem sfS10 {L : List D} (hl : L.length ≤ 100) : sf10 (EF f0 way s w z (some (.li .sh, .lst L))) = sf11 (EF f0 way s w z (some (.li .sh, .lst (L ++ [D.str (s ++ Str.ofString " " ++ w ++ Str.ofString " " ++ z ++ Str.ofString " 1"), D.str (s ++ Str.ofString " " ++ w ++ Str.ofString " " ++ z ++ Str.ofString "\n"), D.str (v)])))) := by
  have l1 : L.length + 3 ≤ 100000 := by omega
  have q0 : s.length + 1 + w.length + 1 + z.length + 2 ≤ 100000 := by omega
  have q1 : s.length + 1 + w.length + 1 + z.length ≤ 100000 := by omega
  have q2 : s.length + 1 + w.length + 1 ≤ 100000 := by omega
  have q3 : s.length + 1 + w.length ≤ 100000 := by omega
  have q4 : s.length + 1 ≤ 100000 := by omega
  have q5 : s.length + 1 + w.length + 1 + z.length + 1 ≤ 100000 := by omega
  rw [sf10_eq]
  unfold sfT10
  generalize sf11 = T
  simp [len_app, lit0, lit1, lit2, lit3, lit4, lit5, lit6, lit7, lit8, lit9, lit10, lit11, lit12, lit13, lit14, lit15, lit16, gu, gv, l1, q0, q1, q2, q3, q4, q5]
theorem sfS11 {L : List D} (hl : L.length ≤ 100) : sf11 (EF f0 way s w z (some (.li .sh, .lst L))) = sf12 (EF f0 way s w z (some (.li .sh, .lst (L ++ [D.str (s ++ Str.ofString " " ++ w ++ Str.ofString " " ++ z ++ Str.ofString ","), D.str (s ++ Str.ofString "," ++ w ++ Str.ofString "," ++ z), D.str (s ++ Str.ofString "west over 1")])))) := by
  have l1 : L.length + 3 ≤ 100000 := by omega
  have q0 : s.length + 1 + w.length + 1 + z.length + 1 ≤ 100000 := by omega
  have q1 : s.length + 1 + w.length + 1 + z.length ≤ 100000 := by omega
  have q2 : s.length + 1 + w.length + 1 ≤ 100000 := by omega
  have q3 : s.length + 1 + w.length ≤ 100000 := by omega
  have q4 : s.length + 1 ≤ 100000 := by omega
  have q5 : s.length + 11 ≤ 100000 := by omega
  rw [sf11_eq]
  unfold sfT11
  generalize sf12 = T
  simp [len_app, lit0, lit1, lit2, lit3, lit4, lit5, lit6, lit7, lit8, lit9, lit10, lit11, lit12, lit13, lit14, lit15, lit16, gu, gv, l1, q0, q1, q2, q3, q4, q5]
theorem sfS12 {L : List D} (hl : L.length ≤ 100) : sf12 (EF f0 way s w z (some (.li .sh, .lst L))) = sf13 (EF f0 way s w z (some (.li .sh, .lst (L ++ [D.str (s ++ Str.ofString " " ++ w ++ Str.ofString " 1_0"), D.str (s ++ Str.ofString " " ++ w ++ Str.ofString " " ++ z ++ Str.ofString "\t")])))) := by
  have l1 : L.length + 2 ≤ 100000 := by omega
  have q0 : s.length + 1 + w.length + 4 ≤ 100000 := by omega
  have q1 : s.length + 1 + w.length ≤ 100000 := by omega
  have q2 : s.length + 1 ≤ 100000 := by omega
  have q3 : s.length + 1 + w.length + 1 + z.length + 1 ≤ 100000 := by omega
  have q4 : s.length + 1 + w.length + 1 + z.length ≤ 100000 := by omega
  have q5 : s.length + 1 + w.length + 1 ≤ 100000 := by omega
  rw [sf12_eq]
  unfold sfT12
  generalize sf13 = T
  simp [len_app, lit0, lit1, lit2, lit3, lit4, lit5, lit6, lit7, lit8, lit9, lit10, lit11, lit12, lit13, lit14, lit15, lit16, gu, gv, l1, q0, q1, q2, q3, q4, q5]
theorem sfS13 {L : List D} (hl : L.length ≤ 100) : sf13 (EF f0 way s w z (some (.li .sh, .lst L))) = sf14 (EF f0 way s w z (some (.li .sh, .lst (L ++ [D.str (s ++ Str.ofString "\t" ++ w ++ Str.ofString " " ++ z), D.str (s ++ Str.ofString " " ++ w ++ Str.ofString " \t" ++ z)])))) := by
  have l1 : L.length + 2 ≤ 100000 := by omega
  have q0 : s.length + 1 + w.length + 1 + z.length ≤ 100000 := by omega
  have q1 : s.length + 1 + w.length + 1 ≤ 100000 := by omega
  have q2 : s.length + 1 + w.length ≤ 100000 := by omega
  have q3 : s.length + 1 ≤ 100000 := by omega
  have q4 : s.length + 1 + w.length + 2 + z.length ≤ 100000 := by omega
  have q5 : s.length + 1 + w.length + 2 ≤ 100000 := by omega
  rw [sf13_eq]
  unfold sfT13
  generalize sf14 = T
  simp [len_app, lit0, lit1, lit2, lit3, lit4, lit5, lit6, lit7, lit8, lit9, lit10, lit11, lit12, lit13, lit14, lit15, lit16, gu, gv, l1, q0, q1, q2, q3, q4, q5]
end
/-- the spoilt texts -/
def formsS (s w z u v : Str) : List Str := [(Str.ofString "up ") ++ w ++ Str.ofString " " ++ z,
  u ++ Str.ofString " " ++ w ++ Str.ofString " " ++ z,
  s ++ Str.ofString " Over " ++ z,
  s ++ Str.ofString " " ++ z,
  w ++ Str.ofString " " ++ z,
  s ++ Str.ofString " " ++ w,
  s ++ Str.ofString " " ++ w ++ Str.ofString " ",
  s ++ Str.ofString "  " ++ w ++ Str.ofString " " ++ z,
  s ++ Str.ofString " " ++ w ++ Str.ofString "  " ++ z,
  (Str.ofString " ") ++ s ++ Str.ofString " " ++ w ++ Str.ofString " 1",
  s ++ Str.ofString " " ++ w ++ Str.ofString " " ++ z ++ Str.ofString " ",
  s ++ Str.ofString " " ++ w ++ Str.ofString " +" ++ z,
  s ++ Str.ofString " " ++ w ++ Str.ofString " -" ++ z,
  s ++ Str.ofString " " ++ w ++ Str.ofString " 0" ++ z,
  s ++ Str.ofString " " ++ w ++ Str.ofString " 0",
  s ++ Str.ofString " " ++ w ++ Str.ofString " " ++ z ++ Str.ofString "a",
  s ++ Str.ofString " " ++ w ++ Str.ofString " 1000000000",
  Str.ofString "",
  s ++ Str.ofString " " ++ w ++ Str.ofString " " ++ z ++ Str.ofString " 1",
  s ++ Str.ofString " " ++ w ++ Str.ofString " " ++ z ++ Str.ofString "\n",
  v,
  s ++ Str.ofString " " ++ w ++ Str.ofString " " ++ z ++ Str.ofString ",",
  s ++ Str.ofString "," ++ w ++ Str.ofString "," ++ z,
  s ++ Str.ofString "west over 1",
  s ++ Str.ofString " " ++ w ++ Str.ofString " 1_0",
  s ++ Str.ofString " " ++ w ++ Str.ofString " " ++ z ++ Str.ofString "\t",
  s ++ Str.ofString "\t" ++ w ++ Str.ofString " " ++ z,
  s ++ Str.ofString " " ++ w ++ Str.ofString " \t" ++ z]
end Fd
set_option Elab.async false
set_option linter.all false
set_option maxRecDepth 100000
set_option maxHeartbeats 8000000
/-! KG: each spoilt text is refused (printed by mk14b.py). -/
namespace Fd
open Bk PySem L2
theorem tlit0 : TL.tl (Str.ofString "up ") = [117, 112, 32] := by decide +kernel
theorem tlit1 : TL.tl (Str.ofString " ") = [32] := by decide +kernel
theorem tlit2 : TL.tl (Str.ofString " Over ") = [32, 79, 118, 101, 114, 32] := by decide +kernel
theorem tlit3 : TL.tl (Str.ofString "  ") = [32, 32] := by decide +kernel
theorem tlit4 : TL.tl (Str.ofString " 1") = [32, 49] := by decide +kernel
theorem tlit5 : TL.tl (Str.ofString " +") = [32, 43] := by decide +kernel
theorem tlit6 : TL.tl (Str.ofString " -") = [32, 45] := by decide +kernel
theorem tlit7 : TL.tl (Str.ofString " 0") = [32, 48] := by decide +kernel
theorem tlit8 : TL.tl (Str.ofString "a") = [97] := by decide +kernel
theorem tlit9 : TL.tl (Str.ofString " 1000000000") = [32, 49, 48, 48, 48, 48, 48, 48, 48, 48, 48] := by decide +kernel
theorem tlit10 : TL.tl (Str.ofString "") = [] := by decide +kernel
theorem tlit11 : TL.tl (Str.ofString "\n") = [10] := by decide +kernel
theorem tlit12 : TL.tl (Str.ofString ",") = [44] := by decide +kernel
theorem tlit13 : TL.tl (Str.ofString "west over 1") = [119, 101, 115, 116, 32, 111, 118, 101, 114, 32, 49] := by decide +kernel
theorem tlit14 : TL.tl (Str.ofString " 1_0") = [32, 49, 95, 48] := by decide +kernel
theorem tlit15 : TL.tl (Str.ofString "\t") = [9] := by decide +kernel
theorem tlit16 : TL.tl (Str.ofString " \t") = [32, 9] := by decide +kernel
theorem tlit17 : TL.tl (Str.ofString "up") = [117, 112] := by decide +kernel
theorem tlit18 : TL.tl (Str.ofString "Over") = [79, 118, 101, 114] := by decide +kernel
theorem tlit19 : TL.tl (Str.ofString "+") = [43] := by decide +kernel
theorem tlit20 : TL.tl (Str.ofString "-") = [45] := by decide +kernel
theorem tlit21 : TL.tl (Str.ofString "0") = [48] := by decide +kernel
theorem tlit22 : TL.tl (Str.ofString "1000000000") = [49, 48, 48, 48, 48, 48, 48, 48, 48, 48] := by decide +kernel
theorem tlit23 : TL.tl (Str.ofString "1_0") = [49, 95, 48] := by decide +kernel
theorem tlit24 : TL.tl (Str.ofString "west") = [119, 101, 115, 116] := by decide +kernel
theorem tlit25 : TL.tl (Str.ofString "over") = [111, 118, 101, 114] := by decide +kernel
theorem tlit26 : TL.tl (Str.ofString "1") = [49] := by decide +kernel
/-- refused, and no row's end within -/
def Bad (t : Str) : Prop := F_fold_of [.str t] = .exc 7 ∧ nocs (TL.tl t) = true ∧ t.length ≤ 60
structure FH (s w z u v : Str) (sd : Side) (ov : Bool) : Prop where
  es : s = sideS sd
  ew : w = wayS ov
  zl : z.length ≤ 9
  zd : ∀ k ∈ TL.tl z, 48 ≤ k ∧ k ≤ 57
  s32 : 32 ∉ TL.tl s
  s44 : 44 ∉ TL.tl s
  w32 : 32 ∉ TL.tl w
  w44 : 44 ∉ TL.tl w
  z32 : 32 ∉ TL.tl z
  z44 : 44 ∉ TL.tl z
  u32 : 32 ∉ TL.tl u
  u44 : 44 ∉ TL.tl u
  v32 : 32 ∉ TL.tl v
  v44 : 44 ∉ TL.tl v
  sl : s.length ≤ 5
  wl : w.length ≤ 5
  ul : u.length ≤ 20
  vl : v.length ≤ 5
  us : ∀ s2 : Side, ¬ sideS s2 = u
  sw : ∀ s2 : Side, ¬ sideS s2 = s ++ Str.ofString "west"
theorem bad0 {s w z u v : Str} {sd : Side} {ov : Bool} (h : FH s w z u v sd ov) : Bad ((Str.ofString "up ") ++ w ++ Str.ofString " " ++ z) := by
  obtain ⟨es, ew, zl, zd, s32, s44, w32, w44, z32, z44, u32, u44, v32, v44, sl, wl, ul, vl, us, sw⟩ := h
  have len : ((Str.ofString "up ") ++ w ++ Str.ofString " " ++ z).length ≤ 60 := by
    try simp only [len_app, lit0, lit1, lit2, lit3, lit4, lit5, lit6, lit7, lit8, lit9, lit10, lit11, lit12, lit13, lit14, lit15, lit16]
    omega
  refine ⟨?_, ?_, len⟩
  · have sp := split3 (t := (Str.ofString "up ") ++ w ++ Str.ofString " " ++ z) (a := Str.ofString "up") (b := w) (c := z) (by simp [TL.tl_append, tlit0, tlit1, tlit2, tlit3, tlit4, tlit5, tlit6, tlit7, tlit8, tlit9, tlit10, tlit11, tlit12, tlit13, tlit14, tlit15, tlit16, tlit17, tlit18, tlit19, tlit20, tlit21, tlit22, tlit23, tlit24, tlit25, tlit26]) (by simp [TL.tl_append, tlit0, tlit1, tlit2, tlit3, tlit4, tlit5, tlit6, tlit7, tlit8, tlit9, tlit10, tlit11, tlit12, tlit13, tlit14, tlit15, tlit16, tlit17, tlit18, tlit19, tlit20, tlit21, tlit22, tlit23, tlit24, tlit25, tlit26, s32, w32, z32, u32, v32]) (by simp [TL.tl_append, tlit0, tlit1, tlit2, tlit3, tlit4, tlit5, tlit6, tlit7, tlit8, tlit9, tlit10, tlit11, tlit12, tlit13, tlit14, tlit15, tlit16, tlit17, tlit18, tlit19, tlit20, tlit21, tlit22, tlit23, tlit24, tlit25, tlit26, s32, w32, z32, u32, v32]) (by simp [TL.tl_append, tlit0, tlit1, tlit2, tlit3, tlit4, tlit5, tlit6, tlit7, tlit8, tlit9, tlit10, tlit11, tlit12, tlit13, tlit14, tlit15, tlit16, tlit17, tlit18, tlit19, tlit20, tlit21, tlit22, tlit23, tlit24, tlit25, tlit26, s32, w32, z32, u32, v32])
    exact bad_side (by omega) sp (by intro s2; cases s2 <;> decide +kernel)
  · refine nocs_free ?_
    try simp only [TL.tl_append, tlit0, tlit1, tlit2, tlit3, tlit4, tlit5, tlit6, tlit7, tlit8, tlit9, tlit10, tlit11, tlit12, tlit13, tlit14, tlit15, tlit16, tlit17, tlit18, tlit19, tlit20, tlit21, tlit22, tlit23, tlit24, tlit25, tlit26, List.mem_append, not_or]
    simp [s44, w44, z44, u44, v44]
theorem bad1 {s w z u v : Str} {sd : Side} {ov : Bool} (h : FH s w z u v sd ov) : Bad (u ++ Str.ofString " " ++ w ++ Str.ofString " " ++ z) := by
  obtain ⟨es, ew, zl, zd, s32, s44, w32, w44, z32, z44, u32, u44, v32, v44, sl, wl, ul, vl, us, sw⟩ := h
  have len : (u ++ Str.ofString " " ++ w ++ Str.ofString " " ++ z).length ≤ 60 := by
    try simp only [len_app, lit0, lit1, lit2, lit3, lit4, lit5, lit6, lit7, lit8, lit9, lit10, lit11, lit12, lit13, lit14, lit15, lit16]
    omega
  refine ⟨?_, ?_, len⟩
  · have sp := split3 (t := u ++ Str.ofString " " ++ w ++ Str.ofString " " ++ z) (a := u) (b := w) (c := z) (by simp [TL.tl_append, tlit0, tlit1, tlit2, tlit3, tlit4, tlit5, tlit6, tlit7, tlit8, tlit9, tlit10, tlit11, tlit12, tlit13, tlit14, tlit15, tlit16, tlit17, tlit18, tlit19, tlit20, tlit21, tlit22, tlit23, tlit24, tlit25, tlit26]) (by simp [TL.tl_append, tlit0, tlit1, tlit2, tlit3, tlit4, tlit5, tlit6, tlit7, tlit8, tlit9, tlit10, tlit11, tlit12, tlit13, tlit14, tlit15, tlit16, tlit17, tlit18, tlit19, tlit20, tlit21, tlit22, tlit23, tlit24, tlit25, tlit26, s32, w32, z32, u32, v32]) (by simp [TL.tl_append, tlit0, tlit1, tlit2, tlit3, tlit4, tlit5, tlit6, tlit7, tlit8, tlit9, tlit10, tlit11, tlit12, tlit13, tlit14, tlit15, tlit16, tlit17, tlit18, tlit19, tlit20, tlit21, tlit22, tlit23, tlit24, tlit25, tlit26, s32, w32, z32, u32, v32]) (by simp [TL.tl_append, tlit0, tlit1, tlit2, tlit3, tlit4, tlit5, tlit6, tlit7, tlit8, tlit9, tlit10, tlit11, tlit12, tlit13, tlit14, tlit15, tlit16, tlit17, tlit18, tlit19, tlit20, tlit21, tlit22, tlit23, tlit24, tlit25, tlit26, s32, w32, z32, u32, v32])
    exact bad_side (by omega) sp us
  · refine nocs_free ?_
    try simp only [TL.tl_append, tlit0, tlit1, tlit2, tlit3, tlit4, tlit5, tlit6, tlit7, tlit8, tlit9, tlit10, tlit11, tlit12, tlit13, tlit14, tlit15, tlit16, tlit17, tlit18, tlit19, tlit20, tlit21, tlit22, tlit23, tlit24, tlit25, tlit26, List.mem_append, not_or]
    simp [s44, w44, z44, u44, v44]
theorem bad2 {s w z u v : Str} {sd : Side} {ov : Bool} (h : FH s w z u v sd ov) : Bad (s ++ Str.ofString " Over " ++ z) := by
  obtain ⟨es, ew, zl, zd, s32, s44, w32, w44, z32, z44, u32, u44, v32, v44, sl, wl, ul, vl, us, sw⟩ := h
  have len : (s ++ Str.ofString " Over " ++ z).length ≤ 60 := by
    try simp only [len_app, lit0, lit1, lit2, lit3, lit4, lit5, lit6, lit7, lit8, lit9, lit10, lit11, lit12, lit13, lit14, lit15, lit16]
    omega
  refine ⟨?_, ?_, len⟩
  · have sp := split3 (t := s ++ Str.ofString " Over " ++ z) (a := s) (b := Str.ofString "Over") (c := z) (by simp [TL.tl_append, tlit0, tlit1, tlit2, tlit3, tlit4, tlit5, tlit6, tlit7, tlit8, tlit9, tlit10, tlit11, tlit12, tlit13, tlit14, tlit15, tlit16, tlit17, tlit18, tlit19, tlit20, tlit21, tlit22, tlit23, tlit24, tlit25, tlit26]) (by simp [TL.tl_append, tlit0, tlit1, tlit2, tlit3, tlit4, tlit5, tlit6, tlit7, tlit8, tlit9, tlit10, tlit11, tlit12, tlit13, tlit14, tlit15, tlit16, tlit17, tlit18, tlit19, tlit20, tlit21, tlit22, tlit23, tlit24, tlit25, tlit26, s32, w32, z32, u32, v32]) (by simp [TL.tl_append, tlit0, tlit1, tlit2, tlit3, tlit4, tlit5, tlit6, tlit7, tlit8, tlit9, tlit10, tlit11, tlit12, tlit13, tlit14, tlit15, tlit16, tlit17, tlit18, tlit19, tlit20, tlit21, tlit22, tlit23, tlit24, tlit25, tlit26, s32, w32, z32, u32, v32]) (by simp [TL.tl_append, tlit0, tlit1, tlit2, tlit3, tlit4, tlit5, tlit6, tlit7, tlit8, tlit9, tlit10, tlit11, tlit12, tlit13, tlit14, tlit15, tlit16, tlit17, tlit18, tlit19, tlit20, tlit21, tlit22, tlit23, tlit24, tlit25, tlit26, s32, w32, z32, u32, v32])
    subst es
    exact bad_way (by omega) sp (by decide +kernel) (by decide +kernel)
  · refine nocs_free ?_
    try simp only [TL.tl_append, tlit0, tlit1, tlit2, tlit3, tlit4, tlit5, tlit6, tlit7, tlit8, tlit9, tlit10, tlit11, tlit12, tlit13, tlit14, tlit15, tlit16, tlit17, tlit18, tlit19, tlit20, tlit21, tlit22, tlit23, tlit24, tlit25, tlit26, List.mem_append, not_or]
    simp [s44, w44, z44, u44, v44]
theorem bad3 {s w z u v : Str} {sd : Side} {ov : Bool} (h : FH s w z u v sd ov) : Bad (s ++ Str.ofString " " ++ z) := by
  obtain ⟨es, ew, zl, zd, s32, s44, w32, w44, z32, z44, u32, u44, v32, v44, sl, wl, ul, vl, us, sw⟩ := h
  have len : (s ++ Str.ofString " " ++ z).length ≤ 60 := by
    try simp only [len_app, lit0, lit1, lit2, lit3, lit4, lit5, lit6, lit7, lit8, lit9, lit10, lit11, lit12, lit13, lit14, lit15, lit16]
    omega
  refine ⟨?_, ?_, len⟩
  · refine bad_count (by omega) ?_
    simp only [TL.tl_append, tlit0, tlit1, tlit2, tlit3, tlit4, tlit5, tlit6, tlit7, tlit8, tlit9, tlit10, tlit11, tlit12, tlit13, tlit14, tlit15, tlit16, tlit17, tlit18, tlit19, tlit20, tlit21, tlit22, tlit23, tlit24, tlit25, tlit26, List.count_append, List.count_eq_zero_of_not_mem s32, List.count_eq_zero_of_not_mem w32, List.count_eq_zero_of_not_mem z32, List.count_eq_zero_of_not_mem u32, List.count_eq_zero_of_not_mem v32]
    decide
  · refine nocs_free ?_
    try simp only [TL.tl_append, tlit0, tlit1, tlit2, tlit3, tlit4, tlit5, tlit6, tlit7, tlit8, tlit9, tlit10, tlit11, tlit12, tlit13, tlit14, tlit15, tlit16, tlit17, tlit18, tlit19, tlit20, tlit21, tlit22, tlit23, tlit24, tlit25, tlit26, List.mem_append, not_or]
    simp [s44, w44, z44, u44, v44]
theorem bad4 {s w z u v : Str} {sd : Side} {ov : Bool} (h : FH s w z u v sd ov) : Bad (w ++ Str.ofString " " ++ z) := by
  obtain ⟨es, ew, zl, zd, s32, s44, w32, w44, z32, z44, u32, u44, v32, v44, sl, wl, ul, vl, us, sw⟩ := h
  have len : (w ++ Str.ofString " " ++ z).length ≤ 60 := by
    try simp only [len_app, lit0, lit1, lit2, lit3, lit4, lit5, lit6, lit7, lit8, lit9, lit10, lit11, lit12, lit13, lit14, lit15, lit16]
    omega
  refine ⟨?_, ?_, len⟩
  · refine bad_count (by omega) ?_
    simp only [TL.tl_append, tlit0, tlit1, tlit2, tlit3, tlit4, tlit5, tlit6, tlit7, tlit8, tlit9, tlit10, tlit11, tlit12, tlit13, tlit14, tlit15, tlit16, tlit17, tlit18, tlit19, tlit20, tlit21, tlit22, tlit23, tlit24, tlit25, tlit26, List.count_append, List.count_eq_zero_of_not_mem s32, List.count_eq_zero_of_not_mem w32, List.count_eq_zero_of_not_mem z32, List.count_eq_zero_of_not_mem u32, List.count_eq_zero_of_not_mem v32]
    decide
  · refine nocs_free ?_
    try simp only [TL.tl_append, tlit0, tlit1, tlit2, tlit3, tlit4, tlit5, tlit6, tlit7, tlit8, tlit9, tlit10, tlit11, tlit12, tlit13, tlit14, tlit15, tlit16, tlit17, tlit18, tlit19, tlit20, tlit21, tlit22, tlit23, tlit24, tlit25, tlit26, List.mem_append, not_or]
    simp [s44, w44, z44, u44, v44]
theorem bad5 {s w z u v : Str} {sd : Side} {ov : Bool} (h : FH s w z u v sd ov) : Bad (s ++ Str.ofString " " ++ w) := by
  obtain ⟨es, ew, zl, zd, s32, s44, w32, w44, z32, z44, u32, u44, v32, v44, sl, wl, ul, vl, us, sw⟩ := h
  have len : (s ++ Str.ofString " " ++ w).length ≤ 60 := by
    try simp only [len_app, lit0, lit1, lit2, lit3, lit4, lit5, lit6, lit7, lit8, lit9, lit10, lit11, lit12, lit13, lit14, lit15, lit16]
    omega
  refine ⟨?_, ?_, len⟩
  · refine bad_count (by omega) ?_
    simp only [TL.tl_append, tlit0, tlit1, tlit2, tlit3, tlit4, tlit5, tlit6, tlit7, tlit8, tlit9, tlit10, tlit11, tlit12, tlit13, tlit14, tlit15, tlit16, tlit17, tlit18, tlit19, tlit20, tlit21, tlit22, tlit23, tlit24, tlit25, tlit26, List.count_append, List.count_eq_zero_of_not_mem s32, List.count_eq_zero_of_not_mem w32, List.count_eq_zero_of_not_mem z32, List.count_eq_zero_of_not_mem u32, List.count_eq_zero_of_not_mem v32]
    decide
  · refine nocs_free ?_
    try simp only [TL.tl_append, tlit0, tlit1, tlit2, tlit3, tlit4, tlit5, tlit6, tlit7, tlit8, tlit9, tlit10, tlit11, tlit12, tlit13, tlit14, tlit15, tlit16, tlit17, tlit18, tlit19, tlit20, tlit21, tlit22, tlit23, tlit24, tlit25, tlit26, List.mem_append, not_or]
    simp [s44, w44, z44, u44, v44]
theorem bad6 {s w z u v : Str} {sd : Side} {ov : Bool} (h : FH s w z u v sd ov) : Bad (s ++ Str.ofString " " ++ w ++ Str.ofString " ") := by
  obtain ⟨es, ew, zl, zd, s32, s44, w32, w44, z32, z44, u32, u44, v32, v44, sl, wl, ul, vl, us, sw⟩ := h
  have len : (s ++ Str.ofString " " ++ w ++ Str.ofString " ").length ≤ 60 := by
    try simp only [len_app, lit0, lit1, lit2, lit3, lit4, lit5, lit6, lit7, lit8, lit9, lit10, lit11, lit12, lit13, lit14, lit15, lit16]
    omega
  refine ⟨?_, ?_, len⟩
  · have sp := split3 (t := s ++ Str.ofString " " ++ w ++ Str.ofString " ") (a := s) (b := w) (c := Str.ofString "") (by simp [TL.tl_append, tlit0, tlit1, tlit2, tlit3, tlit4, tlit5, tlit6, tlit7, tlit8, tlit9, tlit10, tlit11, tlit12, tlit13, tlit14, tlit15, tlit16, tlit17, tlit18, tlit19, tlit20, tlit21, tlit22, tlit23, tlit24, tlit25, tlit26]) (by simp [TL.tl_append, tlit0, tlit1, tlit2, tlit3, tlit4, tlit5, tlit6, tlit7, tlit8, tlit9, tlit10, tlit11, tlit12, tlit13, tlit14, tlit15, tlit16, tlit17, tlit18, tlit19, tlit20, tlit21, tlit22, tlit23, tlit24, tlit25, tlit26, s32, w32, z32, u32, v32]) (by simp [TL.tl_append, tlit0, tlit1, tlit2, tlit3, tlit4, tlit5, tlit6, tlit7, tlit8, tlit9, tlit10, tlit11, tlit12, tlit13, tlit14, tlit15, tlit16, tlit17, tlit18, tlit19, tlit20, tlit21, tlit22, tlit23, tlit24, tlit25, tlit26, s32, w32, z32, u32, v32]) (by simp [TL.tl_append, tlit0, tlit1, tlit2, tlit3, tlit4, tlit5, tlit6, tlit7, tlit8, tlit9, tlit10, tlit11, tlit12, tlit13, tlit14, tlit15, tlit16, tlit17, tlit18, tlit19, tlit20, tlit21, tlit22, tlit23, tlit24, tlit25, tlit26, s32, w32, z32, u32, v32])
    have cl : (Str.ofString "").length ≤ 1000 := by
      have e := TL.len_tl (Str.ofString "")
      have e2 := TL.len_tl z
      simp only [TL.tl_append, tlit0, tlit1, tlit2, tlit3, tlit4, tlit5, tlit6, tlit7, tlit8, tlit9, tlit10, tlit11, tlit12, tlit13, tlit14, tlit15, tlit16, tlit17, tlit18, tlit19, tlit20, tlit21, tlit22, tlit23, tlit24, tlit25, tlit26, List.length_append, List.length_cons, List.length_nil] at e
      omega
    subst es ew
    exact bad_crease (by omega) sp (ev_crease_bad cl (.inl rfl))
  · refine nocs_free ?_
    try simp only [TL.tl_append, tlit0, tlit1, tlit2, tlit3, tlit4, tlit5, tlit6, tlit7, tlit8, tlit9, tlit10, tlit11, tlit12, tlit13, tlit14, tlit15, tlit16, tlit17, tlit18, tlit19, tlit20, tlit21, tlit22, tlit23, tlit24, tlit25, tlit26, List.mem_append, not_or]
    simp [s44, w44, z44, u44, v44]
theorem bad7 {s w z u v : Str} {sd : Side} {ov : Bool} (h : FH s w z u v sd ov) : Bad (s ++ Str.ofString "  " ++ w ++ Str.ofString " " ++ z) := by
  obtain ⟨es, ew, zl, zd, s32, s44, w32, w44, z32, z44, u32, u44, v32, v44, sl, wl, ul, vl, us, sw⟩ := h
  have len : (s ++ Str.ofString "  " ++ w ++ Str.ofString " " ++ z).length ≤ 60 := by
    try simp only [len_app, lit0, lit1, lit2, lit3, lit4, lit5, lit6, lit7, lit8, lit9, lit10, lit11, lit12, lit13, lit14, lit15, lit16]
    omega
  refine ⟨?_, ?_, len⟩
  · refine bad_count (by omega) ?_
    simp only [TL.tl_append, tlit0, tlit1, tlit2, tlit3, tlit4, tlit5, tlit6, tlit7, tlit8, tlit9, tlit10, tlit11, tlit12, tlit13, tlit14, tlit15, tlit16, tlit17, tlit18, tlit19, tlit20, tlit21, tlit22, tlit23, tlit24, tlit25, tlit26, List.count_append, List.count_eq_zero_of_not_mem s32, List.count_eq_zero_of_not_mem w32, List.count_eq_zero_of_not_mem z32, List.count_eq_zero_of_not_mem u32, List.count_eq_zero_of_not_mem v32]
    decide
  · refine nocs_free ?_
    try simp only [TL.tl_append, tlit0, tlit1, tlit2, tlit3, tlit4, tlit5, tlit6, tlit7, tlit8, tlit9, tlit10, tlit11, tlit12, tlit13, tlit14, tlit15, tlit16, tlit17, tlit18, tlit19, tlit20, tlit21, tlit22, tlit23, tlit24, tlit25, tlit26, List.mem_append, not_or]
    simp [s44, w44, z44, u44, v44]
theorem bad8 {s w z u v : Str} {sd : Side} {ov : Bool} (h : FH s w z u v sd ov) : Bad (s ++ Str.ofString " " ++ w ++ Str.ofString "  " ++ z) := by
  obtain ⟨es, ew, zl, zd, s32, s44, w32, w44, z32, z44, u32, u44, v32, v44, sl, wl, ul, vl, us, sw⟩ := h
  have len : (s ++ Str.ofString " " ++ w ++ Str.ofString "  " ++ z).length ≤ 60 := by
    try simp only [len_app, lit0, lit1, lit2, lit3, lit4, lit5, lit6, lit7, lit8, lit9, lit10, lit11, lit12, lit13, lit14, lit15, lit16]
    omega
  refine ⟨?_, ?_, len⟩
  · refine bad_count (by omega) ?_
    simp only [TL.tl_append, tlit0, tlit1, tlit2, tlit3, tlit4, tlit5, tlit6, tlit7, tlit8, tlit9, tlit10, tlit11, tlit12, tlit13, tlit14, tlit15, tlit16, tlit17, tlit18, tlit19, tlit20, tlit21, tlit22, tlit23, tlit24, tlit25, tlit26, List.count_append, List.count_eq_zero_of_not_mem s32, List.count_eq_zero_of_not_mem w32, List.count_eq_zero_of_not_mem z32, List.count_eq_zero_of_not_mem u32, List.count_eq_zero_of_not_mem v32]
    decide
  · refine nocs_free ?_
    try simp only [TL.tl_append, tlit0, tlit1, tlit2, tlit3, tlit4, tlit5, tlit6, tlit7, tlit8, tlit9, tlit10, tlit11, tlit12, tlit13, tlit14, tlit15, tlit16, tlit17, tlit18, tlit19, tlit20, tlit21, tlit22, tlit23, tlit24, tlit25, tlit26, List.mem_append, not_or]
    simp [s44, w44, z44, u44, v44]
theorem bad9 {s w z u v : Str} {sd : Side} {ov : Bool} (h : FH s w z u v sd ov) : Bad ((Str.ofString " ") ++ s ++ Str.ofString " " ++ w ++ Str.ofString " 1") := by
  obtain ⟨es, ew, zl, zd, s32, s44, w32, w44, z32, z44, u32, u44, v32, v44, sl, wl, ul, vl, us, sw⟩ := h
  have len : ((Str.ofString " ") ++ s ++ Str.ofString " " ++ w ++ Str.ofString " 1").length ≤ 60 := by
    try simp only [len_app, lit0, lit1, lit2, lit3, lit4, lit5, lit6, lit7, lit8, lit9, lit10, lit11, lit12, lit13, lit14, lit15, lit16]
    omega
  refine ⟨?_, ?_, len⟩
  · refine bad_count (by omega) ?_
    simp only [TL.tl_append, tlit0, tlit1, tlit2, tlit3, tlit4, tlit5, tlit6, tlit7, tlit8, tlit9, tlit10, tlit11, tlit12, tlit13, tlit14, tlit15, tlit16, tlit17, tlit18, tlit19, tlit20, tlit21, tlit22, tlit23, tlit24, tlit25, tlit26, List.count_append, List.count_eq_zero_of_not_mem s32, List.count_eq_zero_of_not_mem w32, List.count_eq_zero_of_not_mem z32, List.count_eq_zero_of_not_mem u32, List.count_eq_zero_of_not_mem v32]
    decide
  · refine nocs_free ?_
    try simp only [TL.tl_append, tlit0, tlit1, tlit2, tlit3, tlit4, tlit5, tlit6, tlit7, tlit8, tlit9, tlit10, tlit11, tlit12, tlit13, tlit14, tlit15, tlit16, tlit17, tlit18, tlit19, tlit20, tlit21, tlit22, tlit23, tlit24, tlit25, tlit26, List.mem_append, not_or]
    simp [s44, w44, z44, u44, v44]
theorem bad10 {s w z u v : Str} {sd : Side} {ov : Bool} (h : FH s w z u v sd ov) : Bad (s ++ Str.ofString " " ++ w ++ Str.ofString " " ++ z ++ Str.ofString " ") := by
  obtain ⟨es, ew, zl, zd, s32, s44, w32, w44, z32, z44, u32, u44, v32, v44, sl, wl, ul, vl, us, sw⟩ := h
  have len : (s ++ Str.ofString " " ++ w ++ Str.ofString " " ++ z ++ Str.ofString " ").length ≤ 60 := by
    try simp only [len_app, lit0, lit1, lit2, lit3, lit4, lit5, lit6, lit7, lit8, lit9, lit10, lit11, lit12, lit13, lit14, lit15, lit16]
    omega
  refine ⟨?_, ?_, len⟩
  · refine bad_count (by omega) ?_
    simp only [TL.tl_append, tlit0, tlit1, tlit2, tlit3, tlit4, tlit5, tlit6, tlit7, tlit8, tlit9, tlit10, tlit11, tlit12, tlit13, tlit14, tlit15, tlit16, tlit17, tlit18, tlit19, tlit20, tlit21, tlit22, tlit23, tlit24, tlit25, tlit26, List.count_append, List.count_eq_zero_of_not_mem s32, List.count_eq_zero_of_not_mem w32, List.count_eq_zero_of_not_mem z32, List.count_eq_zero_of_not_mem u32, List.count_eq_zero_of_not_mem v32]
    decide
  · refine nocs_free ?_
    try simp only [TL.tl_append, tlit0, tlit1, tlit2, tlit3, tlit4, tlit5, tlit6, tlit7, tlit8, tlit9, tlit10, tlit11, tlit12, tlit13, tlit14, tlit15, tlit16, tlit17, tlit18, tlit19, tlit20, tlit21, tlit22, tlit23, tlit24, tlit25, tlit26, List.mem_append, not_or]
    simp [s44, w44, z44, u44, v44]
theorem bad11 {s w z u v : Str} {sd : Side} {ov : Bool} (h : FH s w z u v sd ov) : Bad (s ++ Str.ofString " " ++ w ++ Str.ofString " +" ++ z) := by
  obtain ⟨es, ew, zl, zd, s32, s44, w32, w44, z32, z44, u32, u44, v32, v44, sl, wl, ul, vl, us, sw⟩ := h
  have len : (s ++ Str.ofString " " ++ w ++ Str.ofString " +" ++ z).length ≤ 60 := by
    try simp only [len_app, lit0, lit1, lit2, lit3, lit4, lit5, lit6, lit7, lit8, lit9, lit10, lit11, lit12, lit13, lit14, lit15, lit16]
    omega
  refine ⟨?_, ?_, len⟩
  · have sp := split3 (t := s ++ Str.ofString " " ++ w ++ Str.ofString " +" ++ z) (a := s) (b := w) (c := Str.ofString "+" ++ z) (by simp [TL.tl_append, tlit0, tlit1, tlit2, tlit3, tlit4, tlit5, tlit6, tlit7, tlit8, tlit9, tlit10, tlit11, tlit12, tlit13, tlit14, tlit15, tlit16, tlit17, tlit18, tlit19, tlit20, tlit21, tlit22, tlit23, tlit24, tlit25, tlit26]) (by simp [TL.tl_append, tlit0, tlit1, tlit2, tlit3, tlit4, tlit5, tlit6, tlit7, tlit8, tlit9, tlit10, tlit11, tlit12, tlit13, tlit14, tlit15, tlit16, tlit17, tlit18, tlit19, tlit20, tlit21, tlit22, tlit23, tlit24, tlit25, tlit26, s32, w32, z32, u32, v32]) (by simp [TL.tl_append, tlit0, tlit1, tlit2, tlit3, tlit4, tlit5, tlit6, tlit7, tlit8, tlit9, tlit10, tlit11, tlit12, tlit13, tlit14, tlit15, tlit16, tlit17, tlit18, tlit19, tlit20, tlit21, tlit22, tlit23, tlit24, tlit25, tlit26, s32, w32, z32, u32, v32]) (by simp [TL.tl_append, tlit0, tlit1, tlit2, tlit3, tlit4, tlit5, tlit6, tlit7, tlit8, tlit9, tlit10, tlit11, tlit12, tlit13, tlit14, tlit15, tlit16, tlit17, tlit18, tlit19, tlit20, tlit21, tlit22, tlit23, tlit24, tlit25, tlit26, s32, w32, z32, u32, v32])
    have cl : (Str.ofString "+" ++ z).length ≤ 1000 := by
      have e := TL.len_tl (Str.ofString "+" ++ z)
      have e2 := TL.len_tl z
      simp only [TL.tl_append, tlit0, tlit1, tlit2, tlit3, tlit4, tlit5, tlit6, tlit7, tlit8, tlit9, tlit10, tlit11, tlit12, tlit13, tlit14, tlit15, tlit16, tlit17, tlit18, tlit19, tlit20, tlit21, tlit22, tlit23, tlit24, tlit25, tlit26, List.length_append, List.length_cons, List.length_nil] at e
      omega
    subst es ew
    exact bad_crease (by omega) sp (ev_crease_bad cl (.inr (.inr (.inr ⟨43, by simp [TL.tl_append, tlit0, tlit1, tlit2, tlit3, tlit4, tlit5, tlit6, tlit7, tlit8, tlit9, tlit10, tlit11, tlit12, tlit13, tlit14, tlit15, tlit16, tlit17, tlit18, tlit19, tlit20, tlit21, tlit22, tlit23, tlit24, tlit25, tlit26], by decide⟩))))
  · refine nocs_free ?_
    try simp only [TL.tl_append, tlit0, tlit1, tlit2, tlit3, tlit4, tlit5, tlit6, tlit7, tlit8, tlit9, tlit10, tlit11, tlit12, tlit13, tlit14, tlit15, tlit16, tlit17, tlit18, tlit19, tlit20, tlit21, tlit22, tlit23, tlit24, tlit25, tlit26, List.mem_append, not_or]
    simp [s44, w44, z44, u44, v44]
theorem bad12 {s w z u v : Str} {sd : Side} {ov : Bool} (h : FH s w z u v sd ov) : Bad (s ++ Str.ofString " " ++ w ++ Str.ofString " -" ++ z) := by
  obtain ⟨es, ew, zl, zd, s32, s44, w32, w44, z32, z44, u32, u44, v32, v44, sl, wl, ul, vl, us, sw⟩ := h
  have len : (s ++ Str.ofString " " ++ w ++ Str.ofString " -" ++ z).length ≤ 60 := by
    try simp only [len_app, lit0, lit1, lit2, lit3, lit4, lit5, lit6, lit7, lit8, lit9, lit10, lit11, lit12, lit13, lit14, lit15, lit16]
    omega
  refine ⟨?_, ?_, len⟩
  · have sp := split3 (t := s ++ Str.ofString " " ++ w ++ Str.ofString " -" ++ z) (a := s) (b := w) (c := Str.ofString "-" ++ z) (by simp [TL.tl_append, tlit0, tlit1, tlit2, tlit3, tlit4, tlit5, tlit6, tlit7, tlit8, tlit9, tlit10, tlit11, tlit12, tlit13, tlit14, tlit15, tlit16, tlit17, tlit18, tlit19, tlit20, tlit21, tlit22, tlit23, tlit24, tlit25, tlit26]) (by simp [TL.tl_append, tlit0, tlit1, tlit2, tlit3, tlit4, tlit5, tlit6, tlit7, tlit8, tlit9, tlit10, tlit11, tlit12, tlit13, tlit14, tlit15, tlit16, tlit17, tlit18, tlit19, tlit20, tlit21, tlit22, tlit23, tlit24, tlit25, tlit26, s32, w32, z32, u32, v32]) (by simp [TL.tl_append, tlit0, tlit1, tlit2, tlit3, tlit4, tlit5, tlit6, tlit7, tlit8, tlit9, tlit10, tlit11, tlit12, tlit13, tlit14, tlit15, tlit16, tlit17, tlit18, tlit19, tlit20, tlit21, tlit22, tlit23, tlit24, tlit25, tlit26, s32, w32, z32, u32, v32]) (by simp [TL.tl_append, tlit0, tlit1, tlit2, tlit3, tlit4, tlit5, tlit6, tlit7, tlit8, tlit9, tlit10, tlit11, tlit12, tlit13, tlit14, tlit15, tlit16, tlit17, tlit18, tlit19, tlit20, tlit21, tlit22, tlit23, tlit24, tlit25, tlit26, s32, w32, z32, u32, v32])
    have cl : (Str.ofString "-" ++ z).length ≤ 1000 := by
      have e := TL.len_tl (Str.ofString "-" ++ z)
      have e2 := TL.len_tl z
      simp only [TL.tl_append, tlit0, tlit1, tlit2, tlit3, tlit4, tlit5, tlit6, tlit7, tlit8, tlit9, tlit10, tlit11, tlit12, tlit13, tlit14, tlit15, tlit16, tlit17, tlit18, tlit19, tlit20, tlit21, tlit22, tlit23, tlit24, tlit25, tlit26, List.length_append, List.length_cons, List.length_nil] at e
      omega
    subst es ew
    exact bad_crease (by omega) sp (ev_crease_bad cl (.inr (.inr (.inr ⟨45, by simp [TL.tl_append, tlit0, tlit1, tlit2, tlit3, tlit4, tlit5, tlit6, tlit7, tlit8, tlit9, tlit10, tlit11, tlit12, tlit13, tlit14, tlit15, tlit16, tlit17, tlit18, tlit19, tlit20, tlit21, tlit22, tlit23, tlit24, tlit25, tlit26], by decide⟩))))
  · refine nocs_free ?_
    try simp only [TL.tl_append, tlit0, tlit1, tlit2, tlit3, tlit4, tlit5, tlit6, tlit7, tlit8, tlit9, tlit10, tlit11, tlit12, tlit13, tlit14, tlit15, tlit16, tlit17, tlit18, tlit19, tlit20, tlit21, tlit22, tlit23, tlit24, tlit25, tlit26, List.mem_append, not_or]
    simp [s44, w44, z44, u44, v44]
theorem bad13 {s w z u v : Str} {sd : Side} {ov : Bool} (h : FH s w z u v sd ov) : Bad (s ++ Str.ofString " " ++ w ++ Str.ofString " 0" ++ z) := by
  obtain ⟨es, ew, zl, zd, s32, s44, w32, w44, z32, z44, u32, u44, v32, v44, sl, wl, ul, vl, us, sw⟩ := h
  have len : (s ++ Str.ofString " " ++ w ++ Str.ofString " 0" ++ z).length ≤ 60 := by
    try simp only [len_app, lit0, lit1, lit2, lit3, lit4, lit5, lit6, lit7, lit8, lit9, lit10, lit11, lit12, lit13, lit14, lit15, lit16]
    omega
  refine ⟨?_, ?_, len⟩
  · have sp := split3 (t := s ++ Str.ofString " " ++ w ++ Str.ofString " 0" ++ z) (a := s) (b := w) (c := Str.ofString "0" ++ z) (by simp [TL.tl_append, tlit0, tlit1, tlit2, tlit3, tlit4, tlit5, tlit6, tlit7, tlit8, tlit9, tlit10, tlit11, tlit12, tlit13, tlit14, tlit15, tlit16, tlit17, tlit18, tlit19, tlit20, tlit21, tlit22, tlit23, tlit24, tlit25, tlit26]) (by simp [TL.tl_append, tlit0, tlit1, tlit2, tlit3, tlit4, tlit5, tlit6, tlit7, tlit8, tlit9, tlit10, tlit11, tlit12, tlit13, tlit14, tlit15, tlit16, tlit17, tlit18, tlit19, tlit20, tlit21, tlit22, tlit23, tlit24, tlit25, tlit26, s32, w32, z32, u32, v32]) (by simp [TL.tl_append, tlit0, tlit1, tlit2, tlit3, tlit4, tlit5, tlit6, tlit7, tlit8, tlit9, tlit10, tlit11, tlit12, tlit13, tlit14, tlit15, tlit16, tlit17, tlit18, tlit19, tlit20, tlit21, tlit22, tlit23, tlit24, tlit25, tlit26, s32, w32, z32, u32, v32]) (by simp [TL.tl_append, tlit0, tlit1, tlit2, tlit3, tlit4, tlit5, tlit6, tlit7, tlit8, tlit9, tlit10, tlit11, tlit12, tlit13, tlit14, tlit15, tlit16, tlit17, tlit18, tlit19, tlit20, tlit21, tlit22, tlit23, tlit24, tlit25, tlit26, s32, w32, z32, u32, v32])
    have cl : (Str.ofString "0" ++ z).length ≤ 1000 := by
      have e := TL.len_tl (Str.ofString "0" ++ z)
      have e2 := TL.len_tl z
      simp only [TL.tl_append, tlit0, tlit1, tlit2, tlit3, tlit4, tlit5, tlit6, tlit7, tlit8, tlit9, tlit10, tlit11, tlit12, tlit13, tlit14, tlit15, tlit16, tlit17, tlit18, tlit19, tlit20, tlit21, tlit22, tlit23, tlit24, tlit25, tlit26, List.length_append, List.length_cons, List.length_nil] at e
      omega
    subst es ew
    exact bad_crease (by omega) sp (ev_crease_bad cl (.inr (.inl ⟨TL.tl z, by simp [TL.tl_append, tlit0, tlit1, tlit2, tlit3, tlit4, tlit5, tlit6, tlit7, tlit8, tlit9, tlit10, tlit11, tlit12, tlit13, tlit14, tlit15, tlit16, tlit17, tlit18, tlit19, tlit20, tlit21, tlit22, tlit23, tlit24, tlit25, tlit26]⟩)))
  · refine nocs_free ?_
    try simp only [TL.tl_append, tlit0, tlit1, tlit2, tlit3, tlit4, tlit5, tlit6, tlit7, tlit8, tlit9, tlit10, tlit11, tlit12, tlit13, tlit14, tlit15, tlit16, tlit17, tlit18, tlit19, tlit20, tlit21, tlit22, tlit23, tlit24, tlit25, tlit26, List.mem_append, not_or]
    simp [s44, w44, z44, u44, v44]
theorem bad14 {s w z u v : Str} {sd : Side} {ov : Bool} (h : FH s w z u v sd ov) : Bad (s ++ Str.ofString " " ++ w ++ Str.ofString " 0") := by
  obtain ⟨es, ew, zl, zd, s32, s44, w32, w44, z32, z44, u32, u44, v32, v44, sl, wl, ul, vl, us, sw⟩ := h
  have len : (s ++ Str.ofString " " ++ w ++ Str.ofString " 0").length ≤ 60 := by
    try simp only [len_app, lit0, lit1, lit2, lit3, lit4, lit5, lit6, lit7, lit8, lit9, lit10, lit11, lit12, lit13, lit14, lit15, lit16]
    omega
  refine ⟨?_, ?_, len⟩
  · have sp := split3 (t := s ++ Str.ofString " " ++ w ++ Str.ofString " 0") (a := s) (b := w) (c := Str.ofString "0") (by simp [TL.tl_append, tlit0, tlit1, tlit2, tlit3, tlit4, tlit5, tlit6, tlit7, tlit8, tlit9, tlit10, tlit11, tlit12, tlit13, tlit14, tlit15, tlit16, tlit17, tlit18, tlit19, tlit20, tlit21, tlit22, tlit23, tlit24, tlit25, tlit26]) (by simp [TL.tl_append, tlit0, tlit1, tlit2, tlit3, tlit4, tlit5, tlit6, tlit7, tlit8, tlit9, tlit10, tlit11, tlit12, tlit13, tlit14, tlit15, tlit16, tlit17, tlit18, tlit19, tlit20, tlit21, tlit22, tlit23, tlit24, tlit25, tlit26, s32, w32, z32, u32, v32]) (by simp [TL.tl_append, tlit0, tlit1, tlit2, tlit3, tlit4, tlit5, tlit6, tlit7, tlit8, tlit9, tlit10, tlit11, tlit12, tlit13, tlit14, tlit15, tlit16, tlit17, tlit18, tlit19, tlit20, tlit21, tlit22, tlit23, tlit24, tlit25, tlit26, s32, w32, z32, u32, v32]) (by simp [TL.tl_append, tlit0, tlit1, tlit2, tlit3, tlit4, tlit5, tlit6, tlit7, tlit8, tlit9, tlit10, tlit11, tlit12, tlit13, tlit14, tlit15, tlit16, tlit17, tlit18, tlit19, tlit20, tlit21, tlit22, tlit23, tlit24, tlit25, tlit26, s32, w32, z32, u32, v32])
    have cl : (Str.ofString "0").length ≤ 1000 := by
      have e := TL.len_tl (Str.ofString "0")
      have e2 := TL.len_tl z
      simp only [TL.tl_append, tlit0, tlit1, tlit2, tlit3, tlit4, tlit5, tlit6, tlit7, tlit8, tlit9, tlit10, tlit11, tlit12, tlit13, tlit14, tlit15, tlit16, tlit17, tlit18, tlit19, tlit20, tlit21, tlit22, tlit23, tlit24, tlit25, tlit26, List.length_append, List.length_cons, List.length_nil] at e
      omega
    subst es ew
    exact bad_crease (by omega) sp (ev_crease_bad cl (.inr (.inl ⟨[], by simp [TL.tl_append, tlit0, tlit1, tlit2, tlit3, tlit4, tlit5, tlit6, tlit7, tlit8, tlit9, tlit10, tlit11, tlit12, tlit13, tlit14, tlit15, tlit16, tlit17, tlit18, tlit19, tlit20, tlit21, tlit22, tlit23, tlit24, tlit25, tlit26]⟩)))
  · refine nocs_free ?_
    try simp only [TL.tl_append, tlit0, tlit1, tlit2, tlit3, tlit4, tlit5, tlit6, tlit7, tlit8, tlit9, tlit10, tlit11, tlit12, tlit13, tlit14, tlit15, tlit16, tlit17, tlit18, tlit19, tlit20, tlit21, tlit22, tlit23, tlit24, tlit25, tlit26, List.mem_append, not_or]
    simp [s44, w44, z44, u44, v44]
theorem bad15 {s w z u v : Str} {sd : Side} {ov : Bool} (h : FH s w z u v sd ov) : Bad (s ++ Str.ofString " " ++ w ++ Str.ofString " " ++ z ++ Str.ofString "a") := by
  obtain ⟨es, ew, zl, zd, s32, s44, w32, w44, z32, z44, u32, u44, v32, v44, sl, wl, ul, vl, us, sw⟩ := h
  have len : (s ++ Str.ofString " " ++ w ++ Str.ofString " " ++ z ++ Str.ofString "a").length ≤ 60 := by
    try simp only [len_app, lit0, lit1, lit2, lit3, lit4, lit5, lit6, lit7, lit8, lit9, lit10, lit11, lit12, lit13, lit14, lit15, lit16]
    omega
  refine ⟨?_, ?_, len⟩
  · have sp := split3 (t := s ++ Str.ofString " " ++ w ++ Str.ofString " " ++ z ++ Str.ofString "a") (a := s) (b := w) (c := z ++ Str.ofString "a") (by simp [TL.tl_append, tlit0, tlit1, tlit2, tlit3, tlit4, tlit5, tlit6, tlit7, tlit8, tlit9, tlit10, tlit11, tlit12, tlit13, tlit14, tlit15, tlit16, tlit17, tlit18, tlit19, tlit20, tlit21, tlit22, tlit23, tlit24, tlit25, tlit26]) (by simp [TL.tl_append, tlit0, tlit1, tlit2, tlit3, tlit4, tlit5, tlit6, tlit7, tlit8, tlit9, tlit10, tlit11, tlit12, tlit13, tlit14, tlit15, tlit16, tlit17, tlit18, tlit19, tlit20, tlit21, tlit22, tlit23, tlit24, tlit25, tlit26, s32, w32, z32, u32, v32]) (by simp [TL.tl_append, tlit0, tlit1, tlit2, tlit3, tlit4, tlit5, tlit6, tlit7, tlit8, tlit9, tlit10, tlit11, tlit12, tlit13, tlit14, tlit15, tlit16, tlit17, tlit18, tlit19, tlit20, tlit21, tlit22, tlit23, tlit24, tlit25, tlit26, s32, w32, z32, u32, v32]) (by simp [TL.tl_append, tlit0, tlit1, tlit2, tlit3, tlit4, tlit5, tlit6, tlit7, tlit8, tlit9, tlit10, tlit11, tlit12, tlit13, tlit14, tlit15, tlit16, tlit17, tlit18, tlit19, tlit20, tlit21, tlit22, tlit23, tlit24, tlit25, tlit26, s32, w32, z32, u32, v32])
    have cl : (z ++ Str.ofString "a").length ≤ 1000 := by
      have e := TL.len_tl (z ++ Str.ofString "a")
      have e2 := TL.len_tl z
      simp only [TL.tl_append, tlit0, tlit1, tlit2, tlit3, tlit4, tlit5, tlit6, tlit7, tlit8, tlit9, tlit10, tlit11, tlit12, tlit13, tlit14, tlit15, tlit16, tlit17, tlit18, tlit19, tlit20, tlit21, tlit22, tlit23, tlit24, tlit25, tlit26, List.length_append, List.length_cons, List.length_nil] at e
      omega
    subst es ew
    exact bad_crease (by omega) sp (ev_crease_bad cl (.inr (.inr (.inr ⟨97, by simp [TL.tl_append, tlit0, tlit1, tlit2, tlit3, tlit4, tlit5, tlit6, tlit7, tlit8, tlit9, tlit10, tlit11, tlit12, tlit13, tlit14, tlit15, tlit16, tlit17, tlit18, tlit19, tlit20, tlit21, tlit22, tlit23, tlit24, tlit25, tlit26], by decide⟩))))
  · refine nocs_free ?_
    try simp only [TL.tl_append, tlit0, tlit1, tlit2, tlit3, tlit4, tlit5, tlit6, tlit7, tlit8, tlit9, tlit10, tlit11, tlit12, tlit13, tlit14, tlit15, tlit16, tlit17, tlit18, tlit19, tlit20, tlit21, tlit22, tlit23, tlit24, tlit25, tlit26, List.mem_append, not_or]
    simp [s44, w44, z44, u44, v44]
theorem bad16 {s w z u v : Str} {sd : Side} {ov : Bool} (h : FH s w z u v sd ov) : Bad (s ++ Str.ofString " " ++ w ++ Str.ofString " 1000000000") := by
  obtain ⟨es, ew, zl, zd, s32, s44, w32, w44, z32, z44, u32, u44, v32, v44, sl, wl, ul, vl, us, sw⟩ := h
  have len : (s ++ Str.ofString " " ++ w ++ Str.ofString " 1000000000").length ≤ 60 := by
    try simp only [len_app, lit0, lit1, lit2, lit3, lit4, lit5, lit6, lit7, lit8, lit9, lit10, lit11, lit12, lit13, lit14, lit15, lit16]
    omega
  refine ⟨?_, ?_, len⟩
  · have sp := split3 (t := s ++ Str.ofString " " ++ w ++ Str.ofString " 1000000000") (a := s) (b := w) (c := Str.ofString "1000000000") (by simp [TL.tl_append, tlit0, tlit1, tlit2, tlit3, tlit4, tlit5, tlit6, tlit7, tlit8, tlit9, tlit10, tlit11, tlit12, tlit13, tlit14, tlit15, tlit16, tlit17, tlit18, tlit19, tlit20, tlit21, tlit22, tlit23, tlit24, tlit25, tlit26]) (by simp [TL.tl_append, tlit0, tlit1, tlit2, tlit3, tlit4, tlit5, tlit6, tlit7, tlit8, tlit9, tlit10, tlit11, tlit12, tlit13, tlit14, tlit15, tlit16, tlit17, tlit18, tlit19, tlit20, tlit21, tlit22, tlit23, tlit24, tlit25, tlit26, s32, w32, z32, u32, v32]) (by simp [TL.tl_append, tlit0, tlit1, tlit2, tlit3, tlit4, tlit5, tlit6, tlit7, tlit8, tlit9, tlit10, tlit11, tlit12, tlit13, tlit14, tlit15, tlit16, tlit17, tlit18, tlit19, tlit20, tlit21, tlit22, tlit23, tlit24, tlit25, tlit26, s32, w32, z32, u32, v32]) (by simp [TL.tl_append, tlit0, tlit1, tlit2, tlit3, tlit4, tlit5, tlit6, tlit7, tlit8, tlit9, tlit10, tlit11, tlit12, tlit13, tlit14, tlit15, tlit16, tlit17, tlit18, tlit19, tlit20, tlit21, tlit22, tlit23, tlit24, tlit25, tlit26, s32, w32, z32, u32, v32])
    have cl : (Str.ofString "1000000000").length ≤ 1000 := by
      have e := TL.len_tl (Str.ofString "1000000000")
      have e2 := TL.len_tl z
      simp only [TL.tl_append, tlit0, tlit1, tlit2, tlit3, tlit4, tlit5, tlit6, tlit7, tlit8, tlit9, tlit10, tlit11, tlit12, tlit13, tlit14, tlit15, tlit16, tlit17, tlit18, tlit19, tlit20, tlit21, tlit22, tlit23, tlit24, tlit25, tlit26, List.length_append, List.length_cons, List.length_nil] at e
      omega
    subst es ew
    exact bad_crease (by omega) sp (ev_crease_bad cl (.inr (.inr (.inl (by decide +kernel)))))
  · refine nocs_free ?_
    try simp only [TL.tl_append, tlit0, tlit1, tlit2, tlit3, tlit4, tlit5, tlit6, tlit7, tlit8, tlit9, tlit10, tlit11, tlit12, tlit13, tlit14, tlit15, tlit16, tlit17, tlit18, tlit19, tlit20, tlit21, tlit22, tlit23, tlit24, tlit25, tlit26, List.mem_append, not_or]
    simp [s44, w44, z44, u44, v44]
theorem bad17 {s w z u v : Str} {sd : Side} {ov : Bool} (h : FH s w z u v sd ov) : Bad (Str.ofString "") := by
  obtain ⟨es, ew, zl, zd, s32, s44, w32, w44, z32, z44, u32, u44, v32, v44, sl, wl, ul, vl, us, sw⟩ := h
  have len : (Str.ofString "").length ≤ 60 := by
    try simp only [len_app, lit0, lit1, lit2, lit3, lit4, lit5, lit6, lit7, lit8, lit9, lit10, lit11, lit12, lit13, lit14, lit15, lit16]
    omega
  refine ⟨?_, ?_, len⟩
  · refine bad_count (by omega) ?_
    simp only [TL.tl_append, tlit0, tlit1, tlit2, tlit3, tlit4, tlit5, tlit6, tlit7, tlit8, tlit9, tlit10, tlit11, tlit12, tlit13, tlit14, tlit15, tlit16, tlit17, tlit18, tlit19, tlit20, tlit21, tlit22, tlit23, tlit24, tlit25, tlit26, List.count_append, List.count_eq_zero_of_not_mem s32, List.count_eq_zero_of_not_mem w32, List.count_eq_zero_of_not_mem z32, List.count_eq_zero_of_not_mem u32, List.count_eq_zero_of_not_mem v32]
    decide
  · refine nocs_free ?_
    try simp only [TL.tl_append, tlit0, tlit1, tlit2, tlit3, tlit4, tlit5, tlit6, tlit7, tlit8, tlit9, tlit10, tlit11, tlit12, tlit13, tlit14, tlit15, tlit16, tlit17, tlit18, tlit19, tlit20, tlit21, tlit22, tlit23, tlit24, tlit25, tlit26, List.mem_append, not_or]
    simp [s44, w44, z44, u44, v44]
theorem bad18 {s w z u v : Str} {sd : Side} {ov : Bool} (h : FH s w z u v sd ov) : Bad (s ++ Str.ofString " " ++ w ++ Str.ofString " " ++ z ++ Str.ofString " 1") := by
  obtain ⟨es, ew, zl, zd, s32, s44, w32, w44, z32, z44, u32, u44, v32, v44, sl, wl, ul, vl, us, sw⟩ := h
  have len : (s ++ Str.ofString " " ++ w ++ Str.ofString " " ++ z ++ Str.ofString " 1").length ≤ 60 := by
    try simp only [len_app, lit0, lit1, lit2, lit3, lit4, lit5, lit6, lit7, lit8, lit9, lit10, lit11, lit12, lit13, lit14, lit15, lit16]
    omega
  refine ⟨?_, ?_, len⟩
  · refine bad_count (by omega) ?_
    simp only [TL.tl_append, tlit0, tlit1, tlit2, tlit3, tlit4, tlit5, tlit6, tlit7, tlit8, tlit9, tlit10, tlit11, tlit12, tlit13, tlit14, tlit15, tlit16, tlit17, tlit18, tlit19, tlit20, tlit21, tlit22, tlit23, tlit24, tlit25, tlit26, List.count_append, List.count_eq_zero_of_not_mem s32, List.count_eq_zero_of_not_mem w32, List.count_eq_zero_of_not_mem z32, List.count_eq_zero_of_not_mem u32, List.count_eq_zero_of_not_mem v32]
    decide
  · refine nocs_free ?_
    try simp only [TL.tl_append, tlit0, tlit1, tlit2, tlit3, tlit4, tlit5, tlit6, tlit7, tlit8, tlit9, tlit10, tlit11, tlit12, tlit13, tlit14, tlit15, tlit16, tlit17, tlit18, tlit19, tlit20, tlit21, tlit22, tlit23, tlit24, tlit25, tlit26, List.mem_append, not_or]
    simp [s44, w44, z44, u44, v44]
theorem bad19 {s w z u v : Str} {sd : Side} {ov : Bool} (h : FH s w z u v sd ov) : Bad (s ++ Str.ofString " " ++ w ++ Str.ofString " " ++ z ++ Str.ofString "\n") := by
  obtain ⟨es, ew, zl, zd, s32, s44, w32, w44, z32, z44, u32, u44, v32, v44, sl, wl, ul, vl, us, sw⟩ := h
  have len : (s ++ Str.ofString " " ++ w ++ Str.ofString " " ++ z ++ Str.ofString "\n").length ≤ 60 := by
    try simp only [len_app, lit0, lit1, lit2, lit3, lit4, lit5, lit6, lit7, lit8, lit9, lit10, lit11, lit12, lit13, lit14, lit15, lit16]
    omega
  refine ⟨?_, ?_, len⟩
  · have sp := split3 (t := s ++ Str.ofString " " ++ w ++ Str.ofString " " ++ z ++ Str.ofString "\n") (a := s) (b := w) (c := z ++ Str.ofString "\n") (by simp [TL.tl_append, tlit0, tlit1, tlit2, tlit3, tlit4, tlit5, tlit6, tlit7, tlit8, tlit9, tlit10, tlit11, tlit12, tlit13, tlit14, tlit15, tlit16, tlit17, tlit18, tlit19, tlit20, tlit21, tlit22, tlit23, tlit24, tlit25, tlit26]) (by simp [TL.tl_append, tlit0, tlit1, tlit2, tlit3, tlit4, tlit5, tlit6, tlit7, tlit8, tlit9, tlit10, tlit11, tlit12, tlit13, tlit14, tlit15, tlit16, tlit17, tlit18, tlit19, tlit20, tlit21, tlit22, tlit23, tlit24, tlit25, tlit26, s32, w32, z32, u32, v32]) (by simp [TL.tl_append, tlit0, tlit1, tlit2, tlit3, tlit4, tlit5, tlit6, tlit7, tlit8, tlit9, tlit10, tlit11, tlit12, tlit13, tlit14, tlit15, tlit16, tlit17, tlit18, tlit19, tlit20, tlit21, tlit22, tlit23, tlit24, tlit25, tlit26, s32, w32, z32, u32, v32]) (by simp [TL.tl_append, tlit0, tlit1, tlit2, tlit3, tlit4, tlit5, tlit6, tlit7, tlit8, tlit9, tlit10, tlit11, tlit12, tlit13, tlit14, tlit15, tlit16, tlit17, tlit18, tlit19, tlit20, tlit21, tlit22, tlit23, tlit24, tlit25, tlit26, s32, w32, z32, u32, v32])
    have cl : (z ++ Str.ofString "\n").length ≤ 1000 := by
      have e := TL.len_tl (z ++ Str.ofString "\n")
      have e2 := TL.len_tl z
      simp only [TL.tl_append, tlit0, tlit1, tlit2, tlit3, tlit4, tlit5, tlit6, tlit7, tlit8, tlit9, tlit10, tlit11, tlit12, tlit13, tlit14, tlit15, tlit16, tlit17, tlit18, tlit19, tlit20, tlit21, tlit22, tlit23, tlit24, tlit25, tlit26, List.length_append, List.length_cons, List.length_nil] at e
      omega
    subst es ew
    exact bad_crease (by omega) sp (ev_crease_bad cl (.inr (.inr (.inr ⟨10, by simp [TL.tl_append, tlit0, tlit1, tlit2, tlit3, tlit4, tlit5, tlit6, tlit7, tlit8, tlit9, tlit10, tlit11, tlit12, tlit13, tlit14, tlit15, tlit16, tlit17, tlit18, tlit19, tlit20, tlit21, tlit22, tlit23, tlit24, tlit25, tlit26], by decide⟩))))
  · refine nocs_free ?_
    try simp only [TL.tl_append, tlit0, tlit1, tlit2, tlit3, tlit4, tlit5, tlit6, tlit7, tlit8, tlit9, tlit10, tlit11, tlit12, tlit13, tlit14, tlit15, tlit16, tlit17, tlit18, tlit19, tlit20, tlit21, tlit22, tlit23, tlit24, tlit25, tlit26, List.mem_append, not_or]
    simp [s44, w44, z44, u44, v44]
theorem bad20 {s w z u v : Str} {sd : Side} {ov : Bool} (h : FH s w z u v sd ov) : Bad (v) := by
  obtain ⟨es, ew, zl, zd, s32, s44, w32, w44, z32, z44, u32, u44, v32, v44, sl, wl, ul, vl, us, sw⟩ := h
  have len : (v).length ≤ 60 := by
    try simp only [len_app, lit0, lit1, lit2, lit3, lit4, lit5, lit6, lit7, lit8, lit9, lit10, lit11, lit12, lit13, lit14, lit15, lit16]
    omega
  refine ⟨?_, ?_, len⟩
  · refine bad_count (by omega) ?_
    simp only [TL.tl_append, tlit0, tlit1, tlit2, tlit3, tlit4, tlit5, tlit6, tlit7, tlit8, tlit9, tlit10, tlit11, tlit12, tlit13, tlit14, tlit15, tlit16, tlit17, tlit18, tlit19, tlit20, tlit21, tlit22, tlit23, tlit24, tlit25, tlit26, List.count_append, List.count_eq_zero_of_not_mem s32, List.count_eq_zero_of_not_mem w32, List.count_eq_zero_of_not_mem z32, List.count_eq_zero_of_not_mem u32, List.count_eq_zero_of_not_mem v32]
    decide
  · refine nocs_free ?_
    try simp only [TL.tl_append, tlit0, tlit1, tlit2, tlit3, tlit4, tlit5, tlit6, tlit7, tlit8, tlit9, tlit10, tlit11, tlit12, tlit13, tlit14, tlit15, tlit16, tlit17, tlit18, tlit19, tlit20, tlit21, tlit22, tlit23, tlit24, tlit25, tlit26, List.mem_append, not_or]
    simp [s44, w44, z44, u44, v44]
theorem bad21 {s w z u v : Str} {sd : Side} {ov : Bool} (h : FH s w z u v sd ov) : Bad (s ++ Str.ofString " " ++ w ++ Str.ofString " " ++ z ++ Str.ofString ",") := by
  obtain ⟨es, ew, zl, zd, s32, s44, w32, w44, z32, z44, u32, u44, v32, v44, sl, wl, ul, vl, us, sw⟩ := h
  have len : (s ++ Str.ofString " " ++ w ++ Str.ofString " " ++ z ++ Str.ofString ",").length ≤ 60 := by
    try simp only [len_app, lit0, lit1, lit2, lit3, lit4, lit5, lit6, lit7, lit8, lit9, lit10, lit11, lit12, lit13, lit14, lit15, lit16]
    omega
  refine ⟨?_, ?_, len⟩
  · have sp := split3 (t := s ++ Str.ofString " " ++ w ++ Str.ofString " " ++ z ++ Str.ofString ",") (a := s) (b := w) (c := z ++ Str.ofString ",") (by simp [TL.tl_append, tlit0, tlit1, tlit2, tlit3, tlit4, tlit5, tlit6, tlit7, tlit8, tlit9, tlit10, tlit11, tlit12, tlit13, tlit14, tlit15, tlit16, tlit17, tlit18, tlit19, tlit20, tlit21, tlit22, tlit23, tlit24, tlit25, tlit26]) (by simp [TL.tl_append, tlit0, tlit1, tlit2, tlit3, tlit4, tlit5, tlit6, tlit7, tlit8, tlit9, tlit10, tlit11, tlit12, tlit13, tlit14, tlit15, tlit16, tlit17, tlit18, tlit19, tlit20, tlit21, tlit22, tlit23, tlit24, tlit25, tlit26, s32, w32, z32, u32, v32]) (by simp [TL.tl_append, tlit0, tlit1, tlit2, tlit3, tlit4, tlit5, tlit6, tlit7, tlit8, tlit9, tlit10, tlit11, tlit12, tlit13, tlit14, tlit15, tlit16, tlit17, tlit18, tlit19, tlit20, tlit21, tlit22, tlit23, tlit24, tlit25, tlit26, s32, w32, z32, u32, v32]) (by simp [TL.tl_append, tlit0, tlit1, tlit2, tlit3, tlit4, tlit5, tlit6, tlit7, tlit8, tlit9, tlit10, tlit11, tlit12, tlit13, tlit14, tlit15, tlit16, tlit17, tlit18, tlit19, tlit20, tlit21, tlit22, tlit23, tlit24, tlit25, tlit26, s32, w32, z32, u32, v32])
    have cl : (z ++ Str.ofString ",").length ≤ 1000 := by
      have e := TL.len_tl (z ++ Str.ofString ",")
      have e2 := TL.len_tl z
      simp only [TL.tl_append, tlit0, tlit1, tlit2, tlit3, tlit4, tlit5, tlit6, tlit7, tlit8, tlit9, tlit10, tlit11, tlit12, tlit13, tlit14, tlit15, tlit16, tlit17, tlit18, tlit19, tlit20, tlit21, tlit22, tlit23, tlit24, tlit25, tlit26, List.length_append, List.length_cons, List.length_nil] at e
      omega
    subst es ew
    exact bad_crease (by omega) sp (ev_crease_bad cl (.inr (.inr (.inr ⟨44, by simp [TL.tl_append, tlit0, tlit1, tlit2, tlit3, tlit4, tlit5, tlit6, tlit7, tlit8, tlit9, tlit10, tlit11, tlit12, tlit13, tlit14, tlit15, tlit16, tlit17, tlit18, tlit19, tlit20, tlit21, tlit22, tlit23, tlit24, tlit25, tlit26], by decide⟩))))
  · rw [TL.tl_append, tlit12]
    refine nocs_last (nocs_free ?_) (by decide)
    simp only [TL.tl_append, tlit0, tlit1, tlit2, tlit3, tlit4, tlit5, tlit6, tlit7, tlit8, tlit9, tlit10, tlit11, tlit12, tlit13, tlit14, tlit15, tlit16, tlit17, tlit18, tlit19, tlit20, tlit21, tlit22, tlit23, tlit24, tlit25, tlit26, List.mem_append, not_or]
    simp [s44, w44, z44, u44, v44]
theorem bad22 {s w z u v : Str} {sd : Side} {ov : Bool} (h : FH s w z u v sd ov) : Bad (s ++ Str.ofString "," ++ w ++ Str.ofString "," ++ z) := by
  obtain ⟨es, ew, zl, zd, s32, s44, w32, w44, z32, z44, u32, u44, v32, v44, sl, wl, ul, vl, us, sw⟩ := h
  have len : (s ++ Str.ofString "," ++ w ++ Str.ofString "," ++ z).length ≤ 60 := by
    try simp only [len_app, lit0, lit1, lit2, lit3, lit4, lit5, lit6, lit7, lit8, lit9, lit10, lit11, lit12, lit13, lit14, lit15, lit16]
    omega
  refine ⟨?_, ?_, len⟩
  · refine bad_count (by omega) ?_
    simp only [TL.tl_append, tlit0, tlit1, tlit2, tlit3, tlit4, tlit5, tlit6, tlit7, tlit8, tlit9, tlit10, tlit11, tlit12, tlit13, tlit14, tlit15, tlit16, tlit17, tlit18, tlit19, tlit20, tlit21, tlit22, tlit23, tlit24, tlit25, tlit26, List.count_append, List.count_eq_zero_of_not_mem s32, List.count_eq_zero_of_not_mem w32, List.count_eq_zero_of_not_mem z32, List.count_eq_zero_of_not_mem u32, List.count_eq_zero_of_not_mem v32]
    decide
  · refine nocs_blank ?_
    simp only [TL.tl_append, tlit0, tlit1, tlit2, tlit3, tlit4, tlit5, tlit6, tlit7, tlit8, tlit9, tlit10, tlit11, tlit12, tlit13, tlit14, tlit15, tlit16, tlit17, tlit18, tlit19, tlit20, tlit21, tlit22, tlit23, tlit24, tlit25, tlit26, List.mem_append, not_or]
    simp [s32, w32, z32, u32, v32]
theorem bad23 {s w z u v : Str} {sd : Side} {ov : Bool} (h : FH s w z u v sd ov) : Bad (s ++ Str.ofString "west over 1") := by
  obtain ⟨es, ew, zl, zd, s32, s44, w32, w44, z32, z44, u32, u44, v32, v44, sl, wl, ul, vl, us, sw⟩ := h
  have len : (s ++ Str.ofString "west over 1").length ≤ 60 := by
    try simp only [len_app, lit0, lit1, lit2, lit3, lit4, lit5, lit6, lit7, lit8, lit9, lit10, lit11, lit12, lit13, lit14, lit15, lit16]
    omega
  refine ⟨?_, ?_, len⟩
  · have sp := split3 (t := s ++ Str.ofString "west over 1") (a := s ++ Str.ofString "west") (b := Str.ofString "over") (c := Str.ofString "1") (by simp [TL.tl_append, tlit0, tlit1, tlit2, tlit3, tlit4, tlit5, tlit6, tlit7, tlit8, tlit9, tlit10, tlit11, tlit12, tlit13, tlit14, tlit15, tlit16, tlit17, tlit18, tlit19, tlit20, tlit21, tlit22, tlit23, tlit24, tlit25, tlit26]) (by simp [TL.tl_append, tlit0, tlit1, tlit2, tlit3, tlit4, tlit5, tlit6, tlit7, tlit8, tlit9, tlit10, tlit11, tlit12, tlit13, tlit14, tlit15, tlit16, tlit17, tlit18, tlit19, tlit20, tlit21, tlit22, tlit23, tlit24, tlit25, tlit26, s32, w32, z32, u32, v32]) (by simp [TL.tl_append, tlit0, tlit1, tlit2, tlit3, tlit4, tlit5, tlit6, tlit7, tlit8, tlit9, tlit10, tlit11, tlit12, tlit13, tlit14, tlit15, tlit16, tlit17, tlit18, tlit19, tlit20, tlit21, tlit22, tlit23, tlit24, tlit25, tlit26, s32, w32, z32, u32, v32]) (by simp [TL.tl_append, tlit0, tlit1, tlit2, tlit3, tlit4, tlit5, tlit6, tlit7, tlit8, tlit9, tlit10, tlit11, tlit12, tlit13, tlit14, tlit15, tlit16, tlit17, tlit18, tlit19, tlit20, tlit21, tlit22, tlit23, tlit24, tlit25, tlit26, s32, w32, z32, u32, v32])
    exact bad_side (by omega) sp sw
  · refine nocs_free ?_
    try simp only [TL.tl_append, tlit0, tlit1, tlit2, tlit3, tlit4, tlit5, tlit6, tlit7, tlit8, tlit9, tlit10, tlit11, tlit12, tlit13, tlit14, tlit15, tlit16, tlit17, tlit18, tlit19, tlit20, tlit21, tlit22, tlit23, tlit24, tlit25, tlit26, List.mem_append, not_or]
    simp [s44, w44, z44, u44, v44]
theorem bad24 {s w z u v : Str} {sd : Side} {ov : Bool} (h : FH s w z u v sd ov) : Bad (s ++ Str.ofString " " ++ w ++ Str.ofString " 1_0") := by
  obtain ⟨es, ew, zl, zd, s32, s44, w32, w44, z32, z44, u32, u44, v32, v44, sl, wl, ul, vl, us, sw⟩ := h
  have len : (s ++ Str.ofString " " ++ w ++ Str.ofString " 1_0").length ≤ 60 := by
    try simp only [len_app, lit0, lit1, lit2, lit3, lit4, lit5, lit6, lit7, lit8, lit9, lit10, lit11, lit12, lit13, lit14, lit15, lit16]
    omega
  refine ⟨?_, ?_, len⟩
  · have sp := split3 (t := s ++ Str.ofString " " ++ w ++ Str.ofString " 1_0") (a := s) (b := w) (c := Str.ofString "1_0") (by simp [TL.tl_append, tlit0, tlit1, tlit2, tlit3, tlit4, tlit5, tlit6, tlit7, tlit8, tlit9, tlit10, tlit11, tlit12, tlit13, tlit14, tlit15, tlit16, tlit17, tlit18, tlit19, tlit20, tlit21, tlit22, tlit23, tlit24, tlit25, tlit26]) (by simp [TL.tl_append, tlit0, tlit1, tlit2, tlit3, tlit4, tlit5, tlit6, tlit7, tlit8, tlit9, tlit10, tlit11, tlit12, tlit13, tlit14, tlit15, tlit16, tlit17, tlit18, tlit19, tlit20, tlit21, tlit22, tlit23, tlit24, tlit25, tlit26, s32, w32, z32, u32, v32]) (by simp [TL.tl_append, tlit0, tlit1, tlit2, tlit3, tlit4, tlit5, tlit6, tlit7, tlit8, tlit9, tlit10, tlit11, tlit12, tlit13, tlit14, tlit15, tlit16, tlit17, tlit18, tlit19, tlit20, tlit21, tlit22, tlit23, tlit24, tlit25, tlit26, s32, w32, z32, u32, v32]) (by simp [TL.tl_append, tlit0, tlit1, tlit2, tlit3, tlit4, tlit5, tlit6, tlit7, tlit8, tlit9, tlit10, tlit11, tlit12, tlit13, tlit14, tlit15, tlit16, tlit17, tlit18, tlit19, tlit20, tlit21, tlit22, tlit23, tlit24, tlit25, tlit26, s32, w32, z32, u32, v32])
    have cl : (Str.ofString "1_0").length ≤ 1000 := by
      have e := TL.len_tl (Str.ofString "1_0")
      have e2 := TL.len_tl z
      simp only [TL.tl_append, tlit0, tlit1, tlit2, tlit3, tlit4, tlit5, tlit6, tlit7, tlit8, tlit9, tlit10, tlit11, tlit12, tlit13, tlit14, tlit15, tlit16, tlit17, tlit18, tlit19, tlit20, tlit21, tlit22, tlit23, tlit24, tlit25, tlit26, List.length_append, List.length_cons, List.length_nil] at e
      omega
    subst es ew
    exact bad_crease (by omega) sp (ev_crease_bad cl (.inr (.inr (.inr ⟨95, by simp [TL.tl_append, tlit0, tlit1, tlit2, tlit3, tlit4, tlit5, tlit6, tlit7, tlit8, tlit9, tlit10, tlit11, tlit12, tlit13, tlit14, tlit15, tlit16, tlit17, tlit18, tlit19, tlit20, tlit21, tlit22, tlit23, tlit24, tlit25, tlit26], by decide⟩))))
  · refine nocs_free ?_
    try simp only [TL.tl_append, tlit0, tlit1, tlit2, tlit3, tlit4, tlit5, tlit6, tlit7, tlit8, tlit9, tlit10, tlit11, tlit12, tlit13, tlit14, tlit15, tlit16, tlit17, tlit18, tlit19, tlit20, tlit21, tlit22, tlit23, tlit24, tlit25, tlit26, List.mem_append, not_or]
    simp [s44, w44, z44, u44, v44]
theorem bad25 {s w z u v : Str} {sd : Side} {ov : Bool} (h : FH s w z u v sd ov) : Bad (s ++ Str.ofString " " ++ w ++ Str.ofString " " ++ z ++ Str.ofString "\t") := by
  obtain ⟨es, ew, zl, zd, s32, s44, w32, w44, z32, z44, u32, u44, v32, v44, sl, wl, ul, vl, us, sw⟩ := h
  have len : (s ++ Str.ofString " " ++ w ++ Str.ofString " " ++ z ++ Str.ofString "\t").length ≤ 60 := by
    try simp only [len_app, lit0, lit1, lit2, lit3, lit4, lit5, lit6, lit7, lit8, lit9, lit10, lit11, lit12, lit13, lit14, lit15, lit16]
    omega
  refine ⟨?_, ?_, len⟩
  · have sp := split3 (t := s ++ Str.ofString " " ++ w ++ Str.ofString " " ++ z ++ Str.ofString "\t") (a := s) (b := w) (c := z ++ Str.ofString "\t") (by simp [TL.tl_append, tlit0, tlit1, tlit2, tlit3, tlit4, tlit5, tlit6, tlit7, tlit8, tlit9, tlit10, tlit11, tlit12, tlit13, tlit14, tlit15, tlit16, tlit17, tlit18, tlit19, tlit20, tlit21, tlit22, tlit23, tlit24, tlit25, tlit26]) (by simp [TL.tl_append, tlit0, tlit1, tlit2, tlit3, tlit4, tlit5, tlit6, tlit7, tlit8, tlit9, tlit10, tlit11, tlit12, tlit13, tlit14, tlit15, tlit16, tlit17, tlit18, tlit19, tlit20, tlit21, tlit22, tlit23, tlit24, tlit25, tlit26, s32, w32, z32, u32, v32]) (by simp [TL.tl_append, tlit0, tlit1, tlit2, tlit3, tlit4, tlit5, tlit6, tlit7, tlit8, tlit9, tlit10, tlit11, tlit12, tlit13, tlit14, tlit15, tlit16, tlit17, tlit18, tlit19, tlit20, tlit21, tlit22, tlit23, tlit24, tlit25, tlit26, s32, w32, z32, u32, v32]) (by simp [TL.tl_append, tlit0, tlit1, tlit2, tlit3, tlit4, tlit5, tlit6, tlit7, tlit8, tlit9, tlit10, tlit11, tlit12, tlit13, tlit14, tlit15, tlit16, tlit17, tlit18, tlit19, tlit20, tlit21, tlit22, tlit23, tlit24, tlit25, tlit26, s32, w32, z32, u32, v32])
    have cl : (z ++ Str.ofString "\t").length ≤ 1000 := by
      have e := TL.len_tl (z ++ Str.ofString "\t")
      have e2 := TL.len_tl z
      simp only [TL.tl_append, tlit0, tlit1, tlit2, tlit3, tlit4, tlit5, tlit6, tlit7, tlit8, tlit9, tlit10, tlit11, tlit12, tlit13, tlit14, tlit15, tlit16, tlit17, tlit18, tlit19, tlit20, tlit21, tlit22, tlit23, tlit24, tlit25, tlit26, List.length_append, List.length_cons, List.length_nil] at e
      omega
    subst es ew
    exact bad_crease (by omega) sp (ev_crease_bad cl (.inr (.inr (.inr ⟨9, by simp [TL.tl_append, tlit0, tlit1, tlit2, tlit3, tlit4, tlit5, tlit6, tlit7, tlit8, tlit9, tlit10, tlit11, tlit12, tlit13, tlit14, tlit15, tlit16, tlit17, tlit18, tlit19, tlit20, tlit21, tlit22, tlit23, tlit24, tlit25, tlit26], by decide⟩))))
  · refine nocs_free ?_
    try simp only [TL.tl_append, tlit0, tlit1, tlit2, tlit3, tlit4, tlit5, tlit6, tlit7, tlit8, tlit9, tlit10, tlit11, tlit12, tlit13, tlit14, tlit15, tlit16, tlit17, tlit18, tlit19, tlit20, tlit21, tlit22, tlit23, tlit24, tlit25, tlit26, List.mem_append, not_or]
    simp [s44, w44, z44, u44, v44]
theorem bad26 {s w z u v : Str} {sd : Side} {ov : Bool} (h : FH s w z u v sd ov) : Bad (s ++ Str.ofString "\t" ++ w ++ Str.ofString " " ++ z) := by
  obtain ⟨es, ew, zl, zd, s32, s44, w32, w44, z32, z44, u32, u44, v32, v44, sl, wl, ul, vl, us, sw⟩ := h
  have len : (s ++ Str.ofString "\t" ++ w ++ Str.ofString " " ++ z).length ≤ 60 := by
    try simp only [len_app, lit0, lit1, lit2, lit3, lit4, lit5, lit6, lit7, lit8, lit9, lit10, lit11, lit12, lit13, lit14, lit15, lit16]
    omega
  refine ⟨?_, ?_, len⟩
  · refine bad_count (by omega) ?_
    simp only [TL.tl_append, tlit0, tlit1, tlit2, tlit3, tlit4, tlit5, tlit6, tlit7, tlit8, tlit9, tlit10, tlit11, tlit12, tlit13, tlit14, tlit15, tlit16, tlit17, tlit18, tlit19, tlit20, tlit21, tlit22, tlit23, tlit24, tlit25, tlit26, List.count_append, List.count_eq_zero_of_not_mem s32, List.count_eq_zero_of_not_mem w32, List.count_eq_zero_of_not_mem z32, List.count_eq_zero_of_not_mem u32, List.count_eq_zero_of_not_mem v32]
    decide
  · refine nocs_free ?_
    try simp only [TL.tl_append, tlit0, tlit1, tlit2, tlit3, tlit4, tlit5, tlit6, tlit7, tlit8, tlit9, tlit10, tlit11, tlit12, tlit13, tlit14, tlit15, tlit16, tlit17, tlit18, tlit19, tlit20, tlit21, tlit22, tlit23, tlit24, tlit25, tlit26, List.mem_append, not_or]
    simp [s44, w44, z44, u44, v44]
theorem bad27 {s w z u v : Str} {sd : Side} {ov : Bool} (h : FH s w z u v sd ov) : Bad (s ++ Str.ofString " " ++ w ++ Str.ofString " \t" ++ z) := by
  obtain ⟨es, ew, zl, zd, s32, s44, w32, w44, z32, z44, u32, u44, v32, v44, sl, wl, ul, vl, us, sw⟩ := h
  have len : (s ++ Str.ofString " " ++ w ++ Str.ofString " \t" ++ z).length ≤ 60 := by
    try simp only [len_app, lit0, lit1, lit2, lit3, lit4, lit5, lit6, lit7, lit8, lit9, lit10, lit11, lit12, lit13, lit14, lit15, lit16]
    omega
  refine ⟨?_, ?_, len⟩
  · have sp := split3 (t := s ++ Str.ofString " " ++ w ++ Str.ofString " \t" ++ z) (a := s) (b := w) (c := Str.ofString "\t" ++ z) (by simp [TL.tl_append, tlit0, tlit1, tlit2, tlit3, tlit4, tlit5, tlit6, tlit7, tlit8, tlit9, tlit10, tlit11, tlit12, tlit13, tlit14, tlit15, tlit16, tlit17, tlit18, tlit19, tlit20, tlit21, tlit22, tlit23, tlit24, tlit25, tlit26]) (by simp [TL.tl_append, tlit0, tlit1, tlit2, tlit3, tlit4, tlit5, tlit6, tlit7, tlit8, tlit9, tlit10, tlit11, tlit12, tlit13, tlit14, tlit15, tlit16, tlit17, tlit18, tlit19, tlit20, tlit21, tlit22, tlit23, tlit24, tlit25, tlit26, s32, w32, z32, u32, v32]) (by simp [TL.tl_append, tlit0, tlit1, tlit2, tlit3, tlit4, tlit5, tlit6, tlit7, tlit8, tlit9, tlit10, tlit11, tlit12, tlit13, tlit14, tlit15, tlit16, tlit17, tlit18, tlit19, tlit20, tlit21, tlit22, tlit23, tlit24, tlit25, tlit26, s32, w32, z32, u32, v32]) (by simp [TL.tl_append, tlit0, tlit1, tlit2, tlit3, tlit4, tlit5, tlit6, tlit7, tlit8, tlit9, tlit10, tlit11, tlit12, tlit13, tlit14, tlit15, tlit16, tlit17, tlit18, tlit19, tlit20, tlit21, tlit22, tlit23, tlit24, tlit25, tlit26, s32, w32, z32, u32, v32])
    have cl : (Str.ofString "\t" ++ z).length ≤ 1000 := by
      have e := TL.len_tl (Str.ofString "\t" ++ z)
      have e2 := TL.len_tl z
      simp only [TL.tl_append, tlit0, tlit1, tlit2, tlit3, tlit4, tlit5, tlit6, tlit7, tlit8, tlit9, tlit10, tlit11, tlit12, tlit13, tlit14, tlit15, tlit16, tlit17, tlit18, tlit19, tlit20, tlit21, tlit22, tlit23, tlit24, tlit25, tlit26, List.length_append, List.length_cons, List.length_nil] at e
      omega
    subst es ew
    exact bad_crease (by omega) sp (ev_crease_bad cl (.inr (.inr (.inr ⟨9, by simp [TL.tl_append, tlit0, tlit1, tlit2, tlit3, tlit4, tlit5, tlit6, tlit7, tlit8, tlit9, tlit10, tlit11, tlit12, tlit13, tlit14, tlit15, tlit16, tlit17, tlit18, tlit19, tlit20, tlit21, tlit22, tlit23, tlit24, tlit25, tlit26], by decide⟩))))
  · refine nocs_free ?_
    try simp only [TL.tl_append, tlit0, tlit1, tlit2, tlit3, tlit4, tlit5, tlit6, tlit7, tlit8, tlit9, tlit10, tlit11, tlit12, tlit13, tlit14, tlit15, tlit16, tlit17, tlit18, tlit19, tlit20, tlit21, tlit22, tlit23, tlit24, tlit25, tlit26, List.mem_append, not_or]
    simp [s44, w44, z44, u44, v44]
theorem bad_all {s w z u v : Str} {sd : Side} {ov : Bool} (h : FH s w z u v sd ov) : ∀ t ∈ formsS s w z u v, Bad t := by
  intro t ht
  simp only [formsS, List.mem_cons, List.not_mem_nil, or_false] at ht
  rcases ht with rfl | rfl | rfl | rfl | rfl | rfl | rfl | rfl | rfl | rfl | rfl | rfl | rfl | rfl | rfl | rfl | rfl | rfl | rfl | rfl | rfl | rfl | rfl | rfl | rfl | rfl | rfl | rfl
  · exact bad0 h
  · exact bad1 h
  · exact bad2 h
  · exact bad3 h
  · exact bad4 h
  · exact bad5 h
  · exact bad6 h
  · exact bad7 h
  · exact bad8 h
  · exact bad9 h
  · exact bad10 h
  · exact bad11 h
  · exact bad12 h
  · exact bad13 h
  · exact bad14 h
  · exact bad15 h
  · exact bad16 h
  · exact bad17 h
  · exact bad18 h
  · exact bad19 h
  · exact bad20 h
  · exact bad21 h
  · exact bad22 h
  · exact bad23 h
  · exact bad24 h
  · exact bad25 h
  · exact bad26 h
  · exact bad27 h
end Fd
set_option Elab.async false
set_option linter.all false
set_option maxRecDepth 100000
set_option maxHeartbeats 8000000
/-! KH: a fold spoilt. -/
namespace Fd
open Bk PySem L2
theorem fh {f : Fold} (h : Cr9 f) : FH (sideS f.side) (wayS f.over) (numS f.cr) (Txt.upper (sideS f.side)) (cutS (sideS f.side) none (some (-1))) f.side f.over := by
  obtain ⟨sd, ov, cr⟩ := f
  obtain ⟨f1, f2, f4, f5, f6⟩ := num_facts h.1 h.2
  dsimp only at *
  refine ⟨rfl, rfl, f4, f5, (not32 sd).1, (not32 sd).2, (not32w ov).1, (not32w ov).2, fun z => ?_, fun z => ?_, ?_, ?_, ?_, ?_, len_side sd, len_way ov, ?_, ?_, ?_, ?_⟩
  · have := f5 _ z
    omega
  · have := f5 _ z
    omega
  · cases sd <;> decide +kernel
  · cases sd <;> decide +kernel
  · cases sd <;> decide +kernel
  · cases sd <;> decide +kernel
  · cases sd <;> decide +kernel
  · cases sd <;> decide +kernel
  · intro s2
    cases s2 <;> cases sd <;> decide +kernel
  · intro s2
    cases s2 <;> cases sd <;> decide +kernel
def formsF (f : Fold) : List Str := formsS (sideS f.side) (wayS f.over) (numS f.cr) (Txt.upper (sideS f.side)) (cutS (sideS f.side) none (some (-1)))
theorem forms_len (f : Fold) : (formsF f).length = 28 := rfl
def spoilF (f : Fold) (way : Int) : Str := (formsF f).getD (way % 28).toNat (Str.ofString "")
theorem spoil_bad {f : Fold} (h : Cr9 f) (way : Int) : Bad (spoilF f way) := by
  have a := Int.emod_nonneg way (show (28 : Int) ≠ 0 by decide)
  have b := Int.emod_lt_of_pos way (show (0 : Int) < 28 by decide)
  have hl : (way % 28).toNat < (formsF f).length := by rw [forms_len]; omega
  refine bad_all (fh h) _ ?_
  unfold spoilF
  rw [List.getD_eq_getElem?_getD, List.getElem?_eq_getElem hl]
  exact List.getElem_mem hl
theorem ev_spoilt {f : Fold} (h : Cr9 f) (way : Int) : F_law_spoilt [foldD f, .int way] = .ok (.sh (.str (spoilF f way))) := by
  have H := fh h
  have hs := H.sl
  have hw := H.wl
  have hz := H.zl
  have hu := H.ul
  have gu : gUpper (sideS f.side) = .ok (.sh (.str (Txt.upper (sideS f.side)))) := by
    unfold gUpper
    rw [if_pos (by omega)]
  have gv : kSlS (Val.sh (.str (sideS f.side))) none (some (-1)) = .ok (.sh (.str (cutS (sideS f.side) none (some (-1))))) := by
    show (if (sideS f.side).length ≤ 100000 then Res.ok (Val.sh (.str (cutS (sideS f.side) none (some (-1))))) else .bad) = _
    rw [if_pos (by omega)]
  have lg := log_small (i := f.cr) (by have := h.1; omega) h.2
  have a := Int.emod_nonneg way (show (28 : Int) ≠ 0 by decide)
  have b := Int.emod_lt_of_pos way (show (0 : Int) < 28 by decide)
  have hl : (way % 28).toNat < (formsF f).length := by rw [forms_len]; omega
  have ix : ((formsF f).map D.str)[(way % 28).toNat]? = some (.str (spoilF f way)) := by
    unfold spoilF
    rw [List.getElem?_map, List.getElem?_eq_getElem hl, List.getD_eq_getElem?_getD, List.getElem?_eq_getElem hl]
    rfl
  have ew : way % 28 = (((way % 28).toNat : Nat) : Int) := by omega
  have ix2 : atI ((formsF f).map D.str) (way % 28) = some (.str (spoilF f way)) := by
    rw [ew, atI_cast]
    exact ix
  rw [law_spoilt_seg]
  have S0 : sf0 [some (.sh, foldD f), some (.sh, .int way), none, none, none, none] = sf3 (EF (foldD f) way (sideS f.side) (wayS f.over) (numS f.cr) none) := by
    rw [sf0_eq]
    unfold sfT0
    rw [sf1_eq]
    unfold sfT1
    rw [sf2_eq]
    unfold sfT2
    generalize sf3 = T
    obtain ⟨sd, ov, cr⟩ := f
    dsimp only [foldD] at *
    cases ov <;> simp [p_Str, lg, wayS]
  rw [S0, sfS3 hs hw hz hu gu gv]
  rw [sfS4 hs hw hz hu gu gv (by simp)]
  rw [sfS5 hs hw hz hu gu gv (by simp)]
  rw [sfS6 hs hw hz hu gu gv (by simp)]
  rw [sfS7 hs hw hz hu gu gv (by simp)]
  rw [sfS8 hs hw hz hu gu gv (by simp)]
  rw [sfS9 hs hw hz hu gu gv (by simp)]
  rw [sfS10 hs hw hz hu gu gv (by simp)]
  rw [sfS11 hs hw hz hu gu gv (by simp)]
  rw [sfS12 hs hw hz hu gu gv (by simp)]
  rw [sfS13 hs hw hz hu gu gv (by simp)]
  have fin : ∀ LL, LL = (formsF f).map D.str → kFun (sf14 (EF (foldD f) way (sideS f.side) (wayS f.over) (numS f.cr) (some (.li .sh, .lst LL)))) = .ok (.sh (.str (spoilF f way))) := by
    rintro LL rfl
    generalize (formsF f).map D.str = FL at *
    unfold sf14
    simp [ix2]
  exact fin _ rfl
end Fd
set_option Elab.async false
set_option linter.all false
set_option maxRecDepth 100000
set_option maxHeartbeats 8000000
/-! KI: rows that are refused. -/
namespace Fd
open Bk PySem L2
theorem join_tl (ps : List Str) : TL.tl (Txt.join ", " ps) = TL.joinL [44, 32] (ps.map TL.tl) := by
  rw [TL.join_eq, TL.tl_join, tl_comma]
theorem joinL_cons {S p : List Nat} {P : List (List Nat)} (h : P ≠ []) : TL.joinL S (p :: P) = p ++ (S ++ TL.joinL S P) := by
  cases P with
  | nil => exact absurd rfl h
  | cons q P => rfl
theorem joinL_app {S q r : List Nat} : ∀ (P : List (List Nat)), TL.joinL S (P ++ [q]) ++ r = TL.joinL S (P ++ [q ++ r])
  | [] => rfl
  | p :: P => by
    show TL.joinL S (p :: (P ++ [q])) ++ r = TL.joinL S (p :: (P ++ [q ++ r]))
    rw [joinL_cons (by simp), joinL_cons (by simp), ← joinL_app P]
    simp only [List.append_assoc]
theorem joinL_end {S : List Nat} : ∀ (P : List (List Nat)), P ≠ [] → TL.joinL S P ++ S = TL.joinL S (P ++ [[]])
  | [], h => absurd rfl h
  | [p], _ => by
    show p ++ S = p ++ (S ++ [])
    rw [List.append_nil]
  | p :: q :: P, _ => by
    show TL.joinL S (p :: (q :: P)) ++ S = TL.joinL S (p :: ((q :: P) ++ [[]]))
    rw [joinL_cons (p := p) (P := q :: P) (by simp), joinL_cons (p := p) (P := (q :: P) ++ [[]]) (by simp), ← joinL_end (q :: P) (by simp)]
    simp only [List.append_assoc]
theorem joinL_len {S : List Nat} {b : Nat} : ∀ (P : List (List Nat)), (∀ p ∈ P, p.length ≤ b) → (TL.joinL S P).length ≤ (b + S.length) * P.length
  | [], _ => Nat.zero_le _
  | [p], h => by
    have := h p (List.mem_singleton.mpr rfl)
    show p.length ≤ (b + S.length) * 1
    omega
  | p :: q :: P, h => by
    have h1 := h p List.mem_cons_self
    have h2 := joinL_len (S := S) (b := b) (q :: P) fun x hx => h x (List.mem_cons_of_mem _ hx)
    rw [joinL_cons (by simp)]
    simp only [List.length_append]
    have e : (b + S.length) * (p :: q :: P).length = (b + S.length) * (q :: P).length + (b + S.length) := Nat.mul_succ _ _
    omega
theorem len_join60 {ps : List Str} (h : ∀ p ∈ ps, p.length ≤ 60) : (Txt.join ", " ps).length ≤ 62 * ps.length := by
  rw [TL.len_tl, join_tl]
  have := joinL_len (S := [44, 32]) (b := 60) (ps.map TL.tl) fun p hp => by
    obtain ⟨q, hq, rfl⟩ := List.mem_map.mp hp
    rw [← TL.len_tl]
    exact h q hq
  rw [List.length_map] at this
  exact this
theorem sum60 : ∀ {ps : List Str}, (∀ p ∈ ps, p.length ≤ 60) → (ps.map Str.length).sum ≤ 60 * ps.length
  | [], _ => Nat.le_refl _
  | p :: ps, h => by
    have h1 := h p List.mem_cons_self
    have h2 := sum60 (ps := ps) fun q hq => h q (List.mem_cons_of_mem _ hq)
    simp only [List.map_cons, List.sum_cons, List.length_cons]
    omega
theorem writ_nocs {f : Fold} (h : Cr9 f) : nocs (TL.tl (writ f)) = true := nocs_free (no_comma h)
theorem writ_60 {f : Fold} (h : Cr9 f) : (writ f).length ≤ 60 := by
  have := len_writ h
  omega
theorem writ_head (f : Fold) : ∃ c r, TL.tl (writ f) = c :: r ∧ c ≠ 32 := by
  obtain ⟨sd, ov, cr⟩ := f
  unfold writ
  simp only [TL.tl_append]
  cases sd
  · exact ⟨119, _, by rw [show TL.tl (sideS .west) = 119 :: [101, 115, 116] by decide +kernel]; rfl, by decide⟩
  · exact ⟨101, _, by rw [show TL.tl (sideS .east) = 101 :: [97, 115, 116] by decide +kernel]; rfl, by decide⟩
  · exact ⟨110, _, by rw [show TL.tl (sideS .north) = 110 :: [111, 114, 116, 104] by decide +kernel]; rfl, by decide⟩
  · exact ⟨115, _, by rw [show TL.tl (sideS .south) = 115 :: [111, 117, 116, 104] by decide +kernel]; rfl, by decide⟩
theorem writ_count {f : Fold} (h : Cr9 f) : (TL.tl (writ f)).count 32 = 2 := by
  have H := fh h
  unfold writ
  simp only [TL.tl_append, tl_blank, List.count_append, List.count_eq_zero_of_not_mem H.s32, List.count_eq_zero_of_not_mem H.w32, List.count_eq_zero_of_not_mem H.z32]
  decide
/-- a row whose part p is refused -/
theorem row_bad {fs : List Fold} {p z : Str} {post : List Str} (h : ∀ f ∈ fs, Cr9 f) (hz : z.length ≤ 99998) (ne : ¬ z = Str.ofString "") (ez : z = Txt.join ", " (fs.map writ ++ p :: post)) (hn : ∀ q ∈ post, nocs (TL.tl q) = true) (hl : fs.length + post.length ≤ 900) (hp : Bad p) : F_law_refused [.str z] = .ok (.sh (.bl true)) := by
  refine ev_refused (ev_read_bad (fs := fs) (p := p) (post := post) h hz ne ?_ rfl (by simp; omega) hp.1)
  rw [ez]
  refine row_cut (by simp) fun q hq => ?_
  rcases List.mem_append.mp hq with hq | hq
  · obtain ⟨f, hf, rfl⟩ := List.mem_map.mp hq
    exact writ_nocs (h f hf)
  · rcases List.mem_cons.mp hq with rfl | hq
    · exact hp.2.1
    · exact hn q hq
theorem not_empty {z : Str} {c : Nat} {r : List Nat} (h : TL.tl z = c :: r) : ¬ z = Str.ofString "" := by
  rintro rfl
  have : TL.tl (Str.ofString "") = [] := by decide +kernel
  rw [this] at h
  cases h
theorem row_head {fs : List Fold} (hne : fs ≠ []) (post : List Str) : ∃ c r, TL.tl (Txt.join ", " (fs.map writ ++ post)) = c :: r := by
  cases fs with
  | nil => exact absurd rfl hne
  | cons f fs =>
    obtain ⟨c, r, e, _⟩ := writ_head f
    rw [join_tl, List.map_append, List.map_cons, List.map_cons, List.cons_append]
    cases q : (fs.map writ).map TL.tl ++ post.map TL.tl with
    | nil => exact ⟨c, r, e⟩
    | cons a l =>
      rw [joinL_cons (by simp), e]
      exact ⟨c, _, rfl⟩
/-- a comma behind all -/
theorem ref28 {fs : List Fold} (hne : fs ≠ []) (h : ∀ f ∈ fs, Cr9 f) (hl : fs.length ≤ 63) : F_law_refused [.str (Txt.join ", " (fs.map writ) ++ Str.ofString ",")] = .ok (.sh (.bl true)) := by
  obtain ⟨gs, g, rfl⟩ : ∃ gs g, fs = gs ++ [g] := ⟨fs.dropLast, fs.getLast hne, (List.dropLast_concat_getLast hne).symm⟩
  have hg : Cr9 g := h g (by simp)
  have B : Bad (writ g ++ Str.ofString ",") := bad21 (fh hg)
  have tc : TL.tl (Str.ofString ",") = [44] := by decide +kernel
  have e : Txt.join ", " ((gs ++ [g]).map writ) ++ Str.ofString "," = Txt.join ", " (gs.map writ ++ (writ g ++ Str.ofString ",") :: []) := by
    refine TL.ext_tl ?_
    rw [TL.tl_append, join_tl, join_tl, tc]
    simp only [List.map_append, List.map_cons, List.map_nil, TL.tl_append, tc]
    exact joinL_app _
  have lj := len_join h
  simp only [List.length_append, List.length_cons, List.length_nil] at lj hl
  have lc : (Str.ofString ",").length = 1 := by decide +kernel
  obtain ⟨c, r, eh⟩ := row_head (fs := gs ++ [g]) (by simp) []
  rw [List.append_nil] at eh
  refine row_bad (fs := gs) (p := writ g ++ Str.ofString ",") (post := []) (fun f hf => h f (by simp [hf])) ?_ ?_ e (fun q hq => by simp at hq) (by simp; omega) B
  · rw [len_app, lc]
    omega
  · exact not_empty (c := c) (r := r ++ [44]) (by rw [TL.tl_append, eh, tc]; rfl)
/-- a comma and a blank behind all -/
theorem ref29 {fs : List Fold} (hne : fs ≠ []) (h : ∀ f ∈ fs, Cr9 f) (hl : fs.length ≤ 63) : F_law_refused [.str (Txt.join ", " (fs.map writ) ++ Str.ofString ", ")] = .ok (.sh (.bl true)) := by
  obtain ⟨g, hg⟩ : ∃ g, g ∈ fs := by
    cases fs with
    | nil => exact absurd rfl hne
    | cons g _ => exact ⟨g, List.mem_cons_self⟩
  have B : Bad (Str.ofString "") := bad17 (fh (h g hg))
  have t0 : TL.tl (Str.ofString "") = [] := by decide +kernel
  have e : Txt.join ", " (fs.map writ) ++ Str.ofString ", " = Txt.join ", " (fs.map writ ++ Str.ofString "" :: []) := by
    refine TL.ext_tl ?_
    rw [TL.tl_append, join_tl, join_tl, tl_comma]
    simp only [List.map_append, List.map_cons, List.map_nil, t0]
    exact joinL_end _ (by simpa using hne)
  have lj := len_join h
  have lc : (Str.ofString ", ").length = 2 := by decide +kernel
  obtain ⟨c, r, eh⟩ := row_head hne []
  rw [List.append_nil] at eh
  refine row_bad (fs := fs) (p := Str.ofString "") (post := []) h ?_ ?_ e (fun q hq => by simp at hq) (by simp; omega) B
  · rw [len_app, lc]
    omega
  · exact not_empty (c := c) (r := r ++ [44, 32]) (by rw [TL.tl_append, eh, tl_comma]; rfl)
/-! ### the blanks behind the commas left out -/
theorem repl_free : ∀ (p r : List Nat), 44 ∉ p → PySem.StrLaws.replL [44, 32] [44] (p ++ r) = p ++ PySem.StrLaws.replL [44, 32] [44] r
  | [], _, _ => rfl
  | c :: p, r, h => by
    have hc : c ≠ 44 := fun z => h (z ▸ List.mem_cons_self)
    have m : ¬ (c :: (p ++ r)).take [44, 32].length = [44, 32] := by
      intro z
      have z2 : (c :: (p ++ r)).take 2 = [44, 32] := z
      rw [List.take_succ_cons] at z2
      injection z2 with z3 _
      exact hc z3
    show PySem.StrLaws.replL [44, 32] [44] (c :: (p ++ r)) = _
    rw [PySem.StrLaws.replL_miss m, repl_free p r fun z => h (List.mem_cons_of_mem _ z)]
    rfl
theorem repl_join : ∀ (P : List (List Nat)), (∀ p ∈ P, 44 ∉ p) → PySem.StrLaws.replL [44, 32] [44] (TL.joinL [44, 32] P) = TL.joinL [44] P
  | [], _ => PySem.StrLaws.replL_nil
  | [p], h => by
    have := repl_free p [] (h p (List.mem_singleton.mpr rfl))
    rw [List.append_nil, PySem.StrLaws.replL_nil, List.append_nil] at this
    exact this
  | p :: q :: P, h => by
    have ih := repl_join (q :: P) fun x hx => h x (List.mem_cons_of_mem _ hx)
    rw [joinL_cons (p := p) (P := q :: P) (by simp), joinL_cons (p := p) (P := q :: P) (by simp), repl_free p _ (h p List.mem_cons_self)]
    have hit : PySem.StrLaws.replL [44, 32] [44] (44 :: 32 :: TL.joinL [44, 32] (q :: P)) = [44] ++ PySem.StrLaws.replL [44, 32] [44] (TL.joinL [44, 32] (q :: P)) :=
      PySem.StrLaws.replL_hit (y := [44, 32]) (z := [44]) (c := 44) (r := 32 :: TL.joinL [44, 32] (q :: P)) (by simp) rfl
    show p ++ PySem.StrLaws.replL [44, 32] [44] (44 :: 32 :: TL.joinL [44, 32] (q :: P)) = _
    rw [hit, ih]
theorem nocs_app : ∀ (p r : List Nat), 44 ∉ p → nocs r = true → nocs (p ++ r) = true
  | [], _, _, hr => hr
  | c :: p, r, h, hr => by
    have hc : (c == 44) = false := by
      have : c ≠ 44 := fun z => h (z ▸ List.mem_cons_self)
      simpa using this
    show (!(c == 44 && (p ++ r).head? == some 32) && nocs (p ++ r)) = true
    rw [hc, nocs_app p r (fun z => h (List.mem_cons_of_mem _ z)) hr]
    rfl
theorem nocs_join1 : ∀ (P : List (List Nat)), (∀ p ∈ P, 44 ∉ p) → (∀ p ∈ P, ∃ c r, p = c :: r ∧ c ≠ 32) → nocs (TL.joinL [44] P) = true
  | [], _, _ => rfl
  | [p], h, _ => nocs_free (h p (List.mem_singleton.mpr rfl))
  | p :: q :: P, h, hh => by
    have ih := nocs_join1 (q :: P) (fun x hx => h x (List.mem_cons_of_mem _ hx)) fun x hx => hh x (List.mem_cons_of_mem _ hx)
    rw [joinL_cons (p := p) (P := q :: P) (by simp)]
    refine nocs_app _ _ (h p List.mem_cons_self) ?_
    obtain ⟨c, r, e, hc⟩ := hh q (by simp)
    have hd : (TL.joinL [44] (q :: P)).head? = some c := by
      cases P with
      | nil => rw [show TL.joinL [44] [q] = q from rfl, e]; rfl
      | cons a P => rw [joinL_cons (p := q) (P := a :: P) (by simp), e]; rfl
    show (!((44 : Nat) == 44 && (TL.joinL [44] (q :: P)).head? == some 32) && nocs (TL.joinL [44] (q :: P))) = true
    rw [ih, hd]
    have : (some c == some 32) = false := by simpa using hc
    rw [this]
    rfl
theorem count_join1 {n : Nat} : ∀ (P : List (List Nat)), (∀ p ∈ P, p.count 32 = n) → (TL.joinL [44] P).count 32 = n * P.length
  | [], _ => rfl
  | [p], h => by
    have := h p (List.mem_singleton.mpr rfl)
    show p.count 32 = n * 1
    omega
  | p :: q :: P, h => by
    have ih := count_join1 (n := n) (q :: P) fun x hx => h x (List.mem_cons_of_mem _ hx)
    rw [joinL_cons (p := p) (P := q :: P) (by simp), List.count_append, List.count_append, ih, h p List.mem_cons_self]
    have e : n * (p :: q :: P).length = n * (q :: P).length + n := Nat.mul_succ _ _
    have e2 : ([44] : List Nat).count 32 = 0 := by decide
    omega
theorem ref30 {fs : List Fold} (h2 : 2 ≤ fs.length) (h : ∀ f ∈ fs, Cr9 f) (hl : fs.length ≤ 63) : F_law_refused [.str (Txt.replace (Txt.join ", " (fs.map writ)) (Str.ofString ", ") (Str.ofString ","))] = .ok (.sh (.bl true)) := by
  have tc : TL.tl (Str.ofString ",") = [44] := by decide +kernel
  have e : TL.tl (Txt.replace (Txt.join ", " (fs.map writ)) (Str.ofString ", ") (Str.ofString ",")) = TL.joinL [44] ((fs.map writ).map TL.tl) := by
    have z := PySem.StrLaws.replace_list (x := Txt.join ", " (fs.map writ)) (y := Str.ofString ", ") (z := Str.ofString ",") (by decide +kernel)
    have z2 : TL.tl (Txt.replace (Txt.join ", " (fs.map writ)) (Str.ofString ", ") (Str.ofString ",")) = PySem.StrLaws.replL (TL.tl (Str.ofString ", ")) (TL.tl (Str.ofString ",")) (TL.tl (Txt.join ", " (fs.map writ))) := z
    rw [z2, tl_comma, tc, join_tl]
    refine repl_join _ fun p hp => ?_
    obtain ⟨q, hq, rfl⟩ := List.mem_map.mp hp
    obtain ⟨f, hf, rfl⟩ := List.mem_map.mp hq
    exact no_comma (h f hf)
  generalize Txt.replace (Txt.join ", " (fs.map writ)) (Str.ofString ", ") (Str.ofString ",") = z at *
  have each : ∀ p ∈ (fs.map writ).map TL.tl, ∃ f ∈ fs, p = TL.tl (writ f) := fun p hp => by
    obtain ⟨q, hq, rfl⟩ := List.mem_map.mp hp
    obtain ⟨f, hf, rfl⟩ := List.mem_map.mp hq
    exact ⟨f, hf, rfl⟩
  have nz : nocs (TL.tl z) = true := by
    rw [e]
    refine nocs_join1 _ (fun p hp => ?_) fun p hp => ?_
    · obtain ⟨f, hf, rfl⟩ := each p hp
      exact no_comma (h f hf)
    · obtain ⟨f, hf, rfl⟩ := each p hp
      exact writ_head f
  have cz : (TL.tl z).count 32 = 2 * fs.length := by
    rw [e, count_join1 (n := 2) _ fun p hp => ?_]
    · rw [List.length_map, List.length_map]
    · obtain ⟨f, hf, rfl⟩ := each p hp
      exact writ_count (h f hf)
  have lz : z.length ≤ 61 * 63 := by
    rw [TL.len_tl, e]
    have := joinL_len (S := [44]) (b := 60) ((fs.map writ).map TL.tl) fun p hp => by
      obtain ⟨f, hf, rfl⟩ := each p hp
      rw [← TL.len_tl]
      exact writ_60 (h f hf)
    rw [List.length_map, List.length_map] at this
    have e2 : (60 + ([44] : List Nat).length) * fs.length ≤ 61 * 63 := Nat.mul_le_mul (Nat.le_refl _) hl
    omega
  have ne : ¬ z = Str.ofString "" := by
    rintro rfl
    have : TL.tl (Str.ofString "") = [] := by decide +kernel
    rw [this] at cz
    have : ([] : List Nat).count 32 = 0 := rfl
    omega
  have B : F_fold_of [.str z] = .exc 7 := bad_count (by omega) (by omega)
  refine ev_refused (ev_read_bad (fs := []) (p := z) (post := []) (ps := [z]) (fun f hf => by simp at hf) (by omega) ne ?_ rfl (by simp) B)
  exact row_cut (ps := [z]) (by simp) fun p hp => by
    rw [List.mem_singleton.mp hp]
    exact nz
theorem ref_blank : F_law_refused [.str (Str.ofString " ")] = .ok (.sh (.bl true)) := by
  have B : F_fold_of [.str (Str.ofString " ")] = .exc 7 := bad_count (by decide +kernel) (by rw [tl_blank]; decide)
  refine ev_refused (ev_read_bad (fs := []) (p := Str.ofString " ") (post := []) (ps := [Str.ofString " "]) (fun f hf => by simp at hf) (by decide +kernel) (by decide +kernel) ?_ rfl (by simp) B)
  have := row_cut (ps := [Str.ofString " "]) (by simp) fun p hp => by
    rw [List.mem_singleton.mp hp, tl_blank]
    rfl
  exact this
end Fd
set_option Elab.async false
set_option linter.all false
set_option maxRecDepth 100000
set_option maxHeartbeats 4000000
/-! KS: the law's body, cut (printed by seg.py). -/
namespace Bk
open PySem L2
def sg11 : XS := (xRet (xCallB F_law_refused (xVCons (xV 5) (xVNil))))
def sg10 : XS := xSeq (xIfS (xT (xOp2 pEq (xV 3) (xC (.int 30)))) (xSet 5 (xIf (xT (xOp2 pGt (xBlt pLen (xVCons (xV 2) (xVNil))) (xC (.int 1)))) (xM0 (gRepl ", " ",") (xV 5)) (xC (.str " ")))) (xSkip)) (
  sg11)
def sg9 : XS := xSeq (xIfS (xT (xOp2 pEq (xV 3) (xC (.int 29)))) (xSet 5 (xOp2 pAdd (xV 5) (xC (.str ", ")))) (xSkip)) (
  sg10)
def sg8 : XS := xSeq (xIfS (xT (xOp2 pEq (xV 3) (xC (.int 28)))) (xSet 5 (xOp2 pAdd (xV 5) (xC (.str ",")))) (xSkip)) (
  sg9)
def sg7 : XS := xSeq (xIfS (xAnd (xT (xOp2 pLt (xV 3) (xC (.int 28)))) (xT (xOp2 pEq (xV 5) (xC (.str ""))))) (xRet (xCallB F_law_same_folds (xVCons (xCall F_read (xACons (xV 5) (xANil))) (xVCons (xLst (xANil)) (xVNil))))) (xSkip)) (
  sg8)
def sg6 : XS := xSeq (xSet 5 (xM1 gJoin (xC (.str ", ")) (xV 2))) (
  sg7)
def sg5 : XS := xSeq (xSetI 2 (xV 4) (xIf (xT (xOp2 pLt (xV 3) (xC (.int 28)))) (xCallB F_law_spoilt (xVCons (xOp2 pIx (xV 1) (xV 4)) (xVCons (xV 3) (xVNil)))) (xOp2 pIx (xV 2) (xV 4)))) (
  sg6)
def sg4 : XS := xSeq (xSet 4 (xOp2 pMod (xCallB F_law_cell_at (xVCons (xV 0) (xVCons (xC (.int 1)) (xVNil)))) (xBlt pLen (xVCons (xV 2) (xVNil))))) (
  sg5)
def sg3 : XS := xSeq (xIfS (xOr (xT (xOp2 pEq (xOp2 pMod (xCallB F_law_cell_at (xVCons (xV 0) (xVCons (xC (.int 0)) (xVNil)))) (xC (.int 2))) (xC (.int 0)))) (xT (xOp2 pEq (xV 1) (xLst (xANil))))) (xRet (xCallB F_law_same_folds (xVCons (xCall F_read (xACons (xM1 gJoin (xC (.str ", ")) (xV 2)) (xANil))) (xVCons (xV 1) (xVNil))))) (xSkip)) (
  sg4)
def sg2 : XS := xSeq (xSet 3 (xOp2 pMod (xOp2 pDiv (xCallB F_law_cell_at (xVCons (xV 0) (xVCons (xC (.int 0)) (xVNil)))) (xC (.int 2))) (xC (.int 31)))) (
  sg3)
def sg1 : XS := xFz 1 (xSeq (xSet 2 (xLc [6] (xIList (xV 1)) (.nm 6) (xYes) (xCallB F_law_written (xVCons (xV 6) (xVNil))))) (
  sg2))
def sg0 : XS := xSeq (xSet 1 (xCall F_law_row_by (xACons (xV 0) (xACons (xC (.int 3)) (xACons (xC (.int 30)) (xANil)))))) (
  sg1)
/-- segment 0 with any rest -/
def sgT0 (T : XS) : XS := xSeq (xSet 1 (xCall F_law_row_by (xACons (xV 0) (xACons (xC (.int 3)) (xACons (xC (.int 30)) (xANil)))))) (
  T)
theorem sg0_eq : sg0 = sgT0 sg1 := rfl
/-- segment 1 with any rest -/
def sgT1 (T : XS) : XS := xFz 1 (xSeq (xSet 2 (xLc [6] (xIList (xV 1)) (.nm 6) (xYes) (xCallB F_law_written (xVCons (xV 6) (xVNil))))) (
  T))
theorem sg1_eq : sg1 = sgT1 sg2 := rfl
/-- segment 2 with any rest -/
def sgT2 (T : XS) : XS := xSeq (xSet 3 (xOp2 pMod (xOp2 pDiv (xCallB F_law_cell_at (xVCons (xV 0) (xVCons (xC (.int 0)) (xVNil)))) (xC (.int 2))) (xC (.int 31)))) (
  T)
theorem sg2_eq : sg2 = sgT2 sg3 := rfl
/-- segment 3 with any rest -/
def sgT3 (T : XS) : XS := xSeq (xIfS (xOr (xT (xOp2 pEq (xOp2 pMod (xCallB F_law_cell_at (xVCons (xV 0) (xVCons (xC (.int 0)) (xVNil)))) (xC (.int 2))) (xC (.int 0)))) (xT (xOp2 pEq (xV 1) (xLst (xANil))))) (xRet (xCallB F_law_same_folds (xVCons (xCall F_read (xACons (xM1 gJoin (xC (.str ", ")) (xV 2)) (xANil))) (xVCons (xV 1) (xVNil))))) (xSkip)) (
  T)
theorem sg3_eq : sg3 = sgT3 sg4 := rfl
/-- segment 4 with any rest -/
def sgT4 (T : XS) : XS := xSeq (xSet 4 (xOp2 pMod (xCallB F_law_cell_at (xVCons (xV 0) (xVCons (xC (.int 1)) (xVNil)))) (xBlt pLen (xVCons (xV 2) (xVNil))))) (
  T)
theorem sg4_eq : sg4 = sgT4 sg5 := rfl
/-- segment 5 with any rest -/
def sgT5 (T : XS) : XS := xSeq (xSetI 2 (xV 4) (xIf (xT (xOp2 pLt (xV 3) (xC (.int 28)))) (xCallB F_law_spoilt (xVCons (xOp2 pIx (xV 1) (xV 4)) (xVCons (xV 3) (xVNil)))) (xOp2 pIx (xV 2) (xV 4)))) (
  T)
theorem sg5_eq : sg5 = sgT5 sg6 := rfl
/-- segment 6 with any rest -/
def sgT6 (T : XS) : XS := xSeq (xSet 5 (xM1 gJoin (xC (.str ", ")) (xV 2))) (
  T)
theorem sg6_eq : sg6 = sgT6 sg7 := rfl
/-- segment 7 with any rest -/
def sgT7 (T : XS) : XS := xSeq (xIfS (xAnd (xT (xOp2 pLt (xV 3) (xC (.int 28)))) (xT (xOp2 pEq (xV 5) (xC (.str ""))))) (xRet (xCallB F_law_same_folds (xVCons (xCall F_read (xACons (xV 5) (xANil))) (xVCons (xLst (xANil)) (xVNil))))) (xSkip)) (
  T)
theorem sg7_eq : sg7 = sgT7 sg8 := rfl
/-- segment 8 with any rest -/
def sgT8 (T : XS) : XS := xSeq (xIfS (xT (xOp2 pEq (xV 3) (xC (.int 28)))) (xSet 5 (xOp2 pAdd (xV 5) (xC (.str ",")))) (xSkip)) (
  T)
theorem sg8_eq : sg8 = sgT8 sg9 := rfl
/-- segment 9 with any rest -/
def sgT9 (T : XS) : XS := xSeq (xIfS (xT (xOp2 pEq (xV 3) (xC (.int 29)))) (xSet 5 (xOp2 pAdd (xV 5) (xC (.str ", ")))) (xSkip)) (
  T)
theorem sg9_eq : sg9 = sgT9 sg10 := rfl
/-- segment 10 with any rest -/
def sgT10 (T : XS) : XS := xSeq (xIfS (xT (xOp2 pEq (xV 3) (xC (.int 30)))) (xSet 5 (xIf (xT (xOp2 pGt (xBlt pLen (xVCons (xV 2) (xVNil))) (xC (.int 1)))) (xM0 (gRepl ", " ",") (xV 5)) (xC (.str " ")))) (xSkip)) (
  T)
theorem sg10_eq : sg10 = sgT10 sg11 := rfl
theorem law_seg (d0 : D) : F_law [d0] = kFun (sg0 [some (.sh, d0), none, none, none, none, none, none]) := rfl
end Bk
set_option Elab.async false
set_option linter.all false
set_option maxRecDepth 100000
set_option maxHeartbeats 8000000
/-! KM: the law. -/
namespace Fd
open Bk PySem L2
theorem row_fine {fs : List Fold} : (fs.map foldD).all (D.fine 5) = true := by
  rw [List.all_map, List.all_eq_true]
  intro f _
  simp [foldD, ok_side]
theorem p_EqNil {xs : List D} {o o2 : Ow} {b b2 : Bool} (h : xs.all (D.fine 5) = true) : pEq ⟨o, b, .lst xs⟩ ⟨o2, b2, .lst []⟩ = .ok (.sh (.bl xs.isEmpty)) := by
  rw [p_EqLL, fine_l, fine_l, h]
  cases xs <;> rfl
theorem g_join {ps : List Str} (h : ∀ p ∈ ps, p.length ≤ 60) (hl : ps.length ≤ 63) (o : Ow) (ho : o = .sh ∨ o = .li .sh) (b : Bool) : gJoin ", " ⟨o, b, .lst (ps.map .str)⟩ = .ok (.sh (.str (Txt.join ", " ps))) := by
  have lc : (Str.ofString ", ").length = 2 := by decide +kernel
  have s60 := sum60 h
  have z : (ps.map Str.length).sum + ps.length * 2 ≤ 100000 := by omega
  have e : (match D.strs (ps.map .str) with
    | some ys => if (ys.map Str.length).sum + ys.length * (Str.ofString ", ").length ≤ 100000 then Res.ok (Val.sh (.str (Txt.join ", " ys))) else .bad
    | none => .bad) = Res.ok (Val.sh (.str (Txt.join ", " ps))) := by
    rw [strs_map]
    dsimp only
    rw [lc, if_pos z]
  unfold gJoin
  rcases ho with rfl | rfl
  · exact e
  · exact e
abbrev Q7 (NS : D) (x1 x2 x3 x4 x5 x6 : Option (Ow × D)) : XEnv := [some (.sh, NS), x1, x2, x3, x4, x5, x6]
/-- the text is made, the rest -/
theorem fin {NS DL PL : D} {way at_ : Int} {z : Str} {o2 : Ow} {x6 : Option (Ow × D)} (n : ¬ way = 28) (n2 : ¬ way = 29) (n3 : ¬ way = 30) (h : F_law_refused [.str z] = .ok (.sh (.bl true))) :
    kFun (sg8 (Q7 NS (some (.sh, DL)) (some (o2, PL)) (some (.sh, .int way)) (some (.sh, .int at_)) (some (.sh, .str z)) x6)) = .ok (.sh (.bl true)) := by
  unfold sg8 sg9 sg10 sg11
  simp [n, n2, n3, h]
theorem fin28 {NS DL PL : D} {at_ : Int} {z : Str} {o2 : Ow} {x6 : Option (Ow × D)} (hz : z.length ≤ 9000) (h : F_law_refused [.str (z ++ Str.ofString ",")] = .ok (.sh (.bl true))) :
    kFun (sg8 (Q7 NS (some (.sh, DL)) (some (o2, PL)) (some (.sh, .int 28)) (some (.sh, .int at_)) (some (.sh, .str z)) x6)) = .ok (.sh (.bl true)) := by
  have lc : (Str.ofString ",").length = 1 := by decide +kernel
  have l1 : z.length + 1 ≤ 100000 := by omega
  unfold sg8 sg9 sg10 sg11
  simp [lc, l1, h]
theorem fin29 {NS DL PL : D} {at_ : Int} {z : Str} {o2 : Ow} {x6 : Option (Ow × D)} (hz : z.length ≤ 9000) (h : F_law_refused [.str (z ++ Str.ofString ", ")] = .ok (.sh (.bl true))) :
    kFun (sg8 (Q7 NS (some (.sh, DL)) (some (o2, PL)) (some (.sh, .int 29)) (some (.sh, .int at_)) (some (.sh, .str z)) x6)) = .ok (.sh (.bl true)) := by
  have lc : (Str.ofString ", ").length = 2 := by decide +kernel
  have l1 : z.length + 2 ≤ 100000 := by omega
  unfold sg8 sg9 sg10 sg11
  simp [lc, l1, h]
theorem fin30 {NS DL : D} {PL : List D} {at_ : Int} {z : Str} {x6 : Option (Ow × D)} (hz : z.length ≤ 9000) (h : F_law_refused [.str (if 1 < PL.length then Txt.replace z (Str.ofString ", ") (Str.ofString ",") else Str.ofString " ")] = .ok (.sh (.bl true))) :
    kFun (sg8 (Q7 NS (some (.sh, DL)) (some (.li .sh, .lst PL)) (some (.sh, .int 30)) (some (.sh, .int at_)) (some (.sh, .str z)) x6)) = .ok (.sh (.bl true)) := by
  have lc : (Str.ofString ",").length = 1 := by decide +kernel
  have gr : gRepl (Str.ofString ", ") (Str.ofString ",") z = .ok (.sh (.str (Txt.replace z (Str.ofString ", ") (Str.ofString ",")))) := by
    unfold gRepl
    rw [lc, if_pos ⟨by omega, by omega⟩]
  unfold sg8 sg9 sg10 sg11
  by_cases q : 1 < PL.length
  · have q2 : (1 : Int) < (PL.length : Int) := by omega
    rw [if_pos q] at h
    simp [q, q2, gr, h]
  · have q2 : ¬ (1 : Int) < (PL.length : Int) := by omega
    rw [if_neg q] at h
    simp [q, q2, h]
theorem law_true (ns : List Int) (hl : ns.length ≤ 63) : F_law [.fz (ns.map .int)] = .ok (.sh (.bl true)) := by
  have er := ev_row_by ns 3 30 (by omega)
  have cl := cut_len ns (some 3) (some (3 + 30))
  have cc : ∀ n : Nat, F_law_cell_at [.fz (ns.map .int), .int (n : Int)] = .ok (.sh (.int (ns.getD n 0))) := ev_cell_at ns
  have c0 : F_law_cell_at [.fz (ns.map .int), .int 0] = .ok (.sh (.int (ns.getD 0 0))) := cc 0
  have c1 : F_law_cell_at [.fz (ns.map .int), .int 1] = .ok (.sh (.int (ns.getD 1 0))) := cc 1
  have hok : ∀ f ∈ (cut ns (some 3) (some (3 + 30))).map rowF, Cr9 f := fun f hf => by
    obtain ⟨c, _, rfl⟩ := List.mem_map.mp hf
    exact rowF_ok c
  have hlen : ((cut ns (some 3) (some (3 + 30))).map rowF).length ≤ 63 := by
    rw [List.length_map]
    omega
  generalize (cut ns (some 3) (some (3 + 30))).map rowF = fs at *
  generalize ns.getD 0 0 = n0 at *
  generalize ns.getD 1 0 = n1 at *
  clear cc cl
  generalize D.fz (ns.map .int) = NS at *
  have sf := ev_same_folds (fs := fs) (by omega)
  have rd := ev_read hok (by omega)
  have p60 : ∀ p ∈ fs.map writ, p.length ≤ 60 := fun p hp => by
    obtain ⟨f, hf, rfl⟩ := List.mem_map.mp hp
    exact writ_60 (hok f hf)
  have gj := g_join p60 (by rw [List.length_map]; exact hlen) (.li .sh) (.inr rfl)
  rw [law_seg]
  -- the row, the texts, the way
  have S0 : sg0 (Q7 NS none none none none none none) = sg3 (Q7 NS (some (.sh, .lst (fs.map foldD))) (some (.li .sh, .lst ((fs.map writ).map .str))) (some (.sh, .int (n0 / 2 % 31))) none none none) := by
    rw [sg0_eq]
    unfold sgT0
    rw [sg1_eq]
    unfold sgT1
    rw [sg2_eq]
    unfold sgT2
    generalize sg3 = T
    have lc : ∀ x0 x1 x2 x3 x4 x5 x6, lcGo (lcStep (.nm 6) xYes (xCallB F_law_written (xVCons (xV 6) xVNil)) [x0, x1, x2, x3, x4, x5, x6]) (fs.map foldD) = .ok ((fs.map writ).map .str) := fun x0 x1 x2 x3 x4 x5 x6 => by
      rw [List.map_map]
      exact lcGo_map fun f hf => by
        have := ev_written (hok f hf)
        generalize foldD f = fd at *
        simp [lcStep, this]
    have ll : (fs.map foldD).length ≤ 100000 := by
      rw [List.length_map]
      omega
    generalize fs.map foldD = L at *
    generalize (fs.map writ).map D.str = L2 at *
    simp [er, ll, lc, c0]
  show kFun (sg0 (Q7 NS none none none none none none)) = _
  rw [S0]
  clear S0 er
  have w0 := Int.emod_nonneg (n0 / 2) (show (31 : Int) ≠ 0 by decide)
  have w1 := Int.emod_lt_of_pos (n0 / 2) (show (0 : Int) < 31 by decide)
  generalize n0 / 2 % 31 = way at *
  have fn := fun o b o2 b2 => p_EqNil (o := o) (o2 := o2) (b := b) (b2 := b2) (row_fine (fs := fs))
  have em : (fs.map foldD).isEmpty = decide (fs = []) := by cases fs <;> simp
  by_cases q : n0 % 2 = 0 ∨ fs = []
  · -- the row read back
    rw [sg3_eq]
    unfold sgT3
    generalize sg4 = T
    rw [em] at fn
    clear em
    generalize fs.map foldD = L at *
    generalize (fs.map writ).map D.str = L2 at *
    generalize Txt.join ", " (fs.map writ) = z at *
    have e1 : ∀ a b c d e f, xM1 gJoin (xC (.str ", ")) (xV 2) [a, b, some (.li .sh, .lst L2), c, d, e, f] = .ok (.sh (.str z)) := fun a b c d e f => gj true
    rcases q with q | q
    · simp [c0, q, e1, rd, sf]
    · by_cases q2 : n0 % 2 = 0
      · simp [c0, q2, e1, rd, sf]
      · simp [c0, q2, fn, q, e1, rd, sf]
  · have q1 : ¬ n0 % 2 = 0 := fun z => q (.inl z)
    have q2 : ¬ fs = [] := fun z => q (.inr z)
    have h1 : 1 ≤ fs.length := by
      cases fs with
      | nil => exact absurd rfl q2
      | cons _ _ => simp
    have a0 := Int.emod_nonneg n1 (show (fs.length : Int) ≠ 0 by omega)
    have a1 := Int.emod_lt_of_pos n1 (show (0 : Int) < (fs.length : Int) by omega)
    obtain ⟨k, hk⟩ : ∃ k : Nat, n1 % (fs.length : Int) = (k : Int) := ⟨(n1 % (fs.length : Int)).toNat, by omega⟩
    have hkl : k < fs.length := by omega
    have hf : Cr9 fs[k] := hok _ (List.getElem_mem hkl)
    have ev := ev_spoilt hf way
    -- up to the text
    have S3 : ∀ p : Str, ((way < 28 ∧ p = spoilF fs[k] way) ∨ (28 ≤ way ∧ p = writ fs[k])) → p.length ≤ 60 → sg3 (Q7 NS (some (.sh, .lst (fs.map foldD))) (some (.li .sh, .lst ((fs.map writ).map .str))) (some (.sh, .int way)) none none none) =
        sg7 (Q7 NS (some (.sh, .lst (fs.map foldD))) (some (.li .sh, .lst (((fs.map writ).set k p).map .str))) (some (.sh, .int way)) (some (.sh, .int (k : Int))) (some (.sh, .str (Txt.join ", " ((fs.map writ).set k p)))) none) := by
      intro p hp lp
      have gj2 := g_join (ps := (fs.map writ).set k p) (fun x hx => by
        rcases List.mem_or_eq_of_mem_set hx with z | z
        · exact p60 x z
        · rw [z]; exact lp) (by rw [List.length_set, List.length_map]; exact hlen) (.li .sh) (.inr rfl)
      have st : ((fs.map writ).map D.str).set k (.str p) = ((fs.map writ).set k p).map .str := by rw [List.map_set]
      have g1 : atI (fs.map foldD) (k : Int) = some (foldD fs[k]) := by
        rw [atI_cast, List.getElem?_map, List.getElem?_eq_getElem hkl]
        rfl
      have g2 : atI ((fs.map writ).map D.str) (k : Int) = some (.str (writ fs[k])) := by
        rw [atI_cast, List.getElem?_map, List.getElem?_map, List.getElem?_eq_getElem hkl]
        rfl
      have l2 : ((fs.map writ).map D.str).length = fs.length := by rw [List.length_map, List.length_map]
      have ix : ixN ((fs.map writ).map D.str).length (k : Int) = some k := by
        unfold ixN
        rw [if_pos (by omega), if_pos (by omega)]
        rfl
      have z1 : (0 : Int) < ((fs.map writ).map D.str).length := by omega
      have z2 : (((fs.map writ).map D.str).length : Int) < 1073741824 := by omega
      have z3 : 0 < ((fs.map writ).map D.str).length := by omega
      rw [← l2] at hk
      rw [sg3_eq]
      unfold sgT3
      rw [sg4_eq]
      unfold sgT4
      rw [sg5_eq]
      unfold sgT5
      rw [sg6_eq]
      unfold sgT6
      generalize sg7 = T
      rw [em, decide_eq_false q2] at fn
      clear em rd sf gj p60 a0 a1
      generalize foldD fs[k] = FK at *
      generalize Txt.join ", " ((fs.map writ).set k p) = z at *
      generalize ((fs.map writ).set k p).map D.str = L3 at *
      generalize (fs.map writ).map D.str = L2 at *
      generalize fs.map foldD = L at *
      have e1 : ∀ a b c d e f, xM1 gJoin (xC (.str ", ")) (xV 2) [a, b, some (.li .sh, .lst L3), c, d, e, f] = .ok (.sh (.str z)) := fun a b c d e f => gj2 true
      generalize spoilF fs[k] way = SP at *
      generalize writ fs[k] = WR at *
      clear ix
      have ix : ixN L2.length (k : Int) = some k := by
        unfold ixN
        rw [if_pos (by omega), if_pos (by omega)]
        rfl
      generalize (k : Int) = kk at *
      rcases hp with ⟨hw, rfl⟩ | ⟨hw, rfl⟩
      · simp [c0, c1, q1, fn, z2, z3, hk, hw, g1, ev, ix, st, e1]
      · have hw2 : ¬ way < 28 := by omega
        simp [c0, c1, q1, fn, z2, z3, hk, hw2, g2, ix, st, e1]
    have me : (fs.map writ).set k (writ fs[k]) = fs.map writ := by
      refine List.ext_getElem? fun i => ?_
      by_cases qi : k = i
      · subst qi
        rw [List.getElem?_set_self (by rw [List.length_map]; exact hkl), List.getElem?_map, List.getElem?_eq_getElem hkl]
        rfl
      · rw [List.getElem?_set_ne qi]
    have lj := len_join hok
    by_cases wl : way < 28
    · have B := spoil_bad hf way
      have ps : (fs.map writ).set k (spoilF fs[k] way) = (fs.take k).map writ ++ spoilF fs[k] way :: (fs.drop (k + 1)).map writ := by
        rw [List.set_eq_take_append_cons_drop, if_pos (by rw [List.length_map]; exact hkl), List.map_take, List.map_drop]
      rw [S3 (spoilF fs[k] way) (.inl ⟨wl, rfl⟩) B.2.2]
      have lz : (Txt.join ", " ((fs.map writ).set k (spoilF fs[k] way))).length ≤ 62 * 63 := by
        have := len_join60 (ps := (fs.map writ).set k (spoilF fs[k] way)) (fun x hx => by
          rcases List.mem_or_eq_of_mem_set hx with z | z
          · exact p60 x z
          · rw [z]; exact B.2.2)
        rw [List.length_set, List.length_map] at this
        omega
      by_cases ze : Txt.join ", " ((fs.map writ).set k (spoilF fs[k] way)) = Str.ofString ""
      · rw [ze]
        have s0 : F_law_same_folds [.lst [], .lst []] = .ok (.sh (.bl true)) := ev_same_folds (fs := []) (by decide)
        have r0 := ev_read_empty
        rw [sg7_eq]
        unfold sgT7
        generalize sg8 = T
        generalize ((fs.map writ).set k (spoilF fs[k] way)).map D.str = L3
        generalize fs.map foldD = L
        simp [wl, r0, s0]
      · have R := row_bad (fs := fs.take k) (p := spoilF fs[k] way) (post := (fs.drop (k + 1)).map writ) (fun f hx => hok f (List.mem_of_mem_take hx)) (by omega) ze (by rw [ps]) (fun x hx => by
          obtain ⟨f, hf2, rfl⟩ := List.mem_map.mp hx
          exact writ_nocs (hok f (List.mem_of_mem_drop hf2))) (by rw [List.length_map, List.length_take, List.length_drop]; omega) B
        have F8 := fin (NS := NS) (DL := .lst (fs.map foldD)) (PL := .lst (((fs.map writ).set k (spoilF fs[k] way)).map .str)) (o2 := .li .sh) (way := way) (at_ := (k : Int)) (x6 := none) (by omega) (by omega) (by omega) R
        rw [sg7_eq]
        unfold sgT7
        generalize sg8 = T at *
        clear S3 ps lz R ev me
        generalize Txt.join ", " ((fs.map writ).set k (spoilF fs[k] way)) = z at *
        generalize ((fs.map writ).set k (spoilF fs[k] way)).map D.str = L3 at *
        generalize fs.map foldD = L at *
        simp [wl, ze, F8]
    · rw [S3 (writ fs[k]) (.inr ⟨by omega, rfl⟩) (writ_60 hf), me]
      have S7 : sg7 (Q7 NS (some (.sh, .lst (fs.map foldD))) (some (.li .sh, .lst ((fs.map writ).map .str))) (some (.sh, .int way)) (some (.sh, .int (k : Int))) (some (.sh, .str (Txt.join ", " (fs.map writ)))) none) =
          sg8 (Q7 NS (some (.sh, .lst (fs.map foldD))) (some (.li .sh, .lst ((fs.map writ).map .str))) (some (.sh, .int way)) (some (.sh, .int (k : Int))) (some (.sh, .str (Txt.join ", " (fs.map writ)))) none) := by
        rw [sg7_eq]
        unfold sgT7
        generalize sg8 = T
        clear S3 me
        generalize Txt.join ", " (fs.map writ) = z at *
        generalize (fs.map writ).map D.str = L2 at *
        generalize fs.map foldD = L at *
        simp [wl]
      rw [S7]
      have w3 : way = 28 ∨ way = 29 ∨ way = 30 := by omega
      rcases w3 with rfl | rfl | rfl
      · exact fin28 (by omega) (ref28 q2 hok hlen)
      · exact fin29 (by omega) (ref29 q2 hok hlen)
      · refine fin30 (by omega) ?_
        by_cases q4 : 2 ≤ fs.length
        · rw [if_pos (by rw [List.length_map, List.length_map]; omega)]
          exact ref30 q4 hok hlen
        · rw [if_neg (by rw [List.length_map, List.length_map]; omega)]
          exact ref_blank
end Fd
set_option Elab.async false
set_option linter.all false
set_option maxRecDepth 100000
set_option maxHeartbeats 8000000
/-! KD: each def of the text does what its function says; the head; the end (printed by gen.py). -/
namespace Bk
open PySem L2 PySem.Spec PyProof.Rows

def top (i : Nat) : Stmt := PySem.Challenge.pw_leaffold_k14_read.main.body.getD i (.Pass ⟨0, 0, 0, 0⟩)
def exn : Nat → Str
  | 0 => "NoSheet"
  | 1 => "NoFold"
  | 2 => "NoPlace"
  | 3 => "Ajar"
  | 4 => "Severed"
  | 5 => "Bolted"
  | 6 => "Loose"
  | 7 => "NoWord"
  | _ => "LeafError"
abbrev cT (K : PySem.W.Frag) : Ct := ⟨K, He.ga K "Pile", fun k => He.ga K (exn k), fun _ _ => False, fun _ => False⟩
structure Tp (K : PySem.W.Frag) (mg : Str → Option Value) : Prop where
  e_NoSheet : ExcOk K mg (cT K) 0 "NoSheet"
  e_NoFold : ExcOk K mg (cT K) 1 "NoFold"
  e_NoPlace : ExcOk K mg (cT K) 2 "NoPlace"
  e_Ajar : ExcOk K mg (cT K) 3 "Ajar"
  e_Severed : ExcOk K mg (cT K) 4 "Severed"
  e_Bolted : ExcOk K mg (cT K) 5 "Bolted"
  e_Loose : ExcOk K mg (cT K) 6 "Loose"
  e_NoWord : ExcOk K mg (cT K) 7 "NoWord"
  e_LeafError : ExcOk K mg (cT K) 8 "LeafError"
  isX : ExcIsOk K (cT K) 8
  b_ValueError : mg "ValueError" = none
  b_bool : mg "bool" = none
  b_int : mg "int" = none
  b_isinstance : mg "isinstance" = none
  b_len : mg "len" = none
  b_list : mg "list" = none
  b_range : mg "range" = none
  b_str : mg "str" = none
  b_tuple : mg "tuple" = none
  g_FIGURES : ∃ t, mg "FIGURES" = some (.str "0123456789" t)
  x_LeafError : ∀ k b, pk_LeafError k = some b → PySem.W.exmOne K (.ref ((cT K).ea k)) (.ref ((cT K).ea 8)) = some b
abbrev s_law_row_by : Stmt := top 19
theorem sc_law_row_by : FnScope ["script", "first", "most", "out", "cell", "crease"] ["script", "first", "most"] (defScope s_law_row_by) := ⟨rfl, rfl, rfl, by decide +kernel, rfl, by decide +kernel, by decide +kernel⟩
theorem ok_law_row_by {P : Program} {w : World} {K : PySem.W.Frag} {mg : Str → Option Value} {base : Heap} {f : Addr} {fd : FuncData} (T : Tp K mg) (Fn : Fun K "_law_row_by" "_law_row_by" s_law_row_by f fd) : FnOk P w K mg base (L2.CX P w) 1 f fd ["script", "first", "most"] (spOf (cT K) F_law_row_by) :=
  fn_ok Fn sc_law_row_by (by decide) fun cdv A outer s H E F hr =>
    sss_cons (ss_set 3 sc_law_row_by.nd (se_lst (sa_nil))) (
    sss_cons (ss_for (.nm 4) (passes_of rfl) rfl (si_list rfl (se_slice rfl (se_v 0) (spo_some (se_v 1)) (spo_some (se_op v2_add op_addA (se_v 1) (se_v 2))))) (pg_nm 4 sc_law_row_by.nd) (sss_cons (ss_set 5 sc_law_row_by.nd (se_op v2_add op_addA (se_int) (se_op v2_mod op_mod (se_op v2_div op_fdiv (se_v 4) (se_int)) (se_ix v2_ix ix_seq (se_lst (sa_cons (se_int) (sa_cons (se_int) (sa_cons (se_int) (sa_cons (se_int) (sa_nil)))))) (se_op v2_mod op_mod (se_op v2_div op_fdiv (se_v 4) (se_int)) (se_int)))))) (
    sss_one (ss_app (ps_expr (pe_bm PySem.F.plainAttrs_list PySem.F.slot_list_append PySem.F.type_list_append mt_append (pv 3) (pa_cons (se_tup (sa_cons (se_ix v2_ix ix_seq (se_lst (sa_cons (se_str) (sa_cons (se_str) (sa_cons (se_str) (sa_cons (se_str) (sa_nil)))))) (se_op v2_mod op_mod (se_v 4) (se_int))) (sa_cons (se_cmp v2_eq (op_eqA hr.units) (se_op v2_mod op_mod (se_op v2_div op_fdiv (se_v 4) (se_int)) (se_int)) (se_int)) (sa_cons (se_v 5) (sa_nil))))) pa_nil))))))) (
    sss_one (ss_retV 3)))
abbrev s_crease_of : Stmt := top 12
theorem sc_crease_of : FnScope ["figures", "sign"] ["figures"] (defScope s_crease_of) := ⟨rfl, rfl, rfl, by decide +kernel, rfl, by decide +kernel, by decide +kernel⟩
theorem ok_crease_of {P : Program} {w : World} {K : PySem.W.Frag} {mg : Str → Option Value} {base : Heap} {f : Addr} {fd : FuncData} (T : Tp K mg) (Fn : Fun K "crease_of" "crease_of" s_crease_of f fd) : FnOk P w K mg base (L2.CX P w) 1 f fd ["figures"] (spOf (cT K) F_crease_of) :=
  fn_ok Fn sc_crease_of (by decide) fun cdv A outer s H E F hr =>
    sss_cons (ss_if (sb_w (sw_or (sb_cmp v2_eq (op_eqA hr.units) (se_v 0) (se_str)) (sw_or (sb_cmp v2_eq (op_eqA hr.units) (se_ix v2_ix ix_seq (se_v 0) (se_int)) (se_str)) (sw_or1 (sb_cmp v2_gt op_gt (se_blt vn_len call_lenA rfl T.b_len PySem.boot_len (sv_cons (se_v 0) (sv_nil))) (se_int)))))) (sss_one (ss_raise 7 T.e_NoWord rfl (takes_of rfl rfl rfl rfl) rfl)) (sss_nil)) (
    sss_cons (ss_for (.nm 1) (passes_of rfl) rfl (si_str (se_v 0)) (pg_nm 1 sc_crease_of.nd) (sss_one (ss_if (sb_cmp v2_notInS op_notIn_sign (se_v 1) (se_globS T.g_FIGURES rfl)) (sss_one (ss_raise 7 T.e_NoWord rfl (takes_of rfl rfl rfl rfl) rfl)) (sss_nil)))) (
    sss_one (ss_ret (se_bty vn_intS call_int_str rfl T.b_int (by decide +kernel) (sv_cons (se_v 0) (sv_nil))))))
abbrev s_fold_of : Stmt := top 13
theorem sc_fold_of : FnScope ["text", "parts"] ["text"] (defScope s_fold_of) := ⟨rfl, rfl, rfl, by decide +kernel, rfl, by decide +kernel, by decide +kernel⟩
theorem ok_fold_of {P : Program} {w : World} {K : PySem.W.Frag} {mg : Str → Option Value} {base : Heap} {f : Addr} {fd : FuncData} (T : Tp K mg) (g_crease_of : Gf P w K mg base (cT K) "crease_of" 1 ["figures"] F_crease_of) (Fn : Fun K "fold_of" "fold_of" s_fold_of f fd) : FnOk P w K mg base (L2.CX P w) 2 f fd ["text"] (spOf (cT K) F_fold_of) :=
  fn_ok Fn sc_fold_of (by decide) fun cdv A outer s H E F hr =>
    sss_cons (ss_set 1 sc_fold_of.nd (se_split (se_v 0) (se_str))) (
    sss_cons (ss_if (sb_cmp v2_ne (op_neA hr.units) (se_blt vn_len call_lenA rfl T.b_len PySem.boot_len (sv_cons (se_v 1) (sv_nil))) (se_int)) (sss_one (ss_raise 7 T.e_NoWord rfl (takes_of rfl rfl rfl rfl) rfl)) (sss_nil)) (
    sss_cons (ss_if (sb_cmp v2_notIn (op_notInA (hu65 hr)) (se_ix v2_ix ix_seq (se_v 1) (se_int)) (se_tup (sa_cons (se_str) (sa_cons (se_str) (sa_cons (se_str) (sa_cons (se_str) (sa_nil))))))) (sss_one (ss_raise 7 T.e_NoWord rfl (takes_of rfl rfl rfl rfl) rfl)) (sss_nil)) (
    sss_cons (ss_if (sb_w (sw_and (sb_cmp v2_ne (op_neA hr.units) (se_ix v2_ix ix_seq (se_v 1) (se_int)) (se_str)) (sw_and1 (sb_cmp v2_ne (op_neA hr.units) (se_ix v2_ix ix_seq (se_v 1) (se_int)) (se_str))))) (sss_one (ss_raise 7 T.e_NoWord rfl (takes_of rfl rfl rfl rfl) rfl)) (sss_nil)) (
    sss_one (ss_ret (se_tup (sa_cons (se_ix v2_ix ix_seq (se_v 1) (se_int)) (sa_cons (se_cmp v2_eq (op_eqA hr.units) (se_ix v2_ix ix_seq (se_v 1) (se_int)) (se_str)) (sa_cons (se_callB g_crease_of (hr.mono (by decide)) (takes_of rfl rfl rfl rfl) rfl (sv_cons (se_ix v2_ix ix_seq (se_v 1) (se_int)) (sv_nil))) (sa_nil))))))))))
abbrev s_read : Stmt := top 14
theorem sc_read : FnScope ["text", "part"] ["text"] (defScope s_read) := ⟨rfl, rfl, rfl, by decide +kernel, rfl, by decide +kernel, by decide +kernel⟩
theorem ok_read {P : Program} {w : World} {K : PySem.W.Frag} {mg : Str → Option Value} {base : Heap} {f : Addr} {fd : FuncData} (T : Tp K mg) (g_fold_of : Gf P w K mg base (cT K) "fold_of" 2 ["text"] F_fold_of) (Fn : Fun K "read" "read" s_read f fd) : FnOk P w K mg base (L2.CX P w) 3 f fd ["text"] (spOf (cT K) F_read) :=
  fn_ok Fn sc_read (by decide) fun cdv A outer s H E F hr =>
    sss_cons (ss_if (sb_cmp v2_eq (op_eqA hr.units) (se_v 0) (se_str)) (sss_one (ss_ret (se_lst (sa_nil)))) (sss_nil)) (
    sss_one (ss_ret (se_lcX [("part", 1)] rfl rfl (takes_of rfl rfl rfl rfl) rfl sc_read.nd (si_list rfl (se_split (se_v 0) (se_str))) (blkOk_by (by kernel_rfl)) (fun _ _ _ _ _ => pg_nm 1 sc_read.nd) (fun _ _ _ _ _ _ _ tkc => se_callC g_fold_of (hr.mono (by decide)) tkc rfl (sa_cons (se_v 1) (sa_nil))))))
abbrev s_law_word_of : Stmt := top 22
theorem sc_law_word_of : FnScope ["e", "kinds"] ["e"] (defScope s_law_word_of) := ⟨rfl, rfl, rfl, by decide +kernel, rfl, by decide +kernel, by decide +kernel⟩
theorem ok_law_word_of {P : Program} {w : World} {K : PySem.W.Frag} {mg : Str → Option Value} {base : Heap} {f : Addr} {fd : FuncData} (T : Tp K mg) (Fn : Fun K "_law_word_of" "_law_word_of" s_law_word_of f fd) : FnX P w K mg base (cT K) 8 1 f fd ["e"] F_law_word_of :=
  fnX_ok Fn sc_law_word_of (by decide) rfl fun cdv A outer s H p m hr hm hz hf =>
    sss_cons (ss_set 1 sc_law_word_of.nd (se_lst (sa_cons (se_isE T.isX.px (pxOk_of hm hz hf) (by decide) T.b_isinstance T.e_NoSheet.g (se_v 0) rfl rfl) (sa_cons (se_isE T.isX.px (pxOk_of hm hz hf) (by decide) T.b_isinstance T.e_NoFold.g (se_v 0) rfl rfl) (sa_cons (se_isE T.isX.px (pxOk_of hm hz hf) (by decide) T.b_isinstance T.e_NoPlace.g (se_v 0) rfl rfl) (sa_cons (se_isE T.isX.px (pxOk_of hm hz hf) (by decide) T.b_isinstance T.e_Ajar.g (se_v 0) rfl rfl) (sa_nil))))))) (
    sss_cons (ss_set 1 sc_law_word_of.nd (se_op v2_add op_addA (se_v 1) (se_lst (sa_cons (se_isE T.isX.px (pxOk_of hm hz hf) (by decide) T.b_isinstance T.e_Severed.g (se_v 0) rfl rfl) (sa_cons (se_isE T.isX.px (pxOk_of hm hz hf) (by decide) T.b_isinstance T.e_Bolted.g (se_v 0) rfl rfl) (sa_cons (se_isE T.isX.px (pxOk_of hm hz hf) (by decide) T.b_isinstance T.e_Loose.g (se_v 0) rfl rfl) (sa_cons (se_isE T.isX.px (pxOk_of hm hz hf) (by decide) T.b_isinstance T.e_NoWord.g (se_v 0) rfl rfl) (sa_nil)))))))) (
    sss_cons (ss_if (sb_w (sw_or (sb_cmp v2_ne (op_neA hr.units) (se_cnt (se_v 1)) (se_int)) (sw_or1 (sb_not (sb_val (se_isVE T.isX.px (pxOk_of hm hz hf) T.b_isinstance T.b_ValueError (se_v 0) rfl rfl)))))) (sss_one (ss_ret (se_str))) (sss_nil)) (
    sss_one (ss_ret (se_ix v2_ix ix_seq (se_lst (sa_cons (se_str) (sa_cons (se_str) (sa_cons (se_str) (sa_cons (se_str) (sa_cons (se_str) (sa_cons (se_str) (sa_cons (se_str) (sa_cons (se_str) (sa_nil)))))))))) (se_idx (se_v 1)))))))
abbrev s_law_refused : Stmt := top 23
theorem sc_law_refused : FnScope ["text", "e"] ["text"] (defScope s_law_refused) := ⟨rfl, rfl, rfl, by decide +kernel, rfl, by decide +kernel, by decide +kernel⟩
theorem ok_law_refused {P : Program} {w : World} {K : PySem.W.Frag} {mg : Str → Option Value} {base : Heap} {f : Addr} {fd : FuncData} (T : Tp K mg) (g_read : Gf P w K mg base (cT K) "read" 3 ["text"] F_read) (g_law_word_of : GfX P w K mg base (cT K) 8 "_law_word_of" 1 ["e"] F_law_word_of) (Fn : Fun K "_law_refused" "_law_refused" s_law_refused f fd) : FnOk P w K mg base (L2.CX P w) 4 f fd ["text"] (spOf (cT K) F_law_refused) :=
  fn_ok Fn sc_law_refused (by decide) fun cdv A outer s H E F hr =>
    sss_cons (ss_tryE 1 8 (pk_LeafError) rfl rfl sc_law_refused.nd rfl rfl ⟨rfl, by decide, .inl T.e_LeafError.g⟩ (takes_of rfl rfl rfl rfl) (fun _ _ h => h) T.x_LeafError pkn_LeafError (fun W pn xe tk hpo => sss_one (ss_drop (se_call g_read (hr.mono (by decide)) tk rfl (sa_cons (se_v 0) (sa_nil))))) (fun a oe pn m hm hz hf => sss_one (ss_ret (se_cmp v2_eq (op_eqA hr.units) (se_callX g_law_word_of rfl (pxOk_suite hm hz hf) (roomH_suite (hr.mono (by decide))) takesF (se_v 1) rfl) (se_str))))) (
    sss_one (ss_ret (se_bl)))
abbrev s_law_written : Stmt := top 20
theorem sc_law_written : FnScope ["fold", "way"] ["fold"] (defScope s_law_written) := ⟨rfl, rfl, rfl, by decide +kernel, rfl, by decide +kernel, by decide +kernel⟩
theorem ok_law_written {P : Program} {w : World} {K : PySem.W.Frag} {mg : Str → Option Value} {base : Heap} {f : Addr} {fd : FuncData} (T : Tp K mg) (Fn : Fun K "_law_written" "_law_written" s_law_written f fd) : FnOk P w K mg base (L2.CX P w) 1 f fd ["fold"] (spOf (cT K) F_law_written) :=
  fn_ok Fn sc_law_written (by decide) fun cdv A outer s H E F hr =>
    sss_cons (ss_set 1 sc_law_written.nd (se_if (sb_val (se_ix v2_ix ix_seq (se_v 0) (se_int))) (se_str) (se_str))) (
    sss_one (ss_ret (se_op v2_add op_addA (se_op v2_add op_addA (se_op v2_add op_addA (se_op v2_add op_addA (se_ix v2_ix ix_seq (se_v 0) (se_int)) (se_str)) (se_v 1)) (se_str)) (se_bty vn_str call_str_int rfl T.b_str (by decide +kernel) (sv_cons (se_ix v2_ix ix_seq (se_v 0) (se_int)) (sv_nil))))))
abbrev s_law_whole : Stmt := top 17
theorem sc_law_whole : FnScope ["found"] ["found"] (defScope s_law_whole) := ⟨rfl, rfl, rfl, by decide +kernel, rfl, by decide +kernel, by decide +kernel⟩
theorem ok_law_whole {P : Program} {w : World} {K : PySem.W.Frag} {mg : Str → Option Value} {base : Heap} {f : Addr} {fd : FuncData} (T : Tp K mg) (Fn : Fun K "_law_whole" "_law_whole" s_law_whole f fd) : FnOk P w K mg base (L2.CX P w) 1 f fd ["found"] (spOf (cT K) F_law_whole) :=
  fn_ok Fn sc_law_whole (by decide) fun cdv A outer s H E F hr =>
    sss_one (ss_ret (se_and (se_isi rfl T.b_isinstance T.b_int (by decide) (se_v 0) rfl rfl (by decide +kernel)) (se_one (se_not (se_isi rfl T.b_isinstance T.b_bool (by decide) (se_v 0) rfl rfl (by decide +kernel))))))
abbrev s_law_same_folds : Stmt := top 18
theorem sc_law_same_folds : FnScope ["found", "due", "k", "one"] ["found", "due"] (defScope s_law_same_folds) := ⟨rfl, rfl, rfl, by decide +kernel, rfl, by decide +kernel, by decide +kernel⟩
theorem ok_law_same_folds {P : Program} {w : World} {K : PySem.W.Frag} {mg : Str → Option Value} {base : Heap} {f : Addr} {fd : FuncData} (T : Tp K mg) (g_law_whole : Gf P w K mg base (cT K) "_law_whole" 1 ["found"] F_law_whole) (Fn : Fun K "_law_same_folds" "_law_same_folds" s_law_same_folds f fd) : FnOk P w K mg base (L2.CX P w) 2 f fd ["found", "due"] (spOf (cT K) F_law_same_folds) :=
  fn_ok Fn sc_law_same_folds (by decide) fun cdv A outer s H E F hr =>
    sss_cons (ss_if (sb_w (sw_or (sb_not (sb_val (se_isi rfl T.b_isinstance T.b_list (by decide) (se_v 0) rfl rfl (by decide +kernel)))) (sw_or1 (sb_cmp v2_ne (op_neA hr.units) (se_blt vn_len call_lenA rfl T.b_len PySem.boot_len (sv_cons (se_v 0) (sv_nil))) (se_blt vn_len call_lenA rfl T.b_len PySem.boot_len (sv_cons (se_v 1) (sv_nil))))))) (sss_one (ss_ret (se_bl))) (sss_nil)) (
    sss_cons (ss_for (.nm 2) (passes_of rfl) rfl (si_range rfl T.b_range (sv_cons (se_blt vn_len call_lenA rfl T.b_len PySem.boot_len (sv_cons (se_v 1) (sv_nil))) (sv_nil))) (pg_nm 2 sc_law_same_folds.nd) (sss_cons (ss_set 3 sc_law_same_folds.nd (se_ix v2_ix ix_seq (se_v 0) (se_v 2))) (
    sss_cons (ss_if (sb_w (sw_or (sb_not (sb_val (se_isi rfl T.b_isinstance T.b_tuple (by decide) (se_v 3) rfl rfl (by decide +kernel)))) (sw_or (sb_cmp v2_ne (op_neA hr.units) (se_blt vn_len call_lenA rfl T.b_len PySem.boot_len (sv_cons (se_v 3) (sv_nil))) (se_int)) (sw_or1 (sb_not (sb_val (se_isi rfl T.b_isinstance T.b_str (by decide) (se_ix v2_ix ix_seq (se_v 3) (se_int)) rfl rfl (by decide +kernel)))))))) (sss_one (ss_ret (se_bl))) (sss_nil)) (
    sss_one (ss_if (sb_w (sw_or (sb_not (sb_val (se_isi rfl T.b_isinstance T.b_bool (by decide) (se_ix v2_ix ix_seq (se_v 3) (se_int)) rfl rfl (by decide +kernel)))) (sw_or (sb_not (sb_val (se_callB g_law_whole (hr.mono (by decide)) (takes_of rfl rfl rfl rfl) rfl (sv_cons (se_ix v2_ix ix_seq (se_v 3) (se_int)) (sv_nil))))) (sw_or1 (sb_cmp v2_ne (op_neA hr.units) (se_v 3) (se_ix v2_ix ix_seq (se_v 1) (se_v 2))))))) (sss_one (ss_ret (se_bl))) (sss_nil)))))) (
    sss_one (ss_ret (se_bl))))
abbrev s_law_cell_at : Stmt := top 16
theorem sc_law_cell_at : FnScope ["script", "k"] ["script", "k"] (defScope s_law_cell_at) := ⟨rfl, rfl, rfl, by decide +kernel, rfl, by decide +kernel, by decide +kernel⟩
theorem ok_law_cell_at {P : Program} {w : World} {K : PySem.W.Frag} {mg : Str → Option Value} {base : Heap} {f : Addr} {fd : FuncData} (T : Tp K mg) (Fn : Fun K "_law_cell_at" "_law_cell_at" s_law_cell_at f fd) : FnOk P w K mg base (L2.CX P w) 1 f fd ["script", "k"] (spOf (cT K) F_law_cell_at) :=
  fn_ok Fn sc_law_cell_at (by decide) fun cdv A outer s H E F hr =>
    sss_cons (ss_if (sb_cmp v2_lt op_lt (se_v 1) (se_blt vn_len call_lenA rfl T.b_len PySem.boot_len (sv_cons (se_v 0) (sv_nil)))) (sss_one (ss_ret (se_ix v2_ix ix_seq (se_v 0) (se_v 1)))) (sss_nil)) (
    sss_one (ss_ret (se_int)))
abbrev s_law_spoilt : Stmt := top 21
theorem sc_law_spoilt : FnScope ["fold", "way", "side", "word", "figures", "some"] ["fold", "way"] (defScope s_law_spoilt) := ⟨rfl, rfl, rfl, by decide +kernel, rfl, by decide +kernel, by decide +kernel⟩
theorem ok_law_spoilt {P : Program} {w : World} {K : PySem.W.Frag} {mg : Str → Option Value} {base : Heap} {f : Addr} {fd : FuncData} (T : Tp K mg) (Fn : Fun K "_law_spoilt" "_law_spoilt" s_law_spoilt f fd) : FnOk P w K mg base (L2.CX P w) 1 f fd ["fold", "way"] (spOf (cT K) F_law_spoilt) :=
  fn_ok Fn sc_law_spoilt (by decide) fun cdv A outer s H E F hr =>
    sss_cons (ss_set 2 sc_law_spoilt.nd (se_ix v2_ix ix_seq (se_v 0) (se_int))) (
    sss_cons (ss_set 3 sc_law_spoilt.nd (se_if (sb_val (se_ix v2_ix ix_seq (se_v 0) (se_int))) (se_str) (se_str))) (
    sss_cons (ss_set 4 sc_law_spoilt.nd (se_bty vn_str call_str_int rfl T.b_str (by decide +kernel) (sv_cons (se_ix v2_ix ix_seq (se_v 0) (se_int)) (sv_nil)))) (
    sss_cons (ss_set 5 sc_law_spoilt.nd (se_lst (sa_cons (se_op v2_add op_addA (se_op v2_add op_addA (se_op v2_add op_addA (se_str) (se_v 3)) (se_str)) (se_v 4)) (sa_cons (se_op v2_add op_addA (se_op v2_add op_addA (se_op v2_add op_addA (se_op v2_add op_addA (se_upper (se_v 2)) (se_str)) (se_v 3)) (se_str)) (se_v 4)) (sa_cons (se_op v2_add op_addA (se_op v2_add op_addA (se_v 2) (se_str)) (se_v 4)) (sa_nil)))))) (
    sss_cons (ss_set 5 sc_law_spoilt.nd (se_op v2_add op_addA (se_v 5) (se_lst (sa_cons (se_op v2_add op_addA (se_op v2_add op_addA (se_v 2) (se_str)) (se_v 4)) (sa_cons (se_op v2_add op_addA (se_op v2_add op_addA (se_v 3) (se_str)) (se_v 4)) (sa_cons (se_op v2_add op_addA (se_op v2_add op_addA (se_v 2) (se_str)) (se_v 3)) (sa_cons (se_op v2_add op_addA (se_op v2_add op_addA (se_op v2_add op_addA (se_v 2) (se_str)) (se_v 3)) (se_str)) (sa_nil)))))))) (
    sss_cons (ss_set 5 sc_law_spoilt.nd (se_op v2_add op_addA (se_v 5) (se_lst (sa_cons (se_op v2_add op_addA (se_op v2_add op_addA (se_op v2_add op_addA (se_op v2_add op_addA (se_v 2) (se_str)) (se_v 3)) (se_str)) (se_v 4)) (sa_cons (se_op v2_add op_addA (se_op v2_add op_addA (se_op v2_add op_addA (se_op v2_add op_addA (se_v 2) (se_str)) (se_v 3)) (se_str)) (se_v 4)) (sa_nil)))))) (
    sss_cons (ss_set 5 sc_law_spoilt.nd (se_op v2_add op_addA (se_v 5) (se_lst (sa_cons (se_op v2_add op_addA (se_op v2_add op_addA (se_op v2_add op_addA (se_op v2_add op_addA (se_str) (se_v 2)) (se_str)) (se_v 3)) (se_str)) (sa_nil))))) (
    sss_cons (ss_set 5 sc_law_spoilt.nd (se_op v2_add op_addA (se_v 5) (se_lst (sa_cons (se_op v2_add op_addA (se_op v2_add op_addA (se_op v2_add op_addA (se_op v2_add op_addA (se_op v2_add op_addA (se_v 2) (se_str)) (se_v 3)) (se_str)) (se_v 4)) (se_str)) (sa_cons (se_op v2_add op_addA (se_op v2_add op_addA (se_op v2_add op_addA (se_op v2_add op_addA (se_v 2) (se_str)) (se_v 3)) (se_str)) (se_v 4)) (sa_nil)))))) (
    sss_cons (ss_set 5 sc_law_spoilt.nd (se_op v2_add op_addA (se_v 5) (se_lst (sa_cons (se_op v2_add op_addA (se_op v2_add op_addA (se_op v2_add op_addA (se_op v2_add op_addA (se_v 2) (se_str)) (se_v 3)) (se_str)) (se_v 4)) (sa_cons (se_op v2_add op_addA (se_op v2_add op_addA (se_op v2_add op_addA (se_op v2_add op_addA (se_v 2) (se_str)) (se_v 3)) (se_str)) (se_v 4)) (sa_cons (se_op v2_add op_addA (se_op v2_add op_addA (se_op v2_add op_addA (se_v 2) (se_str)) (se_v 3)) (se_str)) (sa_nil))))))) (
    sss_cons (ss_set 5 sc_law_spoilt.nd (se_op v2_add op_addA (se_v 5) (se_lst (sa_cons (se_op v2_add op_addA (se_op v2_add op_addA (se_op v2_add op_addA (se_op v2_add op_addA (se_op v2_add op_addA (se_v 2) (se_str)) (se_v 3)) (se_str)) (se_v 4)) (se_str)) (sa_cons (se_op v2_add op_addA (se_op v2_add op_addA (se_op v2_add op_addA (se_v 2) (se_str)) (se_v 3)) (se_str)) (sa_cons (se_str) (sa_nil))))))) (
    sss_cons (ss_set 5 sc_law_spoilt.nd (se_op v2_add op_addA (se_v 5) (se_lst (sa_cons (se_op v2_add op_addA (se_op v2_add op_addA (se_op v2_add op_addA (se_op v2_add op_addA (se_op v2_add op_addA (se_v 2) (se_str)) (se_v 3)) (se_str)) (se_v 4)) (se_str)) (sa_cons (se_op v2_add op_addA (se_op v2_add op_addA (se_op v2_add op_addA (se_op v2_add op_addA (se_op v2_add op_addA (se_v 2) (se_str)) (se_v 3)) (se_str)) (se_v 4)) (se_str)) (sa_cons (se_slS (se_v 2) (spo_none) (spo_some (se_neg))) (sa_nil))))))) (
    sss_cons (ss_set 5 sc_law_spoilt.nd (se_op v2_add op_addA (se_v 5) (se_lst (sa_cons (se_op v2_add op_addA (se_op v2_add op_addA (se_op v2_add op_addA (se_op v2_add op_addA (se_op v2_add op_addA (se_v 2) (se_str)) (se_v 3)) (se_str)) (se_v 4)) (se_str)) (sa_cons (se_op v2_add op_addA (se_op v2_add op_addA (se_op v2_add op_addA (se_op v2_add op_addA (se_v 2) (se_str)) (se_v 3)) (se_str)) (se_v 4)) (sa_cons (se_op v2_add op_addA (se_v 2) (se_str)) (sa_nil))))))) (
    sss_cons (ss_set 5 sc_law_spoilt.nd (se_op v2_add op_addA (se_v 5) (se_lst (sa_cons (se_op v2_add op_addA (se_op v2_add op_addA (se_op v2_add op_addA (se_v 2) (se_str)) (se_v 3)) (se_str)) (sa_cons (se_op v2_add op_addA (se_op v2_add op_addA (se_op v2_add op_addA (se_op v2_add op_addA (se_op v2_add op_addA (se_v 2) (se_str)) (se_v 3)) (se_str)) (se_v 4)) (se_str)) (sa_nil)))))) (
    sss_cons (ss_set 5 sc_law_spoilt.nd (se_op v2_add op_addA (se_v 5) (se_lst (sa_cons (se_op v2_add op_addA (se_op v2_add op_addA (se_op v2_add op_addA (se_op v2_add op_addA (se_v 2) (se_str)) (se_v 3)) (se_str)) (se_v 4)) (sa_cons (se_op v2_add op_addA (se_op v2_add op_addA (se_op v2_add op_addA (se_op v2_add op_addA (se_v 2) (se_str)) (se_v 3)) (se_str)) (se_v 4)) (sa_nil)))))) (
    sss_one (ss_ret (se_ix v2_ix ix_seq (se_v 5) (se_op v2_mod op_mod (se_v 1) (se_int))))))))))))))))))
abbrev s_law : Stmt := top 24
theorem sc_law : FnScope ["script", "due", "parts", "way", "at", "text", "fold"] ["script"] (defScope s_law) := ⟨rfl, rfl, rfl, by decide +kernel, rfl, by decide +kernel, by decide +kernel⟩
theorem ok_law {P : Program} {w : World} {K : PySem.W.Frag} {mg : Str → Option Value} {base : Heap} {f : Addr} {fd : FuncData} (T : Tp K mg) (g_law_row_by : Gf P w K mg base (cT K) "_law_row_by" 1 ["script", "first", "most"] F_law_row_by) (g_law_refused : Gf P w K mg base (cT K) "_law_refused" 4 ["text"] F_law_refused) (g_law_written : Gf P w K mg base (cT K) "_law_written" 1 ["fold"] F_law_written) (g_law_same_folds : Gf P w K mg base (cT K) "_law_same_folds" 2 ["found", "due"] F_law_same_folds) (g_law_cell_at : Gf P w K mg base (cT K) "_law_cell_at" 1 ["script", "k"] F_law_cell_at) (g_law_spoilt : Gf P w K mg base (cT K) "_law_spoilt" 1 ["fold", "way"] F_law_spoilt) (g_read : Gf P w K mg base (cT K) "read" 3 ["text"] F_read) (Fn : Fun K "law" "law" s_law f fd) : FnOk P w K mg base (L2.CX P w) 5 f fd ["script"] (spOf (cT K) F_law) :=
  fn_ok Fn sc_law (by decide) fun cdv A outer s H E F hr =>
    sss_cons (ss_set 1 sc_law.nd (se_call g_law_row_by (hr.mono (by decide)) (takes_of rfl rfl rfl rfl) rfl (sa_cons (se_v 0) (sa_cons (se_int) (sa_cons (se_int) (sa_nil)))))) (
    sss_fz 1 (sss_cons (ss_setLc 2 [("fold", 6)] rfl sc_law.nd (si_list rfl (se_v 1)) (blkOk_by (by kernel_rfl)) (fun _ _ _ _ _ => pg_nm 6 sc_law.nd) (fun _ _ _ _ _ => spt_nil) (fun _ _ _ _ _ => se_callB g_law_written (hr.mono (by decide)) takesF rfl (sv_cons (se_v 6) (sv_nil)))) (
    sss_cons (ss_set 3 sc_law.nd (se_op v2_mod op_mod (se_op v2_div op_fdiv (se_callB g_law_cell_at (hr.mono (by decide)) (takes_of rfl rfl rfl rfl) rfl (sv_cons (se_v 0) (sv_cons (se_int) (sv_nil)))) (se_int)) (se_int))) (
    sss_cons (ss_if (sb_w (sw_or (sb_cmp v2_eq (op_eqA hr.units) (se_op v2_mod op_mod (se_callB g_law_cell_at (hr.mono (by decide)) (takes_of rfl rfl rfl rfl) rfl (sv_cons (se_v 0) (sv_cons (se_int) (sv_nil)))) (se_int)) (se_int)) (sw_or1 (sb_cmp v2_eq (op_eqA hr.units) (se_v 1) (se_lst (sa_nil)))))) (sss_one (ss_ret (se_callB g_law_same_folds (hr.mono (by decide)) (takes_of rfl rfl rfl rfl) rfl (sv_cons (se_call g_read (hr.mono (by decide)) (takes_of rfl rfl rfl rfl) rfl (sa_cons (se_join (se_str) (se_v 2)) (sa_nil))) (sv_cons (se_v 1) (sv_nil)))))) (sss_nil)) (
    sss_cons (ss_set 4 sc_law.nd (se_op v2_mod op_mod (se_callB g_law_cell_at (hr.mono (by decide)) (takes_of rfl rfl rfl rfl) rfl (sv_cons (se_v 0) (sv_cons (se_int) (sv_nil)))) (se_blt vn_len call_lenA rfl T.b_len PySem.boot_len (sv_cons (se_v 2) (sv_nil))))) (
    sss_cons (ss_setI (ps_asg (se_if (sb_cmp v2_lt op_lt (se_v 3) (se_int)) (se_callB g_law_spoilt (hr.mono (by decide)) (takes_of rfl rfl rfl rfl) rfl (sv_cons (se_ix v2_ix ix_seq (se_v 1) (se_v 4)) (sv_cons (se_v 3) (sv_nil)))) (se_ix v2_ix ix_seq (se_v 2) (se_v 4))) (pg_sub (pv 2) (se_v 4) set_list))) (
    sss_join 5 sc_law.nd (se_v 2) (
    ssst_cons (sst_of (ss_if (sb_w (sw_and (sb_cmp v2_lt op_lt (se_v 3) (se_int)) (sw_and1 (sb_cmp v2_eq (op_eqA hr.units) (se_v 5) (se_str))))) (sss_one (ss_ret (se_callB g_law_same_folds (hr.mono (by decide)) (takes_of rfl rfl rfl rfl) rfl (sv_cons (se_call g_read (hr.mono (by decide)) (takes_of rfl rfl rfl rfl) rfl (sa_cons (se_v 5) (sa_nil))) (sv_cons (se_lst (sa_nil)) (sv_nil)))))) (sss_nil))) (
    ssst_cons (sst_of (ss_if (sb_cmp v2_eq (op_eqA hr.units) (se_v 3) (se_int)) (sss_one (ss_set 5 sc_law.nd (se_op v2_add op_addA (se_v 5) (se_str)))) (sss_nil))) (
    ssst_cons (sst_of (ss_if (sb_cmp v2_eq (op_eqA hr.units) (se_v 3) (se_int)) (sss_one (ss_set 5 sc_law.nd (se_op v2_add op_addA (se_v 5) (se_str)))) (sss_nil))) (
    ssst_cons (sst_if (sb_cmp v2_eq (op_eqA hr.units) (se_v 3) (se_int)) (ssst_one (sst_set 5 sc_law.nd (set_if (sb_cmp v2_gt op_gt (se_blt vn_len call_lenA rfl T.b_len PySem.boot_len (sv_cons (se_v 2) (sv_nil))) (se_int)) (set_repl (se_v 5)) (set_of (se_str))))) (ssst_of sss_nil)) (
    ssst_one (sst_of (ss_ret (se_callB g_law_refused (hr.mono (by decide)) (takes_of rfl rfl rfl rfl) rfl (sv_cons (se_v 5) (sv_nil)))))))))))))))))
end Bk
set_option Elab.async false
set_option linter.all false
set_option maxRecDepth 100000
set_option maxHeartbeats 0
/-! KE: the head and the end (printed by gen.py). -/
namespace Bk
open PySem L2 PySem.Spec PyProof.Rows
def d_law_row_by : He.FnD := ⟨("_law_row_by", none), "_law_row_by", "_law_row_by", defArgs s_law_row_by, defBody s_law_row_by, defScope s_law_row_by⟩
def d_crease_of : He.FnD := ⟨("crease_of", none), "crease_of", "crease_of", defArgs s_crease_of, defBody s_crease_of, defScope s_crease_of⟩
def d_fold_of : He.FnD := ⟨("fold_of", none), "fold_of", "fold_of", defArgs s_fold_of, defBody s_fold_of, defScope s_fold_of⟩
def d_read : He.FnD := ⟨("read", none), "read", "read", defArgs s_read, defBody s_read, defScope s_read⟩
def d_law_word_of : He.FnD := ⟨("_law_word_of", none), "_law_word_of", "_law_word_of", defArgs s_law_word_of, defBody s_law_word_of, defScope s_law_word_of⟩
def d_law_refused : He.FnD := ⟨("_law_refused", none), "_law_refused", "_law_refused", defArgs s_law_refused, defBody s_law_refused, defScope s_law_refused⟩
def d_law_written : He.FnD := ⟨("_law_written", none), "_law_written", "_law_written", defArgs s_law_written, defBody s_law_written, defScope s_law_written⟩
def d_law_whole : He.FnD := ⟨("_law_whole", none), "_law_whole", "_law_whole", defArgs s_law_whole, defBody s_law_whole, defScope s_law_whole⟩
def d_law_same_folds : He.FnD := ⟨("_law_same_folds", none), "_law_same_folds", "_law_same_folds", defArgs s_law_same_folds, defBody s_law_same_folds, defScope s_law_same_folds⟩
def d_law_cell_at : He.FnD := ⟨("_law_cell_at", none), "_law_cell_at", "_law_cell_at", defArgs s_law_cell_at, defBody s_law_cell_at, defScope s_law_cell_at⟩
def d_law_spoilt : He.FnD := ⟨("_law_spoilt", none), "_law_spoilt", "_law_spoilt", defArgs s_law_spoilt, defBody s_law_spoilt, defScope s_law_spoilt⟩
def d_law : He.FnD := ⟨("law", none), "law", "law", defArgs s_law, defBody s_law, defScope s_law⟩
def fnL : List He.FnD := [d_law_row_by, d_crease_of, d_fold_of, d_read, d_law_word_of, d_law_refused, d_law_written, d_law_whole, d_law_same_folds, d_law_cell_at, d_law_spoilt, d_law]
def faL0 : List He.Fa := [.glo "NoSheet", .exc "NoSheet", .glo "NoFold", .exc "NoFold", .glo "NoPlace", .exc "NoPlace", .glo "Ajar", .exc "Ajar", .glo "Severed", .exc "Severed", .glo "Bolted", .exc "Bolted", .glo "Loose", .exc "Loose", .glo "NoWord", .exc "NoWord", .glo "LeafError", .exc "LeafError", .glo "_law_row_by", .keep "_law_row_by", .glo "crease_of", .keep "crease_of", .glo "fold_of", .keep "fold_of", .glo "read", .keep "read", .glo "_law_word_of", .keep "_law_word_of", .glo "_law_refused", .keep "_law_refused"]
def faL1 : List He.Fa := [.glo "_law_written", .keep "_law_written", .glo "_law_whole", .keep "_law_whole", .glo "_law_same_folds", .keep "_law_same_folds", .glo "_law_cell_at", .keep "_law_cell_at", .glo "_law_spoilt", .keep "_law_spoilt", .glo "law", .keep "law", .free "ValueError", .free "bool", .free "int", .free "isinstance", .free "len", .free "list", .free "range", .free "str", .free "tuple", .str "FIGURES" "0123456789", .exm "NoSheet" "LeafError" true, .exm "NoFold" "LeafError" true, .exm "NoPlace" "LeafError" true, .exm "Ajar" "LeafError" true, .exm "Severed" "LeafError" true, .exm "Bolted" "LeafError" true, .exm "Loose" "LeafError" true, .exm "NoWord" "LeafError" true]
def faL2 : List He.Fa := [.exm "LeafError" "LeafError" true]
def faL : List He.Fa := faL0 ++ faL1 ++ faL2
abbrev lawR : PySem.W.OpenRow := PySem.W.OpenLaw.row PySem.Challenge.rw_leaffold_k14_read
def lawEx : PySem.W.Frag → Bool := excChk 8 fun K k => He.ga K (exn k)
abbrev lawHk : PySem.W.Hook := hookX 4 faL fnL lawEx
def lawOb (s : PySem.W.SharedT) : AlX := obsX 4 faL fnL lawEx (HandSHeadRun.getT s)
theorem lawOb_eq (s : PySem.W.SharedT) : lawOb s = lawHk.obs s.abs := obsX_eq (HandSHeadRun.getT_eq s)
def lawNm0 : List Str := ["LeafError", "NoSheet", "NoFold", "NoPlace", "Ajar", "Severed", "Bolted", "Loose", "NoWord", "FIGURES", "crease_of", "fold_of", "read", "_law_cell_at", "_law_whole", "_law_same_folds", "_law_row_by", "_law_written", "_law_spoilt", "_law_word_of", "_law_refused"]
def lawNm : List Str := lawNm0
theorem lawRun (w : World) : HandSHeadRun.RunEq lawR (PySem.W.view lawR.prog [24]) lawHk lawOb 4000 lawNm w := by
  intro os
  kernel_rfl
theorem tp_of {K : PySem.W.Frag} {h : Heap} {mg : Str → Option Value} (X : K.In h) (G : h.Ns mainGlobals mg) (cc : He.SaysE faL fnL K) (cx : excChk 8 (fun K k => He.ga K (exn k)) K = true) : Tp K mg where
  e_NoSheet := excOk_of X G rfl (cc.fact 0) (cc.fact 1)
  e_NoFold := excOk_of X G rfl (cc.fact 2) (cc.fact 3)
  e_NoPlace := excOk_of X G rfl (cc.fact 4) (cc.fact 5)
  e_Ajar := excOk_of X G rfl (cc.fact 6) (cc.fact 7)
  e_Severed := excOk_of X G rfl (cc.fact 8) (cc.fact 9)
  e_Bolted := excOk_of X G rfl (cc.fact 10) (cc.fact 11)
  e_Loose := excOk_of X G rfl (cc.fact 12) (cc.fact 13)
  e_NoWord := excOk_of X G rfl (cc.fact 14) (cc.fact 15)
  e_LeafError := excOk_of X G rfl (cc.fact 16) (cc.fact 17)
  b_ValueError := He.free_ok X G (cc.fact 42)
  b_bool := He.free_ok X G (cc.fact 43)
  b_int := He.free_ok X G (cc.fact 44)
  b_isinstance := He.free_ok X G (cc.fact 45)
  b_len := He.free_ok X G (cc.fact 46)
  b_list := He.free_ok X G (cc.fact 47)
  b_range := He.free_ok X G (cc.fact 48)
  b_str := He.free_ok X G (cc.fact 49)
  b_tuple := He.free_ok X G (cc.fact 50)
  g_FIGURES := He.str_ok X G (cc.fact 51)
  x_LeafError := fun k b h => by
    match k, h with
    | 0, h => cases h; exact He.exm_ok (cc.fact 52)
    | 1, h => cases h; exact He.exm_ok (cc.fact 53)
    | 2, h => cases h; exact He.exm_ok (cc.fact 54)
    | 3, h => cases h; exact He.exm_ok (cc.fact 55)
    | 4, h => cases h; exact He.exm_ok (cc.fact 56)
    | 5, h => cases h; exact He.exm_ok (cc.fact 57)
    | 6, h => cases h; exact He.exm_ok (cc.fact 58)
    | 7, h => cases h; exact He.exm_ok (cc.fact 59)
    | n + 8, h => cases h
  isX := excIs_of (ea := fun K k => He.ga K (exn k)) rfl cx
theorem lawFacts {P : Program} {w : World} {K : PySem.W.Frag} {h : Heap} {mg : Str → Option Value} {f : Addr} (X : K.In h) (G : h.Ns mainGlobals mg) (hfa : mg ("law" : Str) = some (.ref f)) (cc : He.SaysE faL fnL K) (cx : excChk 8 (fun K k => He.ga K (exn k)) K = true) :
    ∃ fd : FuncData, (∀ (s : Shared) (v : Value), BindsTo s fd ⟨[v], []⟩ [("script", v)]) ∧ ∀ base : Heap, K.In base → base.Ns mainGlobals mg → FnOk P w K mg base CX0 5 f fd ["script"] (fun vs H Q _ => spOf (cT K) F_law vs H Q E0) := by
  have T := tp_of X G cc cx
  have e := hfa.symm.trans (He.glo_ok X G (cc.fact 40))
  cases e
  obtain ⟨fd_law_row_by, Fn_law_row_by⟩ := fun_of (st := s_law_row_by) cc 0 rfl (He.keep_ok (cc.fact 19))
  obtain ⟨fd_crease_of, Fn_crease_of⟩ := fun_of (st := s_crease_of) cc 1 rfl (He.keep_ok (cc.fact 21))
  obtain ⟨fd_fold_of, Fn_fold_of⟩ := fun_of (st := s_fold_of) cc 2 rfl (He.keep_ok (cc.fact 23))
  obtain ⟨fd_read, Fn_read⟩ := fun_of (st := s_read) cc 3 rfl (He.keep_ok (cc.fact 25))
  obtain ⟨fd_law_word_of, Fn_law_word_of⟩ := fun_of (st := s_law_word_of) cc 4 rfl (He.keep_ok (cc.fact 27))
  obtain ⟨fd_law_refused, Fn_law_refused⟩ := fun_of (st := s_law_refused) cc 5 rfl (He.keep_ok (cc.fact 29))
  obtain ⟨fd_law_written, Fn_law_written⟩ := fun_of (st := s_law_written) cc 6 rfl (He.keep_ok (cc.fact 31))
  obtain ⟨fd_law_whole, Fn_law_whole⟩ := fun_of (st := s_law_whole) cc 7 rfl (He.keep_ok (cc.fact 33))
  obtain ⟨fd_law_same_folds, Fn_law_same_folds⟩ := fun_of (st := s_law_same_folds) cc 8 rfl (He.keep_ok (cc.fact 35))
  obtain ⟨fd_law_cell_at, Fn_law_cell_at⟩ := fun_of (st := s_law_cell_at) cc 9 rfl (He.keep_ok (cc.fact 37))
  obtain ⟨fd_law_spoilt, Fn_law_spoilt⟩ := fun_of (st := s_law_spoilt) cc 10 rfl (He.keep_ok (cc.fact 39))
  obtain ⟨fd_law, Fn_law⟩ := fun_of (st := s_law) cc 11 rfl (He.keep_ok (cc.fact 41))
  refine ⟨fd_law, binds_law Fn_law fun _ _ _ _ _ _ _ => rfl, fun base _ _ => ?_⟩
  have g_law_row_by : Gf P w K mg base (cT K) "_law_row_by" 1 ["script", "first", "most"] F_law_row_by := gf_mk Fn_law_row_by (ok_law_row_by T Fn_law_row_by) (He.glo_ok X G (cc.fact 18)) (Fn_law_row_by.binds (ps := ["script", "first", "most"]) fun _ _ _ _ _ _ us hl => match us, hl with | [_, _, _], _ => rfl)
  have g_crease_of : Gf P w K mg base (cT K) "crease_of" 1 ["figures"] F_crease_of := gf_mk Fn_crease_of (ok_crease_of T Fn_crease_of) (He.glo_ok X G (cc.fact 20)) (Fn_crease_of.binds (ps := ["figures"]) fun _ _ _ _ _ _ us hl => match us, hl with | [_], _ => rfl)
  have g_fold_of : Gf P w K mg base (cT K) "fold_of" 2 ["text"] F_fold_of := gf_mk Fn_fold_of (ok_fold_of T g_crease_of Fn_fold_of) (He.glo_ok X G (cc.fact 22)) (Fn_fold_of.binds (ps := ["text"]) fun _ _ _ _ _ _ us hl => match us, hl with | [_], _ => rfl)
  have g_read : Gf P w K mg base (cT K) "read" 3 ["text"] F_read := gf_mk Fn_read (ok_read T g_fold_of Fn_read) (He.glo_ok X G (cc.fact 24)) (Fn_read.binds (ps := ["text"]) fun _ _ _ _ _ _ us hl => match us, hl with | [_], _ => rfl)
  have g_law_word_of : GfX P w K mg base (cT K) 8 "_law_word_of" 1 ["e"] F_law_word_of := ⟨⟨_, _, ok_law_word_of T Fn_law_word_of, He.glo_ok X G (cc.fact 26), He.keep_ok (cc.fact 27), (Fn_law_word_of.binds (ps := ["e"]) fun _ _ _ _ _ _ us hl => match us, hl with | [_], _ => rfl)⟩, rfl⟩
  have g_law_refused : Gf P w K mg base (cT K) "_law_refused" 4 ["text"] F_law_refused := gf_mk Fn_law_refused (ok_law_refused T g_read g_law_word_of Fn_law_refused) (He.glo_ok X G (cc.fact 28)) (Fn_law_refused.binds (ps := ["text"]) fun _ _ _ _ _ _ us hl => match us, hl with | [_], _ => rfl)
  have g_law_written : Gf P w K mg base (cT K) "_law_written" 1 ["fold"] F_law_written := gf_mk Fn_law_written (ok_law_written T Fn_law_written) (He.glo_ok X G (cc.fact 30)) (Fn_law_written.binds (ps := ["fold"]) fun _ _ _ _ _ _ us hl => match us, hl with | [_], _ => rfl)
  have g_law_whole : Gf P w K mg base (cT K) "_law_whole" 1 ["found"] F_law_whole := gf_mk Fn_law_whole (ok_law_whole T Fn_law_whole) (He.glo_ok X G (cc.fact 32)) (Fn_law_whole.binds (ps := ["found"]) fun _ _ _ _ _ _ us hl => match us, hl with | [_], _ => rfl)
  have g_law_same_folds : Gf P w K mg base (cT K) "_law_same_folds" 2 ["found", "due"] F_law_same_folds := gf_mk Fn_law_same_folds (ok_law_same_folds T g_law_whole Fn_law_same_folds) (He.glo_ok X G (cc.fact 34)) (Fn_law_same_folds.binds (ps := ["found", "due"]) fun _ _ _ _ _ _ us hl => match us, hl with | [_, _], _ => rfl)
  have g_law_cell_at : Gf P w K mg base (cT K) "_law_cell_at" 1 ["script", "k"] F_law_cell_at := gf_mk Fn_law_cell_at (ok_law_cell_at T Fn_law_cell_at) (He.glo_ok X G (cc.fact 36)) (Fn_law_cell_at.binds (ps := ["script", "k"]) fun _ _ _ _ _ _ us hl => match us, hl with | [_, _], _ => rfl)
  have g_law_spoilt : Gf P w K mg base (cT K) "_law_spoilt" 1 ["fold", "way"] F_law_spoilt := gf_mk Fn_law_spoilt (ok_law_spoilt T Fn_law_spoilt) (He.glo_ok X G (cc.fact 38)) (Fn_law_spoilt.binds (ps := ["fold", "way"]) fun _ _ _ _ _ _ us hl => match us, hl with | [_, _], _ => rfl)
  exact fn_cx0 (ok_law T g_law_row_by g_law_refused g_law_written g_law_same_folds g_law_cell_at g_law_spoilt g_read Fn_law)
end Bk
open PySem PySem.W PySem.Calls PyProof.Rows
theorem Bk.lawEnd (hF : ∀ ns : List Int, ns.length ≤ 63 → Bk.F_law [.fz (ns.map .int)] = .ok (.sh (.bl true))) : PySem.Challenge.rw_leaffold_k14_read.Holds := by
  w_on; o_law
  refine HandSHeadRun.head_any (r := OpenLaw.row PySem.Challenge.rw_leaffold_k14_read) (q := view (OpenLaw.row PySem.Challenge.rw_leaffold_k14_read).prog [24]) (H := Bk.lawHk) (ob := Bk.lawOb) (M := 4000) (loose := Bk.lawNm) (d := HandSHeadRun.topDef (OpenLaw.row PySem.Challenge.rw_leaffold_k14_read).prog 24) (kwd := []) Bk.lawOb_eq
    (by kernel_rfl) (fun s => by kernel_rfl) Bk.lawRun (by kernel_rfl) (by kernel_rfl) (by kernel_rfl) (by rfl) (by first | assumption | decide +kernel) (by decide +kernel) ⟨rfl, rfl, rfl, rfl, rfl, by decide +kernel⟩ ?hw ?hc
  case hw => w_witness2
  case hc =>
    refine L2.walk_ofE (l := PySem.Challenge.rw_leaffold_k14_read) (n := 63) (k := 5) (x := "script") (CX := L2.CX0) rfl (by decide) (by kernel_rfl) ⟨rfl, by decide, by decide⟩ ?F (fun _ _ _ _ z => z)
    intro w mg fa h Y G hmg0
    obtain ⟨K, KX, c, cx⟩ := Y
    have hmg : mg ("law" : PySem.Str) = some (.ref fa) := by
      have e : (HandSHeadRun.topDef (OpenLaw.row PySem.Challenge.rw_leaffold_k14_read).prog 24).name = ("law" : PySem.Str) := by kernel_rfl
      rw [← e]
      exact hmg0
    obtain ⟨fd, hb, hG⟩ := Bk.lawFacts (P := (PySem.Challenge.rw_leaffold_k14_read).prog) (w := w) KX G hmg c cx
    exact ⟨K, fd, fun vs H Q _ => Bk.spOf (Bk.cT K) Bk.F_law vs H Q L2.E0, KX, hb, fun H a ns hl _ hS => Bk.law_sp (c := Bk.cT K) hS (hF ns hl), hG⟩
theorem PySem.Challenge.cw_leaffold_k14_read_holds : PySem.Challenge.rw_leaffold_k14_read.Holds :=
  Bk.lawEnd Fd.law_true
