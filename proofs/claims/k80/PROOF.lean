import PyProof.Rows.All
import Wide.All
import OpenK.AllK
import Wide.FinOn
import HandS.ForMost
import HandS.Exc
import HandS.WordsExc
import HandS.IsInst
import HandS.OwnEq
import HandS.TupAny
import HandS.More
import HandS.Defaults
import HandS.HeadHook1
import HandS.HeadHook2
import HandS.HeadHook3
import HandS.Lambda
import HandS.Zip
import KE.KExcSuper
import HandS.ExcInit
import HandS.ExcField
import HandS.HeadWalk
import HandS.ExcSuper
import PyProof.InstNe
import KE.GoesEnum
import HandS.MakeKwOnly
import HandS.SortInts
import HandS.Dict
import PyProof.P3Eq
import HandS.TryMany
import HandS.Words
import HandS.Base
import HandS.Call
import KE.KStateDown
import Lean
import Wide.Once
import HandS.Head0
import HandS.Head1
import HandS.Head2
import PySem.Challenge.RW_wholeline_k80_whole_lines_changed
set_option Elab.async false
set_option linter.all false
section
set_option Elab.async false
set_option linter.all false
set_option maxRecDepth 100000
set_option maxHeartbeats 2000000
/-! Data as trees (D), a value of the heap stands for a datum (Rep), a def's frame as data (Sl), readings as a calculus over data (EvP, StP). -/
namespace WL
open PySem PySem.Spec PyProof.Rows L2
/-- a datum: what a value is worth while nobody changes it -/
inductive D where
  | non | bl (b : Bool) | int (i : Int) | str (x : Str) | raw (a : Addr)
  | lst (l : List D) | tup (l : List D) | ins (c : Str) (l : List (Str × D)) | dic (l : List (Str × D))
abbrev St1 := L2.St
/-- a tuple of the written part -/
def KT (K : PySem.W.Frag) (a : Addr) (xs : List V) : Prop := ∃ (o : Obj) (its : Array Value) (n : Nat), K.lookup a = some o ∧ o.cls = .type "tuple" ∧ o.data = .seq its n ∧ its.size ≤ sizeLine ∧ Vals xs its.toList
mutual
/-- Z: the addresses that somebody may still change -/
inductive Rep (K : PySem.W.Frag) (Z : Addr → Prop) (H : Hp) : V → D → Prop
  | non : Rep K Z H .non .non
  | bl (b : Bool) : Rep K Z H (.bl b) (.bl b)
  | int (i : Int) : Rep K Z H (.int i) (.int i)
  | str (x : Str) : Rep K Z H (.str x) (.str x)
  | raw (a : Addr) : Rep K Z H (.ref a) (.raw a)
  | lst {a : Addr} {xs : List V} {l : List D} : ¬ Z a → H a = some (.lst xs) → Reps K Z H xs l → Rep K Z H (.ref a) (.lst l)
  | tup {a : Addr} {xs : List V} {l : List D} : ¬ Z a → H a = some (.tup xs) → Reps K Z H xs l → Rep K Z H (.ref a) (.tup l)
  | ktup {a : Addr} {xs : List V} {l : List D} : KT K a xs → Reps K Z H xs l → Rep K Z H (.ref a) (.tup l)
  | ins {a dx : Addr} {c : Str} {fs : List (Str × V)} {l : List (Str × D)} : ¬ Z a → H a = some (.ins (He.ga K c) dx fs) → RepF K Z H fs l → Rep K Z H (.ref a) (.ins c l)
  | dic {a : Addr} {kvs : List (Key × V)} {l : List (Str × D)} : ¬ Z a → H a = some (.dK kvs) → RepK K Z H kvs l → Rep K Z H (.ref a) (.dic l)
inductive Reps (K : PySem.W.Frag) (Z : Addr → Prop) (H : Hp) : List V → List D → Prop
  | nil : Reps K Z H [] []
  | cons {v : V} {d : D} {vs : List V} {ds : List D} : Rep K Z H v d → Reps K Z H vs ds → Reps K Z H (v :: vs) (d :: ds)
inductive RepF (K : PySem.W.Frag) (Z : Addr → Prop) (H : Hp) : List (Str × V) → List (Str × D) → Prop
  | nil : RepF K Z H [] []
  | cons {f : Str} {v : V} {d : D} {vs : List (Str × V)} {ds : List (Str × D)} : Rep K Z H v d → RepF K Z H vs ds → RepF K Z H ((f, v) :: vs) ((f, d) :: ds)
inductive RepK (K : PySem.W.Frag) (Z : Addr → Prop) (H : Hp) : List (Key × V) → List (Str × D) → Prop
  | nil : RepK K Z H [] []
  | cons {f : Str} {v : V} {d : D} {vs : List (Key × V)} {ds : List (Str × D)} : Rep K Z H v d → RepK K Z H vs ds → RepK K Z H ((Sum.inr f, v) :: vs) ((f, d) :: ds)
end
section
variable {K : PySem.W.Frag} {Z Z' : Addr → Prop} {H H' : Hp}
mutual
theorem Rep.mono (hz : ∀ a, Z' a → Z a) (hk : ∀ a o, ¬ Z a → H a = some o → H' a = some o) : ∀ {v : V} {d : D}, Rep K Z H v d → Rep K Z' H' v d
  | _, _, .non => .non
  | _, _, .bl b => .bl b
  | _, _, .int i => .int i
  | _, _, .str x => .str x
  | _, _, .raw a => .raw a
  | _, _, .lst n h r => .lst (fun q => n (hz _ q)) (hk _ _ n h) (Reps.mono hz hk r)
  | _, _, .tup n h r => .tup (fun q => n (hz _ q)) (hk _ _ n h) (Reps.mono hz hk r)
  | _, _, .ktup h r => .ktup h (Reps.mono hz hk r)
  | _, _, .ins n h r => .ins (fun q => n (hz _ q)) (hk _ _ n h) (RepF.mono hz hk r)
  | _, _, .dic n h r => .dic (fun q => n (hz _ q)) (hk _ _ n h) (RepK.mono hz hk r)
theorem Reps.mono (hz : ∀ a, Z' a → Z a) (hk : ∀ a o, ¬ Z a → H a = some o → H' a = some o) : ∀ {v : List V} {d : List D}, Reps K Z H v d → Reps K Z' H' v d
  | _, _, .nil => .nil
  | _, _, .cons h r => .cons (Rep.mono hz hk h) (Reps.mono hz hk r)
theorem RepF.mono (hz : ∀ a, Z' a → Z a) (hk : ∀ a o, ¬ Z a → H a = some o → H' a = some o) : ∀ {v : List (Str × V)} {d : List (Str × D)}, RepF K Z H v d → RepF K Z' H' v d
  | _, _, .nil => .nil
  | _, _, .cons h r => .cons (Rep.mono hz hk h) (RepF.mono hz hk r)
theorem RepK.mono (hz : ∀ a, Z' a → Z a) (hk : ∀ a o, ¬ Z a → H a = some o → H' a = some o) : ∀ {v : List (Key × V)} {d : List (Str × D)}, RepK K Z H v d → RepK K Z' H' v d
  | _, _, .nil => .nil
  | _, _, .cons h r => .cons (Rep.mono hz hk h) (RepK.mono hz hk r)
end
mutual
/-- a new address may be owned -/
theorem Rep.own {p : Addr} (hp : H p = none) : ∀ {v : V} {d : D}, Rep K Z H v d → Rep K (fun a => Z a ∨ a = p) H v d
  | _, _, .non => .non
  | _, _, .bl b => .bl b
  | _, _, .int i => .int i
  | _, _, .str x => .str x
  | _, _, .raw a => .raw a
  | _, _, .lst n h r => .lst (fun q => q.elim n (fun e => by rw [e, hp] at h; cases h)) h (Reps.own hp r)
  | _, _, .tup n h r => .tup (fun q => q.elim n (fun e => by rw [e, hp] at h; cases h)) h (Reps.own hp r)
  | _, _, .ktup h r => .ktup h (Reps.own hp r)
  | _, _, .ins n h r => .ins (fun q => q.elim n (fun e => by rw [e, hp] at h; cases h)) h (RepF.own hp r)
  | _, _, .dic n h r => .dic (fun q => q.elim n (fun e => by rw [e, hp] at h; cases h)) h (RepK.own hp r)
theorem Reps.own {p : Addr} (hp : H p = none) : ∀ {v : List V} {d : List D}, Reps K Z H v d → Reps K (fun a => Z a ∨ a = p) H v d
  | _, _, .nil => .nil
  | _, _, .cons h r => .cons (Rep.own hp h) (Reps.own hp r)
theorem RepF.own {p : Addr} (hp : H p = none) : ∀ {v : List (Str × V)} {d : List (Str × D)}, RepF K Z H v d → RepF K (fun a => Z a ∨ a = p) H v d
  | _, _, .nil => .nil
  | _, _, .cons h r => .cons (Rep.own hp h) (RepF.own hp r)
theorem RepK.own {p : Addr} (hp : H p = none) : ∀ {v : List (Key × V)} {d : List (Str × D)}, RepK K Z H v d → RepK K (fun a => Z a ∨ a = p) H v d
  | _, _, .nil => .nil
  | _, _, .cons h r => .cons (Rep.own hp h) (RepK.own hp r)
end
theorem Reps.length : ∀ {v : List V} {d : List D}, Reps K Z H v d → v.length = d.length
  | _, _, .nil => rfl
  | _, _, .cons _ r => congrArg Nat.succ (Reps.length r)
theorem Reps.get : ∀ {v : List V} {d : List D} {i : Nat} {x : D}, Reps K Z H v d → d[i]? = some x → ∃ u, v[i]? = some u ∧ Rep K Z H u x
  | _, _, _, _, .nil, e => by simp at e
  | _, _, 0, _, .cons r _, e => by simp at e; subst e; exact ⟨_, rfl, r⟩
  | _, _, i + 1, x, .cons _ t, e => by
    obtain ⟨u, h1, h2⟩ := Reps.get (i := i) (x := x) t (by simpa using e)
    exact ⟨u, by simpa using h1, h2⟩
theorem Reps.getV : ∀ {v : List V} {d : List D} {i : Nat} {x : V}, Reps K Z H v d → v[i]? = some x → ∃ u, d[i]? = some u ∧ Rep K Z H x u
  | _, _, _, _, .nil, e => by simp at e
  | _, _, 0, _, .cons r _, e => by simp at e; subst e; exact ⟨_, rfl, r⟩
  | _, _, i + 1, x, .cons _ t, e => by
    obtain ⟨u, h1, h2⟩ := Reps.getV (i := i) (x := x) t (by simpa using e)
    exact ⟨u, by simpa using h1, h2⟩
theorem Reps.append : ∀ {v v' : List V} {d d' : List D}, Reps K Z H v d → Reps K Z H v' d' → Reps K Z H (v ++ v') (d ++ d')
  | _, _, _, _, .nil, s => s
  | _, _, _, _, .cons r t, s => .cons r (Reps.append t s)
theorem Reps.set {x : V} {y : D} (r : Rep K Z H x y) : ∀ {v : List V} {d : List D} (i : Nat), Reps K Z H v d → Reps K Z H (v.set i x) (d.set i y)
  | _, _, _, .nil => .nil
  | _, _, 0, .cons _ t => .cons r t
  | _, _, i + 1, .cons q t => .cons q (Reps.set r i t)
theorem RepF.lookup : ∀ {v : List (Str × V)} {d : List (Str × D)} {f : Str} {x : D}, RepF K Z H v d → d.lookup f = some x → ∃ u, v.lookup f = some u ∧ Rep K Z H u x
  | _, _, _, _, .nil, e => by simp at e
  | _, _, f, x, .cons (f := g) r t, e => by
    rw [List.lookup_cons] at e ⊢
    cases q : f == g with
    | true =>
      rw [q] at e
      simp at e
      subst e
      exact ⟨_, rfl, r⟩
    | false =>
      rw [q] at e
      simp at e
      exact RepF.lookup t e
theorem RepF.none : ∀ {v : List (Str × V)} {d : List (Str × D)} {f : Str}, RepF K Z H v d → d.lookup f = Option.none → v.lookup f = Option.none
  | _, _, _, .nil, _ => rfl
  | _, _, f, .cons (f := g) r t, e => by
    rw [List.lookup_cons] at e ⊢
    cases q : f == g with
    | true =>
      rw [q] at e
      cases e
    | false =>
      rw [q] at e
      exact RepF.none t e
theorem RepF.length : ∀ {v : List (Str × V)} {d : List (Str × D)}, RepF K Z H v d → v.length = d.length
  | _, _, .nil => rfl
  | _, _, .cons _ r => congrArg Nat.succ (RepF.length r)
theorem RepK.length : ∀ {v : List (Key × V)} {d : List (Str × D)}, RepK K Z H v d → v.length = d.length
  | _, _, .nil => rfl
  | _, _, .cons _ r => congrArg Nat.succ (RepK.length r)
end
/-! ### the state of the draws: a list of four ints, changed by every draw -/
def StOk (o : Option HO) : Prop := ∃ a b c d : Int, o = some (.lst [.int a, .int b, .int c, .int d])
/-- dr: the script and the draws' state; ns: the script's ints; T: the tables of the codes that make lambdas -/
structure Env1 where
  dr : Option (Addr × Addr) := none
  ns : List Int := []
  T : List (Addr × Str) := []
/-- what every call may change -/
def Env1.sp (G : Env1) (a : Addr) : Prop := (∃ p, G.dr = some p ∧ a = p.2) ∨ ∃ q ∈ G.T, a = q.1
/-- all is kept but the draws' state and the tables -/
structure Le (G : Env1) (H H' : Hp) : Prop where
  keep : ∀ a o, ¬ G.sp a → H a = some o → H' a = some o
  st : ∀ p, G.dr = some p → StOk (H p.2) → StOk (H' p.2)
  tb : ∀ q ∈ G.T, LamX.TabS H q.1 q.2 → LamX.TabS H' q.1 q.2
theorem Le.refl (G : Env1) (H : Hp) : Le G H H := ⟨fun _ _ _ h => h, fun _ _ h => h, fun _ _ h => h⟩
theorem Le.trans {G : Env1} {H H1 H2 : Hp} (a : Le G H H1) (b : Le G H1 H2) : Le G H H2 := ⟨fun x o n h => b.keep x o n (a.keep x o n h), fun p e h => b.st p e (a.st p e h), fun q e h => b.tb q e (a.tb q e h)⟩
theorem Le.of {G : Env1} {H H' : Hp} (h : ∀ a o, H a = some o → H' a = some o) : Le G H H' := by
  refine ⟨fun a o _ e => h a o e, fun p _ q => ?_, fun q _ t => t.ext h⟩
  obtain ⟨a, b, c, d, e⟩ := q
  exact ⟨a, b, c, d, h _ _ e⟩
theorem Le.new {G : Env1} {H : Hp} {p : Addr} {o : HO} (h : H p = none) : Le G H (upd H p o) := .of fun a u e => by rw [upd_ne (ne_of_none e h)]; exact e
/-- a table stands where it stood if what is changed is neither a table nor a code -/
theorem tabs_upd {H : Hp} {P a : Addr} {q : Str} {ob : HO} (t : LamX.TabS H P q) (hp : P ≠ a) (hc : ∀ c, H c = some (LamX.CodeO c q) → c ≠ a) : LamX.TabS (upd H a ob) P q := by
  obtain ⟨ps, h1, h2, h3⟩ := t
  refine ⟨ps, by rw [upd_ne hp]; exact h1, h2, fun pos cv h => ?_⟩
  obtain ⟨c, e, h4⟩ := h3 pos cv h
  exact ⟨c, e, by rw [upd_ne (hc c h4)]; exact h4⟩
/-- the script and the draws' state -/
def Dr (K : PySem.W.Frag) (ns : List Int) (H : Hp) (p : Addr × Addr) : Prop := (SqL K H p.1 (ns.map V.int) ∧ ns.length ≤ 63) ∧ StOk (H p.2)
structure EnvOk (K : PySem.W.Frag) (G : Env1) (Z : Addr → Prop) (H : Hp) : Prop where
  dr : ∀ p, G.dr = some p → Dr K G.ns H p ∧ (G.sp p.1 → ∀ H', SqL K H' p.1 (G.ns.map V.int))
  tb : ∀ q ∈ G.T, LamX.TabS H q.1 q.2
  zin : ∀ a, G.sp a → Z a
  live : ∀ a, Z a → H a ≠ none
theorem EnvOk.sp {K : PySem.W.Frag} {G : Env1} {Z : Addr → Prop} {H : Hp} (h : EnvOk K G Z H) {a : Addr} (e : H a = none) : ¬ G.sp a := fun s => h.live a (h.zin a s) e
theorem Dr.le {K : PySem.W.Frag} {G : Env1} {H H' : Hp} {p : Addr × Addr} (h : Dr K G.ns H p) (hp : G.dr = some p) (ne : G.sp p.1 → ∀ H', SqL K H' p.1 (G.ns.map V.int)) (e : Le G H H') : Dr K G.ns H' p := by
  obtain ⟨⟨hs, hl⟩, st⟩ := h
  refine ⟨⟨?_, hl⟩, e.st p hp st⟩
  by_cases hn : G.sp p.1
  · exact ne hn H'
  · rcases hs with (h | ⟨o, h⟩) | h
    · exact .inl (.inl (e.keep _ _ hn h))
    · exact .inl (.inr ⟨o, e.keep _ _ hn h⟩)
    · exact .inr h
theorem EnvOk.le {K : PySem.W.Frag} {G : Env1} {Z : Addr → Prop} {H H' : Hp} (h : EnvOk K G Z H) (e : Le G H H') : EnvOk K G Z H' := by
  refine ⟨fun p hp => ⟨(h.dr p hp).1.le hp (h.dr p hp).2 e, (h.dr p hp).2⟩, fun q hq => e.tb q hq (h.tb q hq), h.zin, fun a ha q => ?_⟩
  by_cases hs : G.sp a
  · rcases hs with ⟨p, hp, rfl⟩ | ⟨p, hp, rfl⟩
    · obtain ⟨_, _, _, _, y⟩ := e.st p hp (h.dr p hp).1.2
      rw [y] at q
      cases q
    · obtain ⟨ps, y, _⟩ := e.tb p hp (h.tb p hp)
      rw [y] at q
      cases q
  · cases y : H a with
    | none => exact h.live a ha y
    | some o =>
      have := e.keep a o hs y
      rw [this] at q
      cases q
section
variable {K : PySem.W.Frag} {G : Env1} {Z : Addr → Prop} {H H' : Hp}
theorem Le.keepZ (e : Le G H H') (hz : ∀ a, G.sp a → Z a) : ∀ a o, ¬ Z a → H a = some o → H' a = some o := fun a o n h => e.keep a o (fun q => n (hz a q)) h
theorem Rep.le {v : V} {d : D} (r : Rep K Z H v d) (e : Le G H H') (hz : ∀ a, G.sp a → Z a) : Rep K Z H' v d := r.mono (fun _ q => q) (e.keepZ hz)
theorem Reps.le {v : List V} {d : List D} (r : Reps K Z H v d) (e : Le G H H') (hz : ∀ a, G.sp a → Z a) : Reps K Z H' v d := r.mono (fun _ q => q) (e.keepZ hz)
theorem RepF.le {v : List (Str × V)} {d : List (Str × D)} (r : RepF K Z H v d) (e : Le G H H') (hz : ∀ a, G.sp a → Z a) : RepF K Z H' v d := r.mono (fun _ q => q) (e.keepZ hz)
theorem RepK.le {v : List (Key × V)} {d : List (Str × D)} (r : RepK K Z H v d) (e : Le G H H') (hz : ∀ a, G.sp a → Z a) : RepK K Z H' v d := r.mono (fun _ q => q) (e.keepZ hz)
theorem Rep.new {v : V} {d : D} {p : Addr} {o : HO} (r : Rep K Z H v d) (h : H p = none) : Rep K Z (upd H p o) v d := r.mono (fun _ q => q) fun b u _ e => by rw [upd_ne (ne_of_none e h)]; exact e
theorem Reps.new {v : List V} {d : List D} {p : Addr} {o : HO} (r : Reps K Z H v d) (h : H p = none) : Reps K Z (upd H p o) v d := r.mono (fun _ q => q) fun b u _ e => by rw [upd_ne (ne_of_none e h)]; exact e
end
/-- how the owned addresses and the heap may go on: what is not owned is kept, new owned ones are new -/
structure Go (Z : Addr → Prop) (H : Hp) (Z' : Addr → Prop) (H' : Hp) : Prop where
  keep : ∀ a o, ¬ Z a → H a = some o → H' a = some o
  z : ∀ a, Z' a → Z a ∨ H a = none
theorem Go.refl (Z : Addr → Prop) (H : Hp) : Go Z H Z H := ⟨fun _ _ _ h => h, fun _ h => .inl h⟩
theorem Go.trans {Z Z1 Z2 : Addr → Prop} {H H1 H2 : Hp} (a : Go Z H Z1 H1) (b : Go Z1 H1 Z2 H2) : Go Z H Z2 H2 := by
  have n1 : ∀ x o, ¬ Z x → H x = some o → ¬ Z1 x := fun x o n h q => (a.z x q).elim n fun z => by rw [h] at z; cases z
  refine ⟨fun x o n h => b.keep x o (n1 x o n h) (a.keep x o n h), fun x h => ?_⟩
  rcases b.z x h with q | q
  · exact a.z x q
  · by_cases hz : Z x
    · exact .inl hz
    · cases y : H x with
      | none => exact .inr rfl
      | some o => rw [a.keep x o hz y] at q; cases q
theorem Go.le {G : Env1} {Z : Addr → Prop} {H H' : Hp} (e : Le G H H') (hz : ∀ a, G.sp a → Z a) : Go Z H Z H' := ⟨e.keepZ hz, fun _ h => .inl h⟩
section
variable {K : PySem.W.Frag} {Z Z' : Addr → Prop} {H H' : Hp}
mutual
theorem Rep.go (g : Go Z H Z' H') : ∀ {v : V} {d : D}, Rep K Z H v d → Rep K Z' H' v d
  | _, _, .non => .non
  | _, _, .bl b => .bl b
  | _, _, .int i => .int i
  | _, _, .str x => .str x
  | _, _, .raw a => .raw a
  | _, _, .lst n h r => .lst (fun q => (g.z _ q).elim n fun z => by rw [h] at z; cases z) (g.keep _ _ n h) (Reps.go g r)
  | _, _, .tup n h r => .tup (fun q => (g.z _ q).elim n fun z => by rw [h] at z; cases z) (g.keep _ _ n h) (Reps.go g r)
  | _, _, .ktup h r => .ktup h (Reps.go g r)
  | _, _, .ins n h r => .ins (fun q => (g.z _ q).elim n fun z => by rw [h] at z; cases z) (g.keep _ _ n h) (RepF.go g r)
  | _, _, .dic n h r => .dic (fun q => (g.z _ q).elim n fun z => by rw [h] at z; cases z) (g.keep _ _ n h) (RepK.go g r)
theorem Reps.go (g : Go Z H Z' H') : ∀ {v : List V} {d : List D}, Reps K Z H v d → Reps K Z' H' v d
  | _, _, .nil => .nil
  | _, _, .cons h r => .cons (Rep.go g h) (Reps.go g r)
theorem RepF.go (g : Go Z H Z' H') : ∀ {v : List (Str × V)} {d : List (Str × D)}, RepF K Z H v d → RepF K Z' H' v d
  | _, _, .nil => .nil
  | _, _, .cons h r => .cons (Rep.go g h) (RepF.go g r)
theorem RepK.go (g : Go Z H Z' H') : ∀ {v : List (Key × V)} {d : List (Str × D)}, RepK K Z H v d → RepK K Z' H' v d
  | _, _, .nil => .nil
  | _, _, .cons h r => .cons (Rep.go g h) (RepK.go g r)
end
end
/-! ### frames as data -/
/-- un: nothing is known; d: a datum that nobody changes; own, odic, oins: a list, a dict, an instance that this frame alone knows and changes -/
inductive Sl where
  | un | d (x : D) | own (l : List D) | odic (l : List (Str × D)) | oins (a : Addr) (c : Str) (l : List (Str × D))
/-- H0: the heap at the def's entry -/
def SlOk (K : PySem.W.Frag) (H0 : Hp) (Z : Addr → Prop) (H : Hp) (o : Option V) : Sl → Prop
  | .un => True
  | .d x => ∃ v, o = some v ∧ Rep K Z H v x
  | .own l => ∃ a xs, o = some (.ref a) ∧ Z a ∧ H0 a = none ∧ H a = some (.lst xs) ∧ Reps K Z H xs l
  | .odic l => ∃ a kvs, o = some (.ref a) ∧ Z a ∧ H0 a = none ∧ H a = some (.dK kvs) ∧ RepK K Z H kvs l
  | .oins a c l => ∃ dx fs, o = some (.ref a) ∧ Z a ∧ H0 a = none ∧ H a = some (.ins (He.ga K c) dx fs) ∧ RepF K Z H fs l
def Sl.owns : Sl → Bool
  | .own _ => true
  | .odic _ => true
  | .oins _ _ _ => true
  | _ => false
structure RepS (K : PySem.W.Frag) (G : Env1) (Z0 : Addr → Prop) (H0 : Hp) (Z : Addr → Prop) (H : Hp) (σ : L2.St) (δ : List Sl) : Prop where
  env0 : EnvOk K G Z0 H0
  env : EnvOk K G Z H
  le0 : Le G H0 H
  base : ∀ a, Z0 a → Z a
  len : σ.length = δ.length
  at_ : ∀ (i : Nat) (o : Option V) (s : Sl), σ[i]? = some o → δ[i]? = some s → SlOk K H0 Z H o s
  sep : ∀ (i j : Nat) (a : Addr) (s t : Sl), σ[i]? = some (some (.ref a)) → σ[j]? = some (some (.ref a)) → δ[i]? = some s → δ[j]? = some t → s.owns = true → t.owns = true → i = j
section
variable {K : PySem.W.Frag} {G : Env1} {Z0 Z : Addr → Prop} {H0 H H' : Hp} {σ : L2.St} {δ : List Sl}
theorem RepS.ne (h : RepS K G Z0 H0 Z H σ δ) {a : Addr} (e : H0 a = none) : ¬ G.sp a := h.env0.sp e
theorem SlOk.le {o : Option V} {s : Sl} (h : SlOk K H0 Z H o s) (e : Le G H H') (hz : ∀ a, G.sp a → Z a) (ne : ∀ a, H0 a = none → ¬ G.sp a) : SlOk K H0 Z H' o s := by
  cases s with
  | un => trivial
  | d x => obtain ⟨v, a, r⟩ := h; exact ⟨v, a, r.le e hz⟩
  | own l => obtain ⟨a, xs, e1, z, n, h1, r⟩ := h; exact ⟨a, xs, e1, z, n, e.keep _ _ (ne a n) h1, r.le e hz⟩
  | odic l => obtain ⟨a, xs, e1, z, n, h1, r⟩ := h; exact ⟨a, xs, e1, z, n, e.keep _ _ (ne a n) h1, r.le e hz⟩
  | oins a c l => obtain ⟨dx, xs, e1, z, n, h1, r⟩ := h; exact ⟨dx, xs, e1, z, n, e.keep _ _ (ne a n) h1, r.le e hz⟩
theorem RepS.le (h : RepS K G Z0 H0 Z H σ δ) (e : Le G H H') : RepS K G Z0 H0 Z H' σ δ :=
  ⟨h.env0, h.env.le e, h.le0.trans e, h.base, h.len, fun i o s a b => (h.at_ i o s a b).le e h.env.zin fun a n => h.ne n, h.sep⟩
theorem RepS.slot (h : RepS K G Z0 H0 Z H σ δ) {i : Nat} {s : Sl} (e : δ[i]? = some s) : ∃ o, σ[i]? = some o ∧ SlOk K H0 Z H o s := by
  have hi : i < δ.length := (List.getElem?_eq_some_iff.mp e).1
  have hi' : i < σ.length := by rw [h.len]; exact hi
  exact ⟨σ[i], List.getElem?_eq_getElem hi', h.at_ i _ _ (List.getElem?_eq_getElem hi') e⟩
theorem RepS.var (h : RepS K G Z0 H0 Z H σ δ) {i : Nat} {x : D} (e : δ[i]? = some (.d x)) : ∃ v, σ[i]? = some (some v) ∧ Rep K Z H v x := by
  obtain ⟨o, e1, v, e2, r⟩ := h.slot e
  exact ⟨v, by rw [e1, e2], r⟩
theorem set_at {α : Type} {l : List α} {i j : Nat} {x y : α} (h : (l.set i x)[j]? = some y) : (i = j ∧ y = x ∧ i < l.length) ∨ (i ≠ j ∧ l[j]? = some y) := by
  by_cases e : i = j
  · subst e
    have hi : i < l.length := by simpa using (List.getElem?_eq_some_iff.mp h).1
    rw [List.getElem?_set_self hi] at h
    exact .inl ⟨rfl, (Option.some.inj h).symm, hi⟩
  · rw [List.getElem?_set_ne e] at h
    exact .inr ⟨e, h⟩
/-- a slot gets what nobody else owns -/
theorem RepS.set (h : RepS K G Z0 H0 Z H σ δ) {i : Nat} {o : Option V} {s : Sl} (r : SlOk K H0 Z H o s) (sp : s.owns = true → ∀ (j : Nat) (a : Addr) (t : Sl), i ≠ j → o = some (.ref a) → σ[j]? = some (some (.ref a)) → δ[j]? = some t → t.owns = true → False) :
    RepS K G Z0 H0 Z H (σ.set i o) (δ.set i s) := by
  refine ⟨h.env0, h.env, h.le0, h.base, by simp [h.len], fun j o' s' a b => ?_, fun j k a s' t e1 e2 f1 f2 o1 o2 => ?_⟩
  · rcases set_at a with ⟨rfl, rfl, _⟩ | ⟨n, a⟩
    · rcases set_at b with ⟨_, rfl, _⟩ | ⟨n, _⟩
      · exact r
      · exact absurd rfl n
    · rcases set_at b with ⟨e, _, _⟩ | ⟨_, b⟩
      · exact absurd e n
      · exact h.at_ j o' s' a b
  · have c1 := set_at f1
    have c2 := set_at f2
    have d1 := set_at e1
    have d2 := set_at e2
    rcases c1 with ⟨h1, q1, _⟩ | ⟨n1, g1⟩
    · rcases c2 with ⟨h2, _, _⟩ | ⟨n2, g2⟩
      · exact h1.symm.trans h2
      · rcases d1 with ⟨_, y1, _⟩ | ⟨n, _⟩
        · rcases d2 with ⟨y2, _, _⟩ | ⟨_, y2⟩
          · exact absurd y2 n2
          · subst q1
            exact (sp o1 k a t n2 y1.symm y2 g2 o2).elim
        · exact absurd h1 n
    · rcases d1 with ⟨y1, _, _⟩ | ⟨_, y1⟩
      · exact absurd y1 n1
      · rcases c2 with ⟨h2, q2, _⟩ | ⟨n2, g2⟩
        · rcases d2 with ⟨_, y2, _⟩ | ⟨n, _⟩
          · subst q2
            exact (sp o2 j a s' n1 y2.symm y1 g1 o1).elim
          · exact absurd h2 n
        · rcases d2 with ⟨y2, _, _⟩ | ⟨_, y2⟩
          · exact absurd y2 n2
          · exact h.sep j k a s' t y1 y2 g1 g2 o1 o2
theorem RepS.setD (h : RepS K G Z0 H0 Z H σ δ) {i : Nat} {v : V} {x : D} (r : Rep K Z H v x) : RepS K G Z0 H0 Z H (σ.set i (some v)) (δ.set i (.d x)) := h.set ⟨v, rfl, r⟩ fun q => nomatch q
end
/-! ### readings over data -/
/-- what a raising way leaves: the class by its name, its field, the datum in it -/
abbrev Ex1 := Str → Str → D → Prop
def Exo (K : PySem.W.Frag) (G : Env1) (Z : Addr → Prop) (H : Hp) (E : XK) (ex : Ex1) : Prop :=
  ∀ c f d dd v H', Le G H H' → H' dd = some (.xd [(f, v)]) → Rep K Z H' v d → ex c f d → E (.ref (He.ga K c)) (some dd) H'
def ex0 : Ex1 := fun _ _ _ => False
theorem Exo.zero {K : PySem.W.Frag} {G : Env1} {Z : Addr → Prop} {H : Hp} {E : XK} : Exo K G Z H E ex0 := fun _ _ _ _ _ _ _ _ _ q => q.elim
/-- the parameters of a reading: the written part, the draws, the def's own wish of what is raised, and as data -/
structure Pr where
  K : PySem.W.Frag
  G : Env1
  E : XK
  ex : Ex1
abbrev RepP (p : Pr) := RepS p.K p.G
abbrev ExoP (p : Pr) (Z : Addr → Prop) (H : Hp) : Prop := Exo p.K p.G Z H p.E p.ex
def EvP (p : Pr) (te : TE) (δ : List Sl) (R : D → Prop) : Prop := ∀ (Z0 : Addr → Prop) (H0 : Hp) (Z : Addr → Prop) (σ : L2.St) (H : Hp) (Q : VK), RepP p Z0 H0 Z H σ δ → ExoP p Z0 H0 →
  (∀ v d H2, Le p.G H H2 → Rep p.K Z H2 v d → R d → Q v H2) → te σ H Q
def EvT (p : Pr) (tt : TT) (δ : List Sl) (R : Bool → Prop) : Prop := ∀ (Z0 : Addr → Prop) (H0 : Hp) (Z : Addr → Prop) (σ : L2.St) (H : Hp) (Q : Bool → Hp → Prop), RepP p Z0 H0 Z H σ δ → ExoP p Z0 H0 →
  (∀ b H2, Le p.G H H2 → R b → Q b H2) → tt σ H Q
def EvA (p : Pr) (ta : TA) (δ : List Sl) (R : List D → Prop) : Prop := ∀ (Z0 : Addr → Prop) (H0 : Hp) (Z : Addr → Prop) (σ : L2.St) (H : Hp) (Q : List V → Hp → Prop), RepP p Z0 H0 Z H σ δ → ExoP p Z0 H0 →
  (∀ vs ds H2, Le p.G H H2 → Reps p.K Z H2 vs ds → R ds → Q vs H2) → ta σ H Q
/-- what is new and nobody else's -/
def EvO (p : Pr) (te : TE) (δ : List Sl) (R : Sl → Prop) : Prop := ∀ (Z0 : Addr → Prop) (H0 : Hp) (Z : Addr → Prop) (σ : L2.St) (H : Hp) (Q : VK), RepP p Z0 H0 Z H σ δ → ExoP p Z0 H0 →
  (∀ a s H2, Le p.G H H2 → H a = none → ((∃ xs l, s = .own l ∧ H2 a = some (.lst xs) ∧ Reps p.K (fun b => Z b ∨ b = a) H2 xs l) ∨ ∃ ks l, s = .odic l ∧ H2 a = some (.dK ks) ∧ RepK p.K (fun b => Z b ∨ b = a) H2 ks l) → R s → Q (.ref a) H2) → te σ H Q
/-- statements: nx what follows, rt a return, bk, ct a loop's ways -/
structure Po where
  nx : List Sl → Prop
  rt : D → Prop
  bk : List Sl → Prop := fun _ => False
  ct : List Sl → Prop := fun _ => False
def StP (p : Pr) (t : TS) (δ : List Sl) (o : Po) : Prop := ∀ (Z0 : Addr → Prop) (H0 : Hp) (Z : Addr → Prop) (σ : L2.St) (H : Hp) (Dn : Ends), RepP p Z0 H0 Z H σ δ → ExoP p Z0 H0 →
  (∀ Z' σ' δ' H', Go Z H Z' H' → RepP p Z0 H0 Z' H' σ' δ' → o.nx δ' → Dn.nx σ' H') → (∀ v d H', Le p.G H0 H' → Rep p.K Z0 H' v d → o.rt d → Dn.rt v H') →
  (∀ Z' σ' δ' H', Go Z H Z' H' → RepP p Z0 H0 Z' H' σ' δ' → o.bk δ' → Dn.bk σ' H') → (∀ Z' σ' δ' H', Go Z H Z' H' → RepP p Z0 H0 Z' H' σ' δ' → o.ct δ' → Dn.ct σ' H') → t Dn σ H
section
variable {p : Pr} {ta tb tc te : TE} {t u : TT} {δ : List Sl} {R : D → Prop} {RB : Bool → Prop} {RA : List D → Prop}
theorem ev_var {i : Nat} {x : D} (h : δ[i]? = some (.d x)) (k : R x) : EvP p (tVar i) δ R := fun Z0 H0 Z σ H Q s _ q => by
  obtain ⟨v, e, r⟩ := s.var h
  exact ⟨v, e, q v x H (Le.refl _ _) r k⟩
theorem ev_int {i : Int} (k : R (.int i)) : EvP p (tC (.int i)) δ R := fun _ _ _ _ H Q s _ q => q _ _ H (Le.refl _ _) (.int i) k
theorem ev_bl {b : Bool} (k : R (.bl b)) : EvP p (tC (.bl b)) δ R := fun _ _ _ _ H Q s _ q => q _ _ H (Le.refl _ _) (.bl b) k
theorem ev_str {x : Str} (k : R (.str x)) : EvP p (tC (.str x)) δ R := fun _ _ _ _ H Q s _ q => q _ _ H (Le.refl _ _) (.str x) k
theorem ev_non (k : R .non) : EvP p (tC .non) δ R := fun _ _ _ _ H Q s _ q => q _ _ H (Le.refl _ _) .non k
/-- a tuple of the written part, by its name -/
theorem ev_ktup {a : Addr} {xs : List V} {l : List D} (h : KT p.K a xs) (hr : ∀ Z H, Reps p.K Z H xs l) (k : R (.tup l)) : EvP p (tC (.ref a)) δ R := fun _ _ _ _ H Q s _ q => q _ _ H (Le.refl _ _) (.ktup h (hr _ _)) k
/-- two values in a row -/
theorem ev_two {W : V → V → Hp → VK → Prop} (ha : EvP p ta δ fun x => EvP p tb δ fun y => ∀ Z v w H Q, EnvOk p.K p.G Z H → Rep p.K Z H v x → Rep p.K Z H w y → (∀ z d H2, Le p.G H H2 → Rep p.K Z H2 z d → R d → Q z H2) → W v w H Q) : EvP p (tOp W ta tb) δ R :=
  fun Z0 H0 Z σ H Q s e q => ha Z0 H0 Z σ H _ s e fun v x H1 l1 r1 hb => hb Z0 H0 Z σ H1 _ (s.le l1) e fun w y H2 l2 r2 k =>
    k Z v w H2 Q (s.env.le (l1.trans l2)) (r1.le l2 s.env.zin) r2 fun z d H3 l3 => q z d H3 ((l1.trans l2).trans l3)
theorem EvP.imp {R' : D → Prop} (h : EvP p te δ R) (k : ∀ d, R d → R' d) : EvP p te δ R' := fun Z0 H0 Z σ H Q s e q => h Z0 H0 Z σ H Q s e fun v d H2 l r z => q v d H2 l r (k d z)
theorem EvT.imp {R' : Bool → Prop} (h : EvT p t δ RB) (k : ∀ d, RB d → R' d) : EvT p t δ R' := fun Z0 H0 Z σ H Q s e q => h Z0 H0 Z σ H Q s e fun d H2 l z => q d H2 l (k d z)
theorem EvA.imp {ta : TA} {R' : List D → Prop} (h : EvA p ta δ RA) (k : ∀ d, RA d → R' d) : EvA p ta δ R' := fun Z0 H0 Z σ H Q s e q => h Z0 H0 Z σ H Q s e fun v d H2 l r z => q v d H2 l r (k d z)
theorem ev_op2 {W : R2} {P : D → D → Prop} (h : EvP p ta δ fun x => EvP p tb δ (P x)) (k : ∀ x y, P x y → ∀ Z v w H Q, EnvOk p.K p.G Z H → Rep p.K Z H v x → Rep p.K Z H w y → (∀ z d H2, Le p.G H H2 → Rep p.K Z H2 z d → R d → Q z H2) → W v w H Q) : EvP p (tOp W ta tb) δ R :=
  ev_two (h.imp fun x hx => hx.imp fun y hy => k x y hy)
/-- two ints to an int, to a truth -/
theorem ev_opI {f : Int → Int → Int} (h : EvP p ta δ fun x => EvP p tb δ fun y => ∃ i j, x = .int i ∧ y = .int j ∧ R (.int (f i j))) : EvP p (tOp (rI0 fun i j => .int (f i j)) ta tb) δ R :=
  ev_op2 h fun x y ⟨i, j, ex, ey, k⟩ Z v w H Q _ r1 r2 q => by
    subst ex ey
    cases r1
    cases r2
    exact ⟨i, j, rfl, rfl, q _ _ H (Le.refl _ _) (.int _) k⟩
theorem ev_opC {C : Int → Int → Prop} {f : Int → Int → Int} (h : EvP p ta δ fun x => EvP p tb δ fun y => ∃ i j, x = .int i ∧ y = .int j ∧ C i j ∧ R (.int (f i j))) : EvP p (tOp (rI C fun i j => .int (f i j)) ta tb) δ R :=
  ev_op2 h fun x y ⟨i, j, ex, ey, c, k⟩ Z v w H Q _ r1 r2 q => by
    subst ex ey
    cases r1
    cases r2
    exact ⟨i, j, rfl, rfl, c, q _ _ H (Le.refl _ _) (.int _) k⟩
theorem ev_opB {f : Int → Int → Bool} (h : EvP p ta δ fun x => EvP p tb δ fun y => ∃ i j, x = .int i ∧ y = .int j ∧ R (.bl (f i j))) : EvP p (tOp (rI0 fun i j => .bl (f i j)) ta tb) δ R :=
  ev_op2 h fun x y ⟨i, j, ex, ey, k⟩ Z v w H Q _ r1 r2 q => by
    subst ex ey
    cases r1
    cases r2
    exact ⟨i, j, rfl, rfl, q _ _ H (Le.refl _ _) (.bl _) k⟩
/-- flat data, compared by == -/
def D.scal : D → D → Option Bool
  | .int i, .int j => some (decide (i = j))
  | .str i, .str j => some (decide (i = j))
  | .bl i, .bl j => some (decide (i = j))
  | .non, .non => some true
  | .non, .int _ => some false
  | .int _, .non => some false
  | .non, .str _ => some false
  | .str _, .non => some false
  | .int _, .str _ => some false
  | .str _, .int _ => some false
  | _, _ => none
theorem scal_ok {K : PySem.W.Frag} {Z : Addr → Prop} {H : Hp} {v w : V} {x y : D} {b : Bool} (h : D.scal x y = some b) (r1 : Rep K Z H v x) (r2 : Rep K Z H w y) : scal v w = true ∧ decide (v = w) = b := by
  cases r1 <;> cases r2 <;> simp [D.scal] at h <;> subst h <;> simp [scal]
theorem ev_eq (h : EvP p ta δ fun x => EvP p tb δ fun y => ∃ b, D.scal x y = some b ∧ R (.bl b)) : EvP p (tOp rEq ta tb) δ R :=
  ev_op2 h fun x y ⟨b, hb, kb⟩ Z v w H Q _ r1 r2 q => by
    obtain ⟨e1, e2⟩ := scal_ok hb r1 r2
    exact ⟨e1, by rw [e2]; exact q _ _ H (Le.refl _ _) (.bl b) kb⟩
theorem ev_ne (h : EvP p ta δ fun x => EvP p tb δ fun y => ∃ b, D.scal x y = some b ∧ R (.bl (!b))) : EvP p (tOp rNe ta tb) δ R :=
  ev_op2 h fun x y ⟨b, hb, kb⟩ Z v w H Q _ r1 r2 q => by
    obtain ⟨e1, e2⟩ := scal_ok hb r1 r2
    exact ⟨e1, by rw [e2]; exact q _ _ H (Le.refl _ _) (.bl (!b)) kb⟩
def D.isNon : D → Bool
  | .non => true
  | _ => false
theorem isNon_ok {K : PySem.W.Frag} {Z : Addr → Prop} {H : Hp} {v : V} {x : D} (r : Rep K Z H v x) : decide (v = .non) = x.isNon := by
  cases r <;> simp [D.isNon]
theorem ev_isN (h : EvP p ta δ fun x => R (.bl x.isNon)) : EvP p (tOp (fun x y H Q => y = .non ∧ Q (.bl (decide (x = .non))) H) ta (tC .non)) δ R :=
  fun Z0 H0 Z σ H Q s e q => h Z0 H0 Z σ H _ s e fun v x H1 l1 r1 k => ⟨rfl, by rw [isNon_ok r1]; exact q _ _ H1 l1 (.bl _) k⟩
theorem ev_notN (h : EvP p ta δ fun x => R (.bl (!x.isNon))) : EvP p (tOp (fun x y H Q => y = .non ∧ Q (.bl (!decide (x = .non))) H) ta (tC .non)) δ R :=
  fun Z0 H0 Z σ H Q s e q => h Z0 H0 Z σ H _ s e fun v x H1 l1 r1 k => ⟨rfl, by rw [isNon_ok r1]; exact q _ _ H1 l1 (.bl _) k⟩
/-- a < b < c of ints -/
theorem ev_chain {f g : Int → Int → Bool} (h : EvP p ta δ fun x => EvP p tb δ fun y => ∃ i j, x = .int i ∧ y = .int j ∧ if f i j = true then EvP p tc δ fun z => ∃ k, z = .int k ∧ R (.bl (g j k)) else R (.bl false)) :
    EvP p (tChain (rI0 fun i j => .bl (f i j)) (rI0 fun i j => .bl (g i j)) ta tb tc) δ R :=
  fun Z0 H0 Z σ H Q s e q => h Z0 H0 Z σ H _ s e fun v x H1 l1 r1 hb => hb Z0 H0 Z σ H1 _ (s.le l1) e fun w y H2 l2 r2 ⟨i, j, ex, ey, k⟩ => by
    subst ex ey
    cases r1
    cases r2
    refine ⟨i, j, rfl, rfl, f i j, rfl, ?_⟩
    by_cases hf : f i j = true
    · rw [if_pos hf] at k ⊢
      exact k Z0 H0 Z σ H2 _ (s.le (l1.trans l2)) e fun w z H3 l3 r3 ⟨m, ez, kk⟩ => by
        subst ez
        cases r3
        exact ⟨j, m, rfl, rfl, q _ _ H3 ((l1.trans l2).trans l3) (.bl _) kk⟩
    · rw [if_neg hf] at k ⊢
      exact q _ _ H2 (l1.trans l2) (.bl _) k
/-! tests -/
theorem et_test (h : EvP p te δ fun x => ∃ b, x = .bl b ∧ RB b) : EvT p (tTest te) δ RB := fun Z0 H0 Z σ H Q s e q => h Z0 H0 Z σ H _ s e fun v x H1 l1 r1 ⟨b, ex, k⟩ => by
  subst ex
  cases r1
  exact ⟨b, rfl, q b H1 l1 k⟩
theorem et_B (h : EvP p te δ fun x => ∃ b, x = .bl b ∧ RB b) : EvT p (tB te) δ RB := fun Z0 H0 Z σ H Q s e q => h Z0 H0 Z σ H _ s e fun v x H1 l1 r1 ⟨b, ex, k⟩ => by
  subst ex
  cases r1
  exact ⟨b, rfl, q b H1 l1 k⟩
theorem et_and (h : EvT p t δ fun b => if b = true then EvT p u δ RB else RB false) : EvT p (tAnd t u) δ RB := fun Z0 H0 Z σ H Q s e q => h Z0 H0 Z σ H _ s e fun b H1 l1 k => by
  cases b with
  | true => exact k Z0 H0 Z σ H1 Q (s.le l1) e fun b H2 l2 => q b H2 (l1.trans l2)
  | false => exact q false H1 l1 k
theorem et_or (h : EvT p t δ fun b => if b = true then RB true else EvT p u δ RB) : EvT p (tOr t u) δ RB := fun Z0 H0 Z σ H Q s e q => h Z0 H0 Z σ H _ s e fun b H1 l1 k => by
  cases b with
  | false => exact k Z0 H0 Z σ H1 Q (s.le l1) e fun b H2 l2 => q b H2 (l1.trans l2)
  | true => exact q true H1 l1 k
theorem et_not (h : EvT p t δ fun b => RB (!b)) : EvT p (tNot t) δ RB := fun Z0 H0 Z σ H Q s e q => h Z0 H0 Z σ H _ s e fun b H1 l1 k => q _ H1 l1 k
theorem ev_andV (h : EvP p ta δ fun x => ∃ b, x = .bl b ∧ if b = true then EvP p tb δ R else R (.bl false)) : EvP p (tAndV ta tb) δ R := fun Z0 H0 Z σ H Q s e q => h Z0 H0 Z σ H _ s e fun v x H1 l1 r1 ⟨b, ex, k⟩ => by
  subst ex
  cases r1
  refine ⟨b, rfl, ?_⟩
  cases b with
  | true => exact k Z0 H0 Z σ H1 Q (s.le l1) e fun v d H2 l2 => q v d H2 (l1.trans l2)
  | false => exact q _ _ H1 l1 (.bl false) k
theorem ev_orV (h : EvP p ta δ fun x => ∃ b, x = .bl b ∧ if b = true then R (.bl true) else EvP p tb δ R) : EvP p (tOrV ta tb) δ R := fun Z0 H0 Z σ H Q s e q => h Z0 H0 Z σ H _ s e fun v x H1 l1 r1 ⟨b, ex, k⟩ => by
  subst ex
  cases r1
  refine ⟨b, rfl, ?_⟩
  cases b with
  | false => exact k Z0 H0 Z σ H1 Q (s.le l1) e fun v d H2 l2 => q v d H2 (l1.trans l2)
  | true => exact q _ _ H1 l1 (.bl true) k
theorem ev_notV (h : EvP p ta δ fun x => ∃ b, x = .bl b ∧ R (.bl (!b))) : EvP p (tNotV ta) δ R := fun Z0 H0 Z σ H Q s e q => h Z0 H0 Z σ H _ s e fun v x H1 l1 r1 ⟨b, ex, k⟩ => by
  subst ex
  cases r1
  exact ⟨b, rfl, q _ _ H1 l1 (.bl _) k⟩
theorem ev_if (h : EvT p t δ fun b => if b = true then EvP p ta δ R else EvP p tb δ R) : EvP p (tIf t ta tb) δ R := fun Z0 H0 Z σ H Q s e q => h Z0 H0 Z σ H _ s e fun b H1 l1 k => by
  cases b with
  | true => exact k Z0 H0 Z σ H1 Q (s.le l1) e fun v d H2 l2 => q v d H2 (l1.trans l2)
  | false => exact k Z0 H0 Z σ H1 Q (s.le l1) e fun v d H2 l2 => q v d H2 (l1.trans l2)
/-! arguments -/
theorem ea_nil (k : RA []) : EvA p tNil δ RA := fun _ _ _ _ H Q s _ q => q [] [] H (Le.refl _ _) .nil k
theorem ea_cons {tr : TA} (h : EvP p te δ fun x => EvA p tr δ fun xs => RA (x :: xs)) : EvA p (tCons te tr) δ RA := fun Z0 H0 Z σ H Q s e q => h Z0 H0 Z σ H _ s e fun v x H1 l1 r1 k =>
  k Z0 H0 Z σ H1 _ (s.le l1) e fun vs xs H2 l2 r2 k2 => q _ _ H2 (l1.trans l2) (.cons (r1.le l2 s.env.zin) r2) k2
theorem sz_of {n : Nat} (h : n ≤ 100000) : n ≤ sizeLine := Nat.le_trans h (by decide)
theorem ev_tup {t : TA} (h : EvA p t δ fun xs => xs.length ≤ 100000 ∧ R (.tup xs)) : EvP p (tTup t) δ R := fun Z0 H0 Z σ H Q s e q => h Z0 H0 Z σ H _ s e fun vs xs H1 l1 r1 ⟨hl, k⟩ =>
  ⟨sz_of (by rw [r1.length]; exact hl), fun a ha => q _ _ _ (l1.trans (Le.new ha)) (.tup (fun z => (s.env.le l1).live a z ha) upd_same (r1.new ha)) k⟩
theorem ev_lst {t : TA} (h : EvA p t δ fun xs => xs.length ≤ 100000 ∧ R (.lst xs)) : EvP p (tLst t) δ R := fun Z0 H0 Z σ H Q s e q => h Z0 H0 Z σ H _ s e fun vs xs H1 l1 r1 ⟨hl, k⟩ =>
  ⟨sz_of (by rw [r1.length]; exact hl), fun a ha => q _ _ _ (l1.trans (Le.new ha)) (.lst (fun z => (s.env.le l1).live a z ha) upd_same (r1.new ha)) k⟩
end
end WL
end
section
set_option Elab.async false
set_option linter.all false
set_option maxRecDepth 100000
set_option maxHeartbeats 2000000
/-! The calculus over data: fields, items, calls, new instances, statements, loops, comprehensions, a def's promise over data. -/
namespace WL
open PySem PySem.Spec PyProof.Rows L2
/-! ### promises over data -/
/-- what a def is worth: its arguments as data, what is wanted of the result, what is wanted of what it raises -/
abbrev Fn1 := Env1 → List D → (D → Prop) → Ex1 → Prop
def spD (K : PySem.W.Frag) (F : Fn1) : Sp := fun vs H Q E => ∃ (G : Env1) (Z : Addr → Prop) (ds : List D) (R : D → Prop) (ex : Ex1), EnvOk K G Z H ∧ Reps K Z H vs ds ∧ F G ds R ex ∧
  (∀ v d H', Le G H H' → Rep K Z H' v d → R d → Q v H') ∧ Exo K G Z H E ex
/-- an __init__: what stands in the fields behind it -/
abbrev FnI := Env1 → List D → (List (Str × D) → Prop) → Ex1 → Prop
def delA (H : Hp) (a : Addr) : Hp := fun b => if b = a then none else H b
theorem delA_ne {H : Hp} {a b : Addr} (h : b ≠ a) : delA H a b = H b := by unfold delA; rw [if_neg h]
theorem delA_same {H : Hp} {a : Addr} : delA H a a = none := by unfold delA; rw [if_pos rfl]
def spI (K : PySem.W.Frag) (c : Str) (F : FnI) : Sp := fun vs H Q E => ∃ (G : Env1) (Z : Addr → Prop) (x dx : Addr) (ws : List V) (ds : List D) (R : List (Str × D) → Prop) (ex : Ex1), vs = .ref x :: ws ∧ H x = some (.ins (He.ga K c) dx []) ∧
  EnvOk K G Z (delA H x) ∧ Reps K Z (delA H x) ws ds ∧ F G ds R ex ∧ (∀ dx' fs l H', Le G (delA H x) H' → H' x = some (.ins (He.ga K c) dx' fs) → RepF K Z H' fs l → R l → Q .non H') ∧ Exo K G Z (delA H x) E ex
section
variable {p : Pr} {ta tb tc te : TE} {t u : TT} {δ : List Sl} {R : D → Prop} {RB : Bool → Prop} {RA : List D → Prop}
theorem exo_call {Z0 Z : Addr → Prop} {H0 H : Hp} {σ : L2.St} (s : RepP p Z0 H0 Z H σ δ) (e : ExoP p Z0 H0) : ExoP p Z H := fun c f d dd v H' l h r k =>
  e c f d dd v H' (s.le0.trans l) h (r.mono s.base fun _ _ _ q => q) k
/-- f(..) -/
theorem ev_call {F : Fn1} {ta : TA} (h : EvA p ta δ fun ds => F p.G ds R p.ex) : EvP p (tCall (spD p.K F) [] p.E ta) δ R := fun Z0 H0 Z σ H Q s e q => h Z0 H0 Z σ H _ s e fun vs ds H1 l1 r1 k =>
  ⟨p.G, Z, ds, R, p.ex, s.env.le l1, by rw [List.append_nil]; exact r1, k, fun v d H' l => q v d H' (l1.trans l), exo_call (s.le l1) e⟩
/-- .. that raises nothing -/
theorem ev_callN {F : Fn1} {E : XK} {ta : TA} (h : EvA p ta δ fun ds => F p.G ds R ex0) : EvP p (tCall (spD p.K F) [] E ta) δ R := fun Z0 H0 Z σ H Q s e q => h Z0 H0 Z σ H _ s e fun vs ds H1 l1 r1 k =>
  ⟨p.G, Z, ds, R, ex0, s.env.le l1, by rw [List.append_nil]; exact r1, k, fun v d H' l => q v d H' (l1.trans l), Exo.zero⟩
/-- .. with defaults -/
theorem ev_callD {F : Fn1} {dvs : List V} {dds : List D} {ta : TA} (hd : ∀ Z H, Reps p.K Z H dvs dds) (h : EvA p ta δ fun ds => F p.G (ds ++ dds) R p.ex) : EvP p (tCall (spD p.K F) dvs p.E ta) δ R := fun Z0 H0 Z σ H Q s e q => h Z0 H0 Z σ H _ s e fun vs ds H1 l1 r1 k =>
  ⟨p.G, Z, ds ++ dds, R, p.ex, s.env.le l1, r1.append (hd _ _), k, fun v d H' l => q v d H' (l1.trans l), exo_call (s.le l1) e⟩
/-- o.m(..) -/
theorem ev_meth {F : Fn1} {c m : Str} {ta : TA} (h : EvP p te δ fun x => ∃ l, x = .ins c l ∧ l.lookup m = none ∧ EvA p ta δ fun ds => F p.G (x :: ds) R p.ex) : EvP p (tMeth (He.ga p.K c) m (spD p.K F) [] p.E te ta) δ R :=
  fun Z0 H0 Z σ H Q s e q => h Z0 H0 Z σ H _ s e fun v x H1 l1 r1 ⟨l, ex, nl, ha⟩ => by
    subst ex
    cases r1 with
    | ins n hH rf => exact ⟨_, _, _, rfl, hH, rf.none nl, ha Z0 H0 Z σ H1 _ (s.le l1) e fun vs ds H2 l2 r2 k =>
        ⟨p.G, Z, .ins c l :: ds, R, p.ex, s.env.le (l1.trans l2), .cons ((Rep.ins n hH rf).le l2 s.env.zin) (by rw [List.append_nil]; exact r2), k, fun v d H' l => q v d H' ((l1.trans l2).trans l), exo_call (s.le (l1.trans l2)) e⟩⟩
theorem ev_methN {F : Fn1} {E : XK} {c m : Str} {ta : TA} (h : EvP p te δ fun x => ∃ l, x = .ins c l ∧ l.lookup m = none ∧ EvA p ta δ fun ds => F p.G (x :: ds) R ex0) : EvP p (tMeth (He.ga p.K c) m (spD p.K F) [] E te ta) δ R :=
  fun Z0 H0 Z σ H Q s e q => h Z0 H0 Z σ H _ s e fun v x H1 l1 r1 ⟨l, ex, nl, ha⟩ => by
    subst ex
    cases r1 with
    | ins n hH rf => exact ⟨_, _, _, rfl, hH, rf.none nl, ha Z0 H0 Z σ H1 _ (s.le l1) e fun vs ds H2 l2 r2 k =>
        ⟨p.G, Z, .ins c l :: ds, R, ex0, s.env.le (l1.trans l2), .cons ((Rep.ins n hH rf).le l2 s.env.zin) (by rw [List.append_nil]; exact r2), k, fun v d H' l => q v d H' ((l1.trans l2).trans l), Exo.zero⟩⟩
theorem make_del {H : Hp} {x dx : Addr} {o u : HO} (hx : H x = none) (ne : dx ≠ x) : delA (upd (upd H dx u) x o) x = upd H dx u := by
  funext b
  by_cases hb : b = x
  · subst hb
    rw [delA_same, upd_ne (Ne.symm ne), hx]
  · rw [delA_ne hb, upd_ne hb]
/-- C(..): an instance of the class c -/
theorem ev_makeD {F : FnI} {c : Str} {dvs : List V} {dds : List D} {ta : TA} (hd : ∀ Z H, Reps p.K Z H dvs dds) (h : EvA p ta δ fun ds => F p.G (ds ++ dds) (fun l => R (.ins c l)) p.ex) : EvP p (tMake (He.ga p.K c) (spI p.K c F) dvs p.E ta) δ R :=
  fun Z0 H0 Z σ H Q s e q => h Z0 H0 Z σ H _ s e fun vs ds H1 l1 r1 k x dx hx hdx ne => by
    have E1 := s.env.le l1
    have lD : Le p.G H1 (upd H1 dx (.own x)) := Le.new hdx
    refine ⟨p.G, Z, x, dx, _, ds ++ dds, fun l => R (.ins c l), p.ex, rfl, upd_same, ?_, ?_, k, fun dx' fs l H' le hH rf kk => ⟨rfl, ?_⟩, ?_⟩
    · rw [make_del hx ne]; exact E1.le lD
    · rw [make_del hx ne]; exact (r1.append (hd _ _)).new hdx
    · rw [make_del hx ne] at le
      exact q _ _ H' ((l1.trans lD).trans le) (.ins (fun z => E1.live x z hx) hH rf) kk
    · rw [make_del hx ne]; exact exo_call (s.le (l1.trans lD)) e
theorem ev_make {F : FnI} {c : Str} {ta : TA} (h : EvA p ta δ fun ds => F p.G ds (fun l => R (.ins c l)) p.ex) : EvP p (tMake (He.ga p.K c) (spI p.K c F) [] p.E ta) δ R :=
  ev_makeD (dds := []) (fun _ _ => .nil) (h.imp fun ds k => by rw [List.append_nil]; exact k)
/-! ### fields, items -/
theorem ev_fld {f : Str} (h : EvP p te δ fun x => ∃ c l y, x = .ins c l ∧ Cls p.K (He.ga p.K c) ∧ NoAttr p.K (He.ga p.K c) f ∧ l.lookup f = some y ∧ R y) : EvP p (tFld p.K te f) δ R :=
  fun Z0 H0 Z σ H Q s e q => h Z0 H0 Z σ H _ s e fun v x H1 l1 r1 ⟨c, l, y, ex, cl, na, lk, k⟩ => by
    subst ex
    cases r1 with
    | ins n hH rf =>
      obtain ⟨u, hu, ru⟩ := rf.lookup lk
      exact ⟨_, _, _, _, u, rfl, hH, cl, na, hu, q _ _ H1 l1 ru k⟩
theorem ev_ofld {f c : Str} {a : Addr} {i : Nat} {l : List (Str × D)} {y : D} (h : δ[i]? = some (.oins a c l)) (cl : Cls p.K (He.ga p.K c)) (na : NoAttr p.K (He.ga p.K c) f) (lk : l.lookup f = some y) (k : R y) : EvP p (tFld p.K (tVar i) f) δ R :=
  fun Z0 H0 Z σ H Q s e q => by
    obtain ⟨o, e1, dx, fs, rfl, _, _, hH, rf⟩ := s.slot h
    obtain ⟨u, hu, ru⟩ := rf.lookup lk
    exact ⟨_, e1, _, _, _, _, u, rfl, hH, cl, na, hu, q _ _ H (Le.refl _ _) ru k⟩
/-- the place that an index means -/
def atD (l : List D) (i : Int) : Option D := (ixN l.length i).bind fun j => l[j]?
theorem atD_ok {K : PySem.W.Frag} {Z : Addr → Prop} {H : Hp} {xs : List V} {l : List D} {i : Int} {y : D} (r : Reps K Z H xs l) (h : atD l i = some y) : ∃ u, atI xs i = some u ∧ Rep K Z H u y := by
  unfold atD at h
  unfold atI
  rw [r.length]
  cases e : ixN l.length i with
  | none => rw [e] at h; cases h
  | some j =>
    rw [e] at h
    obtain ⟨u, hu, ru⟩ := r.get (show l[j]? = some y from h)
    exact ⟨u, hu, ru⟩
theorem tup_of {K : PySem.W.Frag} {Z : Addr → Prop} {H : Hp} {v : V} {l : List D} (r : Rep K Z H v (.tup l)) : ∃ a xs, v = .ref a ∧ SqT K H a xs ∧ Reps K Z H xs l := by
  cases r with
  | tup n h r => exact ⟨_, _, rfl, .inl (.inl h), r⟩
  | ktup h r => exact ⟨_, _, rfl, .inr h, r⟩
theorem lst_of {K : PySem.W.Frag} {Z : Addr → Prop} {H : Hp} {v : V} {l : List D} (r : Rep K Z H v (.lst l)) : ∃ a xs, v = .ref a ∧ ¬ Z a ∧ H a = some (.lst xs) ∧ Reps K Z H xs l := by
  cases r with
  | lst n h r => exact ⟨_, _, rfl, n, h, r⟩
theorem ev_ixL (h : EvP p ta δ fun x => EvP p tb δ fun y => ∃ l i z, x = .lst l ∧ y = .int i ∧ atD l i = some z ∧ R z) : EvP p (tOp (rIxL p.K) ta tb) δ R :=
  ev_op2 h fun x y ⟨l, i, z, ex, ey, hz, k⟩ Z v w H Q _ r1 r2 q => by
    subst ex ey
    obtain ⟨a, xs, rfl, n, hH, r⟩ := lst_of r1
    cases r2
    obtain ⟨u, hu, ru⟩ := atD_ok r hz
    exact ⟨a, xs, i, u, rfl, rfl, SqL.of hH, hu, q _ _ H (Le.refl _ _) ru k⟩
theorem ev_ixT (h : EvP p ta δ fun x => EvP p tb δ fun y => ∃ l i z, x = .tup l ∧ y = .int i ∧ atD l i = some z ∧ R z) : EvP p (tOp (rIxT p.K) ta tb) δ R :=
  ev_op2 h fun x y ⟨l, i, z, ex, ey, hz, k⟩ Z v w H Q _ r1 r2 q => by
    subst ex ey
    obtain ⟨a, xs, rfl, hH, r⟩ := tup_of r1
    cases r2
    obtain ⟨u, hu, ru⟩ := atD_ok r hz
    exact ⟨a, xs, i, u, rfl, rfl, hH, hu, q _ _ H (Le.refl _ _) ru k⟩
/-- xs[i], xs a list of this frame's own -/
theorem ev_ixO {j : Nat} {l : List D} (hj : δ[j]? = some (.own l)) (h : EvP p tb δ fun y => ∃ i z, y = .int i ∧ atD l i = some z ∧ R z) : EvP p (tOp (rIxL p.K) (tVar j) tb) δ R :=
  fun Z0 H0 Z σ H Q s e q => by
    obtain ⟨o, e1, a, xs, rfl, za, na, hH, r⟩ := s.slot hj
    refine ⟨_, e1, h Z0 H0 Z σ H _ s e fun w y H1 l1 r1 ⟨i, z, ey, hz, k⟩ => ?_⟩
    subst ey
    cases r1
    obtain ⟨u, hu, ru⟩ := atD_ok r hz
    exact ⟨a, xs, i, u, rfl, rfl, SqL.of (l1.keep _ _ (s.ne na) hH), hu, q _ _ H1 l1 (ru.le l1 s.env.zin) k⟩
/-- len -/
def D.len : D → Option Nat
  | .lst l => some l.length
  | .tup l => some l.length
  | .str x => if x.length ≤ 100000 then some x.length else none
  | _ => none
theorem ev_len (h : EvP p te δ fun x => ∃ n : Nat, x.len = some n ∧ R (.int n)) : EvP p (tCB (fun xs H Q => ∃ x n, xs = [x] ∧ LenV p.K x H n ∧ Q (.int n) H) (tCons te tNil)) δ R :=
  fun Z0 H0 Z σ H Q s e q => h Z0 H0 Z σ H _ s e fun v x H1 l1 r1 ⟨n, hn, k⟩ => by
    refine ⟨v, n, rfl, ?_, q _ _ H1 l1 (.int _) k⟩
    cases x with
    | lst l =>
      obtain ⟨a, xs, rfl, _, hH, r⟩ := lst_of r1
      have e : l.length = n := Option.some.inj hn
      exact .inl ⟨xs, SqL.of hH, by rw [r.length, e]⟩
    | tup l =>
      obtain ⟨a, xs, rfl, hH, r⟩ := tup_of r1
      have e : l.length = n := Option.some.inj hn
      exact .inr ⟨xs, hH, by rw [r.length, e]⟩
    | str z =>
      cases r1
      have hn' : (if z.length ≤ 100000 then some z.length else Option.none) = some n := hn
      by_cases hl : z.length ≤ 100000
      · rw [if_pos hl] at hn'
        exact ⟨sz_of hl, (Option.some.inj hn').symm⟩
      · rw [if_neg hl] at hn'
        cases hn'
    | _ => cases hn
/-- all(..), any(..) of a list of truths -/
theorem reps_bl {K : PySem.W.Frag} {Z : Addr → Prop} {H : Hp} : ∀ {xs : List V} {bs : List Bool}, Reps K Z H xs (bs.map .bl) → xs = bs.map V.bl
  | _, [], h => by cases h; rfl
  | _, b :: bs, h => by
    cases h with
    | cons r t =>
      cases r
      rw [reps_bl t] <;> rfl
theorem ev_all (h : EvP p te δ fun x => ∃ bs : List Bool, x = .lst (bs.map .bl) ∧ R (.bl (bs.all id))) : EvP p (tCB (rAll p.K) (tCons te tNil)) δ R :=
  fun Z0 H0 Z σ H Q s e q => h Z0 H0 Z σ H _ s e fun v x H1 l1 r1 ⟨bs, ex, k⟩ => by
    subst ex
    obtain ⟨a, xs, rfl, _, hH, r⟩ := lst_of r1
    have e2 := reps_bl r
    subst e2
    exact ⟨a, bs, rfl, SqL.of hH, q _ _ H1 l1 (.bl _) k⟩
theorem ev_any (h : EvP p te δ fun x => ∃ bs : List Bool, x = .lst (bs.map .bl) ∧ R (.bl (bs.any id))) : EvP p (tCB (rAny p.K) (tCons te tNil)) δ R :=
  fun Z0 H0 Z σ H Q s e q => h Z0 H0 Z σ H _ s e fun v x H1 l1 r1 ⟨bs, ex, k⟩ => by
    subst ex
    obtain ⟨a, xs, rfl, _, hH, r⟩ := lst_of r1
    have e2 := reps_bl r
    subst e2
    exact ⟨a, bs, rfl, SqL.of hH, q _ _ H1 l1 (.bl _) k⟩
/-- tuple(..), list(..) -/
theorem ev_tuple (h : EvP p te δ fun x => ∃ l, (x = .lst l ∨ x = .tup l) ∧ R (.tup l)) :
    EvP p (tCB (fun xs H Q => ∃ a ys, xs = [.ref a] ∧ ((SqL p.K H a ys ∧ ∀ l, H l = none → Q (.ref l) (upd H l (.tup ys))) ∨ (SqT p.K H a ys ∧ Q (.ref a) H))) (tCons te tNil)) δ R :=
  fun Z0 H0 Z σ H Q s e q => h Z0 H0 Z σ H _ s e fun v x H1 l1 r1 ⟨l, ex, k⟩ => by
    rcases ex with ex | ex
    · subst ex
      obtain ⟨a, xs, rfl, _, hH, r⟩ := lst_of r1
      exact ⟨a, xs, rfl, .inl ⟨SqL.of hH, fun b hb => q _ _ _ (l1.trans (Le.new hb)) (.tup (fun z => (s.env.le l1).live b z hb) upd_same (r.new hb)) k⟩⟩
    · subst ex
      obtain ⟨a, xs, rfl, hH, r⟩ := tup_of r1
      exact ⟨a, xs, rfl, .inr ⟨hH, q _ _ H1 l1 r1 k⟩⟩
/-- a fresh address was fresh before -/
theorem fresh_le {G : Env1} {K : PySem.W.Frag} {Z : Addr → Prop} {H H1 : Hp} (s : EnvOk K G Z H) (l1 : Le G H H1) {b : Addr} (hb : H1 b = none) : H b = none := by
  cases y : H b with
  | none => rfl
  | some o =>
    have := l1.keep b o ((s.le l1).sp hb) y
    rw [this] at hb
    cases hb
theorem eo_list (h : EvP p te δ fun x => ∃ l, (x = .lst l ∨ x = .tup l) ∧ RO (.own l)) :
    EvO p (tCB (fun xs H Q => ∃ a ys, xs = [.ref a] ∧ (SqL p.K H a ys ∨ SqT p.K H a ys) ∧ ∀ l, H l = none → Q (.ref l) (upd H l (.lst ys))) (tCons te tNil)) δ RO :=
  fun Z0 H0 Z σ H Q s e q => h Z0 H0 Z σ H _ s e fun v x H1 l1 r1 ⟨l, ex, k⟩ => by
    have fr : ∀ b, H1 b = none → H b = none := fun b hb => fresh_le s.env l1 hb
    rcases ex with ex | ex
    · subst ex
      obtain ⟨a, xs, rfl, _, hH, r⟩ := lst_of r1
      exact ⟨a, xs, rfl, .inl (SqL.of hH), fun b hb => q _ _ _ (l1.trans (Le.new hb)) (fr b hb) (.inl ⟨xs, l, rfl, upd_same, (r.own hb).new hb⟩) k⟩
    · subst ex
      obtain ⟨a, xs, rfl, hH, r⟩ := tup_of r1
      exact ⟨a, xs, rfl, .inr hH, fun b hb => q _ _ _ (l1.trans (Le.new hb)) (fr b hb) (.inl ⟨xs, l, rfl, upd_same, (r.own hb).new hb⟩) k⟩
theorem eo_lst {ta : TA} {RO : Sl → Prop} (h : EvA p ta δ fun xs => xs.length ≤ 100000 ∧ RO (.own xs)) : EvO p (tLst ta) δ RO := fun Z0 H0 Z σ H Q s e q => h Z0 H0 Z σ H _ s e fun vs xs H1 l1 r1 ⟨hl, k⟩ =>
  ⟨sz_of (by rw [r1.length]; exact hl), fun a ha => q _ _ _ (l1.trans (Le.new ha)) (fresh_le s.env l1 ha) (.inl ⟨_, _, rfl, upd_same, (r1.own ha).new ha⟩) k⟩
/-! ### statements -/
variable {o : Po} {st su : TS}
theorem st_seq (h : StP p st δ { o with nx := fun δ' => StP p su δ' o }) : StP p (tSeq st su) δ o := fun Z0 H0 Z σ H Dn s e n r b c =>
  h Z0 H0 Z σ H { Dn with nx := su Dn } s e (fun Z' σ' δ' H' g s' hu => hu Z0 H0 Z' σ' H' Dn s' e (fun Z2 σ2 δ2 H2 g2 => n Z2 σ2 δ2 H2 (g.trans g2)) r (fun Z2 σ2 δ2 H2 g2 => b Z2 σ2 δ2 H2 (g.trans g2)) fun Z2 σ2 δ2 H2 g2 => c Z2 σ2 δ2 H2 (g.trans g2)) r b c
theorem st_next (k : o.nx δ) : StP p tNext δ o := fun Z0 H0 Z σ H Dn s e n r b c => n Z σ δ H (Go.refl _ _) s k
theorem st_brk (k : o.bk δ) : StP p tBreak δ o := fun Z0 H0 Z σ H Dn s e n r b c => b Z σ δ H (Go.refl _ _) s k
theorem st_cont (k : o.ct δ) : StP p tCont δ o := fun Z0 H0 Z σ H Dn s e n r b c => c Z σ δ H (Go.refl _ _) s k
theorem st_asg {i : Nat} (h : EvP p te δ fun d => o.nx (δ.set i (.d d))) : StP p (tAsg te (gName i)) δ o := fun Z0 H0 Z σ H Dn s e n r b c =>
  h Z0 H0 Z σ H _ s e fun v d H1 l1 r1 k => n Z _ _ H1 (.le l1 s.env.zin) ((s.le l1).setD r1) k
theorem st_expr (h : EvP p te δ fun _ => o.nx δ) : StP p (tDrop te) δ o := fun Z0 H0 Z σ H Dn s e n r b c =>
  h Z0 H0 Z σ H _ s e fun v d H1 l1 r1 k => n Z σ δ H1 (.le l1 s.env.zin) (s.le l1) k
theorem st_ret (h : EvP p te δ o.rt) : StP p (tRet te) δ o := fun Z0 H0 Z σ H Dn s e n r b c =>
  h Z0 H0 Z σ H _ s e fun v d H1 l1 r1 k => r v d H1 (s.le0.trans l1) (r1.mono s.base fun _ _ _ q => q) k
theorem st_retN (k : o.rt .non) : StP p tRetN δ o := fun Z0 H0 Z σ H Dn s e n r b c => r .non .non H s.le0 .non k
theorem st_if (h : EvT p t δ fun b => if b = true then StP p st δ o else StP p su δ o) : StP p (tIfS t st su) δ o := fun Z0 H0 Z σ H Dn s e n r b c =>
  h Z0 H0 Z σ H _ s e fun d H1 l1 k => by
    have g : Go Z H Z H1 := .le l1 s.env.zin
    cases d with
    | true => exact k Z0 H0 Z σ H1 Dn (s.le l1) e (fun Z2 σ2 δ2 H2 g2 => n Z2 σ2 δ2 H2 (g.trans g2)) r (fun Z2 σ2 δ2 H2 g2 => b Z2 σ2 δ2 H2 (g.trans g2)) fun Z2 σ2 δ2 H2 g2 => c Z2 σ2 δ2 H2 (g.trans g2)
    | false => exact k Z0 H0 Z σ H1 Dn (s.le l1) e (fun Z2 σ2 δ2 H2 g2 => n Z2 σ2 δ2 H2 (g.trans g2)) r (fun Z2 σ2 δ2 H2 g2 => b Z2 σ2 δ2 H2 (g.trans g2)) fun Z2 σ2 δ2 H2 g2 => c Z2 σ2 δ2 H2 (g.trans g2)
theorem StP.imp {o' : Po} (h : StP p st δ o) (n : ∀ δ', o.nx δ' → o'.nx δ') (r : ∀ d, o.rt d → o'.rt d) (b : ∀ δ', o.bk δ' → o'.bk δ') (c : ∀ δ', o.ct δ' → o'.ct δ') : StP p st δ o' :=
  fun Z0 H0 Z σ H Dn s e n' r' b' c' => h Z0 H0 Z σ H Dn s e (fun Z' σ' δ' H' g s' k => n' Z' σ' δ' H' g s' (n _ k)) (fun v d H' l rr k => r' v d H' l rr (r _ k)) (fun Z' σ' δ' H' g s' k => b' Z' σ' δ' H' g s' (b _ k)) fun Z' σ' δ' H' g s' k => c' Z' σ' δ' H' g s' (c _ k)
/-- one more owned address -/
theorem RepS.own {K : PySem.W.Frag} {G : Env1} {Z0 Z : Addr → Prop} {H0 H H2 : Hp} {σ : L2.St} {a : Addr} (s : RepS K G Z0 H0 Z H σ δ) (l : Le G H H2) (ha : H a = none) (h2 : H2 a ≠ none) : RepS K G Z0 H0 (fun b => Z b ∨ b = a) H2 σ δ := by
  have g : Go Z H (fun b => Z b ∨ b = a) H2 := ⟨l.keepZ s.env.zin, fun b hb => hb.elim .inl fun e => .inr (by rw [e]; exact ha)⟩
  have e2 := s.env.le l
  refine ⟨s.env0, ⟨e2.dr, e2.tb, fun q hq => .inl (s.env.zin q hq), fun b hb => hb.elim (e2.live b) fun e => by rw [e]; exact h2⟩, s.le0.trans l, fun b hb => .inl (s.base b hb), s.len, fun i o sl h1 h2 => ?_, s.sep⟩
  have h := s.at_ i o sl h1 h2
  cases sl with
  | un => trivial
  | d x => obtain ⟨v, e1, r⟩ := h; exact ⟨v, e1, r.go g⟩
  | own l' => obtain ⟨b, xs, e1, z, n, hH, r⟩ := h; exact ⟨b, xs, e1, .inl z, n, l.keep _ _ (s.ne n) hH, r.go g⟩
  | odic l' => obtain ⟨b, xs, e1, z, n, hH, r⟩ := h; exact ⟨b, xs, e1, .inl z, n, l.keep _ _ (s.ne n) hH, r.go g⟩
  | oins b c l' => obtain ⟨dx, xs, e1, z, n, hH, r⟩ := h; exact ⟨dx, xs, e1, .inl z, n, l.keep _ _ (s.ne n) hH, r.go g⟩
theorem RepS.noref {K : PySem.W.Frag} {G : Env1} {Z0 Z : Addr → Prop} {H0 H : Hp} {σ : L2.St} {a : Addr} (s : RepS K G Z0 H0 Z H σ δ) (ha : H a = none) {j : Nat} {tt : Sl} (h1 : σ[j]? = some (some (.ref a))) (h2 : δ[j]? = some tt) (h3 : tt.owns = true) : False := by
  have h := s.at_ j _ tt h1 h2
  cases tt with
  | un => cases h3
  | d x => cases h3
  | own l' => obtain ⟨b, xs, e1, z, n, hH, r⟩ := h; cases e1; rw [ha] at hH; cases hH
  | odic l' => obtain ⟨b, xs, e1, z, n, hH, r⟩ := h; cases e1; rw [ha] at hH; cases hH
  | oins b c l' => obtain ⟨dx, xs, e1, z, n, hH, r⟩ := h; cases e1; rw [ha] at hH; cases hH
/-- x = a new list, a new dict -/
theorem st_asgO {i : Nat} (h : EvO p te δ fun sl => o.nx (δ.set i sl)) : StP p (tAsg te (gName i)) δ o := fun Z0 H0 Z σ H Dn s e n r b c =>
  h Z0 H0 Z σ H _ s e fun a sl H2 l ha hc k => by
    have h2 : H2 a ≠ none := by
      rcases hc with ⟨xs, l', _, q, _⟩ | ⟨xs, l', _, q, _⟩
      · rw [q]; exact fun z => nomatch z
      · rw [q]; exact fun z => nomatch z
    have n0 : H0 a = none := by
      cases y : H0 a with
      | none => rfl
      | some ob =>
        exact absurd ha (by rw [s.le0.keep a ob (s.env.sp ha) y]; exact fun z => nomatch z)
    have s2 := s.own l ha h2
    refine n _ _ _ H2 ⟨l.keepZ s.env.zin, fun b hb => hb.elim .inl fun e => .inr (by rw [e]; exact ha)⟩ (s2.set (o := some (.ref a)) (s := sl) ?_ fun _ j a' t hij ea h1 h2' h3 => ?_) k
    · rcases hc with ⟨xs, l', rfl, q, rr⟩ | ⟨xs, l', rfl, q, rr⟩
      · exact ⟨a, xs, rfl, .inr rfl, n0, q, rr⟩
      · exact ⟨a, xs, rfl, .inr rfl, n0, q, rr⟩
    · cases ea
      exact s.noref ha h1 h2' h3
/-- an own object is no code -/
theorem RepS.notCode {K : PySem.W.Frag} {G : Env1} {Z0 Z : Addr → Prop} {H0 H : Hp} {σ : L2.St} {a c : Addr} {i : Nat} {s0 : Sl} {q : Str} (s : RepS K G Z0 H0 Z H σ δ) (hs : σ[i]? = some (some (.ref a))) (hi : δ[i]? = some s0) (ho : s0.owns = true) : H a ≠ some (LamX.CodeO c q) := fun z => by
  have h := s.at_ i _ s0 hs hi
  cases s0 with
  | un => cases ho
  | d x => cases ho
  | own l' => obtain ⟨b, xs, e1, _, n, hH, r⟩ := h; cases e1; rw [hH] at z; exact absurd (Option.some.inj z) (by unfold LamX.CodeO; exact fun y => nomatch y)
  | odic l' => obtain ⟨b, xs, e1, _, n, hH, r⟩ := h; cases e1; rw [hH] at z; exact absurd (Option.some.inj z) (by unfold LamX.CodeO; exact fun y => nomatch y)
  | oins b c l' => obtain ⟨dx, xs, e1, _, n, hH, r⟩ := h; cases e1; rw [hH] at z; exact absurd (Option.some.inj z) (by unfold LamX.CodeO; exact fun y => nomatch y)
/-- an own object gets another content -/
theorem RepS.put {K : PySem.W.Frag} {G : Env1} {Z0 Z : Addr → Prop} {H0 H : Hp} {σ : L2.St} {a : Addr} {i : Nat} {s0 s1 : Sl} {ob : HO} (s : RepS K G Z0 H0 Z H σ δ) (hi : δ[i]? = some s0) (hs : σ[i]? = some (some (.ref a))) (hz : Z a) (hn : H0 a = none) (ho : s0.owns = true)
    (ok : SlOk K H0 Z (upd H a ob) (some (.ref a)) s1) (hl : H a ≠ none) : Go Z H Z (upd H a ob) ∧ RepS K G Z0 H0 Z (upd H a ob) σ (δ.set i s1) := by
  have kp : ∀ b u, ¬ Z b → H b = some u → upd H a ob b = some u := fun b u nb h => by rw [upd_ne (fun q => nb (by rw [q]; exact hz))]; exact h
  have ne := s.ne hn
  have l0 : Le G H0 (upd H a ob) := by
    refine ⟨fun b u nb h => ?_, fun q hq st => ?_, fun q hq t => ?_⟩
    · rw [upd_ne (ne_of_none h hn)]; exact s.le0.keep b u nb h
    · rw [upd_ne (fun z => ne (.inl ⟨q, hq, z.symm⟩))]; exact s.le0.st q hq st
    · exact tabs_upd (s.le0.tb q hq t) (fun z => ne (.inr ⟨q, hq, z.symm⟩)) fun c hc z => s.notCode hs hi ho (by rw [← z]; exact hc)
  have g : Go Z H Z (upd H a ob) := ⟨kp, fun _ h => .inl h⟩
  refine ⟨g, s.env0, ⟨(s.env0.le l0).dr, (s.env0.le l0).tb, s.env.zin, fun b hb q => ?_⟩, l0, s.base, by simp [s.len], fun j v sl h1 h2 => ?_, fun j k b sl t e1 e2 f1 f2 o1 o2 => ?_⟩
  · by_cases e : b = a
    · subst e; rw [upd_same] at q; cases q
    · rw [upd_ne e] at q; exact s.env.live b hb q
  · rcases set_at h2 with ⟨rfl, rfl, _⟩ | ⟨nij, h2⟩
    · rw [hs] at h1
      cases h1
      exact ok
    · have h := s.at_ j v sl h1 h2
      have nab : ∀ b, v = some (.ref b) → sl.owns = true → b ≠ a := fun b hv hw e => by
        subst e
        subst hv
        exact nij (s.sep i j b s0 sl hs h1 hi h2 ho hw)
      cases sl with
      | un => trivial
      | d x => obtain ⟨v, e1, r⟩ := h; exact ⟨v, e1, r.go g⟩
      | own l' => obtain ⟨b, xs, e1, z, n, hH, r⟩ := h; exact ⟨b, xs, e1, z, n, by rw [upd_ne (nab b e1 rfl)]; exact hH, r.go g⟩
      | odic l' => obtain ⟨b, xs, e1, z, n, hH, r⟩ := h; exact ⟨b, xs, e1, z, n, by rw [upd_ne (nab b e1 rfl)]; exact hH, r.go g⟩
      | oins b c l' => obtain ⟨dx, xs, e1, z, n, hH, r⟩ := h; exact ⟨dx, xs, e1, z, n, by rw [upd_ne (nab b e1 rfl)]; exact hH, r.go g⟩
  · have c1 := set_at f1
    have c2 := set_at f2
    rcases c1 with ⟨h1, q1, _⟩ | ⟨n1, g1⟩
    · rcases c2 with ⟨h2, _, _⟩ | ⟨n2, g2⟩
      · exact h1.symm.trans h2
      · subst h1
        exact s.sep i k b s0 t e1 e2 hi g2 ho o2
    · rcases c2 with ⟨h2, _, _⟩ | ⟨n2, g2⟩
      · subst h2
        exact s.sep j i b sl s0 e1 e2 g1 hi o1 ho
      · exact s.sep j k b sl t e1 e2 g1 g2 o1 o2
/-- xs.append(e), xs this frame's own -/
theorem st_app {i : Nat} {l : List D} (hi : δ[i]? = some (.own l)) (hl : l.length < 100000) (h : EvP p te δ fun d => o.nx (δ.set i (.own (l ++ [d])))) : StP p (tDrop (tBM p.K "list" rAppend (tVar i) (tCons te tNil))) δ o := fun Z0 H0 Z σ H Dn s e n r b c => by
  obtain ⟨ov, e1, a, xs, rfl, z, n0, hH, rr⟩ := s.slot hi
  refine ⟨_, e1, .inl ⟨rfl, xs, SqL.of hH⟩, h Z0 H0 Z σ H _ s e fun v d H1 l1 r1 k => ?_⟩
  have hH1 := l1.keep _ _ (s.ne n0) hH
  have s1 := s.le l1
  have na : ∀ (y : V) (yd : D), Rep p.K Z H1 y yd → Rep p.K Z (upd H1 a (.lst (xs ++ [v]))) y yd := fun y yd ry => ry.go ⟨fun b u nb h => by rw [upd_ne (fun q => nb (by rw [q]; exact z))]; exact h, fun _ h => .inl h⟩
  have nas : ∀ (y : List V) (yd : List D), Reps p.K Z H1 y yd → Reps p.K Z (upd H1 a (.lst (xs ++ [v]))) y yd := fun y yd ry => ry.go ⟨fun b u nb h => by rw [upd_ne (fun q => nb (by rw [q]; exact z))]; exact h, fun _ h => .inl h⟩
  obtain ⟨g, s2⟩ := s1.put (ob := .lst (xs ++ [v])) (s1 := .own (l ++ [d])) hi e1 z n0 rfl ⟨a, _, rfl, z, n0, upd_same, (nas _ _ (rr.le l1 s.env.zin)).append (.cons (na _ _ r1) .nil)⟩ (by rw [hH1]; exact fun z => nomatch z)
  exact ⟨a, xs, v, rfl, rfl, hH1, Nat.lt_of_lt_of_le (by rw [rr.length]; exact hl) (by decide), n _ _ _ _ ((Go.le l1 s.env.zin).trans g) s2 k⟩
/-- self.f = e, self this frame's own -/
def putD (f : Str) (v : D) : List (Str × D) → List (Str × D)
  | [] => [(f, v)]
  | (g, x) :: r => if g = f then (g, v) :: r else (g, x) :: putD f v r
theorem RepF.put {K : PySem.W.Frag} {Z : Addr → Prop} {H : Hp} {f : Str} {v : V} {d : D} (rv : Rep K Z H v d) : ∀ {fs : List (Str × V)} {l : List (Str × D)}, RepF K Z H fs l → RepF K Z H (putF f v fs) (putD f d l)
  | _, _, .nil => .cons rv .nil
  | _, _, .cons (f := g) r t => by
    show RepF K Z H (if g = f then _ else _) (if g = f then _ else _)
    by_cases e : g = f
    · rw [if_pos e, if_pos e]; exact .cons rv t
    · rw [if_neg e, if_neg e]; exact .cons r (RepF.put rv t)
theorem st_fld {i : Nat} {a : Addr} {c f : Str} {l : List (Str × D)} (hi : δ[i]? = some (.oins a c l)) (cl : Cls p.K (He.ga p.K c)) (na : NoAttr p.K (He.ga p.K c) f) (hl : l.length < 1000) (h : EvP p te δ fun d => o.nx (δ.set i (.oins a c (putD f d l)))) :
    StP p (sFld p.K (tVar i) te f) δ o := fun Z0 H0 Z σ H Dn s e n r b c' =>
  h Z0 H0 Z σ H _ s e fun v d H1 l1 r1 k => by
    obtain ⟨ov, e1, dx, fs, rfl, z, n0, hH, rr⟩ := s.slot hi
    have hH1 := l1.keep _ _ (s.ne n0) hH
    have g0 : ∀ u, Go Z H1 Z (upd H1 a u) := fun u => ⟨fun b w nb h => by rw [upd_ne (fun q => nb (by rw [q]; exact z))]; exact h, fun _ h => .inl h⟩
    obtain ⟨g, s2⟩ := (s.le l1).put (ob := .ins (He.ga p.K c) dx (putF f v fs)) (s1 := .oins a c (putD f d l)) hi e1 z n0 rfl ⟨dx, _, rfl, z, n0, upd_same, RepF.put (r1.go (g0 _)) ((rr.le l1 s.env.zin).go (g0 _))⟩ (by rw [hH1]; exact fun z => nomatch z)
    exact ⟨_, e1, a, _, dx, fs, rfl, hH1, cl, na, by rw [rr.length]; exact hl, n _ _ _ _ ((Go.le l1 s.env.zin).trans g) s2 k⟩
/-- an own list is let go: it is a datum from now on -/
theorem RepS.freeze {K : PySem.W.Frag} {G : Env1} {Z0 Z : Addr → Prop} {H0 H : Hp} {σ : L2.St} {i : Nat} {a : Addr} {s0 : Sl} {x : D} (s : RepS K G Z0 H0 Z H σ δ) (hi : δ[i]? = some s0) (hs : σ[i]? = some (some (.ref a))) (hn : H0 a = none) (ho : s0.owns = true)
    (ok : Rep K (fun b => Z b ∧ b ≠ a) H (.ref a) x) : Go Z H (fun b => Z b ∧ b ≠ a) H ∧ RepS K G Z0 H0 (fun b => Z b ∧ b ≠ a) H σ (δ.set i (.d x)) := by
  have g : Go Z H (fun b => Z b ∧ b ≠ a) H := ⟨fun _ _ _ h => h, fun _ h => .inl h.1⟩
  refine ⟨g, s.env0, ⟨s.env.dr, s.env.tb, fun q hq => ⟨s.env.zin q hq, fun z => s.ne hn (by rw [← z]; exact hq)⟩, fun b hb => s.env.live b hb.1⟩, s.le0, fun b hb => ⟨s.base b hb, fun q => s.env0.live b hb (by rw [q]; exact hn)⟩, by simp [s.len], fun j v sl h1 h2 => ?_, fun j k b sl t e1 e2 f1 f2 o1 o2 => ?_⟩
  · rcases set_at h2 with ⟨rfl, rfl, _⟩ | ⟨nij, h2⟩
    · rw [hs] at h1
      cases h1
      exact ⟨_, rfl, ok⟩
    · have h := s.at_ j v sl h1 h2
      have nab : ∀ b, v = some (.ref b) → sl.owns = true → b ≠ a := fun b hv hw e => by
        subst e
        subst hv
        exact nij (s.sep i j b s0 sl hs h1 hi h2 ho hw)
      cases sl with
      | un => trivial
      | d x => obtain ⟨v, e1, r⟩ := h; exact ⟨v, e1, r.go g⟩
      | own l' => obtain ⟨b, xs, e1, z, n, hH, r⟩ := h; exact ⟨b, xs, e1, ⟨z, nab b e1 rfl⟩, n, hH, r.go g⟩
      | odic l' => obtain ⟨b, xs, e1, z, n, hH, r⟩ := h; exact ⟨b, xs, e1, ⟨z, nab b e1 rfl⟩, n, hH, r.go g⟩
      | oins b c l' => obtain ⟨dx, xs, e1, z, n, hH, r⟩ := h; exact ⟨dx, xs, e1, ⟨z, nab b e1 rfl⟩, n, hH, r.go g⟩
  · have c1 := set_at f1
    have c2 := set_at f2
    rcases c1 with ⟨h1, q1, _⟩ | ⟨n1, g1⟩
    · subst q1; cases o1
    · rcases c2 with ⟨h2, q2, _⟩ | ⟨n2, g2⟩
      · subst q2; cases o2
      · exact s.sep j k b sl t e1 e2 g1 g2 o1 o2
theorem StP.go {Z Z' : Addr → Prop} {Z0 : Addr → Prop} {H0 H H' : Hp} {σ' : L2.St} {δ' : List Sl} {Dn : Ends} (h : StP p st δ' o) (g0 : Go Z H Z' H') (s' : RepP p Z0 H0 Z' H' σ' δ') (e : ExoP p Z0 H0)
    (n : ∀ Z' σ' δ' H', Go Z H Z' H' → RepP p Z0 H0 Z' H' σ' δ' → o.nx δ' → Dn.nx σ' H') (r : ∀ v d H', Le p.G H0 H' → Rep p.K Z0 H' v d → o.rt d → Dn.rt v H')
    (b : ∀ Z' σ' δ' H', Go Z H Z' H' → RepP p Z0 H0 Z' H' σ' δ' → o.bk δ' → Dn.bk σ' H') (c : ∀ Z' σ' δ' H', Go Z H Z' H' → RepP p Z0 H0 Z' H' σ' δ' → o.ct δ' → Dn.ct σ' H') : st Dn σ' H' :=
  h Z0 H0 Z' σ' H' Dn s' e (fun Z2 σ2 δ2 H2 g2 => n Z2 σ2 δ2 H2 (g0.trans g2)) r (fun Z2 σ2 δ2 H2 g2 => b Z2 σ2 δ2 H2 (g0.trans g2)) fun Z2 σ2 δ2 H2 g2 => c Z2 σ2 δ2 H2 (g0.trans g2)
theorem st_freeze (i : Nat) {l : List D} (hi : δ[i]? = some (.own l)) (h : StP p st (δ.set i (.d (.lst l))) o) : StP p st δ o := fun Z0 H0 Z σ H Dn s e n r b c => by
  obtain ⟨ov, e1, a, xs, rfl, z, n0, hH, rr⟩ := s.slot hi
  have g1 : Go Z H (fun b => Z b ∧ b ≠ a) H := ⟨fun _ _ _ h => h, fun _ h => .inl h.1⟩
  obtain ⟨g, s2⟩ := s.freeze hi e1 n0 rfl (.lst (fun q => q.2 rfl) hH (rr.go g1))
  exact h.go g s2 e n r b c
theorem st_freezeD (i : Nat) {l : List (Str × D)} (hi : δ[i]? = some (.odic l)) (h : StP p st (δ.set i (.d (.dic l))) o) : StP p st δ o := fun Z0 H0 Z σ H Dn s e n r b c => by
  obtain ⟨ov, e1, a, xs, rfl, z, n0, hH, rr⟩ := s.slot hi
  have g1 : Go Z H (fun b => Z b ∧ b ≠ a) H := ⟨fun _ _ _ h => h, fun _ h => .inl h.1⟩
  obtain ⟨g, s2⟩ := s.freeze hi e1 n0 rfl (.dic (fun q => q.2 rfl) hH (rr.go g1))
  exact h.go g s2 e n r b c
end
end WL
end
section
set_option Elab.async false
set_option linter.all false
set_option maxRecDepth 100000
set_option maxHeartbeats 2000000
/-! The calculus over data: what is walked, loops, comprehensions, isinstance, dicts, a def's and an __init__'s promise. -/
namespace WL
open PySem PySem.Spec PyProof.Rows L2 RZ
section
variable {p : Pr} {ta tb tc te : TE} {t u : TT} {δ : List Sl} {R : D → Prop} {RB : Bool → Prop} {RA : List D → Prop} {o : Po} {st su : TS}
theorem EvP.run {Z0 Z : Addr → Prop} {H0 H : Hp} {σ : L2.St} {Q : VK} (h : EvP p te δ R) (s : RepP p Z0 H0 Z H σ δ) (e : ExoP p Z0 H0) (q : ∀ v d H2, Le p.G H H2 → Rep p.K Z H2 v d → R d → Q v H2) : te σ H Q := h Z0 H0 Z σ H Q s e q
/-- C(..) that raises nothing -/
theorem ev_makeDN {F : FnI} {E : XK} {c : Str} {dvs : List V} {dds : List D} {ta : TA} (hd : ∀ Z H, Reps p.K Z H dvs dds) (h : EvA p ta δ fun ds => F p.G (ds ++ dds) (fun l => R (.ins c l)) ex0) : EvP p (tMake (He.ga p.K c) (spI p.K c F) dvs E ta) δ R :=
  fun Z0 H0 Z σ H Q s e q => h Z0 H0 Z σ H _ s e fun vs ds H1 l1 r1 k x dx hx hdx ne => by
    have E1 := s.env.le l1
    have lD : Le p.G H1 (upd H1 dx (.own x)) := Le.new hdx
    refine ⟨p.G, Z, x, dx, _, ds ++ dds, fun l => R (.ins c l), ex0, rfl, upd_same, ?_, ?_, k, fun dx' fs l H' le hH rf kk => ⟨rfl, ?_⟩, Exo.zero⟩
    · rw [make_del hx ne]; exact E1.le lD
    · rw [make_del hx ne]; exact (r1.append (hd _ _)).new hdx
    · rw [make_del hx ne] at le
      exact q _ _ H' ((l1.trans lD).trans le) (.ins (fun z => E1.live x z hx) hH rf) kk
theorem ev_makeN {F : FnI} {E : XK} {c : Str} {ta : TA} (h : EvA p ta δ fun ds => F p.G ds (fun l => R (.ins c l)) ex0) : EvP p (tMake (He.ga p.K c) (spI p.K c F) [] E ta) δ R :=
  ev_makeDN (dds := []) (fun _ _ => .nil) (h.imp fun ds k => by rw [List.append_nil]; exact k)
/-! ### what is walked -/
/-- J yields the data l, one by one, whatever is made meanwhile -/
def ItD (p : Pr) (J : It) (Z : Addr → Prop) (H1 : Hp) (l : List D) : Prop := ∀ (Z' : Addr → Prop) (H' : Hp), Go Z H1 Z' H' → (∀ b, Z' b → H' b ≠ none) → ∀ i : Nat,
  (∀ y, l[i]? = some y → J.go i H' ∧ ∀ v H'', J.yld i H' v H'' → Le p.G H' H'' ∧ Rep p.K Z' H'' v y) ∧ (l.length ≤ i → J.stop i H')
def EvI (p : Pr) (wi : TI) (δ : List Sl) (RI : List D → Prop) : Prop := ∀ (Z0 : Addr → Prop) (H0 : Hp) (Z : Addr → Prop) (σ : L2.St) (H : Hp) (R : It → Hp → Prop), RepP p Z0 H0 Z H σ δ → ExoP p Z0 H0 →
  (∀ J l H1, Le p.G H H1 → ItD p J Z H1 l → RI l → R J H1) → wi σ H R
theorem ei_list (h : EvP p te δ fun x => ∃ l, x = .lst l ∧ RI l) : EvI p (iList p.K te) δ RI := fun Z0 H0 Z σ H R s e q => h.run s e fun v x H1 l1 r1 ⟨l, ex, k⟩ => by
  subst ex
  obtain ⟨a, xs, rfl, n, hH, r⟩ := lst_of r1
  refine ⟨a, rfl, ⟨xs, SqL.of hH⟩, q _ l H1 l1 (fun Z' H' g _ i => ⟨fun y hy => ?_, fun hl => ⟨xs, SqL.of (g.keep _ _ n hH), by rw [r.length]; exact hl⟩⟩) k⟩
  obtain ⟨u, hu, ru⟩ := r.get hy
  refine ⟨⟨xs, u, SqL.of (g.keep _ _ n hH), hu⟩, fun v H'' ⟨e1, e2⟩ => ?_⟩
  subst e1
  have e3 := e2 xs (SqL.of (g.keep _ _ n hH))
  rw [hu] at e3
  rw [← Option.some.inj e3]
  exact ⟨Le.refl _ _, ru.go g⟩
theorem sqt_go {K : PySem.W.Frag} {Z Z' : Addr → Prop} {H H' : Hp} {v : V} {l : List D} (r : Rep K Z H v (.tup l)) : ∃ a xs, v = .ref a ∧ (∀ Z' H', Go Z H Z' H' → SqT K H' a xs) ∧ Reps K Z H xs l := by
  cases r with
  | tup n h r => exact ⟨_, _, rfl, fun _ _ g => .inl (.inl (g.keep _ _ n h)), r⟩
  | ktup h r => exact ⟨_, _, rfl, fun _ _ _ => .inr h, r⟩
theorem ei_tup (h : EvP p te δ fun x => ∃ l, x = .tup l ∧ RI l) : EvI p (iTup p.K te) δ RI := fun Z0 H0 Z σ H R s e q => h.run s e fun v x H1 l1 r1 ⟨l, ex, k⟩ => by
  subst ex
  obtain ⟨a, xs, rfl, hH, r⟩ := sqt_go (Z' := Z) (H' := H1) r1
  refine ⟨a, rfl, ⟨xs, hH _ _ (Go.refl _ _)⟩, q _ l H1 l1 (fun Z' H' g _ i => ⟨fun y hy => ?_, fun hl => ⟨xs, hH _ _ g, by rw [r.length]; exact hl⟩⟩) k⟩
  obtain ⟨u, hu, ru⟩ := r.get hy
  refine ⟨⟨xs, u, hH _ _ g, hu⟩, fun v H'' ⟨e1, e2⟩ => ?_⟩
  subst e1
  have e3 := e2 xs (hH _ _ g)
  rw [hu] at e3
  rw [← Option.some.inj e3]
  exact ⟨Le.refl _ _, ru.go g⟩
/-- either reading will do -/
theorem ei_or1 {w1 w2 : TI} (h : EvI p w1 δ RI) : EvI p (fun σ H R => w1 σ H R ∨ w2 σ H R) δ RI := fun Z0 H0 Z σ H R s e q => .inl (h Z0 H0 Z σ H R s e q)
theorem ei_or2 {w1 w2 : TI} (h : EvI p w2 δ RI) : EvI p (fun σ H R => w1 σ H R ∨ w2 σ H R) δ RI := fun Z0 H0 Z σ H R s e q => .inr (h Z0 H0 Z σ H R s e q)
def rangeD (lo : Int) (n : Nat) : List D := (List.range n).map fun i => .int (lo + (i : Nat))
theorem rangeD_get {lo : Int} {n i : Nat} {y : D} (h : (rangeD lo n)[i]? = some y) : i < n ∧ y = .int (lo + (i : Nat)) := by
  unfold rangeD at h
  rw [List.getElem?_map] at h
  by_cases hi : i < n
  · rw [List.getElem?_range hi] at h
    exact ⟨hi, (Option.some.inj h).symm⟩
  · rw [List.getElem?_eq_none (by simpa using hi)] at h
    cases h
theorem rangeD_len {lo : Int} {n : Nat} : (rangeD lo n).length = n := by simp [rangeD]
theorem ei_range1 {ta : TA} (h : EvA p ta δ fun ds => ∃ j : Int, ds = [.int j] ∧ -(2 ^ 62) ≤ j ∧ j < 2 ^ 62 ∧ RI (rangeD 0 j.toNat)) : EvI p (iRng1 ta) δ RI := fun Z0 H0 Z σ H R s e q => h Z0 H0 Z σ H _ s e fun vs ds H1 l1 r1 ⟨j, ed, j1, j2, k⟩ => by
  subst ed
  cases r1 with
  | cons r1 rn =>
    cases r1
    cases rn
    refine ⟨j, rfl, j1, j2, q _ _ H1 l1 (fun Z' H' g _ i => ⟨fun y hy => ?_, fun hl => ?_⟩) k⟩
    · obtain ⟨hi, rfl⟩ := rangeD_get hy
      refine ⟨hi, fun v H'' ⟨e1, e2⟩ => ?_⟩
      subst e1 e2
      exact ⟨Le.refl _ _, .int _⟩
    · rw [rangeD_len] at hl
      exact hl
theorem ei_range2 {ta : TA} (h : EvA p ta δ fun ds => ∃ i j : Int, ds = [.int i, .int j] ∧ (-(2 ^ 62) ≤ i ∧ i < 2 ^ 62 ∧ -(2 ^ 62) ≤ j ∧ j < 2 ^ 62) ∧ RI (rangeD i (j - i).toNat)) : EvI p (iRng2 ta) δ RI := fun Z0 H0 Z σ H R s e q => h Z0 H0 Z σ H _ s e fun vs ds H1 l1 r1 ⟨i, j, ed, jb, k⟩ => by
  subst ed
  cases r1 with
  | cons r1 rn =>
    cases r1
    cases rn with
    | cons r2 rn =>
      cases r2
      cases rn
      refine ⟨i, j, rfl, jb, q _ _ H1 l1 (fun Z' H' g _ i => ⟨fun y hy => ?_, fun hl => ?_⟩) k⟩
      · obtain ⟨hi, rfl⟩ := rangeD_get hy
        refine ⟨hi, fun v H'' ⟨e1, e2⟩ => ?_⟩
        subst e1 e2
        exact ⟨Le.refl _ _, .int _⟩
      · rw [rangeD_len] at hl
        exact hl
/-- the signs of a text -/
def signsD (x : Str) : List D := x.cps.toList.map fun c => .str ⟨#[c]⟩
theorem ei_str (h : EvP p te δ fun x => ∃ z, x = .str z ∧ RI (signsD z)) : EvI p (iStr te) δ RI := fun Z0 H0 Z σ H R s e q => h.run s e fun v x H1 l1 r1 ⟨z, ex, k⟩ => by
  subst ex
  cases r1
  refine ⟨z, rfl, q _ _ H1 l1 (fun Z' H' g _ i => ⟨fun y hy => ?_, fun hl => ?_⟩) k⟩
  · unfold signsD at hy
    rw [List.getElem?_map] at hy
    cases hc : z.cps.toList[i]? with
    | none => rw [hc] at hy; cases hy
    | some c =>
      rw [hc] at hy
      have ey : D.str ⟨#[c]⟩ = y := Option.some.inj hy
      subst ey
      have hc2 : z.cps[i]? = some c := by rw [← hc]; simp
      refine ⟨(Array.getElem?_eq_some_iff.mp hc2).1, fun v H'' ⟨e1, c', e2, e3⟩ => ?_⟩
      subst e1
      rw [hc2] at e2
      cases e2
      subst e3
      exact ⟨Le.refl _ _, .str _⟩
  · have : z.cps.size ≤ i := by simpa [signsD] using hl
    exact this
/-- zip of two lists, of two tuples -/
def zipD (l m : List D) : List D := (l.zip m).map fun q => .tup [q.1, q.2]
theorem zipD_get {l m : List D} {i : Nat} {y : D} (h : (zipD l m)[i]? = some y) : ∃ a b, l[i]? = some a ∧ m[i]? = some b ∧ y = .tup [a, b] := by
  unfold zipD at h
  rw [List.getElem?_map] at h
  cases e : (l.zip m)[i]? with
  | none => rw [e] at h; cases h
  | some q =>
    rw [e] at h
    obtain ⟨h1, h2⟩ := List.getElem?_zip_eq_some.mp e
    exact ⟨q.1, q.2, h1, h2, (Option.some.inj h).symm⟩
theorem zipD_end {l m : List D} {i : Nat} (h : (zipD l m).length ≤ i) : l.length ≤ i ∨ m.length ≤ i := by
  unfold zipD at h
  rw [List.length_map, List.length_zip] at h
  omega
theorem ei_zip {ta : TA} (h : EvA p ta δ fun ds => ∃ l m, ((ds = [.lst l, .lst m]) ∨ (ds = [.tup l, .tup m])) ∧ RI (zipD l m)) : EvI p (iZipA p.K ta) δ RI := fun Z0 H0 Z σ H R s e q => h Z0 H0 Z σ H _ s e fun vs ds H1 l1 r1 ⟨l, m, ed, k⟩ => by
  have fin : ∀ (Z' : Addr → Prop) (H' : Hp) (T : Addr) (x y : V) (a b : D), (∀ b, Z' b → H' b ≠ none) → H' T = none → Rep p.K Z' H' x a → Rep p.K Z' H' y b → Le p.G H' (upd H' T (.tup [x, y])) ∧ Rep p.K Z' (upd H' T (.tup [x, y])) (.ref T) (.tup [a, b]) :=
    fun Z' H' T x y a b lv hT ra rb => ⟨Le.new hT, .tup (fun z => lv _ z hT) upd_same (.cons (ra.new hT) (.cons (rb.new hT) .nil))⟩
  rcases ed with ed | ed
  · subst ed
    cases r1 with
    | cons r1 rn =>
      cases rn with
      | cons r2 rn =>
        cases rn
        obtain ⟨a, xs, rfl, n, hH, r⟩ := lst_of r1
        obtain ⟨b, ys, rfl, n2, hH2, r2⟩ := lst_of r2
        refine ⟨a, b, xs, ys, rfl, .inl ⟨SqL.of hH, SqL.of hH2, q _ _ H1 l1 (fun Z' H' g lv i => ⟨fun y hy => ?_, fun hl => ?_⟩) k⟩⟩
        · obtain ⟨da, db, h1, h2, rfl⟩ := zipD_get hy
          obtain ⟨u, hu, ru⟩ := r.get h1
          obtain ⟨w, hw, rw'⟩ := r2.get h2
          have g1 := SqL.of (K := p.K) (g.keep _ _ n hH)
          have g2 := SqL.of (K := p.K) (g.keep _ _ n2 hH2)
          refine ⟨⟨xs, ys, u, w, g1, g2, hu, hw⟩, fun v H'' ⟨T, x, y, e1, hT, e2, e3, e4⟩ => ?_⟩
          have e3' := e3 xs g1
          have e4' := e4 ys g2
          rw [hu] at e3'
          rw [hw] at e4'
          cases e3'
          cases e4'
          subst e1 e2
          exact fin _ _ _ _ _ _ _ lv hT (ru.go g) (rw'.go g)
        · exact ⟨xs, ys, SqL.of (g.keep _ _ n hH), SqL.of (g.keep _ _ n2 hH2), by rw [r.length, r2.length]; exact zipD_end hl⟩
  · subst ed
    cases r1 with
    | cons r1 rn =>
      cases rn with
      | cons r2 rn =>
        cases rn
        obtain ⟨a, xs, rfl, hH, r⟩ := sqt_go (Z' := Z) (H' := H1) r1
        obtain ⟨b, ys, rfl, hH2, r2⟩ := sqt_go (Z' := Z) (H' := H1) r2
        refine ⟨a, b, xs, ys, rfl, .inr ⟨hH _ _ (Go.refl _ _), hH2 _ _ (Go.refl _ _), q _ _ H1 l1 (fun Z' H' g lv i => ⟨fun y hy => ?_, fun hl => ?_⟩) k⟩⟩
        · obtain ⟨da, db, h1, h2, rfl⟩ := zipD_get hy
          obtain ⟨u, hu, ru⟩ := r.get h1
          obtain ⟨w, hw, rw'⟩ := r2.get h2
          have g1 := hH _ _ g
          have g2 := hH2 _ _ g
          refine ⟨⟨xs, ys, u, w, g1, g2, hu, hw⟩, fun v H'' ⟨T, x, y, e1, hT, e2, e3, e4⟩ => ?_⟩
          have e3' := e3 xs g1
          have e4' := e4 ys g2
          rw [hu] at e3'
          rw [hw] at e4'
          cases e3'
          cases e4'
          subst e1 e2
          exact fin _ _ _ _ _ _ _ lv hT (ru.go g) (rw'.go g)
        · exact ⟨xs, ys, hH _ _ g, hH2 _ _ g, by rw [r.length, r2.length]; exact zipD_end hl⟩
/-- enumerate of a list -/
def enumD (l : List D) : List D := (List.range l.length).map fun i => .tup [.int (i : Nat), l.getD i .non]
theorem enumD_get {l : List D} {i : Nat} {y : D} (h : (enumD l)[i]? = some y) : ∃ a, l[i]? = some a ∧ y = .tup [.int (i : Nat), a] := by
  unfold enumD at h
  rw [List.getElem?_map] at h
  by_cases hi : i < l.length
  · rw [List.getElem?_range hi] at h
    refine ⟨l[i], List.getElem?_eq_getElem hi, ?_⟩
    have := (Option.some.inj h).symm
    rw [this]
    show D.tup [D.int ↑i, l.getD i D.non] = _
    rw [List.getD_eq_getElem?_getD, List.getElem?_eq_getElem hi] <;> rfl
  · rw [List.getElem?_eq_none (by simpa using hi)] at h
    cases h
theorem enumD_len {l : List D} : (enumD l).length = l.length := by simp [enumD]
theorem ei_enum {ta : TA} (h : EvA p ta δ fun ds => ∃ l, ds = [.lst l] ∧ RI (enumD l)) : EvI p (iEnum p.K ta) δ RI := fun Z0 H0 Z σ H R s e q => h Z0 H0 Z σ H _ s e fun vs ds H1 l1 r1 ⟨l, ed, k⟩ => by
  subst ed
  cases r1 with
  | cons r1 rn =>
    cases rn
    obtain ⟨a, xs, rfl, n, hH, r⟩ := lst_of r1
    refine ⟨a, xs, rfl, SqL.of hH, q _ _ H1 l1 (fun Z' H' g lv i => ⟨fun y hy => ?_, fun hl => ?_⟩) k⟩
    · obtain ⟨da, h1, rfl⟩ := enumD_get hy
      obtain ⟨u, hu, ru⟩ := r.get h1
      have g1 := SqL.of (K := p.K) (g.keep _ _ n hH)
      refine ⟨⟨xs, u, g1, hu⟩, fun v H'' ⟨T, x, e1, hT, e2, e3⟩ => ?_⟩
      have e3' := e3 xs g1
      rw [hu] at e3'
      cases e3'
      subst e1 e2
      exact ⟨Le.new hT, .tup (fun z => lv _ z hT) upd_same (.cons (.int _) (.cons ((ru.go g).new hT) .nil))⟩
    · rw [enumD_len] at hl
      exact ⟨xs, SqL.of (g.keep _ _ n hH), by rw [r.length]; exact hl⟩
/-! ### targets -/
/-- the target g takes the datum y; it stores into the slots js alone -/
def TgS (p : Pr) (g : TG) (y : D) (δ : List Sl) (js : List Nat) (k : List Sl → Prop) : Prop := ∀ (Z0 : Addr → Prop) (H0 : Hp) (Z : Addr → Prop) (σ : L2.St) (H : Hp) (v : V) (Q : L2.St → Hp → Prop), RepP p Z0 H0 Z H σ δ → Rep p.K Z H v y →
  (∀ σ' δ', RepP p Z0 H0 Z H σ' δ' → σ'.length = σ.length → (∀ i, i ∉ js → σ'[i]? = σ[i]?) → k δ' → Q σ' H) → g v σ H Q
def TgsS (p : Pr) (g : TGs) (ys : List D) (δ : List Sl) (js : List Nat) (k : List Sl → Prop) : Prop := ∀ (Z0 : Addr → Prop) (H0 : Hp) (Z : Addr → Prop) (σ : L2.St) (H : Hp) (vs : List V) (Q : L2.St → Hp → Prop), RepP p Z0 H0 Z H σ δ → Reps p.K Z H vs ys →
  (∀ σ' δ', RepP p Z0 H0 Z H σ' δ' → σ'.length = σ.length → (∀ i, i ∉ js → σ'[i]? = σ[i]?) → k δ' → Q σ' H) → g vs σ H Q
theorem tg_name {i : Nat} {y : D} {js : List Nat} {k : List Sl → Prop} (hi : i ∈ js) (h : k (δ.set i (.d y))) : TgS p (gName i) y δ js k := fun Z0 H0 Z σ H v Q s r q =>
  q _ _ (s.setD r) (by simp) (fun j hj => List.getElem?_set_ne (fun e => hj (by rw [← e]; exact hi))) h
theorem tg_nil {js : List Nat} {k : List Sl → Prop} (h : k δ) : TgsS p gNil [] δ js k := fun Z0 H0 Z σ H vs Q s r q => by
  cases r
  exact ⟨rfl, q _ _ s rfl (fun _ _ => rfl) h⟩
theorem tg_cons {g : TG} {gs : TGs} {y : D} {ys : List D} {js : List Nat} {k : List Sl → Prop} (h : TgS p g y δ js fun δ' => TgsS p gs ys δ' js k) : TgsS p (gCons g gs) (y :: ys) δ js k := fun Z0 H0 Z σ H vs Q s r q => by
  cases r with
  | cons r rs => exact ⟨_, _, rfl, h Z0 H0 Z σ H _ _ s r fun σ' δ' s' hl hk h2 => h2 Z0 H0 Z σ' H _ _ s' rs fun σ2 δ2 s2 hl2 hk2 => q σ2 δ2 s2 (hl2.trans hl) fun i hi => (hk2 i hi).trans (hk i hi)⟩
theorem tg_tup {n : Nat} {gs : TGs} {y : D} {ys : List D} {js : List Nat} {k : List Sl → Prop} (e : y = .tup ys) (hl : ys.length = n) (h : TgsS p gs ys δ js k) : TgS p (gTup p.K n gs) y δ js k := fun Z0 H0 Z σ H v Q s r q => by
  subst e
  obtain ⟨a, xs, rfl, hH, rs⟩ := tup_of r
  exact ⟨a, xs, rfl, hH, by rw [rs.length]; exact hl, h Z0 H0 Z σ H xs Q s rs q⟩
theorem st_asgT {g : TG} {js : List Nat} (h : EvP p te δ fun d => TgS p g d δ js o.nx) : StP p (tAsg te g) δ o := fun Z0 H0 Z σ H Dn s e n r b c =>
  h.run s e fun v d H1 l1 r1 k => k Z0 H0 Z σ H1 v _ (s.le l1) r1 fun σ' δ' s' _ _ kk => n Z σ' δ' H1 (.le l1 s.env.zin) s' kk
/-! ### loops -/
theorem st_for {wi : TI} {g : TG} {js : List Nat} (h : EvI p wi δ fun l => ∃ Inv : Nat → List Sl → Prop, Inv 0 δ ∧
    (∀ i y δ', l[i]? = some y → Inv i δ' → TgS p g y δ' js fun δ2 => StP p st δ2 { nx := Inv (i + 1), rt := o.rt, bk := o.nx, ct := Inv (i + 1) }) ∧ ∀ δ', Inv l.length δ' → o.nx δ') : StP p (tFor wi g st) δ o :=
  fun Z0 H0 Z σ H Dn s e n r b c => h Z0 H0 Z σ H _ s e fun J l H1 l1 it ⟨inv, i0, turn, fin⟩ => by
    have g1 : Go Z H Z H1 := .le l1 s.env.zin
    refine ⟨fun i m σ' H' => m = l.length - i ∧ i ≤ l.length ∧ ∃ Z' δ', Go Z H1 Z' H' ∧ RepP p Z0 H0 Z' H' σ' δ' ∧ inv i δ', ⟨_, rfl, Nat.zero_le _, Z, δ, Go.refl _ _, s.le l1, i0⟩, ?_⟩
    rintro i m σ' H' ⟨rfl, hi, Z', δ', gg, s', iv⟩
    obtain ⟨h1, h2⟩ := it Z' H' gg s'.env.live i
    by_cases hlt : i < l.length
    · obtain ⟨hgo, hy⟩ := h1 l[i] (List.getElem?_eq_getElem hlt)
      refine .inr ⟨hgo, fun σ2 H2 => ∃ Z2 δ2, Go Z H1 Z2 H2 ∧ RepP p Z0 H0 Z2 H2 σ2 δ2 ∧ inv (i + 1) δ2, fun σ2 H2 ⟨Z2, δ2, g2, s2, iv2⟩ => ⟨l.length - (i + 1), by omega, rfl, hlt, Z2, δ2, g2, s2, iv2⟩, fun v H'' hv => ?_⟩
      obtain ⟨le2, rv⟩ := hy v H'' hv
      have g3 : Go Z' H' Z' H'' := .le le2 s'.env.zin
      exact turn i _ δ' (List.getElem?_eq_getElem hlt) iv Z0 H0 Z' σ' H'' v _ (s'.le le2) rv fun σ3 δ3 s3 _ _ body =>
        body Z0 H0 Z' σ3 H'' _ s3 e (fun Z2 σ2 δ2 H2 g2 s2 iv2 => ⟨Z2, δ2, (gg.trans g3).trans g2, s2, iv2⟩) r (fun Z2 σ2 δ2 H2 g2 s2 k => n Z2 σ2 δ2 H2 ((g1.trans (gg.trans g3)).trans g2) s2 k) fun Z2 σ2 δ2 H2 g2 s2 iv2 => ⟨Z2, δ2, (gg.trans g3).trans g2, s2, iv2⟩
    · have e0 : i = l.length := by omega
      subst e0
      exact .inl ⟨h2 (Nat.le_refl _), n Z' σ' δ' H' (g1.trans gg) s' (fin δ' iv)⟩
/-! ### comprehensions -/
def wipeD (δ : List Sl) : List Nat → List Sl
  | [] => δ
  | v :: vs => (wipeD δ vs).set v .un
theorem RepS.wipe {K : PySem.W.Frag} {G : Env1} {Z0 Z : Addr → Prop} {H0 H : Hp} {σ : L2.St} (s : RepS K G Z0 H0 Z H σ δ) : ∀ vs : List Nat, RepS K G Z0 H0 Z H (L2.wipe σ vs) (wipeD δ vs)
  | [] => s
  | v :: vs => (s.wipe vs).set (o := none) (s := .un) trivial fun q => nomatch q
theorem wipe_in {σ : L2.St} {i : Nat} : ∀ {vs : List Nat}, i ∈ vs → i < σ.length → (L2.wipe σ vs)[i]? = some none
  | v :: vs, h, hl => by
    show ((L2.wipe σ vs).set v none)[i]? = _
    by_cases e : v = i
    · subst e
      rw [List.getElem?_set_self (by rw [wipe_length]; exact hl)]
    · rw [List.getElem?_set_ne e]
      rcases List.mem_cons.mp h with q | q
      · exact absurd q.symm e
      · exact wipe_in q hl
theorem wipe_out {σ : L2.St} {i : Nat} : ∀ {vs : List Nat}, i ∉ vs → (L2.wipe σ vs)[i]? = σ[i]?
  | [], _ => rfl
  | v :: vs, h => by
    show ((L2.wipe σ vs).set v none)[i]? = _
    rw [List.getElem?_set_ne (fun e => h (by rw [← e]; exact List.mem_cons_self))]
    exact wipe_out fun q => h (List.mem_cons_of_mem _ q)
theorem wipe_eq {σ σ' : L2.St} {vs : List Nat} (hl : σ'.length = σ.length) (hk : ∀ i, i ∉ vs → σ'[i]? = σ[i]?) : L2.wipe σ' vs = L2.wipe σ vs := by
  apply List.ext_getElem?
  intro i
  by_cases hi : i ∈ vs
  · by_cases hb : i < σ.length
    · rw [wipe_in hi hb, wipe_in hi (by rw [hl]; exact hb)]
    · rw [List.getElem?_eq_none (by rw [wipe_length, hl]; omega), List.getElem?_eq_none (by rw [wipe_length]; omega)]
  · rw [wipe_out hi, wipe_out hi, hk i hi]
theorem Paired.len {α β : Type} {P : α → β → Prop} : ∀ {xs : List α} {ys : List β}, Paired P xs ys → xs.length = ys.length
  | _, _, .nil => rfl
  | _, _, .cons _ t => congrArg Nat.succ (Paired.len t)
theorem paired_snoc {P : D → D → Prop} : ∀ {xs ys : List D} {x y : D}, Paired P xs ys → P x y → Paired P (xs ++ [x]) (ys ++ [y])
  | _, _, _, _, .nil, h => .cons h .nil
  | _, _, _, _, .cons a t, h => .cons a (paired_snoc t h)
theorem take_succ {l : List D} {i : Nat} {y : D} (h : l[i]? = some y) : l.take (i + 1) = l.take i ++ [y] := by
  rw [List.take_add_one, h] <;> rfl
/-- [e for x in l if t]: over what is walked -/
theorem eo_lc {wi : TI} {g : TG} {tt : TT} {vs : List Nat} {RO : Sl → Prop} (h : EvI p wi δ fun l => l.length ≤ 50000 ∧ ∃ (b : D → Bool) (P : D → D → Prop),
    (∀ y, y ∈ l → TgS p g y (wipeD δ vs) vs fun δ2 => EvT p tt δ2 fun c => c = b y ∧ (c = true → EvP p te δ2 (P y))) ∧ ∀ zs, Paired P (l.filter b) zs → RO (.own zs)) : EvO p (tLc wi g tt te vs) δ RO :=
  fun Z0 H0 Z σ H Q s e q => h Z0 H0 Z σ H _ s e fun J l H1 l1 it ⟨hl, b, P, turn, fin⟩ A hA => by
    have s1 := s.le l1
    have l2 : Le p.G H1 (upd H1 A (.lst [])) := Le.new hA
    have noZ : ¬ Z A := fun z => s1.env.live A z hA
    have nA : ¬ p.G.sp A := s1.env.sp hA
    have keepN : ∀ (H' : Hp) (u : HO), (∀ c q, H' A ≠ some (LamX.CodeO c q)) → Le p.G H1 H' → Le p.G H1 (upd H' A u) := fun H' u g l => by
      refine ⟨fun a o na ha => ?_, fun pp hp st => ?_, fun q hq t => ?_⟩
      · rw [upd_ne (ne_of_none ha hA)]; exact l.keep a o na ha
      · rw [upd_ne (fun q => nA (.inl ⟨pp, hp, q.symm⟩))]; exact l.st pp hp st
      · exact tabs_upd (l.tb q hq t) (fun z => nA (.inr ⟨q, hq, z.symm⟩)) fun c hc z => g c q.2 (by rw [← z]; exact hc)
    -- what holds between two turns: the data made so far stand at A, told with A owned
    let ZA : Addr → Prop := fun a => Z a ∨ a = A
    have goA : ∀ H', Le p.G H1 H' → Go Z H1 ZA H' := fun H' l => ⟨l.keepZ s.env.zin, fun a ha => ha.elim .inl fun e => .inr (by rw [e]; exact hA)⟩
    refine ⟨fun i m H' => m = l.length - i ∧ i ≤ l.length ∧ Le p.G H1 H' ∧ ∃ xs zs, H' A = some (.lst xs) ∧ Reps p.K ZA H' xs zs ∧ Paired P ((l.take i).filter b) zs, ⟨_, rfl, Nat.zero_le _, l2, [], [], upd_same, .nil, .nil⟩, ?_⟩
    rintro i m H' ⟨rfl, hi, le', xs, zs, hx, rx, pz⟩
    have ga := goA H' le'
    have live' : ∀ a, ZA a → H' a ≠ none := fun a ha => ha.elim ((s1.env.le le').live a) fun e => by rw [e, hx]; exact fun z => nomatch z
    obtain ⟨h1, h2⟩ := it ZA H' ga live' i
    by_cases hlt : i < l.length
    · have hy0 : l[i]? = some l[i] := List.getElem?_eq_getElem hlt
      obtain ⟨hgo, hy⟩ := h1 l[i] hy0
      refine .inr ⟨hgo, fun H2 => Le p.G H1 H2 ∧ ∃ xs zs, H2 A = some (.lst xs) ∧ Reps p.K ZA H2 xs zs ∧ Paired P ((l.take (i + 1)).filter b) zs, fun H2 ⟨a1, a2⟩ => ⟨l.length - (i + 1), by omega, rfl, hlt, a1, a2⟩, fun v H'' hv => ?_⟩
      obtain ⟨le2, rv⟩ := hy v H'' hv
      have lT : Le p.G H1 H'' := le'.trans le2
      -- the frame, told with A owned
      have sA : RepP p Z0 H0 ZA H'' σ δ := (s1.own lT hA (by
        rw [le2.keep A _ nA hx]; exact fun z => nomatch z))
      refine turn _ (List.mem_of_getElem? hy0) Z0 H0 ZA _ H'' v _ (sA.wipe vs) rv fun σ3 δ3 s3 hlen hout ht => ⟨?_, ?_⟩
      · have e1 := wipe_eq (σ := L2.wipe σ vs) (vs := vs) hlen hout
        rw [e1]
        exact wipe_eq (by rw [wipe_length]) fun j hj => wipe_out hj
      · refine ht Z0 H0 ZA σ3 H'' _ s3 e fun c H3 l3 ⟨hc, hte⟩ => ?_
        have step : (l.take (i + 1)).filter b = (l.take i).filter b ++ (if b l[i] = true then [l[i]] else []) := by
          rw [take_succ hy0, List.filter_append]
          cases hb : b l[i] <;> simp [hb]
        cases c with
        | true =>
          refine hte rfl Z0 H0 ZA σ3 H3 _ (s3.le l3) e fun y yd H4 l4 ry py => ⟨xs, ?_, ?_, ?_⟩
          · exact ((le2.trans l3).trans l4).keep A _ nA hx
          · rw [rx.length, ← pz.length]
            have q1 := List.length_filter_le b (l.take i)
            have q2 : (l.take i).length ≤ l.length := by rw [List.length_take]; omega
            exact Nat.lt_of_le_of_lt (Nat.le_trans q1 (Nat.le_trans q2 hl)) (by decide)
          · have lAll : Le p.G H' H4 := (le2.trans l3).trans l4
            have gU : ∀ u, Go ZA H4 ZA (upd H4 A u) := fun u => ⟨fun bb w nb hh => by rw [upd_ne (fun q => nb (.inr q))]; exact hh, fun _ hh => .inl hh⟩
            refine ⟨keepN H4 _ (fun c q z => by rw [lAll.keep A _ nA hx] at z; exact absurd (Option.some.inj z) (by unfold LamX.CodeO; exact fun y => nomatch y)) (le'.trans lAll), _, zs ++ [yd], upd_same, ((rx.le lAll fun a ha => .inl (s.env.zin a ha)).append (.cons ry .nil)).go (gU _), ?_⟩
            rw [step, if_pos hc.symm]
            exact paired_snoc pz py
        | false =>
          have lAll : Le p.G H' H3 := le2.trans l3
          refine ⟨le'.trans lAll, xs, zs, lAll.keep A _ nA hx, rx.le lAll fun a ha => .inl (s.env.zin a ha), ?_⟩
          rw [step, if_neg (by rw [← hc]; exact Bool.false_ne_true), List.append_nil]
          exact pz
    · have e0 : i = l.length := by omega
      subst e0
      refine .inl ⟨h2 (Nat.le_refl _), q A _ H' (l1.trans le') (fresh_le s.env l1 hA) (.inl ⟨xs, zs, rfl, hx, rx⟩) (fin zs ?_)⟩
      rw [List.take_length] at pz
      exact pz
/-- a new list is a datum -/
theorem ev_new (h : EvO p te δ fun sl => ∃ l, sl = .own l ∧ R (.lst l)) : EvP p te δ R := fun Z0 H0 Z σ H Q s e q => h Z0 H0 Z σ H _ s e fun a sl H2 l ha hc ⟨l', es, k⟩ => by
  rcases hc with ⟨xs, l2, e2, hx, r⟩ | ⟨xs, l2, e2, hx, r⟩
  · rw [e2] at es
    cases es
    exact q _ _ H2 l (.lst (fun z => s.env.live a z ha) hx (r.mono (fun _ z => .inl z) fun _ _ _ z => z)) k
  · rw [e2] at es
    cases es
end
end WL
end
section
set_option Elab.async false
set_option linter.all false
set_option maxRecDepth 100000
set_option maxHeartbeats 2000000
/-! The calculus over data: isinstance, dicts, slices, tuples joined, in, == of data, sorted, the ints' built-ins; a def's and an __init__'s promise. -/
namespace WL
open PySem PySem.Spec PyProof.Rows L2
/-! ### types -/
/-- what isinstance asks of an own class -/
structure IsC (K : PySem.W.Frag) (c : Str) : Prop where
  cl : Cls K (He.ga K c)
  ha : PySem.W.findIn K (.ref (He.ga K c)) "__class__" = some (some (.builtin "object.__class__"))
  hn : PySem.W.specialIn K (.builtin "object.__class__") "__get__" = some (some (.builtin "getset_descriptor.__get__"))
  htk : PySem.W.takesIn K (.builtin "object.__class__") = some true
  hm : PySem.W.mroIn K (He.ga K c) (.type "object") = some true
inductive TyD (K : PySem.W.Frag) : D → Value → Prop
  | non : TyD K .non (.type "NoneType")
  | bl (b : Bool) : TyD K (.bl b) (.type "bool")
  | int (i : Int) : TyD K (.int i) (.type "int")
  | str (x : Str) : TyD K (.str x) (.type "str")
  | lst (l : List D) : TyD K (.lst l) (.type "list")
  | tup (l : List D) : TyD K (.tup l) (.type "tuple")
  | dic (l : List (Str × D)) : TyD K (.dic l) (.type "dict")
  | ins {c : Str} (l : List (Str × D)) (h : IsC K c) : TyD K (.ins c l) (.ref (He.ga K c))
theorem TyD.x {K : PySem.W.Frag} {Z : Addr → Prop} {H : Hp} {v : V} {x : D} {t : Value} (h : TyD K x t) (r : Rep K Z H v x) : TyX K H v t := by
  cases h with
  | non => cases r; exact .base .non
  | bl b => cases r; exact .base (.bl _)
  | int i => cases r; exact .base (.int _)
  | str z => cases r; exact .base (.str _)
  | lst l =>
    obtain ⟨a, xs, rfl, _, hH, _⟩ := lst_of r
    exact .base (.lst hH)
  | tup l =>
    cases r with
    | tup n h r => exact .base (.tup h)
    | ktup h r =>
      obtain ⟨o, its, n, e1, e2, _⟩ := h
      exact .kTuple e1 e2
  | dic l => cases r with | dic n h r => exact .base (.dK h)
  | ins l h => cases r with | ins n hH r => exact .base (.ins hH h.cl h.ha h.hn h.htk h.hm)
section
variable {p : Pr} {ta tb tc te : TE} {t u : TT} {δ : List Sl} {R : D → Prop} {RB : Bool → Prop} {RA : List D → Prop} {o : Po} {st su : TS}
theorem ev_isi {c : V} {u : Value} (hc : ClsV c u) (h : EvP p te δ fun x => ∃ t b, TyD p.K x t ∧ PySem.W.kitOne p.K t u = some b ∧ R (.bl b)) : EvP p (tCB (rIsi p.K) (tCons te (tCons (tC c) tNil))) δ R :=
  fun Z0 H0 Z σ H Q s e q => h.run s e fun v x H1 l1 r1 ⟨t, b, ty, k, kr⟩ => ⟨v, c, t, u, b, rfl, hc, ty.x r1, k, q _ _ H1 l1 (.bl b) kr⟩
theorem ev_isiT {c1 c2 : V} {u1 u2 : Value} (h1 : ClsV c1 u1) (h2 : ClsV c2 u2) (h : EvP p te δ fun x => ∃ t b, TyD p.K x t ∧ PySem.W.kitAny p.K t [u1, u2] = some b ∧ R (.bl b)) :
    EvP p (tCB (rIsiT p.K) (tCons te (tCons (tTup (tCons (tC c1) (tCons (tC c2) tNil))) tNil))) δ R :=
  fun Z0 H0 Z σ H Q s e q => h.run s e fun v x H1 l1 r1 ⟨t, b, ty, k, kr⟩ => ⟨sz_of (by show 2 ≤ 100000; decide), fun a ha =>
    ⟨v, a, [c1, c2], t, [u1, u2], b, rfl, upd_same, .cons h1 (.cons h2 .nil), ty.x (r1.new ha), k, q _ _ _ (l1.trans (Le.new ha)) (.bl b) kr⟩⟩
/-! ### dicts with text keys -/
theorem repk_get {K : PySem.W.Frag} {Z : Addr → Prop} {H : Hp} : ∀ {kvs : List (Key × V)} {l : List (Str × D)} {k : Str} {z : D}, RepK K Z H kvs l → l.lookup k = some z → ∃ u, valV kvs (Sum.inr k) = some u ∧ Rep K Z H u z
  | _, _, k, z, .nil, e => by simp at e
  | _, _, k, z, .cons (f := g) r t, e => by
    rw [List.lookup_cons] at e
    unfold valV
    rw [List.find?_cons]
    by_cases q : k = g
    · subst q
      simp at e
      subst e
      simp
      exact r
    · have q1 : (k == g) = false := by simpa using q
      rw [q1] at e
      have q2 : decide ((Sum.inr g : Key) = Sum.inr k) = false := decide_eq_false fun z => q (Sum.inr.inj z).symm
      simp only [q2]
      exact repk_get t e
theorem ev_dget (h : EvP p ta δ fun x => EvP p tb δ fun y => ∃ l k z, x = .dic l ∧ y = .str k ∧ l.lookup k = some z ∧ R z) : EvP p (tDGet ta tb) δ R :=
  fun Z0 H0 Z σ H Q s e q => h.run s e fun v x H1 l1 r1 hb => hb.run (s.le l1) e fun w y H2 l2 r2 ⟨l, k, z, ex, ey, lk, kr⟩ => by
    subst ex ey
    cases r2
    cases r1 with
    | dic n hH r =>
      obtain ⟨u, hu, ru⟩ := repk_get (r.le l2 s.env.zin) lk
      exact ⟨_, u, rfl, by rw [← hu]; exact DGet.k (k := Sum.inr k) (l2.keepZ s.env.zin _ _ n hH), q _ _ H2 (l1.trans l2) ru kr⟩
theorem ev_dgetO {i : Nat} {l : List (Str × D)} (hi : δ[i]? = some (.odic l)) (h : EvP p tb δ fun y => ∃ k z, y = .str k ∧ l.lookup k = some z ∧ R z) : EvP p (tDGet (tVar i) tb) δ R :=
  fun Z0 H0 Z σ H Q s e q => by
    obtain ⟨ov, e1, a, xs, rfl, z, n0, hH, rr⟩ := s.slot hi
    refine ⟨_, e1, h.run s e fun w y H2 l2 r2 ⟨k, zz, ey, lk, kr⟩ => ?_⟩
    subst ey
    cases r2
    obtain ⟨u, hu, ru⟩ := repk_get (rr.le l2 s.env.zin) lk
    exact ⟨_, u, rfl, by rw [← hu]; exact DGet.k (k := Sum.inr k) (l2.keep _ _ (s.ne n0) hH), q _ _ H2 l2 ru kr⟩
/-- in its place, or at the end -/
def putA (k : Str) (v : D) : List (Str × D) → List (Str × D)
  | [] => [(k, v)]
  | (g, x) :: r => if g = k then (g, v) :: r else (g, x) :: putA k v r
theorem putA_len (k : Str) (v : D) : ∀ l : List (Str × D), (putA k v l).length ≤ l.length + 1
  | [] => Nat.le_refl _
  | (g, x) :: r => by
    show (if g = k then (g, v) :: r else (g, x) :: putA k v r).length ≤ _
    by_cases e : g = k
    · rw [if_pos e]; simp
    · rw [if_neg e]; have := putA_len k v r; simp only [List.length_cons]; omega
theorem repk_any {K : PySem.W.Frag} {Z : Addr → Prop} {H : Hp} {k : Str} : ∀ {kvs : List (Key × V)} {l : List (Str × D)}, RepK K Z H kvs l → (l.map (·.1)).Nodup → ∀ v d, Rep K Z H v d → RepK K Z H (putK kvs (Sum.inr k) v) (putA k d l)
  | _, _, .nil, _, v, d, r => .cons r .nil
  | _, _, .cons (f := g) (vs := vs) (ds := ds) (v := w) (d := dw) r t, nd, v, d, rv => by
    have nd2 := (List.nodup_cons.mp nd).2
    have nd1 := (List.nodup_cons.mp nd).1
    show RepK K Z H (putK _ _ _) (if g = k then _ else _)
    by_cases e : g = k
    · subst e
      rw [if_pos rfl]
      unfold putK
      rw [List.any_cons, decide_eq_true rfl, Bool.true_or, if_pos rfl, List.map_cons, if_pos rfl]
      have key : ∀ {kvs : List (Key × V)} {l : List (Str × D)}, RepK K Z H kvs l → g ∉ l.map (·.1) → kvs.map (fun kv => if kv.1 = (Sum.inr g : Key) then (kv.1, v) else kv) = kvs := by
        intro kvs l h
        induction kvs generalizing l with
        | nil => intro _; rfl
        | cons a b ih =>
          intro hn
          cases h with
          | cons r t =>
            rw [List.map_cons] at hn
            have h1 := fun q => hn (List.mem_cons_of_mem _ q)
            have h2 : ¬ (Sum.inr _ : Key) = Sum.inr g := fun q => hn (by rw [← Sum.inr.inj q]; exact List.mem_cons_self)
            rw [List.map_cons, if_neg h2, ih t h1]
      rw [key t nd1]
      exact .cons rv t
    · rw [if_neg e]
      have ih := repk_any (k := k) t nd2 v d rv
      have q2 : decide ((Sum.inr g : Key) = Sum.inr k) = false := decide_eq_false fun z => e (Sum.inr.inj z)
      have q3 : ¬ (Sum.inr g : Key) = Sum.inr k := fun z => e (Sum.inr.inj z)
      have e2 : putK ((Sum.inr g, w) :: vs) (Sum.inr k) v = (Sum.inr g, w) :: putK vs (Sum.inr k) v := by
        unfold putK
        rw [List.any_cons, q2, Bool.false_or, List.map_cons, if_neg q3]
        split <;> rfl
      rw [e2]
      exact .cons r ih
theorem st_dput {i : Nat} {l : List (Str × D)} (hi : δ[i]? = some (.odic l)) (hl : l.length < 100000) (nd : (l.map (·.1)).Nodup) (h : EvP p te δ fun v => EvP p tb δ fun y => ∃ k, y = .str k ∧ o.nx (δ.set i (.odic (putA k v l)))) : StP p (sDPut (tVar i) tb te) δ o :=
  fun Z0 H0 Z σ H Dn s e n r b c => h.run s e fun v x H1 l1 r1 hb => by
    obtain ⟨ov, e1, a, xs, rfl, z, n0, hH, rr⟩ := s.slot hi
    refine ⟨_, e1, hb.run (s.le l1) e fun w y H2 l2 r2 ⟨k, ey, kr⟩ => ?_⟩
    subst ey
    cases r2
    have l12 := l1.trans l2
    have hH2 := l12.keep _ _ (s.ne n0) hH
    have g0 : ∀ u, Go Z H2 Z (upd H2 a u) := fun u => ⟨fun b w nb h => by rw [upd_ne (fun q => nb (by rw [q]; exact z))]; exact h, fun _ h => .inl h⟩
    obtain ⟨g, s2⟩ := (s.le l12).put (ob := .dK (putK xs (Sum.inr k) v)) (s1 := .odic (putA k x l)) hi e1 z n0 rfl ⟨a, _, rfl, z, n0, upd_same, repk_any ((rr.le l12 s.env.zin).go (g0 _)) nd _ _ ((r1.le l2 s.env.zin).go (g0 _))⟩ (by rw [hH2]; exact fun z => nomatch z)
    exact ⟨a, _, rfl, DPut.k (k := Sum.inr k) hH2 (Nat.lt_of_lt_of_le (by rw [rr.length]; exact hl) (by decide)), n _ _ _ _ ((Go.le l12 s.env.zin).trans g) s2 kr⟩
theorem eo_dict0 {RO : Sl → Prop} (k : RO (.odic [])) : EvO p tDNewK δ RO := fun Z0 H0 Z σ H Q s e q a ha => q _ _ _ (Le.new ha) ha (.inr ⟨[], [], rfl, upd_same, .nil⟩) k
/-! ### slices, tuples joined -/
def cutD (l : List D) (lo hi : Option Int) : List D := (l.drop (HT.sIx l.length 0 lo)).take (HT.sIx l.length l.length hi - HT.sIx l.length 0 lo)
theorem Reps.drop {K : PySem.W.Frag} {Z : Addr → Prop} {H : Hp} : ∀ {xs : List V} {l : List D} (n : Nat), Reps K Z H xs l → Reps K Z H (xs.drop n) (l.drop n)
  | _, _, 0, h => h
  | _, _, n + 1, .nil => .nil
  | _, _, n + 1, .cons r t => Reps.drop n t
theorem Reps.take {K : PySem.W.Frag} {Z : Addr → Prop} {H : Hp} : ∀ {xs : List V} {l : List D} (n : Nat), Reps K Z H xs l → Reps K Z H (xs.take n) (l.take n)
  | _, _, 0, h => .nil
  | _, _, n + 1, .nil => .nil
  | _, _, n + 1, .cons r t => .cons r (Reps.take n t)
theorem Reps.cut {K : PySem.W.Frag} {Z : Addr → Prop} {H : Hp} {xs : List V} {l : List D} (r : Reps K Z H xs l) (lo hi : Option Int) : Reps K Z H (cutV xs lo hi) (cutD l lo hi) := by
  unfold cutV cutD
  rw [r.length]
  exact (r.drop _).take _
theorem cutD_whole {l : List D} {lo hi : Option Int} (h : HT.sIx l.length 0 lo = 0 ∧ HT.sIx l.length l.length hi = l.length) : cutD l lo hi = l := by
  unfold cutD
  rw [h.1, h.2]
  simp
/-- the parts of a slice -/
def EvS (p : Pr) (to : TO) (δ : List Sl) (R : Option Int → Prop) : Prop := ∀ (Z0 : Addr → Prop) (H0 : Hp) (Z : Addr → Prop) (σ : L2.St) (H : Hp) (Q : Option Int → Hp → Prop), RepP p Z0 H0 Z H σ δ → ExoP p Z0 H0 →
  (∀ i H2, Le p.G H H2 → R i → Q i H2) → to σ H Q
theorem es_none {R : Option Int → Prop} (k : R none) : EvS p tNoPart δ R := fun Z0 H0 Z σ H Q s e q => q _ H (Le.refl _ _) k
theorem es_some {R : Option Int → Prop} (h : EvP p te δ fun x => ∃ i, x = .int i ∧ R (some i)) : EvS p (tPart te) δ R := fun Z0 H0 Z σ H Q s e q => h.run s e fun v x H1 l1 r1 ⟨i, ex, k⟩ => by
  subst ex
  cases r1
  exact ⟨i, rfl, q _ H1 l1 k⟩
theorem eo_slL {tl th : TO} {RO : Sl → Prop} (h : EvP p te δ fun x => EvS p tl δ fun lo => EvS p th δ fun hi => ∃ l, x = .lst l ∧ RO (.own (cutD l lo hi))) : EvO p (tSl (rSlL p.K) te tl th) δ RO :=
  fun Z0 H0 Z σ H Q s e q => h.run s e fun v x H1 l1 r1 h2 => h2 Z0 H0 Z σ H1 _ (s.le l1) e fun lo H2 l2 h3 => h3 Z0 H0 Z σ H2 _ (s.le (l1.trans l2)) e fun hi H3 l3 ⟨l, ex, k⟩ => by
    subst ex
    obtain ⟨a, xs, rfl, n, hH, r⟩ := lst_of r1
    have l23 := l2.trans l3
    exact ⟨a, xs, rfl, SqL.of (l23.keepZ s.env.zin _ _ n hH), fun b hb => q _ _ _ ((l1.trans l23).trans (Le.new hb)) (fresh_le s.env (l1.trans l23) hb) (.inl ⟨_, _, rfl, upd_same, (((r.le l23 s.env.zin).cut lo hi).own hb).new hb⟩) k⟩
theorem ev_slT {tl th : TO} (h : EvP p te δ fun x => EvS p tl δ fun lo => EvS p th δ fun hi => ∃ l, x = .tup l ∧ R (.tup (cutD l lo hi))) : EvP p (tSl (rSlA p.K) te tl th) δ R :=
  fun Z0 H0 Z σ H Q s e q => h.run s e fun v x H1 l1 r1 h2 => h2 Z0 H0 Z σ H1 _ (s.le l1) e fun lo H2 l2 h3 => h3 Z0 H0 Z σ H2 _ (s.le (l1.trans l2)) e fun hi H3 l3 ⟨l, ex, k⟩ => by
    subst ex
    have l23 := l2.trans l3
    have r3 := r1.le l23 s.env.zin
    obtain ⟨a, xs, rfl, hH, r⟩ := tup_of r3
    refine ⟨a, xs, rfl, hH, fun hw => ?_, fun _ b hb => ?_⟩
    · rw [r.length] at hw
      rw [cutD_whole hw] at k
      exact q _ _ H3 (l1.trans l23) r3 k
    · exact q _ _ _ ((l1.trans l23).trans (Le.new hb)) (.tup (fun z => (s.env.le (l1.trans l23)).live b z hb) upd_same ((r.cut lo hi).new hb)) k
theorem ev_catT (h : EvP p ta δ fun x => EvP p tb δ fun y => ∃ l m, x = .tup l ∧ y = .tup m ∧ l.length + m.length ≤ 100000 ∧ R (.tup (l ++ m))) : EvP p (tOp (rCatA p.K) ta tb) δ R :=
  ev_op2 h fun x y ⟨l, m, ex, ey, hl, k⟩ Z v w H Q ek r1 r2 q => by
    subst ex ey
    obtain ⟨a, xs, rfl, h1, q1⟩ := tup_of r1
    obtain ⟨b, ys, rfl, h2, q2⟩ := tup_of r2
    refine ⟨a, b, xs, ys, rfl, rfl, h1, h2, sz_of (by rw [q1.length, q2.length]; exact hl), fun e => ?_, fun _ e => ?_, fun _ _ c hc => ?_⟩
    · subst e
      have e1 : l = [] := List.eq_nil_of_length_eq_zero q1.length.symm
      subst e1
      exact q _ _ H (Le.refl _ _) r2 k
    · subst e
      have e1 : m = [] := List.eq_nil_of_length_eq_zero q2.length.symm
      subst e1
      rw [List.append_nil] at k
      exact q _ _ H (Le.refl _ _) r1 k
    · exact q _ _ _ (Le.new hc) (.tup (fun z => ek.live c z hc) upd_same ((q1.append q2).new hc)) k
theorem eo_cat {RO : Sl → Prop} (h : EvP p ta δ fun x => EvP p tb δ fun y => ∃ l m, x = .lst l ∧ y = .lst m ∧ l.length + m.length ≤ 100000 ∧ RO (.own (l ++ m))) : EvO p (tOp rCat ta tb) δ RO :=
  fun Z0 H0 Z σ H Q s e q => h.run s e fun v x H1 l1 r1 h2 => h2.run (s.le l1) e fun w y H2 l2 r2 ⟨l, m, ex, ey, hl, k⟩ => by
    subst ex ey
    have r1' := r1.le l2 s.env.zin
    obtain ⟨a, xs, rfl, _, h1, q1⟩ := lst_of r1'
    obtain ⟨b, ys, rfl, _, h2, q2⟩ := lst_of r2
    exact ⟨a, b, xs, ys, rfl, rfl, h1, h2, sz_of (by rw [q1.length, q2.length]; exact hl), fun c hc => q _ _ _ ((l1.trans l2).trans (Le.new hc)) (fresh_le s.env (l1.trans l2) hc) (.inl ⟨_, _, rfl, upd_same, ((q1.append q2).own hc).new hc⟩) k⟩
/-! ### in, == of data -/
def D.flat : D → Bool
  | .non => true
  | .bl _ => true
  | .int _ => true
  | .str _ => true
  | _ => false
def D.v : D → V
  | .non => .non
  | .bl b => .bl b
  | .int i => .int i
  | .str x => .str x
  | _ => .non
theorem flat_v {K : PySem.W.Frag} {Z : Addr → Prop} {H : Hp} {v : V} {x : D} (r : Rep K Z H v x) (h : x.flat = true) : v = x.v ∧ flatV v = true := by
  cases r <;> first | exact ⟨rfl, rfl⟩ | cases h
theorem flats_v {K : PySem.W.Frag} {Z : Addr → Prop} {H : Hp} : ∀ {xs : List V} {l : List D}, Reps K Z H xs l → l.all D.flat = true → xs = l.map D.v ∧ xs.all flatV = true
  | _, _, .nil, _ => ⟨rfl, rfl⟩
  | _, _, .cons r t, h => by
    rw [List.all_cons, Bool.and_eq_true_iff] at h
    obtain ⟨e1, e2⟩ := flat_v r h.1
    obtain ⟨e3, e4⟩ := flats_v t h.2
    exact ⟨by rw [e1, e3] <;> rfl, by rw [List.all_cons, e2, e4] <;> rfl⟩
theorem ev_in {neg : Bool} (h : EvP p ta δ fun x => EvP p tb δ fun y => ∃ l, (y = .lst l ∨ y = .tup l) ∧ x.flat = true ∧ l.all D.flat = true ∧ R (.bl (if neg then !inV x.v (l.map D.v) else inV x.v (l.map D.v)))) : EvP p (tOp (rIn p.K neg) ta tb) δ R :=
  ev_op2 h fun x y ⟨l, ey, hx, hl, k⟩ Z v w H Q ek r1 r2 q => by
    obtain ⟨e1, f1⟩ := flat_v r1 hx
    rcases ey with ey | ey
    · subst ey
      obtain ⟨b, ys, rfl, _, h2, q2⟩ := lst_of r2
      obtain ⟨e3, e4⟩ := flats_v q2 hl
      exact ⟨b, ys, rfl, .inl (SqL.of h2), f1, e4, by rw [e1, e3]; exact q _ _ H (Le.refl _ _) (.bl _) k⟩
    · subst ey
      obtain ⟨b, ys, rfl, h2, q2⟩ := tup_of r2
      obtain ⟨e3, e4⟩ := flats_v q2 hl
      exact ⟨b, ys, rfl, .inr h2, f1, e4, by rw [e1, e3]; exact q _ _ H (Le.refl _ _) (.bl _) k⟩
/-- one sign in a text -/
theorem ev_inS (h : EvP p ta δ fun x => EvP p tb δ fun y => ∃ (c : Nat) (z : Str), x = .str ⟨#[c]⟩ ∧ y = .str z ∧ R (.bl (decide (c ∈ z.cps.toList)))) :
    EvP p (tOp (fun x y H Q => ∃ (c : Nat) (z : Str), x = .str ⟨#[c]⟩ ∧ y = .str z ∧ Q (.bl (decide (c ∈ z.cps.toList))) H) ta tb) δ R :=
  ev_op2 h fun x y ⟨c, z, ex, ey, k⟩ Z v w H Q ek r1 r2 q => by
    subst ex ey
    cases r1
    cases r2
    exact ⟨c, z, rfl, rfl, q _ _ H (Le.refl _ _) (.bl _) k⟩
mutual
/-- plain data -/
def D.py : D → Option PyData
  | .non => some .none
  | .bl b => some (.bool b)
  | .int i => some (.int i)
  | .str x => some (.str x)
  | .lst l => (D.pys l).map .list
  | .tup l => (D.pys l).map .tuple
  | _ => none
def D.pys : List D → Option (List PyData)
  | [] => some []
  | x :: r => match D.py x, D.pys r with
    | some a, some b => some (a :: b)
    | _, _ => none
end
mutual
theorem dp_of {K : PySem.W.Frag} {Z : Addr → Prop} {H : Hp} : ∀ {v : V} {x : D} {a : PyData}, Rep K Z H v x → x.py = some a → Dp K H v a
  | _, _, _, .non, h => by cases h; exact .non
  | _, _, _, .bl b, h => by cases h; exact .bl b
  | _, _, _, .int b, h => by cases h; exact .int b
  | _, _, _, .str b, h => by cases h; exact .str b
  | _, _, _, .lst (l := l) n hH r, h => by
    have h' : (D.pys l).map PyData.list = some _ := h
    cases e : D.pys l with
    | none => rw [e] at h'; cases h'
    | some b =>
      rw [e] at h'
      cases h'
      exact .lst (SqL.of hH) (dps_of r e)
  | _, _, _, .tup (l := l) n hH r, h => by
    have h' : (D.pys l).map PyData.tuple = some _ := h
    cases e : D.pys l with
    | none => rw [e] at h'; cases h'
    | some b =>
      rw [e] at h'
      cases h'
      exact .tup (.inl (.inl hH)) (dps_of r e)
  | _, _, _, .ktup (l := l) hH r, h => by
    have h' : (D.pys l).map PyData.tuple = some _ := h
    cases e : D.pys l with
    | none => rw [e] at h'; cases h'
    | some b =>
      rw [e] at h'
      cases h'
      exact .tup (.inr hH) (dps_of r e)
theorem dps_of {K : PySem.W.Frag} {Z : Addr → Prop} {H : Hp} : ∀ {v : List V} {x : List D} {a : List PyData}, Reps K Z H v x → D.pys x = some a → DpAll K H v a
  | _, _, _, .nil, h => by cases h; exact .nil
  | _, _, _, .cons (d := d) (ds := ds) r t, h => by
    have h' : (match D.py d, D.pys ds with
      | some a, some b => some (a :: b)
      | _, _ => none) = some _ := h
    cases e1 : D.py d with
    | none => rw [e1] at h'; cases h'
    | some a =>
      cases e2 : D.pys ds with
      | none => rw [e1, e2] at h'; cases h'
      | some b =>
        rw [e1, e2] at h'
        cases h'
        exact .cons (dp_of r e1) (dps_of t e2)
end
theorem ev_eqD (h : EvP p ta δ fun x => EvP p tb δ fun y => ∃ a b, x.py = some a ∧ y.py = some b ∧ SeqAt.shaped a = true ∧ SeqAt.shaped b = true ∧ R (.bl (PyData.eqv a b))) : EvP p (tOp (rEqD p.K) ta tb) δ R :=
  ev_op2 h fun x y ⟨a, b, ex, ey, sa, sb, k⟩ Z v w H Q ek r1 r2 q => ⟨a, b, dp_of r1 ex, dp_of r2 ey, sa, sb, q _ _ H (Le.refl _ _) (.bl _) k⟩
theorem ev_neD (h : EvP p ta δ fun x => EvP p tb δ fun y => ∃ a b, x.py = some a ∧ y.py = some b ∧ SeqAt.shaped a = true ∧ SeqAt.shaped b = true ∧ R (.bl (!PyData.eqv a b))) : EvP p (tOp (rNeD p.K) ta tb) δ R :=
  ev_op2 h fun x y ⟨a, b, ex, ey, sa, sb, k⟩ Z v w H Q ek r1 r2 q => ⟨a, b, dp_of r1 ex, dp_of r2 ey, sa, sb, q _ _ H (Le.refl _ _) (.bl _) k⟩
/-! ### ints -/
theorem ev_int1 (h : EvP p te δ fun x => (∃ i, x = .int i ∧ R (.int i)) ∨ ∃ b : Bool, x = .bl b ∧ R (.int (if b then 1 else 0))) : EvP p (tCB (fun xs H Q => (∃ i, xs = [.int i] ∧ Q (.int i) H) ∨ ∃ k, xs = [.bl k] ∧ Q (.int (if k then 1 else 0)) H) (tCons te tNil)) δ R :=
  fun Z0 H0 Z σ H Q s e q => h.run s e fun v x H1 l1 r1 k => by
    rcases k with ⟨i, ex, k⟩ | ⟨b, ex, k⟩
    · subst ex
      cases r1
      exact .inl ⟨i, rfl, q _ _ H1 l1 (.int _) k⟩
    · subst ex
      cases r1
      exact .inr ⟨b, rfl, q _ _ H1 l1 (.int _) k⟩
theorem ev_abs (h : EvP p te δ fun x => ∃ i, x = .int i ∧ R (.int (if i < 0 then -i else i))) : EvP p (tCB (fun xs H Q => ∃ i, xs = [.int i] ∧ Q (.int (if i < 0 then -i else i)) H) (tCons te tNil)) δ R :=
  fun Z0 H0 Z σ H Q s e q => h.run s e fun v x H1 l1 r1 ⟨i, ex, k⟩ => by
    subst ex
    cases r1
    exact ⟨i, rfl, q _ _ H1 l1 (.int _) k⟩
theorem ev_max2 (h : EvP p ta δ fun x => EvP p tb δ fun y => ∃ i j, x = .int i ∧ y = .int j ∧ R (.int (if j > i then j else i))) : EvP p (tCB (fun xs H Q => ∃ i j, xs = [.int i, .int j] ∧ Q (.int (if j > i then j else i)) H) (tCons ta (tCons tb tNil))) δ R :=
  fun Z0 H0 Z σ H Q s e q => h.run s e fun v x H1 l1 r1 h2 => h2.run (s.le l1) e fun w y H2 l2 r2 ⟨i, j, ex, ey, k⟩ => by
    subst ex ey
    cases r1
    cases r2
    exact ⟨i, j, rfl, q _ _ H2 (l1.trans l2) (.int _) k⟩
theorem ev_neg (h : EvP p te δ fun x => ∃ i, x = .int i ∧ R (.int (-i))) : EvP p (tUn (rU fun i => .int (-i)) te) δ R := fun Z0 H0 Z σ H Q s e q => h.run s e fun v x H1 l1 r1 ⟨i, ex, k⟩ => by
  subst ex
  cases r1
  exact ⟨i, rfl, q _ _ H1 l1 (.int _) k⟩
end
/-! ### a def, an __init__ -/
def startD (N : List Str) (ds : List D) : List Sl := ds.map .d ++ List.replicate (N.length - ds.length) .un
theorem slot_start {K : PySem.W.Frag} {Z : Addr → Prop} {H0 H : Hp} : ∀ {vs : List V} {ds : List D} (m : Nat), Reps K Z H vs ds → ∀ (i : Nat) (o : Option V) (s : Sl), (vs.map some ++ List.replicate m none)[i]? = some o → (ds.map Sl.d ++ List.replicate m Sl.un)[i]? = some s → SlOk K H0 Z H o s ∧ s.owns = false
  | _, _, m, .nil, i, o, s, h1, h2 => by
    rw [List.map_nil, List.nil_append] at h2
    obtain ⟨hi, e⟩ := List.getElem?_eq_some_iff.mp h2
    rw [List.getElem_replicate] at e
    subst e
    exact ⟨trivial, rfl⟩
  | _, _, m, .cons r t, 0, o, s, h1, h2 => by
    simp at h1 h2
    subst h1 h2
    exact ⟨⟨_, rfl, r⟩, rfl⟩
  | _, _, m, .cons r t, i + 1, o, s, h1, h2 => slot_start m t i o s (by simpa using h1) (by simpa using h2)
theorem start_ok {K : PySem.W.Frag} {G : Env1} {Z : Addr → Prop} {H : Hp} {N : List Str} {vs : List V} {ds : List D} (env : EnvOk K G Z H) (r : Reps K Z H vs ds) : RepS K G Z H Z H (L2.start N vs) (startD N ds) := by
  have e : startD N ds = ds.map .d ++ List.replicate (N.length - vs.length) .un := by unfold startD; rw [r.length]
  refine ⟨env, env, Le.refl _ _, fun _ h => h, by rw [e]; simp [L2.start, r.length], fun i o s h1 h2 => ?_, fun i j a s t h1 h2 h3 h4 o1 o2 => ?_⟩
  · rw [e] at h2
    exact (slot_start _ r i o s h1 h2).1
  · rw [e] at h3
    have := (slot_start (H0 := H) _ r i _ s h1 h3).2
    rw [this] at o1
    cases o1
section
variable {P : Program} {w : World} {K : PySem.W.Frag} {mg : Str → Option Value} {base : Heap} {x qual : Str} {params : Arguments} {body : List Stmt} {scope : Scope} {dvs : List V} {kws : List (Str × V)} {f : Addr} {fd : FuncData} {CX : CXT} {N ps : List Str} {k : Nat}
theorem fnD {Fm : Fn1} (F : FunD K x qual params body scope dvs kws f fd) (S : FnScope N ps scope) (hl : ∀ G ds R ex, Fm G ds R ex → ds.length = ps.length)
    (hb : ∀ (cdv : Value) (A : Around) (outer : List Env) (s : Shared) (H : Hp) (E : XK) (G : Env1) (ds : List D) (R : D → Prop) (ex : Ex1), Room k (A.deeper (envOfC qual scope s.heap.objs.size f cdv)) → Fm G ds R ex →
      ∃ t, PSs (cxOf CX P w K mg base N qual scope f cdv A outer s H E) body t ∧ StP ⟨K, G, E, ex⟩ t (startD N ds) { nx := fun _ => R .non, rt := R }) : FnOk P w K mg base CX (k + 1) f fd ps (spD K Fm) := by
  refine F.ok S (fun vs H Q E h => ?_) (fun cdv A outer s H vs Q E hr h => ?_)
  · obtain ⟨G, Z, ds, R, ex, env, r, hf, _⟩ := h
    exact r.length.trans (hl _ _ _ _ hf)
  · obtain ⟨G, Z, ds, R, ex, env, r, hf, q, e⟩ := h
    obtain ⟨t, ht, hs⟩ := hb cdv A outer s H E G ds R ex hr hf
    exact ⟨t, ht, hs Z H Z (L2.start N vs) H _ (start_ok env r) e (fun Z' σ' δ' H' g s' kn => q .non .non H' s'.le0 .non kn) (fun v d H' l rr kk => q v d H' l rr kk) (fun _ _ _ _ _ _ z => z.elim) fun _ _ _ _ _ _ z => z.elim⟩
theorem delA_le {G : Env1} {H : Hp} {a : Addr} (ne : ¬ G.sp a) : Le G (delA H a) H := by
  refine ⟨fun b o _ h => ?_, fun g hg st => ?_, fun q hq t => t.ext fun b o h => ?_⟩
  · by_cases e : b = a
    · subst e; rw [delA_same] at h; cases h
    · rw [delA_ne e] at h; exact h
  · rw [delA_ne (fun z => ne (.inl ⟨g, hg, z.symm⟩))] at st; exact st
  · by_cases e : b = a
    · subst e; rw [delA_same] at h; cases h
    · rw [delA_ne e] at h; exact h
theorem fnI {c : Str} {Fm : FnI} {p0 : Str} {ps' : List Str} (F : FunD K x qual params body scope dvs kws f fd) (S : FnScope N (p0 :: ps') scope) (hN : 0 < N.length) (hl : ∀ G ds R ex, Fm G ds R ex → ds.length = ps'.length)
    (hb : ∀ (cdv : Value) (A : Around) (outer : List Env) (s : Shared) (H : Hp) (E : XK) (G : Env1) (ds : List D) (R : List (Str × D) → Prop) (ex : Ex1), Room k (A.deeper (envOfC qual scope s.heap.objs.size f cdv)) → Fm G ds R ex →
      ∃ t, PSs (cxOf CX P w K mg base N qual scope f cdv A outer s H E) body t ∧ ∀ xa : Addr, StP ⟨K, G, E, ex⟩ t (.oins xa c [] :: (ds.map .d ++ List.replicate (N.length - (ds.length + 1)) .un)) { nx := fun δ' => ∃ l, δ'[0]? = some (.oins xa c l) ∧ R l, rt := fun _ => False }) :
    FnOk P w K mg base CX (k + 1) f fd (p0 :: ps') (spI K c Fm) := by
  refine F.ok S (fun vs H Q E h => ?_) (fun cdv A outer s H vs Q E hr h => ?_)
  · obtain ⟨G, Z, xa, dx, ws, ds, R, ex, rfl, hx, env, r, hf, _⟩ := h
    simp [r.length, hl _ _ _ _ hf]
  · obtain ⟨G, Z, xa, dx, ws, ds, R, ex, rfl, hx, env, r, hf, q, e⟩ := h
    obtain ⟨t, ht, hs⟩ := hb cdv A outer s H E G ds R ex hr hf
    have ne : ¬ G.sp xa := env.sp delA_same
    have le := delA_le (H := H) (a := xa) ne
    let Z1 : Addr → Prop := fun b => Z b ∨ b = xa
    have go : Go Z (delA H xa) Z1 H := ⟨le.keepZ env.zin, fun b hb => hb.elim .inl fun z => .inr (by rw [z]; exact delA_same)⟩
    have e1 : EnvOk K G Z1 H := by
      have e2 := env.le le
      exact ⟨e2.dr, e2.tb, fun g hg => .inl (e2.zin g hg), fun b hb => hb.elim (e2.live b) fun z => by rw [z, hx]; exact fun z => nomatch z⟩
    have rw2 : Reps K Z1 H ws ds := r.go go
    have st0 : L2.start N (V.ref xa :: ws) = some (V.ref xa) :: (ws.map some ++ List.replicate (N.length - (ws.length + 1)) none) := by
      unfold L2.start
      rw [List.map_cons, List.cons_append, List.length_cons]
    have s0 : RepS K G Z (delA H xa) Z1 H (L2.start N (V.ref xa :: ws)) (.oins xa c [] :: (ds.map .d ++ List.replicate (N.length - (ds.length + 1)) .un)) := by
      rw [st0, ← r.length]
      refine ⟨env, e1, le, fun b hb => .inl hb, by simp [r.length], fun i o s h1 h2 => ?_, fun i j a s t h1 h2 h3 h4 o1 o2 => ?_⟩
      · cases i with
        | zero =>
          simp at h1 h2
          subst h1 h2
          exact ⟨dx, [], rfl, .inr rfl, delA_same, hx, .nil⟩
        | succ i => exact (slot_start _ rw2 i o s (by simpa using h1) (by simpa using h2)).1
      · cases i with
        | zero =>
          cases j with
          | zero => rfl
          | succ j =>
            have := (slot_start (H0 := delA H xa) _ rw2 j _ t (by simpa using h2) (by simpa using h4)).2
            rw [this] at o2
            cases o2
        | succ i =>
          have := (slot_start (H0 := delA H xa) _ rw2 i _ s (by simpa using h1) (by simpa using h3)).2
          rw [this] at o1
          cases o1
    refine ⟨t, ht, hs xa Z (delA H xa) Z1 (L2.start N (V.ref xa :: ws)) H _ s0 e (fun Z' σ' δ' H' g s' ⟨l, h1, hR⟩ => ?_) (fun _ _ _ _ _ z => z.elim) (fun _ _ _ _ _ _ z => z.elim) fun _ _ _ _ _ _ z => z.elim⟩
    obtain ⟨o, _, dx', fs, _, _, _, hH, rf⟩ := s'.slot h1
    exact q dx' fs l H' s'.le0 hH (rf.mono s'.base fun _ _ _ q => q) hR
end
end WL
end
section
set_option Elab.async false
set_option linter.all false
set_option maxRecDepth 100000
set_option maxHeartbeats 4000000
/-! An own exception whose __init__ says super().__init__(x) and keeps x in a field, below own classes over ValueError: its __init__ as a promise, its raising as a statement over data. -/
namespace WX
open PySem PySem.W PySem.Calls PyProof.Rows PySem.HandSPX
section
variable {prog : Program} {w : World} {A : Around} {E : Value → Shared → Prop} {h : Heap} {g : Array GenState} {d : Drawn} {t : Nat} {os : OsState}
/-- the bound ValueError.__init__ is called -/
theorem vmw_call {nm q : Str} {C N : Addr} {bs bm : List Value} {hdct : Bool} {sn : List Str} {sub : List Value} {ab : Bool} {col : Option Bool} {dd : Option Addr} {k0 k1 k2 k3 k5 : Option Value} {u e t0 : Addr} {rest : List Value} {Q : Value → Shared → Prop}
    (hC : h.get? C = some (excClassObj nm q C N bs bm hdct sn sub ab col dd k0 k1 k2 k3 k5 "ValueError.__new__")) (he : h.get? e = some (excO C t0)) (hu : h.get? u = some (kxs_mw "ValueError.__init__" e)) (hz : rest.length ≤ sizeLine)
    (hq : ∀ h' t1, (∀ b o, b ≠ e → h.get? b = some o → h'.get? b = some o) → h'.get? e = some (excO C t1) → Q .none ⟨h', g, d, t, os⟩) :
    wpAny (model prog w) A (call (.ref u) rest) Q E ⟨h, g, d, t, os⟩ := by
  have FB := PySem.F.excBase_ValueError
  refine wpAny_call (codeAny_of_tree ?_)
  show wpAny _ A.in1 (callAny (.ref u) ⟨rest, []⟩) _ _ _
  simp only [callAny]
  refine wpAny_bind (wpAny_load hu ?_)
  simp only [kxs_mw, (by decide : (Value.type "method-wrapper" == Value.type "method" || Value.type "method-wrapper" == Value.type "builtin_function_or_method" || Value.type "method-wrapper" == Value.type "method-wrapper") = true), if_true]
  refine KFB.if_so (by decide) ?_
  refine wpAny_bind (check_bound_init FB.toExcCallFacts hC he rfl ?_)
  refine wpAny_bind (wpAny_pure (wpAny_pure ?_))
  refine ⟨plainId_quiet FB.init.plain _, codeAny_builtin FB.initEntry ?_⟩
  exact exc_init_tree (cls := .ref C) (t0 := t0) (dv := none) (c2 := .none) (c3 := .none) (b4 := .bool false) he hz fun h' k k2 k3 => hq h' _ k k2
end
/-- the text of such an __init__ -/
def iA (f : Str) (p1 p2 : Pos) : Arguments := { posonlyargs := [], args := [{ arg := "self", annotation := none, pos := p1 }, { arg := f, annotation := none, pos := p2 }], vararg := none, kwonlyargs := [], kw_defaults := [], kwarg := none, defaults := [] }
def iB (f : Str) (q1 q2 q3 q4 q5 q6 r1 r2 r3 r4 : Pos) : List Stmt :=
  [.Expr (.Call (.Attribute (.Call (.Name "super" q1) [] [] q2) "__init__" q3) [.Name f q4] [] q5) q6, .Assign [.Attribute (.Name "self" r1) f r2] (.Name f r3) r4]
def iS (f : Str) : Scope := { kind := .function, names := [("self", .local), (f, .local), ("__class__", .free), ("super", .globalImplicit)], isGenerator := false, isCoroutine := false, more := [] }
/-- what a written field name f must bear: each line by rfl -/
structure XF (f : Str) : Prop where
  cell : ∀ y ∈ (iS f).names, y.2 ≠ .cell
  l1 : (iS f).names.lookup ("self" : Str) = some NameKind.local
  l2 : (iS f).names.lookup f = some NameKind.local
  l3 : (iS f).names.lookup ("__class__" : Str) = some NameKind.free
  l4 : (iS f).names.lookup ("super" : Str) = some NameKind.globalImplicit
  m1 : ∀ x v : Value, ([(("self" : Str), x), (f, v)] : List (Str × Value)).reverse.lookup ("self" : Str) = some x
  m2 : ∀ x v : Value, ([(("self" : Str), x), (f, v)] : List (Str × Value)).reverse.lookup f = some v
  db : (f == ("__debug__" : Str)) = false
theorem xf_part : XF "part" := ⟨by decide +kernel, by rfl, by rfl, by rfl, by rfl, by intros; rfl, by intros; rfl, by decide⟩
/-- what the top has left of the class c with the field f -/
structure Xc (P : Program) (K : Frag) (mg : Str → Option Value) (c f : Str) (fd : FuncData) : Prop where
  gC : mg c = some (.ref (He.ga K c))
  ox : L2.OexC K (He.ga K c)
  iC : findIn K (.ref (He.ga K c)) "__init__" = some (some (.ref (He.ma K (He.ga K c) "__init__")))
  tI : typeIn K (.ref (He.ma K (He.ga K c) "__init__")) = some (.type "function")
  noN : findIn K (.ref (He.ga K c)) f = some none
  hD : ∃ cd, clsIn K (He.ga K c) = some cd
  sub : mroIn K (He.ga K c) (.ref (He.ga K c)) = some true
  sup : ks_superIn K (He.ga K c) (He.ga K c) "__init__" = some (some (.builtin "ValueError.__init__"))
  hB : subIn K (.ref (He.ga K c)) (.type "ValueError") = some true
  hsuper : mg "super" = none
  op : nsIn K cStatics "thirdparty.any" = some none
  xf : L2.XfC K (He.ga K c)
  fn : ∃ (oc : Value) (od an : Option Addr) (doc pm ct : Value) (osl : Array (Option Value)) (cda cc : Addr) (p1 p2 q1 q2 q3 q4 q5 q6 r1 r2 r3 r4 : Pos),
    fd = (ksFn "__init__" (c ++ ".__init__") (iA f p1 p2) (iB f q1 q2 q3 q4 q5 q6 r1 r2 r3 r4) (iS f) .none .none doc pm an (.ref cda) ct cc) ∧ K.lookup (He.ma K (He.ga K c) "__init__") = some ⟨oc, od, .func (ksFn "__init__" (c ++ ".__init__") (iA f p1 p2) (iB f q1 q2 q3 q4 q5 q6 r1 r2 r3 r4) (iS f) .none .none doc pm an (.ref cda) ct cc), osl⟩ ∧ codeIn K (.ref cda) (c ++ ".__init__") = true ∧
    (∃ (ccl : Value) (cdd : Option Addr) (vs : Array Value) (ccs : Array (Option Value)) (tf : Tok), K.lookup cda = some ⟨ccl, cdd, .fields vs, ccs⟩ ∧ vs[2]? = some (.str "/claim/cut.py" tf)) ∧
    (q3.endLine == q5.line) = true ∧ ∃ (cl : Value) (cld : Option Addr) (csl : Array (Option Value)), K.lookup cc = some ⟨cl, cld, .cell (some (.ref (He.ga K c))), csl⟩
  hfile : ((P.main.file : Str) == "/claim/cut.py") = true
  htop : (P.main.scope.names.lookup ("super" : Str)).isSome = false
  fx : XF f
/-- what the call leaves -/
structure XEnd (h h' : Heap) (x C dx t1 : Addr) (f : Str) (v : Value) : Prop where
  keep : ∀ b o, b ≠ x → h.get? b = some o → h'.get? b = some o
  obj : h'.get? x = some { cls := .ref C, dict := some dx, data := .fields #[.ref t1, .none, .none, .none, .bool false, .none] }
  dbig : h.objs.size ≤ dx
  dne : dx ≠ x
  ns : h'.Ns1 dx (fun y => if y = f then some v else none)
section
variable {P : Program} {w : World} {A : Around} {R : Result → Shared → Prop} {s : Shared} {K : Frag} {mg mb : Str → Option Value} {c f : Str} {fd : FuncData} {args : Args}
theorem xinit_run (X : Xc P K mg c f fd) {x t0 : Addr} {v : Value} (KX : K.In s.heap) (hg : s.heap.Ns mainGlobals mg) (hb : s.heap.Ns builtinsNs mb) (hbs : mb "super" = some (.type "super")) (hlim : s.heap.NoLimit) (hx : s.heap.get? x = some (excO (He.ga K c) t0)) (hroom : A.depth < recursionLimit) (hbind : BindsTo s fd args [(("self" : Str), Value.ref x), (f, v)])
    (hK : ∀ h', (∀ b o, b ≠ x → s.heap.get? b = some o → h'.get? b = some o) → K.In h')
    (hq : ∀ h' tk dx t1, XEnd s.heap h' x (He.ga K c) dx t1 f v → R (.ok (.ret .none)) { s with heap := h', toks := tk }) :
    codeAny (model P w) A (.call (.ref (He.ma K (He.ga K c) "__init__")) args) R s := by
  obtain ⟨oc, od, an, doc, pm, ct, osl, cda, cc, p1, p2, q1, q2, q3, q4, q5, q6, r1, r2, r3, r4, rfl, lk, hcd, ⟨ccl, cdd, vs, ccs, tf, lcd, hvs⟩, hline, cl, cld, csl, lcc⟩ := X.fn
  obtain ⟨nm, q, N, bs, bm, sn, sub, ab, col, dd, k0, k1, k2, k3, k5, hC, hbm⟩ := X.ox.cls
  have F0 := X.fx
  have hcl : clsIn K (He.ga K c) = some { name := nm, bases := bs, mro := .ref (He.ga K c) :: bm, ns := N, qualname := q, hasDict := true, slotNames := sn, subclasses := sub, abstract := ab, collection := col, hasDel := false } := by unfold clsIn; rw [hC] <;> rfl
  refine ks_codeAny_call_defAt (fd := ksFn "__init__" (c ++ ".__init__") (iA f p1 p2) (iB f q1 q2 q3 q4 q5 q6 r1 r2 r3 r4) (iS f) .none .none doc pm an (.ref cda) ct cc) (body := iB f q1 q2 q3 q4 q5 q6 r1 r2 r3 r4) (binds := [(("self" : Str), Value.ref x), (f, v)]) hroom (KX _ _ lk) rfl hlim (codeRec_of KX hcd) rfl hbind F0.cell ?_ (fun h₁ hns k => ?_)
  · intro y hy
    rcases List.mem_cons.mp hy with rfl | hy
    · exact F0.l1
    · rcases List.mem_cons.mp hy with rfl | hy
      · exact F0.l2
      · cases hy
  have X₁ : K.In h₁ := KX.keeps k
  have hx₁ := k _ _ hx
  have hC₁ := X₁ _ _ hC
  have hm1 := F0.m1 (.ref x) v
  have hm2 := F0.m2 (.ref x) v
  show PySem.wpAt _ _ _ (execs (iB f q1 q2 q3 q4 q5 q6 r1 r2 r3 r4) _) _ _ _
  refine ks_wpAt_execs_cons (ks_wpAt_Expr_any ?_)
  let env : Env := callEnv (ksFn "__init__" (c ++ ".__init__") (iA f p1 p2) (iB f q1 q2 q3 q4 q5 q6 r1 r2 r3 r4) (iS f) .none .none doc pm an (.ref cda) ct cc) s.heap.objs.size (He.ma K (He.ga K c) "__init__")
  have he : eval (.Call (.Attribute (.Call (.Name "super" q1) [] [] q2) "__init__" q3) [.Name f q4] [] q5) env = (do
      let ov ← attributeBase (.Call (.Name "super" q1) [] [] q2) "__init__" env (eval (.Call (.Name "super" q1) [] [] q2) env)
      standAt q3.atName
      let (fc, first) ← holding [ov] (getMethod ov "__init__" (L2.plainOf (.Call (.Name "super" q1) [] [] q2) env))
      callWith q5 fc first (backTo q5 (starEach [.Name f q4] env)) []) := by
    refine Eq.trans (b := do
      let ov ← attributeBase (.Call (.Name "super" q1) [] [] q2) "__init__" env (eval (.Call (.Name "super" q1) [] [] q2) env)
      standAt q3.atName
      methodCall (.Call (.Name "super" q1) [] [] q2) "__init__" q3 q5 env ov 1 (backTo q5 (starEach [.Name f q4] env)) (backToKw q5 (keywordEach [] env))) (by rfl) ?_
    have e0 : ∀ ov, methodCall (.Call (.Name "super" q1) [] [] q2) "__init__" q3 q5 env ov 1 (backTo q5 (starEach [.Name f q4] env)) (backToKw q5 (keywordEach [] env)) = _ := fun ov => L2.mcall_line (by rfl) hline
    simp only [e0] <;> rfl
  refine ks_wpAt_MethodCall (pl := L2.plainOf (.Call (.Name "super" q1) [] [] q2) env) ?_ he
  refine ks_wpAt_super_base (env := callEnv (ksFn "__init__" (c ++ ".__init__") (iA f p1 p2) (iB f q1 q2 q3 q4 q5 q6 r1 r2 r3 r4) (iS f) .none .none doc pm an (.ref cda) ct cc) s.heap.objs.size (He.ma K (He.ga K c) "__init__")) F0.l4 F0.l3 (by decide) rfl (X₁ _ _ lk) rfl rfl rfl (X₁ _ _ lcd) rfl hvs X.hfile X.htop ?_
  refine ks_loadName_global rfl F0.l4 (loadGlobal_builtin (hg.keeps k) X.hsuper (hb.keeps k) hbs ⟨rfl, ?_⟩)
  refine wpAny_loadName_free rfl F0.l3 rfl ⟨_, X₁ _ _ lcc, rfl⟩ ?_
  refine wpAny_loadName_local rfl F0.l1 hns hm1 ?_
  refine ks_wpAny_isType_cls hC₁ rfl ⟨rfl, ?_⟩
  obtain ⟨hp, g, d, t, os⟩ := s
  refine ks_wpAny_call_super hC₁ rfl hx₁ rfl (fun _ e => nomatch e) (looks_mroIn X₁ X.sub) (fun h₂ hso k₂ => ?_)
  have X₂ : K.In h₂ := X₁.keeps k₂
  have hx₂ := k₂ _ _ hx₁
  have I₂ : InstAt h₂ x (excO (He.ga K c) t0) (He.ga K c) none := ⟨hx₂, rfl, rfl, trivial⟩
  have hsup := X.sup
  unfold ks_superIn at hsup
  rw [hcl] at hsup
  refine kxs_getMethod kxs_ValueError hso (looks_opaque X₂ X.op) (l₀ := .ref (He.ga K c) :: bm) (fun A Q E s k q => wpAny_bind ((looks_clsIn X₂ hcl) A _ E s k (wpAny_pure q))) rfl X₂ hsup (I₂.type.andThen (looks_subIn X₂ X.hB)) (ks_ne X₂ I₂ hcl) (by decide) ?_
  have k₃ : ∀ b o, h₂.get? b = some o → (h₂.push (kxs_mw "ValueError.__init__" x)).get? b = some o := fun b o e => Heap.get?_push_of_some _ e
  have hu : (h₂.push (kxs_mw "ValueError.__init__" x)).get? h₂.objs.size = some (kxs_mw "ValueError.__init__" x) := Heap.get?_push_at rfl rfl
  have hns2 := hns
  show wpAny _ _ (callWith q5 (.ref h₂.objs.size) [] (backTo q5 (starEach [.Name f q4] env)) []) _ _ _
  refine kxs_callWith (i := "ValueError.__init__") (x := x) rfl ?_
  show wpAny _ _ (evalArgs (.ref h₂.objs.size) true (backTo q5 ((false, eval (.Name f q4) env) :: [])) []) _ _ _
  refine evalArgs_plain ?_
  have xns : x < hp.objs.size := Heap.lt_size hx
  have kk : ∀ b o, hp.get? b = some o → (h₂.push (kxs_mw "ValueError.__init__" x)).get? b = some o := fun b o e => k₃ b o (k₂ b o (k b o e))
  have hns3 : (h₂.push (kxs_mw "ValueError.__init__" x)).Ns hp.objs.size (fun y => [(("self" : Str), Value.ref x), (f, v)].reverse.lookup y) := (hns.keeps k₂).keeps k₃
  refine spliced_cons (PySem.ESX.ldL (env := env) hns3 hm2 ?_ rfl F0.l2 F0.db)
  refine spliced_nil ⟨hu, ?_⟩
  refine vmw_call (k₃ _ _ (k₂ _ _ hC₁)) (k₃ _ _ hx₂) hu (show 1 ≤ sizeLine by decide) (fun h₄ t1 k₄ hx₄ => ?_)
  have hns4 : h₄.Ns hp.objs.size (fun y => [(("self" : Str), Value.ref x), (f, v)].reverse.lookup y) := hns3.at fun o q => k₄ _ _ (Nat.ne_of_gt xns) q
  have kx : ∀ b o, b ≠ x → hp.get? b = some o → h₄.get? b = some o := fun b o n q => k₄ b o n (kk b o q)
  have X₄ : K.In h₄ := hK h₄ kx
  show PySem.wpAt _ _ _ (execs _ env) _ _ _
  refine ks_wpAt_execs_cons (wpAt_of_wpAny ?_)
  refine plainObj_wpAny_Assign_Attribute (PySem.ESX.ldL (env := env) hns4 hm2 (PySem.ESX.ldL (env := env) hns4 hm1 ?_ rfl F0.l1 (by decide)) rfl F0.l2 F0.db) (by rfl)
  refine set_plain X₄ (ox := excO (He.ga K c) t1) (od := none) ⟨hx₄, rfl, rfl, trivial⟩ X.ox.sa ?_
  refine PySem.HandSPX.exc_osa X₄ hx₄ hcl (show refsVE (.ref (He.ga K c) :: bm) = true from hbm) rfl X.noN (fun h₅ tk dx k₅ dn dne hx₅ hn₅ => ?_)
  refine wpAt_of_wpAny (wpAny_execs_nil ?_)
  exact hq h₅ tk dx t1 ⟨fun b o n q => k₅ b o n (kx b o n q), hx₅, Nat.le_trans (Nat.le_of_lt hns4.lt) dn, dne, hn₅⟩
/-- the promise of such an __init__ -/
def spX (K : Frag) (c f : Str) : L2.Sp := fun vs H Q _ => ∃ (a : Addr) (v : L2.V), vs = [.ref a, v] ∧ H a = some (L2.exo a (He.ga K c) none) ∧ ∀ dx, H dx = none → dx ≠ a → Q .non (L2.upd (L2.upd H dx (L2.exd dx [(f, v)])) a (L2.exo a (He.ga K c) (some dx)))
theorem xinit_fn {base : Heap} {CX : L2.CXT} {k : Nat} (X : Xc P K mg c f fd) : L2.FnOk P w K mg base CX k (He.ma K (He.ga K c) "__init__") fd ["self", f] (spX K c f) where
  len := fun vs H Q E ⟨a, v, e, _⟩ => by rw [e] <;> rfl
  run := fun A outer s H args us vs Q E hr e hb rv ⟨a, v, ev, ha, q⟩ => by
    subst ev
    cases rv with
    | @cons _ u0 _ ur r1 rn =>
      cases rn with
      | @cons _ u1 _ ur r2 rn =>
        cases rn
        obtain rfl : u0 = Value.ref a := r1
        obtain ⟨t1, hx⟩ := L2.exo_at e.hok ha
        obtain ⟨mb, hb1, hb2⟩ := e.mod.blt
        have keepB : ∀ b o, base.get? b = some o → s.heap.get? b = some o := fun b o z => (e.bs b o z).1
        have nb : ∀ b o, base.get? b = some o → b ≠ a := fun b o z y => by
          have := (e.bs b o z).2
          rw [y, ha] at this
          cases this
        refine xinit_run X (mb := mb) (x := a) (v := u1) (t0 := t1) (fun b o z => keepB b o (e.mod.kin b o z)) (e.mod.glob.keeps keepB) (hb1.keeps keepB) ((hb2 _ (by decide)).trans PyProof.Rows.Boot.«super») (e.mod.nolimit.keeps keepB) hx (by have := hr.dp; omega) hb
          (fun h' k b o z => k b o (nb b o (e.mod.kin b o z)) (keepB b o (e.mod.kin b o z))) fun h' tk dx t2 XE => ?_
        have dn : s.heap.get? dx = none := by
          cases y : s.heap.get? dx with
          | none => rfl
          | some o => exact absurd (Heap.lt_size y) (Nat.not_lt.mpr XE.dbig)
        have hnd : H dx = none := e.hok.fresh XE.dbig
        have nd : ∀ {b : Addr} {o : Obj}, s.heap.get? b = some o → b ≠ dx := fun {b o} q z => by rw [z, dn] at q; cases q
        have na : ∀ {b : Addr}, H b = none → b ≠ a := fun {b} n z => by rw [z, ha] at n; cases n
        refine ⟨.non, L2.upd (L2.upd H dx (L2.exd dx [(f, v)])) a (L2.exo a (He.ga K c) (some dx)), rfl, e.bare, ?_, ?_, rfl, q dx hnd XE.dne⟩
        · exact {
            keep := fun b o q n _ _ => XE.keep b o (na n) q
            slot := fun b o q n _ _ => ⟨o.slots, XE.keep b o (na n) q⟩
            free := fun b o q n _ => by rw [L2.upd_ne (na n), L2.upd_ne (nd q)]; exact n
            there := fun b o q _ => by
              by_cases hb : b = a
              · exact ⟨_, by rw [hb]; exact XE.obj⟩
              · exact ⟨o, XE.keep b o hb q⟩
            tups := fun b xs q => by rw [L2.upd_ne (L2.at_ne ha q L2.exo_tup), L2.upd_ne (L2.ne_of_none q hnd)]; exact q
            frzs := fun b o v q => by rw [L2.upd_ne (L2.at_ne ha q L2.exo_frz), L2.upd_ne (L2.ne_of_none q hnd)]; exact q
            tbls := fun b ps q => ⟨#[], by rw [L2.upd_ne (L2.at_ne ha q L2.exo_tbl), L2.upd_ne (L2.ne_of_none q hnd), q]; simp⟩ }
        · intro b o q
          by_cases hb : b = a
          · subst hb
            rw [L2.upd_same] at q
            cases q
            exact L2.exo_ok XE.obj
          · rw [L2.upd_ne hb] at q
            by_cases hd : b = dx
            · subst hd
              rw [L2.upd_same] at q
              cases q
              refine L2.exd_ok XE.ns fun g => ?_
              exact L2.relO_put (fs := []) (mA := fun _ => none) r2 (fun g => True.intro) g
            · rw [L2.upd_ne hd] at q
              exact (e.hok b o q).stay (fun c v hc z => XE.keep c v (by
                  rcases hc with hc | hc
                  · rw [hc]
                    exact hb
                  · exact L2.at_ne ha hc L2.exo_own) z)
                (fun c hc => by rw [L2.upd_ne (L2.at_ne ha hc L2.exo_own), L2.upd_ne (L2.ne_of_none hc hnd)]; exact hc) (fun c xs hc => by rw [L2.upd_ne (L2.at_ne ha hc L2.exo_tup), L2.upd_ne (L2.ne_of_none hc hnd)]; exact hc)
end
end WX
namespace WL
open PySem PySem.Spec PyProof.Rows L2
/-- raise C(e): the reading -/
def tRzD (K : PySem.W.Frag) (c f : Str) (E : XK) (te : TE) : TS := fun _ σ H => tMkO (He.ga K c) (WX.spX K c f) [] (tCons te tNil) σ H fun cls d H' => E cls d H'
theorem ps_raiseD {X : Cx} {CX : CXT} {k : Nat} {c f : Str} {fd : FuncData} {E : XK} {e : Expr} {te : TE} {p p2 pos : Pos} (hc : X.calm = true) (tk : Takes X (fun cls d _ H => E cls d H)) (W : WX.Xc X.prog X.K X.mg c f fd)
    (F1 : FnOk X.prog X.w X.K X.mg X.base CX k (He.ma X.K (He.ga X.K c) "__init__") fd ["self", f] (WX.spX X.K c f)) (hr : Room (k + 1) X.A) (hb : Binds X.K fd ["self", f] []) (hx : Passes CX X (fun _ _ _ => False)) (hg : Gl X c) (he : PE X e te)
    (hdb : (c == ("__debug__" : Str)) = false := by decide) (hs : starEach (e :: []) X.env = (false, eval e X.env) :: starEach [] X.env := by rfl) :
    PS X (.Raise (some (.Call (.Name c p) [e] [] p2)) none pos) (tRzD X.K c f E te) :=
  ps_raise hc tk (pmk_oex (ta := tCons te tNil) W.ox W.iC W.tI F1 hr hb .nil hx hg W.gC (pa_cons he pa_nil hs) hdb hs (by rfl))
theorem st_raise {p : Pr} {te : TE} {δ : List Sl} {o : Po} {c f : Str} (h : EvP p te δ fun d => p.ex c f d) : StP p (tRzD p.K c f p.E te) δ o := fun Z0 H0 Z σ H Dn s e n r b k => by
  refine h.run s e fun v d H1 l1 r1 kd => ?_
  refine ⟨show 1 ≤ 1000 by decide, fun a ha => ⟨a, v, rfl, upd_same, fun dx hdx ne => ⟨rfl, dx, [(f, v)], upd_same, ?_, ?_, ?_⟩⟩⟩
  · rw [upd_ne ne, upd_same]
  · rw [upd_ne ne] at hdx
    exact hdx
  · rw [upd_ne ne] at hdx
    have ee : upd (del (upd (upd (upd H1 a (exo a (He.ga p.K c) none)) dx (exd dx [(f, v)])) a (exo a (He.ga p.K c) (some dx))) a) dx (.xd [(f, v)]) = upd H1 dx (.xd [(f, v)]) := by
      funext b
      by_cases hb : b = dx
      · rw [hb, upd_same, upd_same]
      · rw [upd_ne hb, upd_ne hb]
        by_cases hba : b = a
        · rw [hba, del_same, ha]
        · rw [del_ne hba, upd_ne hba, upd_ne hb, upd_ne hba]
    rw [ee]
    refine e c f d dx v _ ((s.le0.trans l1).trans (Le.new hdx)) upd_same ((r1.mono s.base fun _ _ _ q => q).new hdx) kd
end WL
end
section
set_option Elab.async false
set_option linter.all false
set_option maxRecDepth 100000
set_option maxHeartbeats 4000000
/-! == and != of data with own instances in them: the same datum is equal to itself. -/
namespace WX
open PySem PySem.W PySem.Calls PyProof.Rows PySem.HandSPX
section
variable {prog : Program} {w : World} {A : Around} {E : Value → Shared → Prop} {s : Shared} {K : Frag} {x C f : Addr} {ox : Obj} {od : Option Obj} {y : Value}
theorem ifBound_B {M : Model} {name : Str} {id : String} {args : List Value} {Q : Option Value → Shared → Prop} (X : K.In s.heap) (I : InstAt s.heap x ox C od) (hs : findIn K (.ref C) name = some (some (.builtin id))) (hb : ∀ v, bindSpecial (.builtin id) v = pure (.builtin id, [v]))
    (h : wpAny M A (call (.builtin id) (.ref x :: args)) (fun v => Q (some v)) E s) : wpAny M A (callSpecialIfBound? (.ref x) name args) Q E s := by
  simp only [callSpecialIfBound?, bindSpecialIfBound?]
  refine wpAny_holding (wpAny_bind (wpAny_bind (wpAny_bind (I.type.here ((looks_findIn X hs).here ?_)))))
  simp only [hb]
  refine wpAny_bind (wpAny_askSetting (wpAny_ite ?_))
  have fin : wpAny M A (call (.builtin id) ([.ref x] ++ args) >>= fun v => pure (some v)) Q E s := wpAny_bind (wpAny_mono h (fun v s' h' => wpAny_pure h') fun _ _ h' => h')
  split
  · exact wpAny_bind (wpAny_pure (wpAny_pure fin))
  · exact wpAny_tryCatch (wpAny_bind (wpAny_pure (wpAny_pure fin)))
/-- x != y, x and y of the class C that has an own __eq__ alone -/
theorem ne_K {Q : Value → Shared → Prop} (hu : A.units + 1 < cLine) (X : K.In s.heap) (I : InstAt s.heap x ox C od) (hb : Looks (model prog w) s.heap (typeOf y) (.ref C))
    (hn : findIn K (.ref C) "__ne__" = some (some (.builtin "object.__ne__"))) (hs : findIn K (.ref C) "__eq__" = some (some (.ref f))) (hf : isFn K (.ref f) = true) (ho : subIn K (.ref C) (.type "object") = some true)
    (h : wpAny (model prog w) A.in1 (call (.ref f) [.ref x, y]) (fun v s' => ∃ b, v = .bool b ∧ Q (.bool (!b)) s') E s) : wpAny (model prog w) A (richCompare .NotEq (.ref x) y) Q E s := by
  have sub : Looks (model prog w) s.heap (isInstance (.ref x) (.type "object")) true := I.type.andThen (looks_subIn X ho)
  have one : wpAny (model prog w) A (tryCompare (.ref x) "__ne__" y) (fun r s' => ∃ v, r = some v ∧ Q v s') E s := by
    unfold tryCompare
    refine wpAny_bind (ifBound_B X I hn PySem.F.cmp_object.ne.bind (wpAny_call (codeAny_call_builtin PySem.F.cmp_object.ne.plain PySem.F.cmpEntry_ne
      (@W.check_slot (model prog w) _ _ s "object.__ne__" "object" "__ne__" (.ref x) [y] [] _ PySem.F.cmpKind_ne PySem.F.cmpSplit_ne sub (PySem.F.cmpArgs_ne _ _) ?_))))
    unfold Builtin.«object.__ne__»
    repeat (first
      | with_reducible refine wpAny_cRoomFor (show A.in1.units < cLine from hu) ?_
      | (refine wpAny_bind (m := callSpecialIfBound? (.ref x) (Str.ofString "__eq__") [y])
          (ifBound_K X I hs hf (wpAny_mono h (fun r s' hr => by
            obtain ⟨b, rfl, hq⟩ := hr
            repeat (first | exact ⟨_, rfl, hq⟩ | exact wpAny_pure ⟨_, rfl, hq⟩ | exact wpAny_truthy_bool hq | (refine wpAny_bind (m := truthy (.bool _)) (wpAny_truthy_bool ?_)) | wp_step)) fun _ _ e => e)))
      | wp_step)
  unfold richCompare
  simp only [oneThing_ref]
  refine wpAny_holding (wpAny_bind (wpAny_cRoomFor (Nat.lt_of_succ_lt hu) ?_))
  refine wpAny_bind (I.type.here (wpAny_bind (hb.here ?_)))
  rw [show (Value.ref C != Value.ref C) = false from by simp]
  simp only [Bool.false_eq_true, if_false, Bool.false_and]
  refine wpAny_bind (wpAny_pure ?_)
  simp only [Bool.false_eq_true, if_false]
  refine wpAny_bind (wpAny_mono one (fun r s' z => ?_) fun _ _ e => e)
  obtain ⟨v, rfl, hq⟩ := z
  exact wpAny_pure hq
end
end WX
namespace WL
open PySem PySem.Spec PyProof.Rows L2
abbrev noZ : Addr → Prop := fun _ => False
theorem Rep.noZ {K : PySem.W.Frag} {Z : Addr → Prop} {H : Hp} {v : V} {d : D} (r : Rep K Z H v d) : Rep K WL.noZ H v d := r.mono (fun _ q => False.elim q) fun _ _ _ h => h
theorem Rep.ext {K : PySem.W.Frag} {H H' : Hp} {v : V} {d : D} (r : Rep K WL.noZ H v d) (e : Ext H H') : Rep K WL.noZ H' v d := r.mono (fun _ q => q) fun _ _ _ h => e _ _ h
/-- both stand for the same datum, of the kind T -/
def Dq (K : PySem.W.Frag) (T : D → Prop) : Eqv := fun x y H => ∃ d, T d ∧ Rep K WL.noZ H x d ∧ Rep K WL.noZ H y d
theorem mon_dq {K : PySem.W.Frag} {T : D → Prop} : Mon (Dq K T) := fun x y H H' e ⟨d, t, r1, r2⟩ => ⟨d, t, r1.ext e, r2.ext e⟩
theorem Dq.imp {K : PySem.W.Frag} {T T' : D → Prop} (h : ∀ d, T d → T' d) {x y : V} {H : Hp} (d : Dq K T x y H) : Dq K T' x y H := let ⟨d, t, r⟩ := d; ⟨d, h d t, r⟩
def TFlat : D → Prop := fun d => d.flat = true
def TTup (T : D → Prop) : D → Prop := fun d => ∃ l, d = .tup l ∧ ∀ x ∈ l, T x
def TLst (T : D → Prop) : D → Prop := fun d => ∃ l, d = .lst l ∧ ∀ x ∈ l, T x
section
variable {X : Cx} {n m : Nat} {T T' : D → Prop} {K : PySem.W.Frag}
theorem eqT_flat : EqG X 0 (Dq X.K TFlat) := eqG_flat.imp fun x y H ⟨d, t, r1, r2⟩ => by
  obtain ⟨e1, f1⟩ := flat_v r1 t
  obtain ⟨e2, f2⟩ := flat_v r2 t
  refine ⟨f1, f2, ?_⟩
  subst e1 e2
  cases d <;> first | rfl | (simp [eqV, D.v]; done) | cases t
theorem prs_dq {H : Hp} : ∀ {xs ys : List V} {l : List D}, Reps K WL.noZ H xs l → Reps K WL.noZ H ys l → (∀ x ∈ l, T x) → Prs (Dq K T) xs ys H
  | _, _, _, .nil, .nil, _ => .nil
  | _, _, _, .cons r t, .cons r' t', h => .cons ⟨_, h _ (List.mem_cons_self ..), r, r'⟩ (prs_dq t t' fun x hx => h x (List.mem_cons_of_mem _ hx))
theorem rcT_tup (h : EqG X n (Dq X.K T)) : RcG X (n + 1) (Dq X.K (TTup T)) := by
  have h1 := rcG_tup mon_dq h
  intro A pins s σ H x y u v sb I rx ry d
  refine h1 A pins s σ H x y u v sb I rx ry ?_
  obtain ⟨d, ⟨l, rfl, t⟩, r1, r2⟩ := d
  obtain ⟨a, xs, rfl, s1, q1⟩ := tup_of r1
  obtain ⟨b, ys, rfl, s2, q2⟩ := tup_of r2
  exact ⟨a, b, xs, ys, rfl, rfl, s1, s2, prs_dq q1 q2 t⟩
theorem rcT_lst (h : EqG X n (Dq X.K T)) : RcG X (n + 1) (Dq X.K (TLst T)) := by
  have h1 := rcG_list mon_dq h
  intro A pins s σ H x y u v sb I rx ry d
  refine h1 A pins s σ H x y u v sb I rx ry ?_
  obtain ⟨d, ⟨l, rfl, t⟩, r1, r2⟩ := d
  obtain ⟨a, xs, rfl, _, s1, q1⟩ := lst_of r1
  obtain ⟨b, ys, rfl, _, s2, q2⟩ := lst_of r2
  exact ⟨a, b, xs, ys, rfl, rfl, s1, s2, prs_dq q1 q2 t⟩
theorem eqT_tup (h : EqG X n (Dq X.K T)) : EqG X (n + 1) (Dq X.K (TTup T)) := (rcT_tup h).eqG fun x y H ⟨d, ⟨l, ed, _⟩, r1, r2⟩ => by
  subst ed
  obtain ⟨a, xs, rfl, s1, q1⟩ := tup_of r1
  obtain ⟨b, ys, rfl, s2, q2⟩ := tup_of r2
  exact ⟨a, b, rfl, rfl⟩
theorem eqT_or (h : EqG X n (Dq X.K T)) (h' : EqG X n (Dq X.K T')) : EqG X n (Dq X.K fun d => T d ∨ T' d) := (h.or h').imp fun x y H ⟨d, t, r⟩ => t.elim (fun t => .inl ⟨d, t, r⟩) fun t => .inr ⟨d, t, r⟩
theorem rcT_or (h : RcG X n (Dq X.K T)) (h' : RcG X n (Dq X.K T')) : RcG X n (Dq X.K fun d => T d ∨ T' d) := fun A pins s σ H x y u v sb I rx ry ⟨d, t, r⟩ =>
  t.elim (fun t => h A pins s σ H x y u v sb I rx ry ⟨d, t, r⟩) fun t => h' A pins s σ H x y u v sb I rx ry ⟨d, t, r⟩
theorem RcG.mono {D : Eqv} (h : RcG X n D) (hn : n ≤ m) : RcG X m D := fun A pins s σ H x y u v sb => h A pins s σ H x y u v (sb.mono hn)
/-- what an own == must promise: equal data are equal -/
def FnEq (F : Fn1) (T : D → Prop) : Prop := ∀ d R ex, T d → R (.bl true) → F {} [d, d] R ex
def TIns (c : Str) (T : D → Prop) : D → Prop := fun d => ∃ l, d = .ins c l ∧ T d
theorem envN {H : Hp} : EnvOk K {} WL.noZ H := ⟨(fun _ h => nomatch h), (fun _ h => nomatch h), (fun _ h => h.elim (fun ⟨_, h, _⟩ => nomatch h) fun ⟨_, h, _⟩ => nomatch h), fun _ h => False.elim h⟩
theorem ext_le {H H' : Hp} (l : Le {} H H') : Ext H H' := fun a o h => l.keep a o (fun h => h.elim (fun ⟨_, h, _⟩ => nomatch h) fun ⟨_, h, _⟩ => nomatch h) h
theorem rcT_ins {CX : CXT} {c : Str} {f : Addr} {fd : FuncData} {ps : List Str} {F : Fn1} {E : XK} (F1 : FnOk X.prog X.w X.K X.mg X.base CX n f fd ps (spD X.K F)) (hF : FnEq F (TIns c T))
    (hs : PySem.W.findIn X.K (.ref (He.ga X.K c)) "__eq__" = some (some (.ref f))) (hf : PySem.W.isFn X.K (.ref f) = true) (hb : Binds X.K fd ps []) (hx : Passes CX X E) : RcG X n (Dq X.K (TIns c T)) := by
  have F2 : FnOk X.prog X.w X.K X.mg X.base CX n f fd ps (spEq fun a b H => ∃ d, TIns c T d ∧ Rep X.K WL.noZ H (.ref a) d ∧ Rep X.K WL.noZ H (.ref b) d) := F1.imp fun vs H Q E ⟨a, b, ev, ⟨d, t, r1, r2⟩, q⟩ => by
    subst ev
    exact ⟨{}, WL.noZ, [d, d], fun y => y = .bl true, ex0, envN, .cons r1 (.cons r2 .nil), hF d _ _ t rfl, fun v y H' l r e => by
      subst e
      cases r
      exact q H' (ext_le l), Exo.zero⟩
  have h1 := rcG_ins (C := He.ga X.K c) F2 hs hf hb hx
  intro A pins s σ H x y u v sb I rx ry d
  refine h1 A pins s σ H x y u v sb I rx ry ?_
  obtain ⟨d, ⟨l, rfl, t⟩, r1, r2⟩ := d
  cases r1 with
  | ins n1 h1 q1 =>
    cases r2 with
    | ins n2 h2 q2 => exact ⟨_, _, _, _, _, _, rfl, rfl, h1, h2, _, ⟨l, rfl, t⟩, .ins n1 h1 q1, .ins n2 h2 q2⟩
theorem eqT_ins {CX : CXT} {c : Str} {f : Addr} {fd : FuncData} {ps : List Str} {F : Fn1} {E : XK} (F1 : FnOk X.prog X.w X.K X.mg X.base CX n f fd ps (spD X.K F)) (hF : FnEq F (TIns c T))
    (hs : PySem.W.findIn X.K (.ref (He.ga X.K c)) "__eq__" = some (some (.ref f))) (hf : PySem.W.isFn X.K (.ref f) = true) (hb : Binds X.K fd ps []) (hx : Passes CX X E) : EqG X n (Dq X.K (TIns c T)) :=
  (rcT_ins F1 hF hs hf hb hx).eqG fun x y H ⟨d, ⟨l, ed, _⟩, r1, r2⟩ => by
    subst ed
    cases r1 with
    | ins n1 h1 q1 =>
      cases r2 with
      | ins n2 h2 q2 => exact ⟨_, _, rfl, rfl⟩
/-- != of own instances that stand for the same datum -/
def NeG (X : Cx) (n : Nat) (D : Eqv) : Prop :=
  ∀ (A : Around) (pins : List (Addr × Obj)) (s : Shared) (σ : L2.St) (H : Hp) (x y : V) (u v : Value), Sub X n A → Inv X pins σ H s → RelV x u → RelV y v → D x y H →
    wpAny (model X.prog X.w) A (richCompare .NotEq u v) (fun r s' => r = .bool false ∧ ∃ H', Inv X pins σ H' s' ∧ Ext H H') X.xe s
theorem neT_ins {CX : CXT} {c : Str} {f : Addr} {fd : FuncData} {ps : List Str} {F : Fn1} {E : XK} (F1 : FnOk X.prog X.w X.K X.mg X.base CX n f fd ps (spD X.K F)) (hF : FnEq F (TIns c T))
    (hs : PySem.W.findIn X.K (.ref (He.ga X.K c)) "__eq__" = some (some (.ref f))) (hf : PySem.W.isFn X.K (.ref f) = true)
    (hne : PySem.W.findIn X.K (.ref (He.ga X.K c)) "__ne__" = some (some (.builtin "object.__ne__"))) (ho : PySem.W.subIn X.K (.ref (He.ga X.K c)) (.type "object") = some true) (hb : Binds X.K fd ps []) (hx : Passes CX X E) : NeG X (n + 1) (Dq X.K (TIns c T)) := by
  intro A pins s σ H x y u v sb I rx ry d
  obtain ⟨d, ⟨l, rfl, t⟩, r1, r2⟩ := d
  cases r1 with
  | ins n1 h1 q1 =>
    cases r2 with
    | @ins b dx' _ fs' _ n2 h2 q2 =>
      rename_i a dx fs
      cases rx
      cases ry
      obtain ⟨mA, J, _⟩ := ins_get I.hok h1
      obtain ⟨mB, J', _⟩ := ins_get I.hok h2
      obtain ⟨od, J, _⟩ := J.look
      obtain ⟨od', J', _⟩ := J'.look
      have sb1 := sb.in1
      refine WX.ne_K (by have := sb.room.un; omega) I.kIn J J'.type hne hs hf ho ?_
      have hsp : spD X.K F [.ref a, .ref b] H (fun v H' => v = .bl true ∧ Ext H H') E := ⟨{}, WL.noZ, [.ins c l, .ins c l], fun y => y = .bl true, ex0, envN, .cons (.ins n1 h1 q1) (.cons (.ins n2 h2 q2) .nil), hF _ _ _ ⟨l, rfl, t⟩ rfl, fun v y H' l r e => by
        subst e
        cases r
        exact ⟨rfl, ext_le l⟩, Exo.zero⟩
      have e0 : Env0 X.prog X.w X.K X.mg X.base A.in1 X.stack s H := by
        have e := I.env0
        exact ⟨by rw [sb1.fr]; exact e.frames, e.mod, e.bs, e.bsz, e.funs, e.frf, e.hok, e.bare⟩
      have hl := F1.len _ _ _ _ hsp
      have rv : Vals [V.ref a, V.ref b] [Value.ref a, Value.ref b] := .cons rfl (.cons rfl .nil)
      refine wpAny_call (codeAny_mono (F1.run A.in1 X.stack s H ⟨[.ref a, .ref b], []⟩ [.ref a, .ref b] [.ref a, .ref b] _ E sb1.room e0 (by
        have := hb s [.ref a, .ref b] I.kIn (by simpa using hl)
        simpa using this) rv hsp) fun r s' hq => ?_)
      cases r with
      | error e => exact hx pins σ H s e s' I hq
      | ok fl =>
        cases fl with
        | ret w =>
          obtain ⟨z, H', I', rz, ez, ex⟩ := I.after hq
          subst ez
          cases rz
          exact ⟨true, rfl, rfl, H', I', ex⟩
        | next => exact False.elim hq
        | brk => exact False.elim hq
        | cont => exact False.elim hq
def rNeG (D : Eqv) : R2 := fun x y H Q => D x y H ∧ ∀ H', Ext H H' → Q (.bl false) H'
theorem op_neG {D : Eqv} (h : NeG X n D) (hr : Room n X.A) : OpR X (compareOp .NotEq) (rNeG D) := by
  intro pins s σ H x y v u Q I rx ry hq
  obtain ⟨d, q⟩ := hq
  show wpAny (model X.prog X.w) X.A (richCompare .NotEq v u) (EP X pins σ Q) X.xe s
  refine wpAny_mono (h X.A pins s σ H x y v u ⟨hr, rfl⟩ I rx ry d) (fun r s' z => ?_) fun _ _ x => x
  obtain ⟨hr', H', I', e⟩ := z
  subst hr'
  exact ⟨.bl false, H', I', rfl, q H' e⟩
/-- either reading of an operation -/
theorem op_or {op : Value → Value → Sem Value} {W W' : R2} (h : OpR X op W) (h' : OpR X op W') : OpR X op (fun x y H Q => W x y H Q ∨ W' x y H Q) := fun pins s σ H x y v u Q I rx ry hq =>
  hq.elim (h pins s σ H x y v u Q I rx ry) (h' pins s σ H x y v u Q I rx ry)
end
section
variable {p : Pr} {ta tb te : TE} {δ : List Sl} {R : D → Prop} {T : D → Prop}
theorem ev_eqG (h : EvP p ta δ fun x => EvP p tb δ fun y => x = y ∧ T x ∧ R (.bl true)) : EvP p (tOp (rEqG (Dq p.K T)) ta tb) δ R :=
  ev_op2 h fun x y ⟨e, t, k⟩ Z v w H Q ek r1 r2 q => by
    subst e
    exact ⟨⟨x, t, r1.noZ, r2.noZ⟩, fun H' e => q _ _ H' (Le.of e) (.bl _) k⟩
theorem ev_neG (h : EvP p ta δ fun x => EvP p tb δ fun y => x = y ∧ T x ∧ R (.bl false)) : EvP p (tOp (rNeG (Dq p.K T)) ta tb) δ R :=
  ev_op2 h fun x y ⟨e, t, k⟩ Z v w H Q ek r1 r2 q => by
    subst e
    exact ⟨⟨x, t, r1.noZ, r2.noZ⟩, fun H' e => q _ _ H' (Le.of e) (.bl _) k⟩
end
end WL
end
section
set_option Elab.async false
set_option linter.all false
set_option maxRecDepth 100000
set_option maxHeartbeats 4000000
/-! More of the calculus: enumerate over a tuple, chains of four, dict(pairs), sorted, insert, stores into own lists, keyword-only construction, results that are owned. -/
namespace WX
open PySem PySem.Spec PyProof.Rows L2
theorem meets_enumT {v : Value} {o : Obj} {H : Heap → Prop} (B : Begins v o H) :
    Meets (Builtin.«enumerate.__new__» ⟨[.type "enumerate", v], []⟩) (fun _ R s => H s.heap ∧
      R (.ok (.ret (.ref (s.heap.push o).objs.size))) { s with heap := (s.heap.push o).push { cls := .type "enumerate", data := .fields #[.none, .bool false, .ref s.heap.objs.size, rawInt 0, .none, .none] } }) :=
  .of_wp fun prog w A R s h => by
    obtain ⟨hp, g, d, tk, os⟩ := s; obtain ⟨h1, h⟩ := h
    have hsub := sub_enumerate
    have q1 : ∀ {A' : Around} {E : Value → Shared → Prop} {Q : Value → Shared → Prop}, Q (.ref hp.objs.size) ⟨hp.push o, g, d, tk, os⟩ → wpAny (model prog w) A' (pyIter v) Q E ⟨hp, g, d, tk, os⟩ :=
      fun q => B.iter prog w _ _ ⟨hp, g, d, tk, os⟩ _ h1 q
    wp_walk using q1
    refine wpAny_stack_any fun st => wpAny_pure ?_
    split
    · rename_i c _ _ _ _ _
      cases (c == Value.type "enumerate")
      · wp_walk using q1
        exact ⟨_, rfl, h⟩
      · wp_walk using q1
        exact ⟨_, rfl, h⟩
    · wp_walk using q1
      exact ⟨_, rfl, h⟩
section
variable {prog : Program} {w : World} {A : Around} {E : Value → Shared → Prop} {s : Shared}
theorem enum_begins1 {v : Value} {o : Obj} {H : Heap → Prop} {Q : Value → Shared → Prop} (B : Begins v o H) (h1 : H s.heap)
    (h : ∀ h', IsEnum h' (s.heap.objs.size + 1) s.heap.objs.size 0 .none → h'.get? s.heap.objs.size = some o → h'.objs.size = s.heap.objs.size + 2 →
      (∀ b o, s.heap.get? b = some o → h'.get? b = some o) → Q (.ref (s.heap.objs.size + 1)) { s with heap := h' }) :
    wpAny (model prog w) A (call (.type "enumerate") [v]) Q E s := by
  refine callType_new F.called_enumerate (by decide) (F.typeCall_enumerate_1 _) (F.newCall_enumerate_1 _) (fun obj => F.args_object_init_2 obj _) F.entry_enumerate_new
    (meets_enumT B) ⟨h1, ?_⟩
  have hz : (s.heap.push o).objs.size = s.heap.objs.size + 1 := Heap.size_push ..
  show _ ∧ _
  rw [hz]
  have he : IsEnum ((s.heap.push o).push { cls := .type "enumerate", data := .fields #[.none, .bool false, .ref s.heap.objs.size, rawInt 0, .none, .none] }) (s.heap.objs.size + 1) s.heap.objs.size 0 .none := by
    have := Heap.get?_push_size (s.heap.push o) (o := { cls := .type "enumerate", data := .fields #[.none, .bool false, .ref s.heap.objs.size, rawInt 0, .none, .none] }) rfl
    rw [hz] at this; exact this
  refine ⟨⟨_, he, rfl⟩, h _ he (Heap.get?_push_of_some _ (Heap.get?_push_size _ B.free)) (by rw [Heap.size_push, hz]) fun b o x => Heap.get?_push_of_some _ (Heap.get?_push_of_some _ x)⟩
end
/-- the tuple at a as it stands at each turn, each item in a new pair -/
def IteT (K : PySem.W.Frag) (a : Addr) : It :=
  ⟨fun i H => ∃ (xs : List V) (x : V), SqT K H a xs ∧ xs[i]? = some x, fun i H v H' => ∃ T x, v = .ref T ∧ H T = none ∧ H' = upd H T (.tup [.int (i : Nat), x]) ∧ ∀ xs, SqT K H a xs → xs[i]? = some x, fun i H => ∃ xs : List V, SqT K H a xs ∧ xs.length ≤ i⟩
theorem turn_enumT {P : Program} {w : World} {K : PySem.W.Frag} {elts : List Expr} {kk : Nat} {tpos : Pos} (a e it : Addr) :
    Turn P w K (.Tuple elts kk tpos) (IteT K a) [e, it] e (fun i h => (∃ old, IsEnum h e it ((i : Nat) : Int) old) ∧ h.IsTupleIter it a i ∧ e ≠ it ∧ a ≠ it ∧ a ≠ e) where
  mem := by simp
  obj := fun i h st b hb => by
    obtain ⟨⟨old, he⟩, ⟨o, ho, hc, hd⟩, _⟩ := st
    have e' : b = e ∨ b = it := by simpa using hb
    rcases e' with z | z
    · rw [z]; exact ⟨_, he, fun v q => nomatch q⟩
    · rw [z]; exact ⟨o, ho, fun v q => by rw [hd] at q; cases q⟩
  keep := fun i h h' st k => let ⟨⟨old, he⟩, hi, hne⟩ := st; ⟨⟨old, k e (by simp) _ he⟩, hi.at fun o q => k it (by simp) o q, hne⟩
  item := by
    intro X hP hw hK hc i pins s σ H E I hf st hg
    subst hP hw hK
    obtain ⟨⟨old, he⟩, hit, hne, nai, nae⟩ := st
    obtain ⟨xs, x, hq, hx⟩ := hg
    obtain ⟨its, rv, p, hz⟩ := I.tuple hq
    obtain ⟨u, hu, ru⟩ := rv.get hx
    have hel : e < s.heap.objs.size := Heap.lt_size he
    have hil : it < s.heap.objs.size := by obtain ⟨_, q, _⟩ := hit; exact Heap.lt_size q
    have hu2 : its.toArray[i]? = some u := by simpa using hu
    have hlt : i < its.toArray.size := (Array.getElem?_eq_some_iff.mp hu2).1
    refine wpAny_pyNext_enum_itemD (Draws.tuple (A := X.A.in1) (show X.A.in1.handled = none from I.ok.hd hc) it a nai its.toArray) he ⟨hit, p⟩ hlt hne (by simp [hne, Ne.symm nae]) fun x0 h' tk hx0 ho hit' hT hsz hk => ?_
    have ex : x0 = u := by rw [hu2] at hx0; exact (Option.some.inj hx0).symm
    subst ex
    refine ⟨_, rfl, wpAny_letOwnedTupleGo_enum (s := { s with heap := h', toks := tk + 1 }) ho fun h'' he' sb => ?_⟩
    have hT2 : h''.get? s.heap.objs.size = some { cls := .type "tuple", data := .seq #[.int i tk, x0] } := (sb.2 _ (Nat.ne_of_gt hel)).trans hT
    have new : ObjOk X.prog X.w (upd H s.heap.objs.size (.tup [.int (i : Nat), x])) h'' s.heap.objs.size (.tup [.int (i : Nat), x]) :=
      ⟨by show 2 ≤ sizeLine; decide, [.int i tk, x0], .cons ⟨_, rfl⟩ (.cons ru .nil), ⟨_, hT2, rfl, _, rfl⟩⟩
    have I1 : Inv X pins σ (upd H s.heap.objs.size (.tup [.int (i : Nat), x])) { s with heap := h'', toks := tk + 1 } :=
      I.turnedNew (ch := [e, it]) (fun b ob hb q => (sb.2 b (fun z => hb (by simp [z]))).trans (hk b ob (fun z => hb (by simp [z])) (fun z => hb (by simp [z])) q)) hf (Nat.le_refl _) new
    refine ⟨.ref s.heap.objs.size, _, I1, rfl, ⟨_, x, rfl, I.hok.fresh (Nat.le_refl _), rfl, fun ys hy => by rw [I.tuple_inj hy hq]; exact hx⟩, ⟨⟨x0, ?_⟩, hit'.1.at fun o q => (sb.2 it (Ne.symm hne)).trans q, hne, nai, nae⟩, fun b hb => ?_⟩
    · have e1 : ((i + 1 : Nat) : Int) = (i : Int) + 1 := by omega
      rw [e1]; exact he'
    · have hb' : b < s.heap.objs.size := by
        have e' : b = e ∨ b = it := by simpa using hb
        rcases e' with z | z
        · rw [z]; exact hel
        · rw [z]; exact hil
      rw [upd_ne (Nat.ne_of_lt hb')]
      exact (hf b hb).1
  done := by
    intro X hP hw hK hc i pins s σ H E I hf st hg
    subst hP hw hK
    obtain ⟨⟨old, he⟩, hit, hne, nai, nae⟩ := st
    obtain ⟨xs, hq, hx⟩ := hg
    obtain ⟨its, rv, p, hz⟩ := I.tuple hq
    obtain ⟨f0, f1, f2, f3, f4, f5⟩ := hf it (by simp)
    have hl := rv.length
    have hT : s.TypeIs (.ref e) "enumerate" := ⟨_, he, rfl⟩
    have hx2 : its.toArray[i]? = none := by simp; omega
    unfold pyNext
    refine wpAny_bind (wpAny_attempt (wpAny_callSpecial?_slot (name := Str.ofString "__next__") hT F.slot_enumerate_next
      (wpAny_call_entry F.slot_enumerate_next hT F.entry_enumerate_next ?_ (F.args_enumerate_next_1 _))))
    show wpAny _ _ (field (.ref e) 2 >>= _) _ _ _
    refine wpAny_bind (wpAny_field he rfl (x := .ref it) rfl ?_)
    refine wpAny_bind (wpAny_nextOf_tuple_end (A := X.A.in1) (show X.A.in1.handled = none from I.ok.hd hc) hit p hx2 fun h' x he' hx' => ?_)
    obtain ⟨o, ho, hc'⟩ := hx'
    refine wpAny_bind (wpAny_isInstance (T := "StopIteration") (b := true) ⟨o, ho, hc'⟩ isSubtype_stop ?_)
    exact wpAny_pure ⟨rfl, I.turned (t' := s.toks) (fun b o hb q => he' b o hb q) f0 f1 f3 f4 f5⟩
  self := fun A i s Q E st h => let ⟨⟨_, he⟩, _⟩ := st; wpAny_pyIter_enum he h
/-- enumerate of a list or of a tuple -/
def iEnumA (K : PySem.W.Frag) (ta : TA) : TI := fun σ H R => ta σ H fun vs H1 => ∃ a xs, vs = [.ref a] ∧ ((SqL K H1 a xs ∧ R (Ite K a) H1) ∨ (SqT K H1 a xs ∧ R (IteT K a) H1))
theorem pi_enumA {X : Cx} {e : Expr} {ta : TA} {p pos tpos : Pos} {elts : List Expr} {kk : Nat} (hg : Gl X "enumerate") (hm : X.mg "enumerate" = none) (ha : PA X [e] ta) (hs : starEach [e] X.env = [(false, eval e X.env)] := by rfl) :
    PI X (.Tuple elts kk tpos) (.Call (.Name "enumerate" p) [e] [] pos) (iEnumA X.K ta) := by
  refine ⟨fun pins s σ H R I h => ?_⟩
  refine Call_ (ld_blt I hg hm boot_enumerate (PyProof.Rows.callWith_type1 (thn (ha.run pos pins s σ H _ I h) fun us s1 ⟨vs, H1, I1, r1, q1⟩ => ?_) hs rfl))
  obtain ⟨a, xs, ex, hq⟩ := q1
  subst ex
  cases r1 with
  | cons r rr =>
    cases rr
    cases r
    have fin : ∀ b, b ∈ [s1.heap.objs.size + 1, s1.heap.objs.size] → s1.heap.objs.size ≤ b := fun b hb => by
      have e' : b = s1.heap.objs.size + 1 ∨ b = s1.heap.objs.size := by simpa using hb
      rcases e' with z | z
      · rw [z]; exact Nat.le_add_right _ _
      · rw [z]; exact Nat.le_refl _
    rcases hq with ⟨hq, q⟩ | ⟨hq, q⟩
    · obtain ⟨its, rv, p', hz⟩ := I1.list hq
      refine call_enumerate_list p'.isList fun h' he hit hsz hk => wpAny_pyIter_enum he ?_
      have I2 : Inv X pins σ H1 { s1 with heap := h' } := I1.kept (t' := s1.toks) hk
      refine ⟨s1.heap.objs.size + 1, [s1.heap.objs.size + 1, s1.heap.objs.size], _, _, H1, rfl, I2, turn_enum a (s1.heap.objs.size + 1) s1.heap.objs.size, ⟨⟨.none, he⟩, hit, Nat.succ_ne_self _⟩, fun b hb => ?_, q⟩
      exact I1.fpOk (fin b hb) (I1.hok.fresh (fin b hb))
    · obtain ⟨its, rv, p', hz⟩ := I1.tuple hq
      have hlt : a < s1.heap.objs.size := by obtain ⟨o, ho, _⟩ := p'; exact Heap.lt_size ho
      refine enum_begins1 (begins_tuple a its.toArray) p' fun h' he hit hsz hk => wpAny_pyIter_enum he ?_
      have I2 : Inv X pins σ H1 { s1 with heap := h' } := I1.kept (t' := s1.toks) hk
      refine ⟨s1.heap.objs.size + 1, [s1.heap.objs.size + 1, s1.heap.objs.size], _, _, H1, rfl, I2, turn_enumT a (s1.heap.objs.size + 1) s1.heap.objs.size, ⟨⟨.none, he⟩, ⟨_, hit, rfl, rfl⟩, Nat.succ_ne_self _, Nat.ne_of_lt hlt, Nat.ne_of_lt (Nat.lt_succ_of_lt hlt)⟩, fun b hb => ?_, q⟩
      exact I1.fpOk (fin b hb) (I1.hok.fresh (fin b hb))
/-- a o1 b o2 c o3 d -/
def tChain3 (r r' r'' : R2) (ta tb tc td : TE) : TE := fun σ H Q => ta σ H fun x H1 => tb σ H1 fun y H2 => r x y H2 fun z H3 => ∃ k, z = .bl k ∧
  (if k = true then tc σ H3 fun w H4 => r' y w H4 fun z' H5 => ∃ k', z' = .bl k' ∧ (if k' = true then td σ H5 fun u H6 => r'' w u H6 Q else Q (.bl false) H5) else Q (.bl false) H3)
theorem pe_chain3 {X : Cx} {a b c d : Expr} {ta tb tc td : TE} {pos : Pos} {op op' op'' : CmpOp} {r r' r'' : R2} (ho : OpR X (compareOp op) r) (ho' : OpR X (compareOp op') r') (ho'' : OpR X (compareOp op'') r'') (ha : PE X a ta) (hb : PE X b tb) (hc : PE X c tc) (hd : PE X d td)
    (hm : lastMarks [op, op', op''] [b, c, d] = false := by with_unfolding_all rfl) : PE X (.Compare a [op, op', op''] [b, c, d] pos) (tChain3 r r' r'' ta tb tc td) := by
  refine ⟨fun pins s σ H Q I h => ?_⟩
  refine Compare_chain (thn (ha.run pins s σ H _ I h) fun v s1 ⟨x, H1, I1, r1, q1⟩ => chain_link (thn (hb.run pins s1 σ H1 _ I1 q1) fun u s2 ⟨y, H2, I2, r2, q2⟩ =>
    thn (ho pins s2 σ H2 x y v u _ I2 r1 r2 q2) fun e s3 ⟨z, H3, I3, r3, k, ez, q3⟩ => ?_)) hm
  subst ez
  cases r3
  refine wpAny_truthy_bool ?_
  cases k with
  | false => exact ite_ff ⟨.bl false, H3, I3, rfl, q3⟩
  | true =>
    refine ite_tt (chain_link (thn (hc.run pins s3 σ H3 _ I3 q3) fun w' s4 ⟨z', H4, I4, r4, q4⟩ => thn (ho' pins s4 σ H4 y z' u w' _ I4 r2 r4 q4) fun e s5 ⟨z2, H5, I5, r5, k2, ez2, q5⟩ => ?_))
    subst ez2
    cases r5
    refine wpAny_truthy_bool ?_
    cases k2 with
    | false => exact ite_ff ⟨.bl false, H5, I5, rfl, q5⟩
    | true => exact ite_tt (chain_last (thn (hd.run pins s5 σ H5 _ I5 q5) fun w2 s6 ⟨z3, H6, I6, r6, q6⟩ => ho'' pins s6 σ H6 z' z3 w' w2 Q I6 r4 r6 q6))
/-- either reading -/
def tEi (t t' : TE) : TE := fun σ H Q => t σ H Q ∨ t' σ H Q
theorem pe_ei {X : Cx} {e : Expr} {t t' : TE} (h : PE X e t) (h' : PE X e t') : PE X e (tEi t t') := ⟨fun pins s σ H Q I q => q.elim (h.run pins s σ H Q I) (h'.run pins s σ H Q I)⟩
theorem pi_ei {X : Cx} {tg e : Expr} {t t' : TI} (h : PI X tg e t) (h' : PI X tg e t') : PI X tg e (fun σ H R => t σ H R ∨ t' σ H R) := ⟨fun pins s σ H R I q => q.elim (h.run pins s σ H R I) (h'.run pins s σ H R I)⟩
end WX
end
section
set_option Elab.async false
set_option linter.all false
set_option maxRecDepth 100000
set_option maxHeartbeats 4000000
/-! More rules over data. -/
namespace WL
open PySem PySem.Spec PyProof.Rows L2 WX
section
variable {p : Pr} {ta tb tc td te : TE} {t u : TT} {δ : List Sl} {R : D → Prop} {RB : Bool → Prop} {RA : List D → Prop} {RI : List D → Prop} {o : Po} {st su : TS}
theorem ev_ei1 {t t' : TE} (h : EvP p t δ R) : EvP p (tEi t t') δ R := fun Z0 H0 Z σ H Q s e q => .inl (h Z0 H0 Z σ H Q s e q)
theorem ev_ei2 {t t' : TE} (h : EvP p t' δ R) : EvP p (tEi t t') δ R := fun Z0 H0 Z σ H Q s e q => .inr (h Z0 H0 Z σ H Q s e q)
theorem ei_enumA {ta : TA} (h : EvA p ta δ fun ds => ∃ l, (ds = [.lst l] ∨ ds = [.tup l]) ∧ RI (enumD l)) : EvI p (iEnumA p.K ta) δ RI := fun Z0 H0 Z σ H R s e q => h Z0 H0 Z σ H _ s e fun vs ds H1 l1 r1 ⟨l, ed, k⟩ => by
  rcases ed with ed | ed
  · subst ed
    cases r1 with
    | cons r1 rn =>
      cases rn
      obtain ⟨a, xs, rfl, n, hH, r⟩ := lst_of r1
      refine ⟨a, xs, rfl, .inl ⟨SqL.of hH, q _ _ H1 l1 (fun Z' H' g lv i => ⟨fun y hy => ?_, fun hl => ?_⟩) k⟩⟩
      · obtain ⟨da, h1, rfl⟩ := enumD_get hy
        obtain ⟨u, hu, ru⟩ := r.get h1
        have g1 := SqL.of (K := p.K) (g.keep _ _ n hH)
        refine ⟨⟨xs, u, g1, hu⟩, fun v H'' ⟨T, x, e1, hT, e2, e3⟩ => ?_⟩
        have e3' := e3 xs g1
        rw [hu] at e3'
        cases e3'
        subst e1 e2
        exact ⟨Le.new hT, .tup (fun z => lv _ z hT) upd_same (.cons (.int _) (.cons ((ru.go g).new hT) .nil))⟩
      · rw [enumD_len] at hl
        exact ⟨xs, SqL.of (g.keep _ _ n hH), by rw [r.length]; exact hl⟩
  · subst ed
    cases r1 with
    | cons r1 rn =>
      cases rn
      obtain ⟨a, xs, rfl, hH, r⟩ := sqt_go (Z' := Z) (H' := H1) r1
      refine ⟨a, xs, rfl, .inr ⟨hH _ _ (Go.refl _ _), q _ _ H1 l1 (fun Z' H' g lv i => ⟨fun y hy => ?_, fun hl => ?_⟩) k⟩⟩
      · obtain ⟨da, h1, rfl⟩ := enumD_get hy
        obtain ⟨u, hu, ru⟩ := r.get h1
        have g1 := hH _ _ g
        refine ⟨⟨xs, u, g1, hu⟩, fun v H'' ⟨T, x, e1, hT, e2, e3⟩ => ?_⟩
        have e3' := e3 xs g1
        rw [hu] at e3'
        cases e3'
        subst e1 e2
        exact ⟨Le.new hT, .tup (fun z => lv _ z hT) upd_same (.cons (.int _) (.cons ((ru.go g).new hT) .nil))⟩
      · rw [enumD_len] at hl
        exact ⟨xs, hH _ _ g, by rw [r.length]; exact hl⟩
/-- a < b < c < d of ints -/
theorem ev_chain3 {f g w : Int → Int → Bool} (h : EvP p ta δ fun x => EvP p tb δ fun y => ∃ i j, x = .int i ∧ y = .int j ∧ if f i j = true then EvP p tc δ fun z => ∃ k, z = .int k ∧ (if g j k = true then EvP p td δ fun z' => ∃ m, z' = .int m ∧ R (.bl (w k m)) else R (.bl false)) else R (.bl false)) :
    EvP p (tChain3 (rI0 fun i j => .bl (f i j)) (rI0 fun i j => .bl (g i j)) (rI0 fun i j => .bl (w i j)) ta tb tc td) δ R :=
  fun Z0 H0 Z σ H Q s e q => h.run s e fun v x H1 l1 r1 hb => hb.run (s.le l1) e fun w1 y H2 l2 r2 ⟨i, j, ex, ey, k⟩ => by
    subst ex ey
    cases r1
    cases r2
    refine ⟨i, j, rfl, rfl, f i j, rfl, ?_⟩
    by_cases hf : f i j = true
    · rw [if_pos hf] at k ⊢
      exact k.run (s.le (l1.trans l2)) e fun w2 z H3 l3 r3 ⟨m, ez, kk⟩ => by
        subst ez
        cases r3
        refine ⟨j, m, rfl, rfl, g j m, rfl, ?_⟩
        by_cases hg : g j m = true
        · rw [if_pos hg] at kk ⊢
          exact kk.run (s.le ((l1.trans l2).trans l3)) e fun w3 z4 H4 l4 r4 ⟨n, e4, k4⟩ => by
            subst e4
            cases r4
            exact ⟨m, n, rfl, rfl, q _ _ H4 (((l1.trans l2).trans l3).trans l4) (.bl _) k4⟩
        · rw [if_neg hg] at kk ⊢
          exact q _ _ H3 ((l1.trans l2).trans l3) (.bl _) kk
    · rw [if_neg hf] at k ⊢
      exact q _ _ H2 (l1.trans l2) (.bl _) k
theorem reps_int {K : PySem.W.Frag} {Z : Addr → Prop} {H : Hp} : ∀ {xs : List V} {ns : List Int}, Reps K Z H xs (ns.map .int) → xs = ns.map V.int
  | _, [], h => by cases h; rfl
  | _, b :: bs, h => by
    cases h with
    | cons r t =>
      cases r
      rw [reps_int t] <;> rfl
theorem int_reps {K : PySem.W.Frag} {Z : Addr → Prop} {H : Hp} : ∀ (ns : List Int), Reps K Z H (ns.map V.int) (ns.map .int)
  | [] => .nil
  | n :: ns => .cons (.int n) (int_reps ns)
theorem ev_sorted (h : EvP p te δ fun x => ∃ ns : List Int, x = .lst (ns.map .int) ∧ ∀ ns' : List Int, ns'.Perm ns → ns'.Pairwise (· ≤ ·) → R (.lst (ns'.map .int))) : EvP p (tCB (rSortedI p.K) (tCons te tNil)) δ R :=
  fun Z0 H0 Z σ H Q s e q => h.run s e fun v x H1 l1 r1 ⟨ns, ex, k⟩ => by
    subst ex
    obtain ⟨a, xs, rfl, _, hH, r⟩ := lst_of r1
    have e2 := reps_int r
    subst e2
    exact ⟨a, ns, rfl, SqL.of hH, fun ns' b hp hs hb => q _ _ _ (l1.trans (Le.new hb)) (.lst (fun z => (s.env.le l1).live b z hb) upd_same (int_reps ns')) (k ns' hp hs)⟩
/-- dict(pairs), the keys texts -/
def pairD (l : List (Str × D)) : List D := l.map fun q => .tup [.str q.1, q.2]
theorem mergeK_nodup : ∀ (kvs acc : List (Key × V)), ((acc ++ kvs).map (·.1)).Nodup → mergeK acc kvs = acc ++ kvs
  | [], acc, _ => by simp [mergeK]
  | kv :: r, acc, h => by
    have e : putK acc kv.1 kv.2 = acc ++ [kv] := by
      unfold putK
      have hn : (acc.any fun q => decide (q.1 = kv.1)) = false := by
        rw [List.any_eq_false]
        intro q hq hh
        have e1 : q.1 = kv.1 := by simpa using hh
        rw [List.map_append, List.nodup_append] at h
        exact h.2.2 q.1 (List.mem_map_of_mem hq) kv.1 (by simp) e1
      rw [hn] <;> rfl
    have h2 : ((acc ++ [kv]) ++ r).map (·.1) = (acc ++ kv :: r).map (·.1) := by simp
    have := mergeK_nodup r (acc ++ [kv]) (by rw [h2]; exact h)
    show mergeK (putK acc kv.1 kv.2) r = _
    rw [e, this]
    simp
theorem pairs_of {K : PySem.W.Frag} {Z : Addr → Prop} {H : Hp} : ∀ {xs : List V} {l : List (Str × D)}, Reps K Z H xs (pairD l) → ∃ (ps : List Addr) (kvs : List (Key × V)), xs = ps.map V.ref ∧ Paired (fun p kv => SqT K H p [kV kv.1, kv.2]) ps kvs ∧ RepK K Z H kvs l ∧ kvs.map (·.1) = l.map fun q => Sum.inr q.1
  | _, [], h => by cases h; exact ⟨[], [], rfl, .nil, .nil, rfl⟩
  | _, q :: l, h => by
    cases h with
    | cons r t =>
      obtain ⟨ps, kvs, e1, pr, rk, e2⟩ := pairs_of (l := l) t
      obtain ⟨a, ys, rfl, hs, r2⟩ := tup_of r
      cases r2 with
      | cons r3 r4 =>
        cases r4 with
        | cons r5 r6 =>
          cases r6
          cases r3
          exact ⟨a :: ps, (Sum.inr q.1, _) :: kvs, by rw [e1] <;> rfl, .cons hs pr, .cons r5 rk, by rw [List.map_cons, List.map_cons, e2]⟩
theorem eo_dictP {RO : Sl → Prop} (h : EvP p te δ fun x => ∃ l, x = .lst (pairD l) ∧ (l.map (·.1)).Nodup ∧ RO (.odic l)) :
    EvO p (tCB (fun xs H Q => ∃ (a : Addr) (ps : List Addr) (kvs : List (Key × V)), xs = [.ref a] ∧ SqL p.K H a (ps.map V.ref) ∧ Paired (fun q kv => SqT p.K H q [kV kv.1, kv.2]) ps kvs ∧ ∀ b, H b = none → Q (.ref b) (upd H b (.dK (mergeK [] kvs)))) (tCons te tNil)) δ RO :=
  fun Z0 H0 Z σ H Q s e q => h.run s e fun v x H1 l1 r1 ⟨l, ex, nd, k⟩ => by
    subst ex
    obtain ⟨a, xs, rfl, _, hH, r⟩ := lst_of r1
    obtain ⟨ps, kvs, e1, pr, rk, e2⟩ := pairs_of r
    subst e1
    refine ⟨a, ps, kvs, rfl, SqL.of hH, pr, fun b hb => ?_⟩
    have nd2 : ((([] : List (Key × V)) ++ kvs).map (fun q => q.1)).Nodup := by
      rw [List.nil_append, e2]
      have e3 : (l.map fun q => (Sum.inr q.1 : Key)) = (l.map (·.1)).map (Sum.inr : Str → Key) := by rw [List.map_map] <;> rfl
      rw [e3]
      exact List.Pairwise.map _ (fun a b hab z => hab (Sum.inr.inj z)) nd
    rw [mergeK_nodup kvs [] nd2, List.nil_append]
    exact q _ _ _ (l1.trans (Le.new hb)) (fresh_le s.env l1 hb) (.inr ⟨_, _, rfl, upd_same, (rk.own hb).mono (fun _ z => z) fun c w _ e => by rw [upd_ne (ne_of_none e hb)]; exact e⟩) k
theorem ev_newD (h : EvO p te δ fun sl => ∃ l, sl = .odic l ∧ R (.dic l)) : EvP p te δ R := fun Z0 H0 Z σ H Q s e q => h Z0 H0 Z σ H _ s e fun a sl H2 l ha hc ⟨l', es, k⟩ => by
  rcases hc with ⟨xs, l2, e2, hx, r⟩ | ⟨xs, l2, e2, hx, r⟩
  · rw [e2] at es
    cases es
  · rw [e2] at es
    cases es
    exact q _ _ H2 l (.dic (fun z => s.env.live a z ha) hx (r.mono (fun _ z => .inl z) fun _ _ _ z => z)) k
/-- xs.insert(i, e), xs this frame's own -/
theorem st_ins {i : Nat} {l : List D} (hi : δ[i]? = some (.own l)) (hl : l.length < 100000) (h : EvP p ta δ fun x => EvP p te δ fun d => ∃ k : Int, x = .int k ∧ 0 ≤ k ∧ k < 2 ^ 62 ∧ o.nx (δ.set i (.own (l.take k.toNat ++ [d] ++ l.drop k.toNat)))) :
    StP p (tDrop (tBM p.K "list" (fun x vs H Q => ∃ (l : Addr) (xs : List V) (i : Int) (y : V), x = .ref l ∧ vs = [.int i, y] ∧ H l = some (.lst xs) ∧ xs.length < sizeLine ∧ 0 ≤ i ∧ i < 2 ^ 63 ∧
    Q .non (upd H l (.lst (xs.take i.toNat ++ [y] ++ xs.drop i.toNat)))) (tVar i) (tCons ta (tCons te tNil)))) δ o := fun Z0 H0 Z σ H Dn s e n r b c => by
  obtain ⟨ov, e1, a, xs, rfl, z, n0, hH, rr⟩ := s.slot hi
  refine ⟨_, e1, .inl ⟨rfl, xs, SqL.of hH⟩, h.run s e fun v d H1 l1 r1 hb => hb.run (s.le l1) e fun w y H2 l2 r2 ⟨k, ek, k0, k1, kn⟩ => ?_⟩
  subst ek
  cases r1
  have l12 := l1.trans l2
  have hH2 := l12.keep _ _ (s.ne n0) hH
  have s2 := s.le l12
  have g0 : ∀ u, Go Z H2 Z (upd H2 a u) := fun u => ⟨fun b w nb h => by rw [upd_ne (fun q => nb (by rw [q]; exact z))]; exact h, fun _ h => .inl h⟩
  have rr2 : Reps p.K Z H2 xs l := rr.le l12 s.env.zin
  obtain ⟨g, s3⟩ := s2.put (ob := .lst (xs.take k.toNat ++ [w] ++ xs.drop k.toNat)) (s1 := .own (l.take k.toNat ++ [y] ++ l.drop k.toNat)) hi e1 z n0 rfl
    ⟨a, _, rfl, z, n0, upd_same, (((rr2.take _).append (.cons r2 .nil)).append (rr2.drop _)).go (g0 _)⟩ (by rw [hH2]; exact fun z => nomatch z)
  exact ⟨a, xs, k, w, rfl, rfl, hH2, Nat.lt_of_lt_of_le (by rw [rr.length]; exact hl) (by decide), k0, Int.lt_of_lt_of_le k1 (by decide), n _ _ _ _ ((Go.le l12 s.env.zin).trans g) s3 kn⟩
/-- xs[i] = e, xs this frame's own -/
theorem st_setI {j : Nat} {l : List D} (hj : δ[j]? = some (.own l)) (h : EvP p te δ fun d => EvP p ta δ fun y => ∃ i k, y = .int i ∧ ixN l.length i = some k ∧ o.nx (δ.set j (.own (l.set k d)))) :
    StP p (tAsg te (gSub (tVar j) ta rSetL)) δ o := fun Z0 H0 Z σ H Dn s e n r b c =>
  h.run s e fun v d H1 l1 r1 hb => by
    obtain ⟨ov, e1, a, xs, rfl, z, n0, hH, rr⟩ := s.slot hj
    refine ⟨_, e1, hb.run (s.le l1) e fun w y H2 l2 r2 ⟨i, k, ey, hk, kn⟩ => ?_⟩
    subst ey
    cases r2
    have l12 := l1.trans l2
    have hH2 := l12.keep _ _ (s.ne n0) hH
    have g0 : ∀ u, Go Z H2 Z (upd H2 a u) := fun u => ⟨fun b w nb h => by rw [upd_ne (fun q => nb (by rw [q]; exact z))]; exact h, fun _ h => .inl h⟩
    obtain ⟨g, s3⟩ := (s.le l12).put (ob := .lst (xs.set k v)) (s1 := .own (l.set k d)) hj e1 z n0 rfl ⟨a, _, rfl, z, n0, upd_same, (((rr.le l12 s.env.zin).set (r1.le l2 s.env.zin) k)).go (g0 _)⟩ (by rw [hH2]; exact fun z => nomatch z)
    exact ⟨a, xs, i, k, rfl, rfl, hH2, by rw [rr.length]; exact hk, n _ _ _ _ ((Go.le l12 s.env.zin).trans g) s3 kn⟩
/-- D[k], D a written dict -/
theorem ev_ixD {w : World} {pa : Addr} (h : EvP p tb δ fun y => ∃ z v d, y = .str z ∧ KDct p.K w pa z v ∧ (∀ Z H, Rep p.K Z H v d) ∧ R d) : EvP p (tOp (rIxD p.K w) (tC (.ref pa)) tb) δ R :=
  fun Z0 H0 Z σ H Q s e q => h.run s e fun v x H1 l1 r1 ⟨z, v0, d, ex, kd, rd, k⟩ => by
    subst ex
    cases r1
    exact ⟨pa, z, v0, rfl, rfl, kd, q _ _ H1 l1 (rd _ _) k⟩
/-- C(.., k = v, ..) -/
theorem ev_makeK {F : FnI} {c : Str} {n m : Nat} {t tk : TA} (h : EvA p t δ fun ds => EvA p tk δ fun zs => ds.length = n ∧ zs.length = m ∧ F p.G (ds ++ zs) (fun l => R (.ins c l)) p.ex) :
    EvP p (tMakeK (He.ga p.K c) n m (spI p.K c F) (fun vs zs => vs ++ zs) p.E t tk) δ R := fun Z0 H0 Z σ H Q s e q => h Z0 H0 Z σ H _ s e fun vs ds H1 l1 r1 h2 => h2 Z0 H0 Z σ H1 _ (s.le l1) e fun ws zs H2 l2 r2 ⟨e1, e2, k⟩ => by
  refine ⟨r1.length.trans e1, r2.length.trans e2, fun x dx hx hdx ne => ?_⟩
  have l12 := l1.trans l2
  have E1 := s.env.le l12
  have lD : Le p.G H2 (upd H2 dx (.own x)) := Le.new hdx
  refine ⟨p.G, Z, x, dx, _, ds ++ zs, fun l => R (.ins c l), p.ex, rfl, upd_same, ?_, ?_, k, fun dx' fs l H' le hH rf kk => ⟨rfl, ?_⟩, ?_⟩
  · rw [make_del hx ne]; exact E1.le lD
  · rw [make_del hx ne]; exact ((r1.le l2 s.env.zin).append r2).new hdx
  · rw [make_del hx ne] at le
    exact q _ _ H' ((l12.trans lD).trans le) (.ins (fun z => E1.live x z hx) hH rf) kk
  · rw [make_del hx ne]; exact exo_call (s.le (l12.trans lD)) e
end
/-! ### results that are owned -/
abbrev FnO := Env1 → List D → (Sl → Prop) → Ex1 → Prop
/-- what is new and owned at a -/
def OwnAt (K : PySem.W.Frag) (Z : Addr → Prop) (H : Hp) (a : Addr) (s : Sl) : Prop := (∃ xs l, s = .own l ∧ H a = some (.lst xs) ∧ Reps K (fun b => Z b ∨ b = a) H xs l) ∨ ∃ ks l, s = .odic l ∧ H a = some (.dK ks) ∧ RepK K (fun b => Z b ∨ b = a) H ks l
def spO (K : PySem.W.Frag) (F : FnO) : Sp := fun vs H Q E => ∃ (G : Env1) (Z : Addr → Prop) (ds : List D) (R : Sl → Prop) (ex : Ex1), EnvOk K G Z H ∧ Reps K Z H vs ds ∧ F G ds R ex ∧
  (∀ a s H', Le G H H' → H a = none → OwnAt K Z H' a s → R s → Q (.ref a) H') ∧ Exo K G Z H E ex
section
variable {p : Pr} {te : TE} {δ : List Sl} {RO : Sl → Prop} {st su : TS}
theorem eo_call {F : FnO} {ta : TA} (h : EvA p ta δ fun ds => F p.G ds RO p.ex) : EvO p (tCall (spO p.K F) [] p.E ta) δ RO := fun Z0 H0 Z σ H Q s e q => h Z0 H0 Z σ H _ s e fun vs ds H1 l1 r1 k =>
  ⟨p.G, Z, ds, RO, p.ex, s.env.le l1, by rw [List.append_nil]; exact r1, k, fun a sl H' l ha hc => q a sl H' (l1.trans l) (fresh_le s.env l1 ha) hc, exo_call (s.le l1) e⟩
theorem eo_callN {F : FnO} {E : XK} {ta : TA} (h : EvA p ta δ fun ds => F p.G ds RO ex0) : EvO p (tCall (spO p.K F) [] E ta) δ RO := fun Z0 H0 Z σ H Q s e q => h Z0 H0 Z σ H _ s e fun vs ds H1 l1 r1 k =>
  ⟨p.G, Z, ds, RO, ex0, s.env.le l1, by rw [List.append_nil]; exact r1, k, fun a sl H' l ha hc => q a sl H' (l1.trans l) (fresh_le s.env l1 ha) hc, Exo.zero⟩
def StO (p : Pr) (t : TS) (δ : List Sl) (RO : Sl → Prop) : Prop := ∀ (Z0 : Addr → Prop) (H0 : Hp) (Z : Addr → Prop) (σ : L2.St) (H : Hp) (Dn : Ends), RepP p Z0 H0 Z H σ δ → ExoP p Z0 H0 →
  (∀ a s H', Le p.G H0 H' → H0 a = none → OwnAt p.K Z0 H' a s → RO s → Dn.rt (.ref a) H') → t Dn σ H
theorem so_seq (h : StP p st δ { nx := fun δ' => StO p su δ' RO, rt := fun _ => False }) : StO p (tSeq st su) δ RO := fun Z0 H0 Z σ H Dn s e r =>
  h Z0 H0 Z σ H { Dn with nx := su Dn } s e (fun Z' σ' δ' H' g s' hu => hu Z0 H0 Z' σ' H' Dn s' e r) (fun _ _ _ _ _ z => z.elim) (fun _ _ _ _ _ _ z => z.elim) fun _ _ _ _ _ _ z => z.elim
theorem so_ret {i : Nat} {sl : Sl} (hi : δ[i]? = some sl) (ho : (∃ l, sl = .own l) ∨ ∃ l, sl = .odic l) (k : RO sl) : StO p (tRet (tVar i)) δ RO := fun Z0 H0 Z σ H Dn s e r => by
  rcases ho with ⟨l, rfl⟩ | ⟨l, rfl⟩
  · obtain ⟨ov, e1, a, xs, rfl, z, n0, hH, rr⟩ := s.slot hi
    exact ⟨_, e1, r a _ H s.le0 n0 (.inl ⟨xs, l, rfl, hH, rr.mono (fun b hb => hb.elim (s.base b) fun e => by rw [e]; exact z) fun _ _ _ q => q⟩) k⟩
  · obtain ⟨ov, e1, a, xs, rfl, z, n0, hH, rr⟩ := s.slot hi
    exact ⟨_, e1, r a _ H s.le0 n0 (.inr ⟨xs, l, rfl, hH, rr.mono (fun b hb => hb.elim (s.base b) fun e => by rw [e]; exact z) fun _ _ _ q => q⟩) k⟩
end
section
variable {P : Program} {w : World} {K : PySem.W.Frag} {mg : Str → Option Value} {base : Heap} {x qual : Str} {params : Arguments} {body : List Stmt} {scope : Scope} {dvs : List V} {kws : List (Str × V)} {f : Addr} {fd : FuncData} {CX : CXT} {N ps : List Str} {k : Nat}
theorem fnO {Fm : FnO} (F : FunD K x qual params body scope dvs kws f fd) (S : FnScope N ps scope) (hl : ∀ G ds R ex, Fm G ds R ex → ds.length = ps.length)
    (hb : ∀ (cdv : Value) (A : Around) (outer : List Env) (s : Shared) (H : Hp) (E : XK) (G : Env1) (ds : List D) (R : Sl → Prop) (ex : Ex1), Room k (A.deeper (envOfC qual scope s.heap.objs.size f cdv)) → Fm G ds R ex →
      ∃ t, PSs (cxOf CX P w K mg base N qual scope f cdv A outer s H E) body t ∧ StO ⟨K, G, E, ex⟩ t (startD N ds) R) : FnOk P w K mg base CX (k + 1) f fd ps (spO K Fm) := by
  refine F.ok S (fun vs H Q E h => ?_) (fun cdv A outer s H vs Q E hr h => ?_)
  · obtain ⟨G, Z, ds, R, ex, env, r, hf, _⟩ := h
    exact r.length.trans (hl _ _ _ _ hf)
  · obtain ⟨G, Z, ds, R, ex, env, r, hf, q, e⟩ := h
    obtain ⟨t, ht, hs⟩ := hb cdv A outer s H E G ds R ex hr hf
    exact ⟨t, ht, hs Z H Z (L2.start N vs) H _ (start_ok env r) e q⟩
end
end WL
end
section
set_option Elab.async false
set_option linter.all false
set_option maxRecDepth 100000
set_option maxHeartbeats 4000000
/-! Comprehensions that map a function, with or without a test. -/
namespace WL
open PySem PySem.Spec PyProof.Rows L2 WX
section
variable {p : Pr} {te : TE} {tt : TT} {δ : List Sl} {R : D → Prop} {RO : Sl → Prop} {wi : TI} {g : TG} {vs : List Nat}
theorem ev_v {i : Nat} (h : ∃ x, δ[i]? = some (.d x) ∧ R x) : EvP p (tVar i) δ R := let ⟨_, h, k⟩ := h; ev_var h k
theorem tg_tu {n : Nat} {gs : TGs} {y : D} {js : List Nat} {k : List Sl → Prop} (h : ∃ ys, y = .tup ys ∧ ys.length = n ∧ TgsS p gs ys δ js k) : TgS p (gTup p.K n gs) y δ js k := let ⟨_, e, hl, h⟩ := h; tg_tup e hl h
theorem st_fl {i : Nat} {f : Str} {o : Po} (h : ∃ a c l, δ[i]? = some (.oins a c l) ∧ Cls p.K (He.ga p.K c) ∧ NoAttr p.K (He.ga p.K c) f ∧ l.length < 1000 ∧ EvP p te δ fun d => o.nx (δ.set i (.oins a c (putD f d l)))) : StP p (sFld p.K (tVar i) te f) δ o :=
  let ⟨_, _, _, h1, h2, h3, h4, h5⟩ := h; st_fld h1 h2 h3 h4 h5
theorem ev_ofl {i : Nat} {f : Str} (h : ∃ a c l y, δ[i]? = some (.oins a c l) ∧ Cls p.K (He.ga p.K c) ∧ NoAttr p.K (He.ga p.K c) f ∧ l.lookup f = some y ∧ R y) : EvP p (tFld p.K (tVar i) f) δ R := let ⟨_, _, _, _, h1, h2, h3, h4, h5⟩ := h; ev_ofld h1 h2 h3 h4 h5
theorem ev_listD (h : EvP p te δ fun x => ∃ l, (x = .lst l ∨ x = .tup l) ∧ R (.lst l)) :
    EvP p (tCB (fun xs H Q => ∃ a ys, xs = [.ref a] ∧ (SqL p.K H a ys ∨ SqT p.K H a ys) ∧ ∀ l, H l = none → Q (.ref l) (upd H l (.lst ys))) (tCons te tNil)) δ R :=
  ev_new (eo_list (h.imp fun x ⟨l, e, k⟩ => ⟨l, e, _, rfl, k⟩))
theorem ei_seqV {i : Nat} {RI : List D → Prop} (h : ∃ q l, δ[i]? = some (.d q) ∧ (q = .lst l ∨ q = .tup l) ∧ RI l) : EvI p (fun σ H R => iList p.K (tVar i) σ H R ∨ iTup p.K (tVar i) σ H R) δ RI := by
  obtain ⟨q, l, h1, h2, k⟩ := h
  rcases h2 with rfl | rfl
  · exact ei_or1 (ei_list (ev_var h1 ⟨_, rfl, k⟩))
  · exact ei_or2 (ei_tup (ev_var h1 ⟨_, rfl, k⟩))
theorem paired_map {f : D → D} : ∀ {l zs : List D}, Paired (fun y z => z = f y) l zs → zs = l.map f
  | _, _, .nil => rfl
  | _, _, .cons e r => by rw [e, paired_map r] <;> rfl
theorem et_yes {RB : Bool → Prop} (k : RB true) : EvT p tYes δ RB := fun Z0 H0 Z σ H Q s e q => q true H (Le.refl _ _) k
theorem eo_map (h : EvI p wi δ fun l => l.length ≤ 50000 ∧ ∃ f : D → D, (∀ y, y ∈ l → TgS p g y (wipeD δ vs) vs fun δ2 => EvP p te δ2 fun z => z = f y) ∧ RO (.own (l.map f))) : EvO p (tLc wi g tYes te vs) δ RO :=
  eo_lc fun Z0 H0 Z σ H R' s e q => h Z0 H0 Z σ H R' s e fun J l H1 l1 it ⟨hl, f, hy, k⟩ => q J l H1 l1 it ⟨hl, fun _ => true, fun y z => z = f y, fun y hm => by
    have h2 := hy y hm
    intro Z0 H0 Z σ H v Q s r k2
    exact h2 Z0 H0 Z σ H v Q s r fun σ' δ' s' e1 e2 e3 => k2 σ' δ' s' e1 e2 (et_yes ⟨rfl, fun _ => e3⟩), fun zs pz => by
      have e1 : l.filter (fun _ => true) = l := List.filter_eq_self.mpr fun _ _ => rfl
      rw [e1] at pz
      rw [paired_map pz]
      exact k⟩
theorem ev_map (h : EvI p wi δ fun l => l.length ≤ 50000 ∧ ∃ f : D → D, (∀ y, y ∈ l → TgS p g y (wipeD δ vs) vs fun δ2 => EvP p te δ2 fun z => z = f y) ∧ R (.lst (l.map f))) : EvP p (tLc wi g tYes te vs) δ R :=
  ev_new (eo_map fun Z0 H0 Z σ H R' s e q => h Z0 H0 Z σ H R' s e fun J l H1 l1 it ⟨hl, f, hy, k⟩ => q J l H1 l1 it ⟨hl, f, hy, _, rfl, k⟩)
theorem eo_mapF (h : EvI p wi δ fun l => l.length ≤ 50000 ∧ ∃ (b : D → Bool) (f : D → D), (∀ y, y ∈ l → TgS p g y (wipeD δ vs) vs fun δ2 => EvT p tt δ2 fun c => c = b y ∧ (c = true → EvP p te δ2 fun z => z = f y)) ∧ RO (.own ((l.filter b).map f))) : EvO p (tLc wi g tt te vs) δ RO :=
  eo_lc fun Z0 H0 Z σ H R' s e q => h Z0 H0 Z σ H R' s e fun J l H1 l1 it ⟨hl, b, f, hy, k⟩ => q J l H1 l1 it ⟨hl, b, fun y z => z = f y, hy, fun zs pz => by
      rw [paired_map pz]
      exact k⟩
theorem ev_mapF (h : EvI p wi δ fun l => l.length ≤ 50000 ∧ ∃ (b : D → Bool) (f : D → D), (∀ y, y ∈ l → TgS p g y (wipeD δ vs) vs fun δ2 => EvT p tt δ2 fun c => c = b y ∧ (c = true → EvP p te δ2 fun z => z = f y)) ∧ R (.lst ((l.filter b).map f))) : EvP p (tLc wi g tt te vs) δ R :=
  ev_new (eo_mapF fun Z0 H0 Z σ H R' s e q => h Z0 H0 Z σ H R' s e fun J l H1 l1 it ⟨hl, b, f, hy, k⟩ => q J l H1 l1 it ⟨hl, b, f, hy, _, rfl, k⟩)
/-- a list of truths, all of them true -/
theorem bls_map {l : List D} {b : D → Bool} : l.map (fun y => D.bl (b y)) = (l.map b).map D.bl := by rw [List.map_map] <;> rfl
end
end WL
/-! rules with the written part by its own name: for a comprehension's block -/
namespace WX
open PySem PySem.Spec PyProof.Rows L2
section
variable {X : Cx} {K : PySem.W.Frag}
theorem cK {b : Value} (r : PySem.W.Frag → List V → Hp → VK → Prop) (h : X.K = K) (c : CallR X b (r X.K)) : CallR X b (r K) := h ▸ c
theorem oK {op : Value → Value → Sem Value} (r : PySem.W.Frag → R2) (h : X.K = K) (c : OpR X op (r X.K)) : OpR X op (r K) := h ▸ c
theorem iK (r : PySem.W.Frag → R2) (h : X.K = K) (c : IxR X (r X.K)) : IxR X (r K) := h ▸ c
theorem sK (r : PySem.W.Frag → V → Option Int → Option Int → Hp → VK → Prop) (h : X.K = K) (c : SlR X (r X.K)) : SlR X (r K) := h ▸ c
theorem fldK {e : Expr} {te : TE} {pos : Pos} {f : Str} (h : X.K = K) (he : PE X e te) (hb : attributeBase e f X.env (eval e X.env) = eval e X.env) : PE X (.Attribute e f pos) (tFld K te f) := h ▸ pe_fld he hb
abbrev rLenK : PySem.W.Frag → List V → Hp → VK → Prop := fun K xs H Q => ∃ x n, xs = [x] ∧ LenV K x H n ∧ Q (.int n) H
abbrev rTupK : PySem.W.Frag → List V → Hp → VK → Prop := fun K xs H Q => ∃ a ys, xs = [.ref a] ∧ ((SqL K H a ys ∧ ∀ l, H l = none → Q (.ref l) (upd H l (.tup ys))) ∨ (SqT K H a ys ∧ Q (.ref a) H))
end
end WX
end
section
set_option Elab.async false
set_option linter.all false
set_option maxRecDepth 100000
set_option maxHeartbeats 1000000
/-! == and != of plain data. -/
namespace WL
open PySem PySem.Spec PyProof.Rows L2 WX
/-- plain data: nothing but none, truths, ints, texts, lists and tuples of such, at most n deep -/
inductive Pl : Nat → D → Prop
  | non {n : Nat} : Pl n .non
  | bl {n : Nat} (b : Bool) : Pl n (.bl b)
  | int {n : Nat} (i : Int) : Pl n (.int i)
  | str {n : Nat} {x : Str} (h : PySem.PyData.strOk x = true) : Pl n (.str x)
  | lst {n : Nat} {l : List D} (h : ∀ x ∈ l, Pl n x) : Pl (n + 1) (.lst l)
  | tup {n : Nat} {l : List D} (h : ∀ x ∈ l, Pl n x) : Pl (n + 1) (.tup l)
theorem pys_of : ∀ {l : List D} {n : Nat}, (∀ x ∈ l, ∃ a, x.py = some a ∧ a.canLay0 = true ∧ a.depth ≤ n) → ∃ as, D.pys l = some as ∧ PyData.canLayAll0 as = true ∧ PyData.depthAll as ≤ n
  | [], n, _ => ⟨[], rfl, rfl, Nat.zero_le _⟩
  | x :: l, n, h => by
    obtain ⟨a, h1, h2, h3⟩ := h x (List.mem_cons_self ..)
    obtain ⟨as, h4, h5, h6⟩ := pys_of (l := l) (n := n) fun y hy => h y (List.mem_cons_of_mem _ hy)
    refine ⟨a :: as, ?_, ?_, ?_⟩
    · show (match D.py x, D.pys l with
        | some a, some b => some (a :: b)
        | _, _ => none) = _
      rw [h1, h4]
    · show (a.canLay0 && PyData.canLayAll0 as) = true
      rw [h2, h5] <;> rfl
    · show max a.depth (PyData.depthAll as) ≤ n
      omega
theorem Pl.py : ∀ {n : Nat} {d : D}, Pl n d → ∃ a, d.py = some a ∧ a.canLay0 = true ∧ a.depth ≤ n
  | _, _, .non => ⟨.none, rfl, rfl, Nat.zero_le _⟩
  | _, _, .bl b => ⟨.bool b, rfl, rfl, Nat.zero_le _⟩
  | _, _, .int i => ⟨.int i, rfl, rfl, Nat.zero_le _⟩
  | _, _, .str h => ⟨.str _, rfl, by simpa [PyData.canLay0] using h, Nat.zero_le _⟩
  | n + 1, .lst l, .lst h => by
    obtain ⟨as, h1, h2, h3⟩ := pys_of (l := l) (n := n) fun x hx => Pl.py (h x hx)
    refine ⟨.list as, ?_, ?_, ?_⟩
    · show (D.pys l).map PyData.list = _
      rw [h1] <;> rfl
    · simpa [PyData.canLay0] using h2
    · simp only [PyData.depth]; omega
  | n + 1, .tup l, .tup h => by
    obtain ⟨as, h1, h2, h3⟩ := pys_of (l := l) (n := n) fun x hx => Pl.py (h x hx)
    refine ⟨.tuple as, ?_, ?_, ?_⟩
    · show (D.pys l).map PyData.tuple = _
      rw [h1] <;> rfl
    · simpa [PyData.canLay0] using h2
    · simp only [PyData.depth]; omega
theorem Pl.shaped {n : Nat} {d : D} (h : Pl n d) (hn : n ≤ 64) : ∃ a, d.py = some a ∧ SeqAt.shaped a = true ∧ PyData.eqv a a = true := by
  obtain ⟨a, h1, h2, h3⟩ := h.py
  refine ⟨a, h1, ?_, SeqAt.eqv_refl a h2⟩
  unfold SeqAt.shaped
  rw [h2, Bool.true_and]
  exact decide_eq_true (by omega)
/-- no truth in it -/
inductive Pn : D → Prop
  | non : Pn .non
  | int (i : Int) : Pn (.int i)
  | str (x : Str) : Pn (.str x)
  | lst {l : List D} (h : ∀ x ∈ l, Pn x) : Pn (.lst l)
  | tup {l : List D} (h : ∀ x ∈ l, Pn x) : Pn (.tup l)
mutual
theorem eqv_sound : ∀ {x y : D} {a b : PyData}, Pn x → Pn y → x.py = some a → y.py = some b → PyData.eqv a b = true → x = y
  | .non, y, a, b, _, hy, e1, e2, e => by
    cases e1
    cases hy with
    | non => rfl
    | int i => cases e2; simp [PyData.eqv] at e
    | str z => cases e2; simp [PyData.eqv] at e
    | lst h =>
      rename_i l
      have e3 : (D.pys l).map PyData.list = some b := e2
      cases q : D.pys l with
      | none => rw [q] at e3; cases e3
      | some c => rw [q] at e3; cases e3; simp [PyData.eqv] at e
    | tup h =>
      rename_i l
      have e3 : (D.pys l).map PyData.tuple = some b := e2
      cases q : D.pys l with
      | none => rw [q] at e3; cases e3
      | some c => rw [q] at e3; cases e3; simp [PyData.eqv] at e
  | .int i, y, a, b, _, hy, e1, e2, e => by
    cases e1
    cases hy with
    | non => cases e2; simp [PyData.eqv] at e
    | int j => cases e2; simp [PyData.eqv] at e; rw [e]
    | str z => cases e2; simp [PyData.eqv] at e
    | lst h =>
      rename_i l
      have e3 : (D.pys l).map PyData.list = some b := e2
      cases q : D.pys l with
      | none => rw [q] at e3; cases e3
      | some c => rw [q] at e3; cases e3; simp [PyData.eqv] at e
    | tup h =>
      rename_i l
      have e3 : (D.pys l).map PyData.tuple = some b := e2
      cases q : D.pys l with
      | none => rw [q] at e3; cases e3
      | some c => rw [q] at e3; cases e3; simp [PyData.eqv] at e
  | .str i, y, a, b, _, hy, e1, e2, e => by
    cases e1
    cases hy with
    | non => cases e2; simp [PyData.eqv] at e
    | int j => cases e2; simp [PyData.eqv] at e
    | str z => cases e2; simp [PyData.eqv] at e; rw [e]
    | lst h =>
      rename_i l
      have e3 : (D.pys l).map PyData.list = some b := e2
      cases q : D.pys l with
      | none => rw [q] at e3; cases e3
      | some c => rw [q] at e3; cases e3; simp [PyData.eqv] at e
    | tup h =>
      rename_i l
      have e3 : (D.pys l).map PyData.tuple = some b := e2
      cases q : D.pys l with
      | none => rw [q] at e3; cases e3
      | some c => rw [q] at e3; cases e3; simp [PyData.eqv] at e
  | .lst l, y, a, b, hx, hy, e1, e2, e => by
    have e4 : (D.pys l).map PyData.list = some a := e1
    cases q1 : D.pys l with
    | none => rw [q1] at e4; cases e4
    | some as =>
      rw [q1] at e4
      cases e4
      cases hx with
      | lst hx =>
        cases hy with
        | non => cases e2; simp [PyData.eqv] at e
        | int j => cases e2; simp [PyData.eqv] at e
        | str z => cases e2; simp [PyData.eqv] at e
        | lst h =>
          rename_i m
          have e3 : (D.pys m).map PyData.list = some b := e2
          cases q : D.pys m with
          | none => rw [q] at e3; cases e3
          | some c =>
            rw [q] at e3
            cases e3
            rw [eqvs_sound hx h q1 q (by simpa [PyData.eqv] using e)]
        | tup h =>
          rename_i m
          have e3 : (D.pys m).map PyData.tuple = some b := e2
          cases q : D.pys m with
          | none => rw [q] at e3; cases e3
          | some c => rw [q] at e3; cases e3; simp [PyData.eqv] at e
  | .tup l, y, a, b, hx, hy, e1, e2, e => by
    have e4 : (D.pys l).map PyData.tuple = some a := e1
    cases q1 : D.pys l with
    | none => rw [q1] at e4; cases e4
    | some as =>
      rw [q1] at e4
      cases e4
      cases hx with
      | tup hx =>
        cases hy with
        | non => cases e2; simp [PyData.eqv] at e
        | int j => cases e2; simp [PyData.eqv] at e
        | str z => cases e2; simp [PyData.eqv] at e
        | tup h =>
          rename_i m
          have e3 : (D.pys m).map PyData.tuple = some b := e2
          cases q : D.pys m with
          | none => rw [q] at e3; cases e3
          | some c =>
            rw [q] at e3
            cases e3
            rw [eqvs_sound hx h q1 q (by simpa [PyData.eqv] using e)]
        | lst h =>
          rename_i m
          have e3 : (D.pys m).map PyData.list = some b := e2
          cases q : D.pys m with
          | none => rw [q] at e3; cases e3
          | some c => rw [q] at e3; cases e3; simp [PyData.eqv] at e
theorem eqvs_sound : ∀ {l m : List D} {as bs : List PyData}, (∀ x ∈ l, Pn x) → (∀ x ∈ m, Pn x) → D.pys l = some as → D.pys m = some bs → PyData.eqvAll as bs = true → l = m
  | [], [], _, _, _, _, _, _, _ => rfl
  | [], y :: m, as, bs, _, _, e1, e2, e => by
    cases e1
    have e3 : (match D.py y, D.pys m with
      | some a, some b => some (a :: b)
      | _, _ => none) = some bs := e2
    cases q : D.py y with
    | none => rw [q] at e3; cases e3
    | some c =>
      cases q2 : D.pys m with
      | none => rw [q, q2] at e3; cases e3
      | some cs => rw [q, q2] at e3; cases e3; simp [PyData.eqvAll] at e
  | x :: l, [], as, bs, _, _, e1, e2, e => by
    cases e2
    have e3 : (match D.py x, D.pys l with
      | some a, some b => some (a :: b)
      | _, _ => none) = some as := e1
    cases q : D.py x with
    | none => rw [q] at e3; cases e3
    | some c =>
      cases q2 : D.pys l with
      | none => rw [q, q2] at e3; cases e3
      | some cs => rw [q, q2] at e3; cases e3; simp [PyData.eqvAll] at e
  | x :: l, y :: m, as, bs, hx, hy, e1, e2, e => by
    have e3 : (match D.py x, D.pys l with
      | some a, some b => some (a :: b)
      | _, _ => none) = some as := e1
    have e4 : (match D.py y, D.pys m with
      | some a, some b => some (a :: b)
      | _, _ => none) = some bs := e2
    cases q : D.py x with
    | none => rw [q] at e3; cases e3
    | some c =>
      cases q2 : D.pys l with
      | none => rw [q, q2] at e3; cases e3
      | some cs =>
        rw [q, q2] at e3
        cases e3
        cases q3 : D.py y with
        | none => rw [q3] at e4; cases e4
        | some c' =>
          cases q4 : D.pys m with
          | none => rw [q3, q4] at e4; cases e4
          | some cs' =>
            rw [q3, q4] at e4
            cases e4
            have e5 : (PyData.eqv c c' && PyData.eqvAll cs cs') = true := by simpa [PyData.eqvAll] using e
            rw [Bool.and_eq_true_iff] at e5
            rw [eqv_sound (hx x (List.mem_cons_self ..)) (hy y (List.mem_cons_self ..)) q q3 e5.1, eqvs_sound (fun z hz => hx z (List.mem_cons_of_mem _ hz)) (fun z hz => hy z (List.mem_cons_of_mem _ hz)) q2 q4 e5.2]
end
section
variable {p : Pr} {ta tb : TE} {δ : List Sl} {R : D → Prop}
theorem ev_eqS (h : EvP p ta δ fun x => EvP p tb δ fun y => x = y ∧ Pl 64 x ∧ R (.bl true)) : EvP p (tOp (rEqD p.K) ta tb) δ R := ev_eqD (h.imp fun x hx => hx.imp fun y ⟨e, hp, k⟩ => by
  subst e
  obtain ⟨a, h1, h2, h3⟩ := hp.shaped (Nat.le_refl _)
  exact ⟨a, a, h1, h1, h2, h2, by rw [h3]; exact k⟩)
theorem ev_neS (h : EvP p ta δ fun x => EvP p tb δ fun y => x = y ∧ Pl 64 x ∧ R (.bl false)) : EvP p (tOp (rNeD p.K) ta tb) δ R := ev_neD (h.imp fun x hx => hx.imp fun y ⟨e, hp, k⟩ => by
  subst e
  obtain ⟨a, h1, h2, h3⟩ := hp.shaped (Nat.le_refl _)
  exact ⟨a, a, h1, h1, h2, h2, by rw [h3]; exact k⟩)
theorem ev_eqN (h : EvP p ta δ fun x => EvP p tb δ fun y => (Pl 64 x ∧ Pn x) ∧ (Pl 64 y ∧ Pn y) ∧ (x = y → R (.bl true)) ∧ (x ≠ y → R (.bl false))) : EvP p (tOp (rEqD p.K) ta tb) δ R := ev_eqD (h.imp fun x hx => hx.imp fun y ⟨⟨p1, n1⟩, ⟨p2, n2⟩, k1, k2⟩ => by
  obtain ⟨a, h1, h2, h3⟩ := p1.shaped (Nat.le_refl _)
  obtain ⟨b, h4, h5, h6⟩ := p2.shaped (Nat.le_refl _)
  refine ⟨a, b, h1, h4, h2, h5, ?_⟩
  cases q : PyData.eqv a b with
  | true => exact k1 (eqv_sound n1 n2 h1 h4 q)
  | false =>
    refine k2 fun e => ?_
    subst e
    have h7 : a = b := Option.some.inj (h1.symm.trans h4)
    subst h7
    exact Bool.noConfusion (q.symm.trans h3))
theorem ev_neN (h : EvP p ta δ fun x => EvP p tb δ fun y => (Pl 64 x ∧ Pn x) ∧ (Pl 64 y ∧ Pn y) ∧ (x = y → R (.bl false)) ∧ (x ≠ y → R (.bl true))) : EvP p (tOp (rNeD p.K) ta tb) δ R := ev_neD (h.imp fun x hx => hx.imp fun y ⟨⟨p1, n1⟩, ⟨p2, n2⟩, k1, k2⟩ => by
  obtain ⟨a, h1, h2, h3⟩ := p1.shaped (Nat.le_refl _)
  obtain ⟨b, h4, h5, h6⟩ := p2.shaped (Nat.le_refl _)
  refine ⟨a, b, h1, h4, h2, h5, ?_⟩
  cases q : PyData.eqv a b with
  | true => exact k1 (eqv_sound n1 n2 h1 h4 q)
  | false =>
    refine k2 fun e => ?_
    subst e
    have h7 : a = b := Option.some.inj (h1.symm.trans h4)
    subst h7
    exact Bool.noConfusion (q.symm.trans h3))
theorem reps_strs {K : PySem.W.Frag} {Z : Addr → Prop} {H : Hp} : ∀ ss : List Str, Reps K Z H (ss.map V.str) (ss.map D.str)
  | [] => .nil
  | x :: r => .cons (.str x) (reps_strs r)
/-- a written tuple of texts, by its name -/
theorem ev_kstr {a : Addr} {ss : List Str} (h : KT p.K a (ss.map V.str)) (k : R (.tup (ss.map D.str))) : EvP p (tC (.ref a)) δ R := ev_ktup h (fun _ _ => reps_strs ss) k
end
end WL
end
section
set_option Elab.async false
set_option linter.all false
set_option maxRecDepth 100000
set_option maxHeartbeats 1000000
/-! The draws: the state list and the script, by their raw addresses. -/
namespace WL
open PySem PySem.Spec PyProof.Rows L2 WX
theorem ifd {P A B : Prop} {i : Decidable P} (h : P → A) (k : ¬ P → B) : if @decide P i = true then A else B := by
  by_cases q : P
  · rw [if_pos (decide_eq_true q)]; exact h q
  · rw [if_neg (by rw [decide_eq_false q]; decide)]; exact k q
theorem pos_of {j : Int} (h : 0 < j) : 0 < j := h
theorem cdiv_of {i j : Int} (h : 0 < j) (h2 : j < 1073741824) : CDiv i j := ⟨h, h2⟩
theorem cmul_l {i j : Int} (h : -18446744073709551616 < i) (h2 : i < 18446744073709551616) : CMul i j := .inl ⟨h, h2⟩
theorem cmul_r {i j : Int} (h : -18446744073709551616 < j) (h2 : j < 18446744073709551616) : CMul i j := .inr ⟨h, h2⟩
section
variable {p : Pr} {tb te : TE} {δ : List Sl} {R : D → Prop} {o : Po} {sc st : Addr}
theorem RepS.raw {K : PySem.W.Frag} {G : Env1} {Z0 Z : Addr → Prop} {H0 H : Hp} {σ : L2.St} {i : Nat} {a : Addr} (s : RepS K G Z0 H0 Z H σ δ) (h : δ[i]? = some (.d (.raw a))) : σ[i]? = some (some (.ref a)) := by
  obtain ⟨v, e, r⟩ := s.var h
  cases r
  exact e
/-- state[j] -/
theorem ev_drix {i : Nat} (hG : p.G.dr = some (sc, st)) (hi : δ[i]? = some (.d (.raw st))) (h : EvP p tb δ fun y => ∃ j : Int, y = .int j ∧ 0 ≤ j ∧ j < 4 ∧ ∀ n, R (.int n)) : EvP p (tOp (rIxL p.K) (tVar i) tb) δ R :=
  fun Z0 H0 Z σ H Q s e q => by
    refine ⟨_, s.raw hi, h.run s e fun w y H1 l1 r1 ⟨j, ey, j0, j1, k⟩ => ?_⟩
    subst ey
    cases r1
    obtain ⟨a, b, c, d, hst⟩ := ((s.env.le l1).dr _ hG).1.2
    have hj : j = 0 ∨ j = 1 ∨ j = 2 ∨ j = 3 := by omega
    rcases hj with rfl | rfl | rfl | rfl
    · exact ⟨st, _, _, _, rfl, rfl, SqL.of hst, rfl, q _ _ H1 l1 (.int a) (k a)⟩
    · exact ⟨st, _, _, _, rfl, rfl, SqL.of hst, rfl, q _ _ H1 l1 (.int b) (k b)⟩
    · exact ⟨st, _, _, _, rfl, rfl, SqL.of hst, rfl, q _ _ H1 l1 (.int c) (k c)⟩
    · exact ⟨st, _, _, _, rfl, rfl, SqL.of hst, rfl, q _ _ H1 l1 (.int d) (k d)⟩
/-- state[j] = e -/
theorem st_drset {i : Nat} {j : Int} (hG : p.G.dr = some (sc, st)) (hi : δ[i]? = some (.d (.raw st))) (j0 : 0 ≤ j) (j1 : j < 4) (h : EvP p te δ fun d => ∃ n, d = .int n ∧ o.nx δ) : StP p (tAsg te (gSub (tVar i) (tC (.int j)) rSetL)) δ o :=
  fun Z0 H0 Z σ H Dn s e n r b c => h.run s e fun v d H1 l1 r1 ⟨m, ed, k⟩ => by
    subst ed
    cases r1
    have s1 := s.le l1
    obtain ⟨x0, x1, x2, x3, hst⟩ := (s1.env.dr _ hG).1.2
    have sp : p.G.sp st := .inl ⟨_, hG, rfl⟩
    have hj : ∃ t : Nat, j = t ∧ t < 4 := ⟨j.toNat, by omega, by omega⟩
    obtain ⟨t, rfl, ht⟩ := hj
    have hix : ixN ([V.int x0, V.int x1, V.int x2, V.int x3] : List V).length ((t : Nat) : Int) = some t := by
      unfold ixN
      rw [if_pos (by omega), if_pos (by show (t : Int) < 4; omega)]
      simp
    have hok : StOk (some (.lst (([V.int x0, V.int x1, V.int x2, V.int x3] : List V).set t (.int m)))) := by
      have hj : t = 0 ∨ t = 1 ∨ t = 2 ∨ t = 3 := by omega
      rcases hj with rfl | rfl | rfl | rfl
      · exact ⟨m, x1, x2, x3, rfl⟩
      · exact ⟨x0, m, x2, x3, rfl⟩
      · exact ⟨x0, x1, m, x3, rfl⟩
      · exact ⟨x0, x1, x2, m, rfl⟩
    have l2 : Le p.G H1 (upd H1 st (.lst (([V.int x0, V.int x1, V.int x2, V.int x3] : List V).set t (.int m)))) := by
      refine ⟨fun a ob na ha => ?_, fun q hq _ => ?_, fun q hq tb => ?_⟩
      · rw [upd_ne (fun z => na (by rw [z]; exact sp))]; exact ha
      · rw [hG] at hq
        cases hq
        rw [upd_same]
        exact hok
      · refine tabs_upd tb (fun z => ?_) fun c hc z => ?_
        · obtain ⟨ps, hp, _⟩ := tb
          rw [z, hst] at hp
          cases hp
        · rw [z, hst] at hc
          exact absurd (Option.some.inj hc) (by unfold LamX.CodeO; exact fun y => nomatch y)
    exact ⟨_, s1.raw hi, st, _, _, t, rfl, rfl, hst, hix, n Z σ δ _ ((Go.le l1 s.env.zin).trans (Go.le l2 s1.env.zin)) (s1.le l2) k⟩
/-- len(script) -/
theorem ev_sclen {i : Nat} (hG : p.G.dr = some (sc, st)) (hi : δ[i]? = some (.d (.raw sc))) (k : R (.int p.G.ns.length)) : EvP p (tCB (fun xs H Q => ∃ x n, xs = [x] ∧ LenV p.K x H n ∧ Q (.int n) H) (tCons (tVar i) tNil)) δ R :=
  fun Z0 H0 Z σ H Q s e q => by
    obtain ⟨⟨hs, hl⟩, _⟩ := (s.env.dr _ hG).1
    exact ⟨_, s.raw hi, _, _, rfl, .inl ⟨_, hs, by rw [List.length_map]⟩, q _ _ H (Le.refl _ _) (.int _) k⟩
/-- script[j] -/
theorem ev_scix {i : Nat} (hG : p.G.dr = some (sc, st)) (hi : δ[i]? = some (.d (.raw sc))) (h : EvP p tb δ fun y => ∃ j : Int, y = .int j ∧ 0 ≤ j ∧ j < p.G.ns.length ∧ ∀ n, R (.int n)) : EvP p (tOp (rIxL p.K) (tVar i) tb) δ R :=
  fun Z0 H0 Z σ H Q s e q => by
    refine ⟨_, s.raw hi, h.run s e fun w y H1 l1 r1 ⟨j, ey, j0, j1, k⟩ => ?_⟩
    subst ey
    cases r1
    obtain ⟨⟨hs, hl⟩, _⟩ := ((s.env.le l1).dr _ hG).1
    have hj : j.toNat < p.G.ns.length := by omega
    refine ⟨sc, _, _, .int (p.G.ns[j.toNat]), rfl, rfl, hs, ?_, q _ _ H1 l1 (.int _) (k _)⟩
    unfold atI
    have e1 : ixN (p.G.ns.map V.int).length j = some j.toNat := by
      unfold ixN
      rw [if_pos j0, if_pos (by rw [List.length_map]; exact j1)]
    rw [e1]
    show (p.G.ns.map V.int)[j.toNat]? = _
    rw [List.getElem?_map, List.getElem?_eq_getElem hj] <;> rfl
theorem st_ifA {t : TT} {st' su : TS} (h : EvT p t δ fun _ => True) (h1 : StP p st' δ o) (h2 : StP p su δ o) : StP p (tIfS t st' su) δ o := st_if (h.imp fun b _ => by
  cases b with
  | true => exact h1
  | false => exact h2)
/-- what stands behind an if sees one frame alone -/
theorem st_mid {st' su : TS} (M : List Sl → Prop) (h1 : StP p st' δ { o with nx := M }) (h2 : ∀ δ', M δ' → StP p su δ' o) : StP p (tSeq st' su) δ o := st_seq (h1.imp h2 (fun _ h => h) (fun _ h => h) fun _ h => h)
theorem ev_intI (h : EvP p te δ fun x => ∃ i, x = .int i ∧ R (.int i)) : EvP p (tCB (fun xs H Q => (∃ i, xs = [.int i] ∧ Q (.int i) H) ∨ ∃ k, xs = [.bl k] ∧ Q (.int (if k then 1 else 0)) H) (tCons te tNil)) δ R := ev_int1 (h.imp fun _ h => .inl h)
theorem ev_drixV {i : Nat} (h : ∃ sc st, δ[i]? = some (.d (.raw st)) ∧ p.G.dr = some (sc, st) ∧ EvP p tb δ fun y => ∃ j : Int, y = .int j ∧ 0 ≤ j ∧ j < 4 ∧ ∀ n, R (.int n)) : EvP p (tOp (rIxL p.K) (tVar i) tb) δ R :=
  let ⟨_, _, h1, h2, h3⟩ := h; ev_drix h2 h1 h3
theorem ev_sclenV {i : Nat} (h : ∃ sc st, δ[i]? = some (.d (.raw sc)) ∧ p.G.dr = some (sc, st) ∧ R (.int p.G.ns.length)) : EvP p (tCB (fun xs H Q => ∃ x n, xs = [x] ∧ LenV p.K x H n ∧ Q (.int n) H) (tCons (tVar i) tNil)) δ R :=
  let ⟨_, _, h1, h2, h3⟩ := h; ev_sclen h2 h1 h3
theorem ev_scixV {i : Nat} (h : ∃ sc st, δ[i]? = some (.d (.raw sc)) ∧ p.G.dr = some (sc, st) ∧ EvP p tb δ fun y => ∃ j : Int, y = .int j ∧ 0 ≤ j ∧ j < p.G.ns.length ∧ ∀ n, R (.int n)) : EvP p (tOp (rIxL p.K) (tVar i) tb) δ R :=
  let ⟨_, _, h1, h2, h3⟩ := h; ev_scix h2 h1 h3
theorem st_drsetV {i : Nat} {j : Int} (h : ∃ sc st, δ[i]? = some (.d (.raw st)) ∧ p.G.dr = some (sc, st) ∧ 0 ≤ j ∧ j < 4 ∧ EvP p te δ fun d => ∃ n, d = .int n ∧ o.nx δ) : StP p (tAsg te (gSub (tVar i) (tC (.int j)) rSetL)) δ o :=
  let ⟨_, _, h1, h2, h3, h4, h5⟩ := h; st_drset h2 h1 h3 h4 h5
end
end WL
end
section
set_option Elab.async false
set_option linter.all false
set_option maxRecDepth 100000
set_option maxHeartbeats 2000000
/-! try with several except clauses, each with or without a name; a lambda handed to a def of the text, told by what it may change. -/
namespace WX
open PySem PySem.Spec PyProof.Rows L2
/-- the suite's ends where its name goes -/
def dropE (i : Nat) (D : Ends) : Ends := { nx := fun σ' H' => D.nx (σ'.set i none) H', rt := D.rt, bk := fun σ' H' => D.bk (σ'.set i none) H', ct := fun σ' H' => D.ct (σ'.set i none) H' }
/-- one clause: its class, its name's slot, its suite -/
structure Cl where
  c : Value
  i : Option Nat
  ts : Addr → Value → Option Addr → TS
def Cl.go (l : Cl) (a : Addr) (cls : Value) (d : Option Addr) (D : Ends) (σ : L2.St) (H : Hp) : Prop := match l.i with
  | some i => l.ts a cls d (dropE i D) (σ.set i (some (.ref a))) H
  | none => l.ts a cls d D σ H
/-- what the clauses wish, one behind the other -/
def wCls (K : PySem.W.Frag) (Wout : WX) (D : Ends) : List Cl → WX
  | [] => Wout
  | l :: r => fun cls d σ H => ∃ b, PySem.W.exmOne K cls l.c = some b ∧ (b = true → ∀ a, H a = none → l.go a cls d D σ H) ∧ (b = false → wCls K Wout D r cls d σ H)
inductive ClsOk (X : Cx) : List ExceptHandler → List Cl → Prop
  | nil : ClsOk X [] []
  | bare {x : Str} {c : Value} {ts : Addr → Value → Option Addr → TS} {b₀ : Stmt} {suite : List Stmt} {np q : Pos} {hds : List ExceptHandler} {l : List Cl} (hc : Names X x c)
      (hsu : ∀ (a : Addr) (oe : Obj) (cls : Value) (d : Option Addr) (pn : List (Addr × Obj)), Zc cls d oe → (∃ vs, oe.data = .fields vs) → PSs (X.suite a ((a, oe) :: pn)) (b₀ :: suite) (ts a cls d)) (r : ClsOk X hds l) :
      ClsOk X (.ExceptHandler (some (.Name x np)) none (b₀ :: suite) q :: hds) (⟨c, none, ts⟩ :: l)
  | as {x n : Str} {i : Nat} {c : Value} {ts : Addr → Value → Option Addr → TS} {b₀ : Stmt} {suite : List Stmt} {np q : Pos} {hds : List ExceptHandler} {l : List Cl} (hi : X.N[i]? = some n) (hln : X.env.kindOf n = some .local) (hc : Names X x c)
      (hsu : ∀ (a : Addr) (oe : Obj) (cls : Value) (d : Option Addr) (pn : List (Addr × Obj)), Zc cls d oe → (∃ vs, oe.data = .fields vs) → PSs (X.suite a ((a, oe) :: pn)) (b₀ :: suite) (ts a cls d)) (r : ClsOk X hds l) :
      ClsOk X (.ExceptHandler (some (.Name x np)) (some n) (b₀ :: suite) q :: hds) (⟨c, some i, ts⟩ :: l)
section
variable {X : Cx} {body : List Stmt} {h₀ : ExceptHandler} {hds : List ExceptHandler} {l : List Cl} {pos : Pos} {tb : WX → TS} {Wout : WX}
theorem ps_try_cls (hs : X.stack = X.env :: X.outer) (hf : X.env.frame = some X.env.locals) (hN : X.N.Nodup) (tk : Takes X Wout)
    (hb : ∀ (W : WX) (pn : List (Addr × Obj)) (xe : Value → Shared → Prop), Takes (X.tr pn xe) W → PassesOwn (model X.prog X.w) X.A X.env xe → PSs (X.tr pn xe) body (tb W))
    (hh : ClsOk X (h₀ :: hds) l) : PS X (.Try body (h₀ :: hds) [] [] pos) (fun D σ H => tb (wCls X.K Wout D l) D σ H) := by
  refine ⟨fun pins s σ H D I rd => ?_⟩
  have okX := I.ok
  have frX : X.A.frames = some (X.env :: X.outer) := okX.frames.trans (congrArg some hs)
  refine wpAny_Try_except (wpAny_mono ((hb (wCls X.K Wout D l) (X.pn ++ pins) (fun e sa => wpAny (model X.prog X.w) X.A (noteFrame e X.env) (fun _ sb => wpAny (model X.prog X.w) X.A (setFlight e none) (fun _ sc =>
    wpAny (model X.prog X.w) X.A (handleBy e X.env (h₀ :: hds)) (SP X pins D) X.xe sc) X.xe sb) X.xe sa) (fun u s' thrown => ?_) PassesOwn.looking).run [] s σ H D (I.toTry _) rd) (fun f s1 good => ?_) (fun e s1 he => he))
  · obtain ⟨a, B, sI, pins', σ', H', cls, d, rfl, Jt, nb, up, sky, na, os, ag, wish⟩ := thrown
    have J : Inv X pins σ' H' sI := Jt.ofTry okX
    have skyX : Sky B (X.env :: X.outer) a (Zc cls d) X.env.locals s'.heap := hs ▸ sky
    show wpAny (model X.prog X.w) X.A (noteFrame (.ref a) X.env) _ _ _
    refine Sky.land Zc.steady frX hf skyX fun hp3 fl3 up3 => ?_
    have J3 : Inv X pins σ' H' { s' with heap := hp3 } := J.landed nb fl3.1 (up.trans up3) os ag
    obtain ⟨o3, vs3, he3, hz3, hd3⟩ := fl3.there
    have nfr : a ∉ frs (X.env :: X.outer) := fun hm => by
      obtain ⟨_, o', e', hnf⟩ := (fl3.2.2.1).mem hm
      obtain rfl : o3 = o' := Option.some.inj (he3.symm.trans e')
      exact hnf _ hd3
    have nL : a ≠ X.env.locals := fun z => nfr (List.mem_filterMap.mpr ⟨X.env, List.mem_cons_self, hf.trans (congrArg some z.symm)⟩)
    have nF : a ∉ X.fs := fun hm => by
      obtain ⟨e, he, q⟩ := List.mem_filterMap.mp hm
      exact nfr (List.mem_filterMap.mpr ⟨e, List.mem_cons_of_mem _ he, q⟩)
    have S3 := J3.suite he3 hd3 na nL nF
    have LT : PySem.W.Looks (model X.prog X.w) hp3 (typeOf (.ref a)) cls := fun A Q E s k q => wpAny_typeOf_ref (k _ _ he3) (hz3.1.symm ▸ q)
    have named : ∀ {x : Str} {c : Value} {np : Pos} {Q : Value → Shared → Prop} {E : Value → Shared → Prop}, Names X x c → Q c { s' with heap := hp3 } → wpAny (model X.prog X.w) (X.A.mark (some (.ref a))) (eval (.Name x np) X.env) Q E { s' with heap := hp3 } := fun {x c np Q E} hc q => by
      obtain ⟨hg, hdbg, hm | ⟨hm, hv, hnn⟩⟩ := hc
      · exact ld_glob (X := X.suite a ((a, o3) :: (X.pn ++ pins))) S3 hg hm q hdbg
      · exact ld_blt (X := X.suite a ((a, o3) :: (X.pn ++ pins))) S3 hg hm hv q hnn hdbg
    have walk : ∀ {hds' : List ExceptHandler} {l' : List Cl}, ClsOk X hds' l' → wCls X.K Wout D l' cls d σ' H' →
        wpAny (model X.prog X.w) X.A (handleBy (.ref a) X.env hds') (SP X pins D) X.xe { s' with heap := hp3 } := by
      intro hds' l' hk
      induction hk with
      | nil =>
        intro w
        refine wpAny_handleBy_nil ?_
        obtain ⟨k1, k2, k3, oe, vs, T, oT, ts', he, hz, hd, h1, hr⟩ := id fl3
        unfold PySem.passOn
        refine wpAny_bind (wpAny_field he hd h1 ?_)
        rw [if_neg (show ¬ ((Value.ref T == Value.none) = true) by simp)]
        have out : wpAny (model X.prog X.w) X.A (setFlight (.ref a) X.env.frame) (fun _ s4 => wpAny (model X.prog X.w) X.A (throw (.ref a) : Sem Flow) (SP X pins D) X.xe s4) X.xe { s' with heap := hp3 } := by
          rw [hf]
          exact HandSPX.setFlight_upZ fl3 fun hp4 fl4 up4 => wpAny_throw (tk _ _ ⟨a, B, sI, pins, σ', H', cls, d, rfl, J, nb, (up.trans up3).trans up4, .inr (.inr (hs.symm ▸ fl4)), na, os, ag, w⟩)
        first
          | exact wpAny_bind (wpAny_pure (wpAny_bind out))
          | exact wpAny_bind out
      | @bare x c ts b₀ suite np q0 hds2 l2 hc hsu r ih =>
        intro w
        obtain ⟨b, hb1, hyes, hno⟩ := w
        have LM := PySem.W.exm_one (M := model X.prog X.w) (J3.kIn) LT hb1
        refine wpAny_handleBy_cons (codeAny_handlers_test ?_) (by intro q; cases q)
        refine named hc (LM.here ?_)
        cases b with
        | false => exact ih (hno rfl)
        | true =>
          refine codeAny_handlers_suite (HandSPX.lands_againZ fl3 fun hp4 fl4 up4 => ?_)
          have J4 : Inv X pins σ' H' { s' with heap := hp4 } := J.landed nb fl4.1 ((up.trans up3).trans up4) os ag
          obtain ⟨o4, vs4, he4, hz4, hd4⟩ := fl4.there
          have S4 := J4.suite he4 hd4 na nL nF
          refine wpAny_mono ((hsu a o4 cls d (X.pn ++ pins) hz4 ⟨_, hd4⟩).run [] _ _ H' _ S4 (hyes rfl a na)) (fun f s6 hsp => ?_) (fun _ _ z => False.elim z)
          cases f with
          | next => obtain ⟨σ6, H6, S6, q6⟩ := hsp; exact ⟨_, _, S6.unsuite okX, q6⟩
          | brk => obtain ⟨σ6, H6, S6, q6⟩ := hsp; exact ⟨_, _, S6.unsuite okX, q6⟩
          | cont => obtain ⟨σ6, H6, S6, q6⟩ := hsp; exact ⟨_, _, S6.unsuite okX, q6⟩
          | ret u => obtain ⟨v6, σ6, H6, S6, r6, q6⟩ := hsp; exact ⟨_, _, _, S6.unsuite okX, r6, q6⟩
      | @as x n i c ts b₀ suite np q0 hds2 l2 hi hln hc hsu r ih =>
        intro w
        obtain ⟨b, hb1, hyes, hno⟩ := w
        have LM := PySem.W.exm_one (M := model X.prog X.w) (J3.kIn) LT hb1
        have hloc : Loc X.env.scope n := .inl hln
        refine wpAny_handleBy_cons (codeAny_handlers_test ?_) (by intro q; cases q)
        refine named hc (LM.here ?_)
        cases b with
        | false => exact ih (hno rfl)
        | true =>
          refine codeAny_handlers_suite_as (HandSPX.lands_againZ fl3 fun hp4 fl4 up4 => ?_)
          have J4 : Inv X pins σ' H' { s' with heap := hp4 } := J.landed nb fl4.1 ((up.trans up3).trans up4) os ag
          obtain ⟨o4, vs4, he4, hz4, hd4⟩ := fl4.there
          have S4 := J4.suite he4 hd4 na nL nF
          refine store_ok (X := X.suite a ((a, o4) :: (X.pn ++ pins))) (v := .ref a) S4 hN hi hloc rfl (fun s5 S5 => ?_) (.inr hln)
          refine wpAny_mono ((hsu a o4 cls d (X.pn ++ pins) hz4 ⟨_, hd4⟩).run [] s5 _ H' _ S5 (hyes rfl a na)) (fun f s6 hsp => ?_) (fun _ _ z => False.elim z)
          have gone : ∀ {σ6 : L2.St} {H6 : Hp} {Q : Shared → Prop}, Inv (X.suite a ((a, o4) :: (X.pn ++ pins))) [] σ6 H6 s6 → (∀ s7, Inv X pins (σ6.set i none) H6 s7 → Q s7) →
              wpAny (model X.prog X.w) X.A (do bindName X.env n .none; unbindBehindTheSuite X.env n q0) (fun _ s7 => Q s7) X.xe s6 := fun {σ6 H6 Q} S6 hq => gone_ok (S6.unsuite okX) hN hi hln hq
          cases f with
          | next => obtain ⟨σ6, H6, S6, q6⟩ := hsp; exact gone S6 fun s7 J7 => ⟨_, _, J7, q6⟩
          | brk => obtain ⟨σ6, H6, S6, q6⟩ := hsp; exact gone S6 fun s7 J7 => ⟨_, _, J7, q6⟩
          | cont => obtain ⟨σ6, H6, S6, q6⟩ := hsp; exact gone S6 fun s7 J7 => ⟨_, _, J7, q6⟩
          | ret u => obtain ⟨v6, σ6, H6, S6, r6, q6⟩ := hsp; exact gone S6 fun s7 J7 => ⟨_, _, _, J7, r6, q6⟩
    exact walk hh wish
  · cases f with
    | next => obtain ⟨σ', H', J', q⟩ := good; exact wpAny_execs_nil ⟨σ', H', J'.ofTry okX, q⟩
    | brk => obtain ⟨σ', H', J', q⟩ := good; exact ⟨σ', H', J'.ofTry okX, q⟩
    | cont => obtain ⟨σ', H', J', q⟩ := good; exact ⟨σ', H', J'.ofTry okX, q⟩
    | ret u => obtain ⟨v, σ', H', J', r, q⟩ := good; exact ⟨v, σ', H', J'.ofTry okX, r, q⟩
end
end WX
end
section
set_option Elab.async false
set_option linter.all false
set_option maxRecDepth 100000
set_option maxHeartbeats 2000000
/-! A lambda handed to a def of the text: all but its maker's table is kept. -/
namespace WX
open PySem PySem.Spec PyProof.Rows L2 LamX
/-- all but P is kept -/
def But (P : Addr) (H H' : Hp) : Prop := ∀ b o, b ≠ P → H b = some o → H' b = some o
theorem But.tab {P P' : Addr} {q q' : Str} {H H' : Hp} (k : But P H H') (h : TabS H P q) (t : TabS H P' q') (ne : P' ≠ P) : TabS H' P' q' := by
  obtain ⟨ps, h1, h2, h3⟩ := t
  obtain ⟨qs, g1, _, _⟩ := h
  refine ⟨ps, k _ _ ne h1, h2, fun pos cv hc => ?_⟩
  obtain ⟨c, e1, e2⟩ := h3 pos cv hc
  exact ⟨c, e1, k _ _ (fun z => codeO_ne qs (Option.some.inj (e2.symm.trans (z ▸ g1)))) e2⟩
section
variable {X : Cx} {pins : List (Addr × Obj)} {σ : L2.St} {H : Hp} {s : Shared}
theorem lam_new {c P : Addr} {params : Arguments} {body : Expr} {scope : Scope} {pos : Pos} {E : Value → Shared → Prop} {Q : Value → Shared → Prop} (I : Inv X pins σ H s) (TB : TabB X.base X.mg c P) (hcode : X.env.code = .ref c)
    (hT : TabS H P (X.env.qual ++ "<lambda>")) (hdef : defaultsOf params X.env = ([], [])) (hfree : ∀ y ∈ scope.names, y.2 = .free → ∃ c, X.env.cells.lookup y.1 = some c)
    (k : ∀ (f c' : Addr) (pm ctv : Value) (H1 : Hp) (s' : Shared), Inv X pins σ H1 s' → But P H H1 → TabS H1 P (X.env.qual ++ "<lambda>") →
      s'.heap.get? f = some (PySem.W.kla_obj "<lambda>" (X.env.qual ++ "<lambda>") params body scope (cloFrom X.env.cells scope.names []) pm c' ctv) → H1 f = none → f ∉ frs X.stack → H1 c' = some (CodeO c' (X.env.qual ++ "<lambda>")) → Q (.ref f) s') :
    wpAny (model X.prog X.w) X.A (eval (.Lambda params body scope pos) X.env) Q E s := by
  obtain ⟨ps, hP, tri, among⟩ := hT
  have bP : s.heap.BuiltinsAt X.mg P := TB.bm.keeps I.bk
  have atP : s.heap.get? P = some { cls := .none, data := .fields ps } := I.hok P _ hP
  have away : ∀ f, s.heap.objs.size ≤ f → f ∉ frs X.stack := fun f hf z => (List.mem_cons.mp (I.stkSub _ z)).elim (fun e => absurd (e ▸ I.lt) (Nat.not_lt.mpr hf)) (I.nofs hf)
  refine PySem.W.kla_eval hdef ?_
  cases hc : codeAmong pos ps.toList with
  | some cv =>
    obtain ⟨c', rfl, hco⟩ := among pos cv hc
    refine PySem.W.kla_makeFunctionHit (mg := X.mg) (c := c) (P := P) (ps := ps) (closure_ok hfree) I.ok.glob (I.mod.glob.keeps I.bk) hcode (TB.code.keeps I.bk) atP tri hc bP fun ctv h' tk hx hsz => ?_
    exact k h'.objs.size c' ((X.mg "__name__").getD .none) ctv H _ (I.kept fun b o e => Heap.get?_push_of_some _ (hx b o e)) (fun _ _ _ h => h) ⟨ps, hP, tri, among⟩ (Heap.get?_push_size _ rfl) (I.hok.fresh hsz) (away _ hsz) hco
  | none =>
    refine PySem.W.kla_makeFunction (mg := X.mg) (c := c) (P := P) (ps := ps) (closure_ok hfree) I.ok.glob (I.mod.glob.keeps I.bk) hcode (TB.code.keeps I.bk) atP tri hc TB.gP bP fun c' ctv h' tk hx hge hlt hrec htb => ?_
    obtain ⟨c2, oc, vs, t, e2, hoc, hd, hv⟩ := hrec
    cases e2
    have hsz : s.heap.objs.size ≤ h'.objs.size := Nat.le_trans hge (Nat.le_of_lt hlt)
    have nC : H c' = none := I.hok.fresh hge
    have eL : (ps ++ #[rawInt pos.line, rawInt pos.col, .ref c']).toList = ps.toList ++ [rawInt pos.line, rawInt pos.col, .ref c'] := by simp
    have I1 := inv_table (t' := tk) (more := #[rawInt pos.line, rawInt pos.col, .ref c']) (h' := h'.push (PySem.W.kla_obj "<lambda>" (X.env.qual ++ "<lambda>") params body scope (cloFrom X.env.cells scope.names []) ((X.mg "__name__").getD .none) c' ctv)) I hP
      (fun b o hb e => Heap.get?_push_of_some _ (hx b o hb e)) (Heap.get?_push_of_some _ htb) hge ⟨oc, vs, t, Heap.get?_push_of_some _ hoc, hd, hv⟩
    have kp : But P H (upd (upd H P (.tbl (ps ++ #[rawInt pos.line, rawInt pos.col, .ref c']))) c' (CodeO c' (X.env.qual ++ "<lambda>"))) := fun b o nb e => by
      rw [upd_ne (ne_of_none e nC), upd_ne nb]
      exact e
    refine k h'.objs.size c' ((X.mg "__name__").getD .none) ctv _ _ I1 kp ⟨_, by rw [upd_ne (ne_of_none hP nC), upd_same], by rw [eL]; exact PySem.TriplesOk_snoc _ _ _ _ tri, fun p' cv hcv => ?_⟩ (Heap.get?_push_size _ rfl) ?_ (away _ hsz) upd_same
    · rw [eL] at hcv
      rcases among_app _ tri hcv with z | z
      · obtain ⟨c0, e1, e2⟩ := among p' cv z
        exact ⟨c0, e1, kp _ _ (fun y => codeO_ne ps (Option.some.inj (e2.symm.trans (y ▸ hP)))) e2⟩
      · exact ⟨c', z, upd_same⟩
    · rw [upd_ne (Nat.ne_of_gt hlt), upd_ne (Nat.ne_of_gt (Nat.lt_of_lt_of_le (Heap.lt_size atP) hsz))]
      exact I.hok.fresh hsz
/-- x(lambda: body), told by what it may change -/
def tLam1 (P : Addr) (q : Str) (TT : (XK → Hp → VK → Prop) → Hp → VK → Prop) (t : XK → TE) : TE := fun σ H Q => TabS H P q ∧ ∀ H1, But P H H1 → TabS H1 P q → TT (fun E H' Q' => t E σ H' Q') H1 Q
theorem pe_lamcall1 {TT : (XK → Hp → VK → Prop) → Hp → VK → Prop} {x a : Str} {g c P : Addr} {k : Nat} {pg : Arguments} {bg : List Stmt} {sg : Scope} {fd : FuncData} {Ng : List Str} {dvs : List V} {kws : List (Str × V)}
    {params : Arguments} {body : Expr} {scope : Scope} {t : XK → TE} {p lpos pos : Pos} (hg : Gl X x) (hm : X.mg x = some (.ref g))
    (FD : FunD X.K x x pg bg sg dvs kws g fd) (hb : L2.Binds X.K fd [a] []) (Sg : FnScope Ng [a] sg) (hNg : Ng[0]? = some a) (hva : Vis sg a)
    (hG : ∀ cdv, GivesTo X Ng x sg g cdv bg a (X.env.qual ++ "<lambda>") TT)
    (TB : TabB X.base X.mg c P) (hcode : X.env.code = .ref c) (hr : Room (k + 2) X.A) (L : LamS X.env.scope scope) (hdef : defaultsOf params X.env = ([], []))
    (hbind : ∀ (q : Str) (cl : List (Str × Addr)) (pm cv ctv : Value), bindArgs (PySem.W.kla_fn "<lambda>" q params body scope cl pm cv ctv) ⟨[], []⟩ = pure [])
    (hbody : ∀ (A : Around) (outer : List Env) (s : Shared) (H : Hp) (E : XK) (f c' : Addr), Room k (A.deeper (lamEnv X scope s.heap.objs.size f c')) → PE (lamCx X A outer s H E scope f c') body (t E))
    (hdb : (x == ("__debug__" : Str)) = false := by decide) (hd : (a == ("__debug__" : Str)) = false := by decide) (hcd : (a == ("__classdict__" : Str)) = false := by decide) :
    PE X (.Call (.Name x p) [.Lambda params body scope lpos] [] pos) (tLam1 P (X.env.qual ++ "<lambda>") TT t) := by
  obtain ⟨oc, od, dV, kV, doc, pm, an, cdv, ct, osl, rfl, lk, hcg, _, _⟩ := FD.ex
  refine ⟨fun pins s σ H Q I ⟨hT, h⟩ => wpAny_Call_Name_kw (ld_glob I hg hm (PySem.W.callWith_K (h₀ := X.base) I.ok.mod.kin FD.kp ?_ (by rfl) (by rfl)) hdb)⟩
  show wpAny _ _ (spliced ((false, eval (.Lambda params body scope lpos) X.env) :: backTo pos (starEach [] X.env))) _ _ s
  refine Calls.spliced_cons (lam_new I TB hcode hT hdef (L.has I.ok) fun f c' pm' ctv H1 s' I1 eN T1 hf hfn hfr hco => Calls.spliced_nil ⟨I1.kIn, ?_⟩)
  have rc : codeAny (model X.prog X.w) X.A (.call (.ref g) ⟨[.ref f], []⟩) (CR C8.CX0 X.stack X.prog X.w H1 s' Q C8.E0) s' := by
    refine run_ofS (N := Ng) (ps := [a]) (us := [.ref f]) (vs := [.ref f]) lk hcg Sg hr I1.env0 (hb s' [.ref f] I1.kIn rfl) (.cons rfl .nil) rfl fun hr' => ?_
    obtain ⟨t', ht', hq'⟩ := hG cdv f c' s' H1 Q (fun E H' Q' => t E σ H' Q') (fun W pn xe E p1 p2 tk hW => pe_act (i := 0) I1 L hf hfn hfr (hbind _ _ _ _ _) tk hW hr' (fun A outer s H hr2 => hbody A outer s H E f c' hr2) hNg hva hd hcd) hco (h H1 eN T1)
    exact ⟨t', ht'.nox, hq'⟩
  refine wpAny_call (codeAny_mono rc fun r s2 hq => ?_)
  cases r with
  | error e => exact False.elim hq
  | ok fl =>
    cases fl with
    | ret u => exact I1.after hq
    | next => exact False.elim hq
    | brk => exact False.elim hq
    | cont => exact False.elim hq
end
end WX
namespace WL
open PySem PySem.Spec PyProof.Rows L2 WX
/-- a frame that owns nothing, seen from here on -/
theorem RepS.rebase {K : PySem.W.Frag} {G : Env1} {Z0 Z : Addr → Prop} {H0 H : Hp} {σ : L2.St} {δ : List Sl} (s : RepS K G Z0 H0 Z H σ δ) (no : ∀ (i : Nat) (t : Sl), δ[i]? = some t → t.owns = false) : RepS K G Z H Z H σ δ := by
  refine ⟨s.env, s.env, Le.refl _ _, fun _ h => h, s.len, fun i o t h1 h2 => ?_, s.sep⟩
  have h := s.at_ i o t h1 h2
  have n := no i t h2
  cases t with
  | un => trivial
  | d x => exact h
  | own l => cases n
  | odic l => cases n
  | oins a c l => cases n
theorem Le.but {K : PySem.W.Frag} {G : Env1} {Z : Addr → Prop} {H H' : Hp} {P : Addr} {q : Str} (ek : EnvOk K G Z H) (hm : (P, q) ∈ G.T) (hu : ∀ r ∈ G.T, r.1 = P → r.2 = q) (k : But P H H') (t : LamX.TabS H' P q) : Le G H H' := by
  have tP := ek.tb _ hm
  refine ⟨fun a o na h => k a o (fun z => na (.inr ⟨_, hm, z⟩)) h, fun r hr st => ?_, fun r hr tb => ?_⟩
  · obtain ⟨a, b, c, d, e⟩ := st
    refine ⟨a, b, c, d, k _ _ (fun z => ?_) e⟩
    obtain ⟨ps, h1, _⟩ := tP
    rw [← z, e] at h1
    cases h1
  · by_cases e : r.1 = P
    · rw [e, hu r hr e]; exact t
    · exact k.tab tP tb e
end WL
end
section
set_option Elab.async false
set_option linter.all false
set_option maxRecDepth 100000
set_option maxHeartbeats 2000000
/-! More rules: dicts written out, a dict copied key by key, makings that raise nothing. -/
namespace WL
open PySem PySem.Spec PyProof.Rows L2 WX
/-- a new object gets another content -/
theorem Le.putN {G : Env1} {H H' : Hp} {P : Addr} {u : HO} (hP : H P = none) (nP : ¬ G.sp P) (nc : ∀ c q, H' P ≠ some (LamX.CodeO c q)) (l : Le G H H') : Le G H (upd H' P u) := by
  refine ⟨fun a o na ha => ?_, fun r hr st => ?_, fun q hq t => ?_⟩
  · rw [upd_ne (ne_of_none ha hP)]; exact l.keep a o na ha
  · rw [upd_ne (fun q => nP (.inl ⟨r, hr, q.symm⟩))]; exact l.st r hr st
  · exact tabs_upd (l.tb q hq t) (fun z => nP (.inr ⟨q, hq, z.symm⟩)) fun c hc z => nc c q.2 (by rw [← z]; exact hc)
theorem code_ne {c : Addr} {q : Str} {o : HO} (h : ∀ f, o ≠ .ext f) : o ≠ LamX.CodeO c q := fun z => by
  unfold LamX.CodeO at z
  exact h _ z
section
variable {p : Pr} {ta tb tc td te : TE} {t u : TT} {δ : List Sl} {R : D → Prop} {RO : Sl → Prop} {o : Po} {st su : TS}
def EvKs (p : Pr) : List (TE × TE) → List Sl → (List (Str × D) → Prop) → Prop
  | [], _, R => R []
  | (tk, tv) :: r, δ, R => EvP p tk δ fun x => EvP p tv δ fun y => ∃ z, x = .str z ∧ EvKs p r δ fun l => R ((z, y) :: l)
theorem EvKs.run {σ : L2.St} {Z0 Z : Addr → Prop} {H0 : Hp} (e : ExoP p Z0 H0) : ∀ {trs : List (TE × TE)} {R : List (Str × D) → Prop} {H : Hp} {Q : List (V × V) → Hp → Prop}, EvKs p trs δ R → RepP p Z0 H0 Z H σ δ →
    (∀ (kvs : List (Key × V)) (l : List (Str × D)) (H2 : Hp), Le p.G H H2 → RepK p.K Z H2 kvs l → R l → Q (kvs.map fun kv => (kV kv.1, kv.2)) H2) → tPairs trs σ H Q
  | [], R, H, Q, h, s, q => q [] [] H (Le.refl _ _) .nil h
  | (tk, tv) :: r, R, H, Q, h, s, q => EvP.run (show EvP p tk δ _ from h) s e fun v x H1 l1 r1 h2 => h2.run (s.le l1) e fun w y H2 l2 r2 ⟨z, ex, h3⟩ => by
    subst ex
    cases r1
    exact EvKs.run e h3 (s.le (l1.trans l2)) fun kvs l H3 l3 rk k => q ((Sum.inr z, w) :: kvs) ((z, y) :: l) H3 ((l1.trans l2).trans l3) (.cons (r2.le l3 s.env.zin) rk) k
theorem repk_keys {K : PySem.W.Frag} {Z : Addr → Prop} {H : Hp} : ∀ {kvs : List (Key × V)} {l : List (Str × D)}, RepK K Z H kvs l → kvs.map (·.1) = l.map fun q => Sum.inr q.1
  | _, _, .nil => rfl
  | _, _, .cons _ t => by rw [List.map_cons, List.map_cons, repk_keys t]
theorem repk_nodup {K : PySem.W.Frag} {Z : Addr → Prop} {H : Hp} {kvs : List (Key × V)} {l : List (Str × D)} (r : RepK K Z H kvs l) (nd : (l.map (·.1)).Nodup) : (kvs.map (·.1)).Nodup := by
  rw [repk_keys r]
  have e3 : (l.map fun q => (Sum.inr q.1 : Key)) = (l.map (·.1)).map (Sum.inr : Str → Key) := by rw [List.map_map] <;> rfl
  rw [e3]
  exact List.Pairwise.map _ (fun a b hab z => hab (Sum.inr.inj z)) nd
theorem eo_disp {trs : List (TE × TE)} (h : EvKs p trs δ fun l => (l.map (·.1)).Nodup ∧ l.length ≤ 15 ∧ RO (.odic l)) : EvO p (tDisp trs) δ RO := fun Z0 H0 Z σ H Q s e q P hP => by
  have s1 : RepP p Z0 H0 (fun b => Z b ∨ b = P) (upd H P (.dK [])) σ δ := s.own (Le.new hP) hP (by rw [upd_same]; exact fun z => nomatch z)
  refine EvKs.run e h s1 fun kvs l H2 l2 rk ⟨nd, hl, k⟩ => ?_
  have nP : ¬ p.G.sp P := s.env.sp hP
  have atP : H2 P = some (.dK []) := l2.keep _ _ nP upd_same
  refine ⟨atP, kvs, rfl, by rw [rk.length]; exact hl, ?_⟩
  have nd2 : ((([] : List (Key × V)) ++ kvs).map (·.1)).Nodup := by rw [List.nil_append]; exact repk_nodup rk nd
  rw [mergeK_nodup kvs [] nd2, List.nil_append]
  refine q P _ _ (Le.putN hP nP (fun c q z => ?_) ((Le.new hP).trans l2)) hP (.inr ⟨kvs, l, rfl, upd_same, rk.go ⟨fun b w nb hh => by rw [upd_ne (fun z => nb (.inr z))]; exact hh, fun _ hh => .inl hh⟩⟩) k
  rw [atP] at z
  exact code_ne (o := .dK []) (fun f y => by cases y) (Option.some.inj z)
/-- C(.., k = v, ..) that raises nothing -/
theorem ev_makeKN {F : FnI} {E : XK} {c : Str} {n m : Nat} {t tk : TA} (h : EvA p t δ fun ds => EvA p tk δ fun zs => ds.length = n ∧ zs.length = m ∧ F p.G (ds ++ zs) (fun l => R (.ins c l)) ex0) :
    EvP p (tMakeK (He.ga p.K c) n m (spI p.K c F) (fun vs zs => vs ++ zs) E t tk) δ R := fun Z0 H0 Z σ H Q s e q => h Z0 H0 Z σ H _ s e fun vs ds H1 l1 r1 h2 => h2 Z0 H0 Z σ H1 _ (s.le l1) e fun ws zs H2 l2 r2 ⟨e1, e2, k⟩ => by
  refine ⟨r1.length.trans e1, r2.length.trans e2, fun x dx hx hdx ne => ?_⟩
  have l12 := l1.trans l2
  have E1 := s.env.le l12
  have lD : Le p.G H2 (upd H2 dx (.own x)) := Le.new hdx
  refine ⟨p.G, Z, x, dx, _, ds ++ zs, fun l => R (.ins c l), ex0, rfl, upd_same, ?_, ?_, k, fun dx' fs l H' le hH rf kk => ⟨rfl, ?_⟩, Exo.zero⟩
  · rw [make_del hx ne]; exact E1.le lD
  · rw [make_del hx ne]; exact ((r1.le l2 s.env.zin).append r2).new hdx
  · rw [make_del hx ne] at le
    exact q _ _ H' ((l12.trans lD).trans le) (.ins (fun z => E1.live x z hx) hH rf) kk
theorem RepS.un {K : PySem.W.Frag} {G : Env1} {Z0 Z : Addr → Prop} {H0 H : Hp} {σ σ' : L2.St} {w : Nat} (s : RepS K G Z0 H0 Z H σ δ) (hl : σ'.length = σ.length) (ho : ∀ x, x ≠ w → σ'[x]? = σ[x]?) : RepS K G Z0 H0 Z H σ' (δ.set w .un) := by
  refine ⟨s.env0, s.env, s.le0, s.base, by rw [hl, s.len, List.length_set], fun i v t h1 h2 => ?_, fun i j a t t' e1 e2 f1 f2 o1 o2 => ?_⟩
  · rcases set_at h2 with ⟨_, rfl, _⟩ | ⟨ne, h2⟩
    · trivial
    · rw [ho i (Ne.symm ne)] at h1
      exact s.at_ i v t h1 h2
  · rcases set_at f1 with ⟨_, rfl, _⟩ | ⟨ne, f1⟩
    · cases o1
    · rcases set_at f2 with ⟨_, rfl, _⟩ | ⟨ne2, f2⟩
      · cases o2
      · rw [ho i (Ne.symm ne)] at e1
        rw [ho j (Ne.symm ne2)] at e2
        exact s.sep i j a t t' e1 e2 f1 f2 o1 o2
theorem valV_at : ∀ {kvs : List (Key × V)} {n : Nat} {k : Key} {v : V}, (kvs.map (·.1)).Nodup → kvs[n]? = some (k, v) → valV kvs k = some v
  | (k0, v0) :: r, 0, k, v, _, h => by
    simp at h
    obtain ⟨rfl, rfl⟩ := h
    exact valV_pos rfl
  | (k0, v0) :: r, n + 1, k, v, nd, h => by
    have h2 : r[n]? = some (k, v) := by simpa using h
    have nd2 := List.nodup_cons.mp nd
    have ne : ¬ k0 = k := fun z => nd2.1 (z ▸ List.mem_map.mpr ⟨(k, v), List.mem_of_getElem? h2, rfl⟩)
    exact (valV_neg (p := (k0, v0)) ne).trans (valV_at nd2.2 h2)
  | [], n, k, v, _, h => by simp at h
theorem putK_take {kvs : List (Key × V)} {n : Nat} {k : Key} {v : V} (nd : (kvs.map (·.1)).Nodup) (h : kvs[n]? = some (k, v)) : putK (kvs.take n) k v = kvs.take (n + 1) := by
  have e : kvs.take (n + 1) = kvs.take n ++ [(k, v)] := by rw [List.take_add_one, h] <;> rfl
  rw [e]
  unfold putK
  have hn : ((kvs.take n).any fun q => decide (q.1 = k)) = false := by
    rw [List.any_eq_false]
    intro q hq hh
    have e1 : q.1 = k := by simpa using hh
    have nd3 : ((kvs.take (n + 1)).map (·.1)).Nodup := by
      rw [List.map_take]
      exact List.Nodup.sublist (List.take_sublist _ _) nd
    rw [e, List.map_append, List.nodup_append] at nd3
    exact nd3.2.2 q.1 (List.mem_map_of_mem hq) k (by simp) e1
  rw [hn] <;> rfl
/-- for k in d: e[k] = d[k], e new and empty -/
theorem st_copy {i j w : Nat} {l : List (Str × D)} (hi : δ[i]? = some (.d (.dic l))) (hj : δ[j]? = some (.odic [])) (iw : i ≠ w) (jw : j ≠ w) (hw : w < δ.length) (nd : (l.map (·.1)).Nodup) (hl : l.length < 100000) (k : o.nx ((δ.set j (.odic l)).set w .un)) :
    StP p (tLock (tFor (iKeys (tVar i)) (gName w) (sDPut (tVar j) (tVar w) (tDGet (tVar i) (tVar w))))) δ o := fun Z0 H0 Z σ H Dn s e n r b c => by
  obtain ⟨vi, ei, ri⟩ := s.var hi
  obtain ⟨ov, ej, a, ks, rfl, za, na, ha, rk⟩ := s.slot hj
  cases ri with
  | @dic d kvs _ zd hd rkl =>
    obtain rfl : ks = [] := by cases rk; rfl
    have ad : a ≠ d := fun z => zd (z ▸ za)
    have nk := repk_nodup rkl nd
    have hlen : kvs.length < sizeLine := Nat.lt_of_lt_of_le (by rw [rkl.length]; exact hl) (by decide)
    refine ⟨d, .dK kvs, hd, trivial, fun od => ?_⟩
    refine ⟨_, ei, d, od, rfl, .inl ⟨kvs, upd_same, ?_⟩⟩
    refine ⟨fun m q σ' H' => q = kvs.length - m ∧ m ≤ kvs.length ∧ σ'.length = σ.length ∧ (∀ x, x ≠ w → σ'[x]? = σ[x]?) ∧ H' = upd (upd H d (.frz od (.dK kvs))) a (.dK (kvs.take m)), ⟨_, rfl, Nat.zero_le _, rfl, fun _ _ => rfl, ?_⟩, ?_⟩
    · funext x
      by_cases hx : x = a
      · rw [hx, upd_same, upd_ne ad, ha] <;> rfl
      · rw [upd_ne hx]
    rintro m q σ' H' ⟨rfl, hm, hs, ho, rfl⟩
    have atd : upd (upd H d (.frz od (.dK kvs))) a (.dK (kvs.take m)) d = some (.frz od (.dK kvs)) := by rw [upd_ne (Ne.symm ad), upd_same]
    by_cases hlt : m < kvs.length
    · refine .inr ⟨⟨atd, hlt⟩, fun σ2 H2 => σ2.length = σ.length ∧ (∀ x, x ≠ w → σ2[x]? = σ[x]?) ∧ H2 = upd (upd H d (.frz od (.dK kvs))) a (.dK (kvs.take (m + 1))), fun σ2 H2 ⟨a1, a2, a3⟩ => ⟨kvs.length - (m + 1), by omega, rfl, hlt, a1, a2, a3⟩, fun x H'' ⟨eh, k0, v0, hk, ex⟩ => ?_⟩
      subst eh ex
      have hset : ∀ x, x ≠ w → (σ'.set w (some (kV k0)))[x]? = σ[x]? := fun x hx => by rw [List.getElem?_set_ne (Ne.symm hx)]; exact ho x hx
      have hww : (σ'.set w (some (kV k0)))[w]? = some (some (kV k0)) := List.getElem?_set_self (by rw [hs, s.len]; exact hw)
      refine ⟨.ref d, (hset i iw).trans ei, kV k0, hww, d, v0, rfl, .inl ⟨kvs, k0, .inr ⟨od, atd⟩, rfl, (valV_at nk hk).symm⟩, ?_⟩
      refine ⟨.ref a, (hset j jw).trans ej, kV k0, hww, a, _, rfl, DPut.k upd_same (Nat.lt_of_le_of_lt (by rw [List.length_take]; omega) hlen), ?_⟩
      refine ⟨by rw [List.length_set]; exact hs, hset, ?_⟩
      rw [putK_take nk hk]
      funext x
      by_cases hx : x = a
      · rw [hx, upd_same, upd_same]
      · rw [upd_ne hx, upd_ne hx, upd_ne hx]
    · obtain rfl : m = kvs.length := by omega
      refine .inl ⟨⟨atd, Nat.le_refl _⟩, atd, ?_⟩
      have eH : upd (upd (upd H d (.frz od (.dK kvs))) a (.dK (kvs.take kvs.length))) d (.dK kvs) = upd H a (.dK kvs) := by
        rw [List.take_length]
        funext x
        by_cases hx : x = d
        · rw [hx, upd_same, upd_ne (Ne.symm ad), hd]
        · rw [upd_ne hx]
          by_cases hx2 : x = a
          · rw [hx2, upd_same, upd_same]
          · rw [upd_ne hx2, upd_ne hx2, upd_ne hx]
      show Dn.nx σ' (upd (upd (upd H d (.frz od (.dK kvs))) a (.dK (kvs.take kvs.length))) d (.dK kvs))
      rw [eH]
      obtain ⟨g, s2⟩ := s.put (ob := .dK kvs) (s1 := .odic l) hj ej za na rfl ⟨a, kvs, rfl, za, na, upd_same, rkl.go ⟨fun b w nb hh => by rw [upd_ne (fun z => nb (by rw [z]; exact za))]; exact hh, fun _ hh => .inl hh⟩⟩ (by rw [ha]; exact fun z => nomatch z)
      exact n Z σ' _ _ g (s2.un hs ho) k
theorem so_mid {st su : TS} (M : List Sl → Prop) (h1 : StP p st δ { nx := M, rt := fun _ => False }) (h2 : ∀ δ', M δ' → StO p su δ' RO) : StO p (tSeq st su) δ RO := so_seq (h1.imp h2 (fun _ h => h) (fun _ h => h) fun _ h => h)
theorem valV_put_same {kvs : List (Key × V)} {k : Key} {v : V} : valV (putK kvs k v) k = some v := by rw [valV_put, if_pos rfl]
/-- d[k] = list(e); d[k][i] = x: d this frame's own, the list in it new -/
theorem st_dset {j : Nat} {key : Str} {L : List (Str × D)} (hj : δ[j]? = some (.odic L)) (hl : L.length < 100000) (nd : (L.map (·.1)).Nodup)
    (h : EvP p ta δ fun x => ∃ l, (x = .lst l ∨ x = .tup l) ∧ EvP p te (δ.set j .un) fun d => EvP p tb (δ.set j .un) fun y => ∃ i k, y = .int i ∧ ixN l.length i = some k ∧ o.nx (δ.set j (.odic (putA key (.lst (l.set k d)) L)))) :
    StP p (tSeq (sDPut (tVar j) (tC (.str key)) (tCB (fun xs H Q => ∃ a ys, xs = [.ref a] ∧ (SqL p.K H a ys ∨ SqT p.K H a ys) ∧ ∀ l, H l = none → Q (.ref l) (upd H l (.lst ys))) (tCons ta tNil)))
      (tAsg te (gSub (tDGet (tVar j) (tC (.str key))) tb rSetL))) δ o := fun Z0 H0 Z σ H Dn s e n r b c => by
  refine h.run s e fun v x H1 l1 r1 ⟨l, ex, hk⟩ => ?_
  have s1 := s.le l1
  obtain ⟨ov, ej, a, ks, rfl, za, na, ha1, rk1⟩ := s1.slot hj
  have src : ∃ A xs, v = .ref A ∧ (SqL p.K H1 A xs ∨ SqT p.K H1 A xs) ∧ Reps p.K Z H1 xs l := by
    rcases ex with ex | ex
    · subst ex
      obtain ⟨A, xs, rfl, _, hH, rr⟩ := lst_of r1
      exact ⟨A, xs, rfl, .inl (SqL.of hH), rr⟩
    · subst ex
      obtain ⟨A, xs, rfl, hH, rr⟩ := tup_of r1
      exact ⟨A, xs, rfl, .inr hH, rr⟩
  obtain ⟨A, xs, rfl, hsq, rx⟩ := src
  refine ⟨A, xs, rfl, hsq, fun B hB => ?_⟩
  have aB : a ≠ B := fun z => by rw [z, hB] at ha1; cases ha1
  have haB : (upd H1 B (.lst xs)) a = some (.dK ks) := by rw [upd_ne aB]; exact ha1
  refine ⟨_, ej, a, _, rfl, DPut.k (k := Sum.inr key) haB (Nat.lt_of_lt_of_le (by rw [rk1.length]; exact hl) (by decide)), ?_⟩
  -- from here on both a and B are owned, the frame's slot is let go
  let H2 : Hp := upd (upd H1 B (.lst xs)) a (.dK (putK ks (Sum.inr key) (.ref B)))
  let ZB : Addr → Prop := fun b => Z b ∨ b = B
  have sB : RepP p Z0 H0 ZB (upd H1 B (.lst xs)) σ δ := s1.own (Le.new hB) hB (by rw [upd_same]; exact fun z => nomatch z)
  obtain ⟨g2, s2⟩ := sB.put (ob := .dK (putK ks (Sum.inr key) (.ref B))) (s1 := .un) hj ej (.inl za) na rfl trivial (by rw [haB]; exact fun z => nomatch z)
  have atB : H2 B = some (.lst xs) := by show upd _ a _ B = _; rw [upd_ne (Ne.symm aB), upd_same]
  have ata : H2 a = some (.dK (putK ks (Sum.inr key) (.ref B))) := upd_same
  have spa := s.ne na
  have spB : ¬ p.G.sp B := s1.env.sp hB
  refine hk.run s2 e fun w d H3 l3 r3 hb => ?_
  refine ⟨_, ej, a, .ref B, rfl, .inl ⟨_, Sum.inr key, .inl (l3.keep _ _ spa ata), rfl, valV_put_same.symm⟩, ?_⟩
  refine hb.run (s2.le l3) e fun u y H4 l4 r4 ⟨i, k, ey, hix, kn⟩ => ?_
  subst ey
  cases r4
  have l34 := l3.trans l4
  have atB4 : H4 B = some (.lst xs) := l34.keep _ _ spB atB
  have ata4 := l34.keep _ _ spa ata
  have s4 := s2.le l34
  refine ⟨B, xs, i, k, rfl, rfl, atB4, by rw [rx.length]; exact hix, ?_⟩
  have zin := s.env.zin
  have go5 : Go Z H1 Z (upd H4 B (.lst (xs.set k w))) := ⟨fun b q nb hq => by
    have n1 : b ≠ B := ne_of_none hq hB
    have n2 : b ≠ a := fun z => nb (by rw [z]; exact za)
    rw [upd_ne n1]
    refine l34.keep b q (fun z => nb (zin b z)) ?_
    show upd _ a _ b = _
    rw [upd_ne n2, upd_ne n1]
    exact hq, fun _ h => .inl h⟩
  have nB0 : H0 B = none := by
    cases y : H0 B with
    | none => rfl
    | some q => rw [s1.le0.keep B q spB y] at hB; cases hB
  have le5 : Le p.G H0 (upd H4 B (.lst (xs.set k w))) := Le.putN nB0 spB (fun c q z => by
    rw [atB4] at z
    exact code_ne (o := .lst xs) (fun f y => by cases y) (Option.some.inj z)) s4.le0
  have nZB : ¬ Z B := fun z => s1.env.live B z hB
  have goB : Go ZB H4 Z (upd H4 B (.lst (xs.set k w))) := ⟨fun b q nb hq => by rw [upd_ne (fun z => nb (.inr z))]; exact hq, fun b hb => .inl (.inl hb)⟩
  have own5 : ∀ (b : Addr) (q : HO), H0 b = none → H1 b = some q → b ≠ a → upd H4 B (.lst (xs.set k w)) b = some q := fun b q n0 hq n2 => by
    have n1 : b ≠ B := ne_of_none hq hB
    rw [upd_ne n1]
    refine l34.keep b q (s.ne n0) ?_
    show upd _ a _ b = _
    rw [upd_ne n2, upd_ne n1]
    exact hq
  have ow : ∀ {i : Nat} {t : Sl} {q : Sl}, (δ.set j (.odic (putA key (.lst (l.set k d)) L)))[i]? = some t → t.owns = true → ∃ t', δ[i]? = some t' ∧ t'.owns = true := fun {i t q} h1 h2 => by
    rcases set_at h1 with ⟨rfl, _, _⟩ | ⟨_, h3⟩
    · exact ⟨_, hj, rfl⟩
    · exact ⟨t, h3, h2⟩
  have s5 : RepP p Z0 H0 Z (upd H4 B (.lst (xs.set k w))) σ (δ.set j (.odic (putA key (.lst (l.set k d)) L))) := by
    refine ⟨s.env0, ⟨(s.env0.le le5).dr, (s.env0.le le5).tb, zin, fun b hb q => ?_⟩, le5, s.base, by rw [List.length_set]; exact s.len, fun i o t h1 h2 => ?_, fun i1 i2 b t t' e1 e2 f1 f2 o1 o2 => ?_⟩
    · by_cases hbB : b = B
      · rw [hbB, upd_same] at q; cases q
      · rw [upd_ne hbB] at q; exact s4.env.live b (.inl hb) q
    · rcases set_at h2 with ⟨rfl, rfl, _⟩ | ⟨ne, h2⟩
      · rw [ej] at h1
        cases h1
        refine ⟨a, _, rfl, za, na, by rw [upd_ne aB]; exact ata4, repk_any (rk1.go go5) nd _ _ (.lst nZB upd_same ((rx.go go5).set (r3.le l4 s4.env.zin |>.go goB) k))⟩
      · have h := s1.at_ i o t h1 h2
        have nab : ∀ b, o = some (.ref b) → t.owns = true → b ≠ a := fun b hv hw z => by
          subst z
          subst hv
          exact ne (s1.sep j i b _ t ej h1 hj h2 rfl hw)
        cases t with
        | un => trivial
        | d x => obtain ⟨v, e1, r⟩ := h; exact ⟨v, e1, r.go go5⟩
        | own l' => obtain ⟨b, ys, e1, z, n0, hH, r⟩ := h; exact ⟨b, ys, e1, z, n0, own5 b _ n0 hH (nab b e1 rfl), r.go go5⟩
        | odic l' => obtain ⟨b, ys, e1, z, n0, hH, r⟩ := h; exact ⟨b, ys, e1, z, n0, own5 b _ n0 hH (nab b e1 rfl), r.go go5⟩
        | oins b c l' => obtain ⟨dx, ys, e1, z, n0, hH, r⟩ := h; exact ⟨dx, ys, e1, z, n0, own5 b _ n0 hH (nab b e1 rfl), r.go go5⟩
    · obtain ⟨q1, g1, w1⟩ := ow (q := .un) f1 o1
      obtain ⟨q2, g2, w2⟩ := ow (q := .un) f2 o2
      exact s1.sep i1 i2 b q1 q2 e1 e2 g1 g2 w1 w2
  exact n Z σ _ _ ((Go.le l1 zin).trans go5) s5 kn
end
end WL
end
section
set_option Elab.async false
set_option linter.all false
set_option maxRecDepth 100000
set_option maxHeartbeats 2000000
/-! What the head looks at, beside the kit's facts: own exceptions, isinstance, written tuples, tables of lambdas. -/
namespace HX
open PySem PySem.Spec PyProof.Rows L2 He
theorem bb {a b : Bool} (h : (a && b) = true) : a = true ∧ b = true := Bool.and_eq_true_iff.mp h
/-! ### bits -/
def iscB (K : PySem.W.Frag) (c : Str) : Bool := (Fa.cls c).ok K && (eqO (PySem.W.findIn K (.ref (ga K c)) "__class__") (some (some (.builtin "object.__class__"))) && (eqO (PySem.W.specialIn K (.builtin "object.__class__") "__get__") (some (some (.builtin "getset_descriptor.__get__"))) &&
  (decide (PySem.W.takesIn K (.builtin "object.__class__") = some true) && decide (PySem.W.mroIn K (ga K c) (.type "object") = some true))))
theorem iscB_ok {K : PySem.W.Frag} {c : Str} (h : iscB K c = true) : WL.IsC K c := by
  obtain ⟨h1, h⟩ := bb h
  obtain ⟨h2, h⟩ := bb h
  obtain ⟨h3, h⟩ := bb h
  obtain ⟨h4, h5⟩ := bb h
  exact ⟨cls_ok h1, eqO_ok h2, eqO_ok h3, of_decide_eq_true h4, of_decide_eq_true h5⟩
def ktupB (K : PySem.W.Frag) (a : Addr) (vs : List V) : Bool := match K.lookup a with
  | some ⟨.type c, _, .seq its _, _⟩ => decide (c = "tuple") && (decide (its.size ≤ sizeLine) && relAll vs its.toList)
  | _ => false
theorem ktupB_ok {K : PySem.W.Frag} {a : Addr} {vs : List V} (h : ktupB K a vs = true) : WL.KT K a vs := by
  unfold ktupB at h
  cases q : K.lookup a with
  | none => rw [q] at h; cases h
  | some o =>
    obtain ⟨oc, od, dt, osl⟩ := o
    rw [q] at h
    cases oc with
    | type c =>
      cases dt with
      | seq its n =>
        obtain ⟨h1, h2⟩ := bb (show (decide (c = "tuple") && (decide (its.size ≤ sizeLine) && relAll vs its.toList)) = true from h)
        obtain ⟨h3, h4⟩ := bb h2
        exact ⟨_, its, n, q, congrArg Value.type (of_decide_eq_true h1), rfl, of_decide_eq_true h3, relAll_ok h4⟩
      | _ => cases h
    | _ => cases dt <;> cases h
/-- a written dict's value that is a written tuple -/
def dtupB (K : PySem.W.Frag) (d : Addr) (k : Str) (vs : List V) : Bool := match PySem.W.nsIn K d k with
  | some (some (.ref b)) => ktupB K b vs
  | _ => false
theorem dtupB_ok {K : PySem.W.Frag} {d : Addr} {k : Str} {vs : List V} (h : dtupB K d k vs = true) : ∃ b, PySem.W.nsIn K d k = some (some (.ref b)) ∧ WL.KT K b vs := by
  unfold dtupB at h
  split at h
  · rename_i b e
    exact ⟨b, e, ktupB_ok h⟩
  · cases h
theorem kdct_of {K : PySem.W.Frag} {w : World} {a : Addr} {es : Array DictEntry} {n : Nat} {x : Str} {v : V} {u : Value} (h : KDict K w a es n) (h2 : PySem.W.nsIn K a x = some (some u)) (r : RelV v u) : KDct K w a x v := ⟨es, n, u, h.at_, h.lit, h2, r⟩
/-! ### own exceptions -/
def oexB (K : PySem.W.Frag) (C : Addr) : Bool := (match K.lookup C with
  | some ⟨.type t, _, .cls cd, sl⟩ => decide (t = "type") && (match cd.mro, sl.toList with
    | .ref C' :: bm, [_, _, _, _, some (.builtin n), _] => decide (C' = C) && (decide (n = "ValueError.__new__") && (cd.hasDict && (!cd.hasDel && PySem.HandSPX.refsVE bm)))
    | _, _ => false)
  | _ => false) && (eqO (PySem.W.findIn K (.ref C) "__setattr__") (some (some (.builtin "object.__setattr__"))) && (decide (PySem.W.subIn K (.ref C) (.type "BaseException") = some true) && (decide (PySem.W.typeIn K (.ref C) = some (.type "type")) && PySem.W.keepIn K (.ref C))))
theorem oexB_ok {K : PySem.W.Frag} {C : Addr} (h : oexB K C = true) : OexC K C := by
  obtain ⟨h1, h⟩ := bb h
  obtain ⟨h2, h⟩ := bb h
  obtain ⟨h3, h⟩ := bb h
  obtain ⟨h4, h5⟩ := bb h
  refine ⟨?_, eqO_ok h2, of_decide_eq_true h3, of_decide_eq_true h4, h5⟩
  split at h1
  · rename_i t dd cd sl ho
    obtain ⟨g1, h1⟩ := bb h1
    split at h1
    · rename_i C' bm k0 k1 k2 k3 n k5 hm hs
      obtain ⟨g2, h1⟩ := bb h1
      obtain ⟨g3, h1⟩ := bb h1
      obtain ⟨g4, h1⟩ := bb h1
      obtain ⟨g5, g6⟩ := bb h1
      obtain rfl : t = "type" := of_decide_eq_true g1
      obtain rfl : C' = C := of_decide_eq_true g2
      obtain rfl : n = "ValueError.__new__" := of_decide_eq_true g3
      obtain ⟨nm, bs, mro, ns, qn, hd, sn, sub, ab, col, del⟩ := cd
      dsimp only at hm g4 g5
      obtain rfl : del = false := by simpa using g5
      subst hm g4
      have hsl : sl = #[k0, k1, k2, k3, some (.builtin "ValueError.__new__"), k5] := by
        obtain ⟨l⟩ := sl
        simp only at hs
        rw [hs]
      subst hsl
      exact ⟨nm, qn, ns, bs, bm, sn, sub, ab, col, dd, k0, k1, k2, k3, k5, ho, g6⟩
    · cases h1
  · cases h1
/-- a function's text: name, qualified name, parameters, body, scope -/
abbrev FnE : Type := Option (Str × Str × Arguments × FuncBody × Scope × Addr × Addr)
def fnE (K : PySem.W.Frag) (c : Str) : FnE := match K.lookup (ma K (ga K c) "__init__") with
  | some ⟨_, _, .func fd, _⟩ => some (fd.name, fd.qualname, fd.params, fd.body, fd.scope, fd.globals, fd.builtins)
  | _ => none
def einB (K : PySem.W.Frag) (c : Str) : Bool := match K.lookup (ma K (ga K c) "__init__") with
  | some ⟨_, _, .func fd, _⟩ => decide (fd.defaults = .none) && (decide (fd.kwdefaults = .none) && ((match fd.closure with
    | [(n, cc)] => decide (n = "__class__") && (match K.lookup cc with
      | some ⟨_, _, .cell (some (.ref d)), _⟩ => decide (d = ga K c)
      | _ => false)
    | _ => false) && (match fd.code with
    | .ref cda => PySem.W.codeIn K (.ref cda) (c ++ ".__init__") && (match K.lookup cda with
      | some ⟨_, _, .fields vs, _⟩ => (match (vs[2]? : Option Value) with
        | some (.str x _) => decide (x = "/claim/cut.py")
        | _ => false)
      | _ => false)
    | _ => false)))
  | _ => false
def excB (K : PySem.W.Frag) (c f : Str) : Bool := oexB K (ga K c) && (eqO (PySem.W.findIn K (.ref (ga K c)) "__init__") (some (some (.ref (ma K (ga K c) "__init__")))) && (decide (PySem.W.typeIn K (.ref (ma K (ga K c) "__init__")) = some (.type "function")) && (eqO (PySem.W.findIn K (.ref (ga K c)) f) (some none) &&
  ((PySem.W.clsIn K (ga K c)).isSome && (decide (PySem.W.mroIn K (ga K c) (.ref (ga K c)) = some true) && (eqO (PySem.W.ks_superIn K (ga K c) (ga K c) "__init__") (some (some (.builtin "ValueError.__init__"))) && (decide (PySem.W.subIn K (.ref (ga K c)) (.type "ValueError") = some true) &&
  (eqO (PySem.W.nsIn K cStatics "thirdparty.any") (some none) && (xfB K (ga K c) && einB K c)))))))))
/-- what the text of such an __init__ must be -/
def TxtE (f : Str) (st : Stmt) : Prop := ∃ p1 p2 q1 q2 q3 q4 q5 q6 r1 r2 r3 r4 : Pos, defArgs st = WX.iA f p1 p2 ∧ defBody st = WX.iB f q1 q2 q3 q4 q5 q6 r1 r2 r3 r4 ∧ defScope st = WX.iS f ∧ (q3.endLine == q5.line) = true
def valX (c : Str) (st : Stmt) : FnE := some ("__init__", c ++ ".__init__", defArgs st, .stmts (defBody st), defScope st, mainGlobals, builtinsNs)
theorem xc_of {P : Program} {K : PySem.W.Frag} {mg : Str → Option Value} {c f : Str} {st : Stmt} (h : excB K c f = true) (e : fnE K c = valX c st) (t : TxtE f st) (gC : mg c = some (.ref (ga K c))) (hs : mg "super" = none) (h1 : ((P.main.file : Str) == "/claim/cut.py") = true) (h2 : (P.main.scope.names.lookup ("super" : Str)).isSome = false) (fx : WX.XF f) :
    ∃ oc od fd osl, K.lookup (ma K (ga K c) "__init__") = some ⟨oc, od, .func fd, osl⟩ ∧ WX.Xc P K mg c f fd := by
  obtain ⟨g1, h⟩ := bb h
  obtain ⟨g2, h⟩ := bb h
  obtain ⟨g3, h⟩ := bb h
  obtain ⟨g4, h⟩ := bb h
  obtain ⟨g5, h⟩ := bb h
  obtain ⟨g6, h⟩ := bb h
  obtain ⟨g7, h⟩ := bb h
  obtain ⟨g8, h⟩ := bb h
  obtain ⟨g9, h⟩ := bb h
  obtain ⟨g10, g11⟩ := bb h
  unfold einB at g11
  unfold fnE at e
  cases q : K.lookup (ma K (ga K c) "__init__") with
  | none => rw [q] at e; cases e
  | some o =>
    obtain ⟨oc, od, dt, osl⟩ := o
    rw [q] at e g11
    cases dt with
    | func fd =>
      refine ⟨oc, od, fd, osl, rfl, ⟨gC, oexB_ok g1, eqO_ok g2, of_decide_eq_true g3, eqO_ok g4, Option.isSome_iff_exists.mp g5, of_decide_eq_true g6, eqO_ok g7, of_decide_eq_true g8, hs, eqO_ok g9, xfB_ok g10, ?_, h1, h2, fx⟩⟩
      obtain ⟨n1, n2, n3, n4, n5, n6, n7, n8, n9, n10, n11, n12, n13, n14, n15⟩ := fd
      obtain ⟨p1, p2, q1, q2, q3, q4, q5, q6, r1, r2, r3, r4, t1, t2, t3, t4⟩ := t
      have e2 : (some (n1, n2, n3, n4, n5, n6, n15) : FnE) = some (("__init__" : Str), c ++ ".__init__", defArgs st, FuncBody.stmts (defBody st), defScope st, mainGlobals, builtinsNs) := e
      rw [t1, t2, t3] at e2
      simp only [Option.some.injEq, Prod.mk.injEq] at e2
      obtain ⟨rfl, rfl, rfl, rfl, rfl, rfl, rfl⟩ := e2
      dsimp only at g11
      obtain ⟨k1, g11⟩ := bb g11
      obtain ⟨k2, g11⟩ := bb g11
      obtain ⟨k3, k4⟩ := bb g11
      obtain rfl : n8 = Value.none := of_decide_eq_true k1
      obtain rfl : n9 = Value.none := of_decide_eq_true k2
      rcases n7 with _ | ⟨⟨n, cc⟩, _ | ⟨_, _⟩⟩
      · cases k3
      · obtain ⟨k5, k6⟩ := bb k3
        obtain rfl : n = ("__class__" : Str) := of_decide_eq_true k5
        split at k6
        · rename_i hcc
          obtain rfl := of_decide_eq_true k6
          cases n13 with
          | ref cda =>
            obtain ⟨k7, k8⟩ := bb (show (PySem.W.codeIn K (.ref cda) (c ++ ".__init__") && (match K.lookup cda with
              | some ⟨_, _, .fields vs, _⟩ => (match (vs[2]? : Option Value) with
                | some (.str x _) => decide (x = "/claim/cut.py")
                | _ => false)
              | _ => false)) = true from k4)
            split at k8
            · rename_i hcda
              split at k8
              · rename_i hvs
                obtain rfl := of_decide_eq_true k8
                exact ⟨oc, od, n12, n10, n11, n14, osl, cda, cc, p1, p2, q1, q2, q3, q4, q5, q6, r1, r2, r3, r4, rfl, q, k7, ⟨_, _, _, _, _, hcda, hvs⟩, t4, _, _, _, hcc⟩
              · cases k8
            · cases k8
          | _ => cases k4
        · cases k6
      · cases k3
    | _ => cases e
/-! ### tables of lambdas -/
/-- the code of the def p, and the table that its code names, empty as yet -/
def lamB (K : PySem.W.Frag) (g : Addr → Option Obj) (p : Str × Option Str) (P : Addr) : Bool := match K.lookup (fAd K p) with
  | some ⟨_, _, .func fd, _⟩ => (match fd.code with
    | .ref c => decide (c ≠ P) && (match K.lookup c with
      | some ⟨.type t, _, .fields vs, _⟩ => decide (t = "code") && (decide (vs[11]? = some (.ref P)) && ((match vs.getD 18 .none with
        | .str _ _ => true
        | _ => false) && ((match vs.getD 7 .none with
        | .int _ _ => true
        | _ => false) && ((match vs.getD 9 .none with
        | .bool _ => true
        | _ => false) && (match vs.getD 10 .none with
        | .int _ _ => true
        | _ => false)))))
      | _ => false)
    | _ => false)
  | _ => false
def tblB (g : Addr → Option Obj) (P : Addr) : Bool := match g P with
  | some ⟨.none, none, .fields vs, sl⟩ => vs.isEmpty && sl.isEmpty
  | _ => false
theorem tblB_ok {g : Addr → Option Obj} {P : Addr} (h : tblB g P = true) : g P = some { cls := .none, data := .fields #[] } := by
  unfold tblB at h
  split at h
  · rename_i vs sl e
    obtain ⟨h1, h2⟩ := bb h
    rw [e, Array.isEmpty_iff.mp h1, Array.isEmpty_iff.mp h2]
  · cases h
theorem lamB_ok {K : PySem.W.Frag} {g : Addr → Option Obj} {h : Heap} {p : Str × Option Str} {P : Addr} (X : K.In h) (b : lamB K g p P = true) : ∃ oc od fd osl c, K.lookup (fAd K p) = some ⟨oc, od, .func fd, osl⟩ ∧ fd.code = .ref c ∧ PySem.W.CodeHd h c P := by
  unfold lamB at b
  split at b
  · rename_i oc od fd osl e
    split at b
    · rename_i c hc
      obtain ⟨b0, b⟩ := bb b
      split at b
      · rename_i t dd vs sl e2
        obtain ⟨b1, b⟩ := bb b
        obtain ⟨b2, b⟩ := bb b
        obtain ⟨b3, b⟩ := bb b
        obtain ⟨b4, b⟩ := bb b
        obtain ⟨b5, b6⟩ := bb b
        have hv : vs[11]? = some (.ref P) := of_decide_eq_true b2
        have hg : vs.getD 11 .none = .ref P := by rw [Array.getD_eq_getD_getElem?, hv] <;> rfl
        obtain rfl : t = "code" := of_decide_eq_true b1
        split at b3
        · rename_i file tf h18
          split at b4
          · rename_i flags tg h7
            split at b5
            · rename_i inF h9
              split at b6
              · rename_i text tt h10
                exact ⟨oc, od, fd, osl, c, e, hc, _, vs, file, tf, flags, tg, inF, text, tt, X _ _ e2, rfl, rfl, hv, hg, h18, h7, h9, h10, of_decide_eq_true b0⟩
              · cases b6
            · cases b5
          · cases b4
        · cases b3
      · cases b
    · cases b
  · cases b
/-- the table's address -/
def lamP (K : PySem.W.Frag) (p : Str × Option Str) : Addr := match K.lookup (fAd K p) with
  | some ⟨_, _, .func fd, _⟩ => (match fd.code with
    | .ref c => (match K.lookup c with
      | some ⟨_, _, .fields vs, _⟩ => (match vs.getD 11 .none with
        | .ref P => P
        | _ => 0)
      | _ => 0)
    | _ => 0)
  | _ => 0
/-! ### the Hook -/
structure HkI where
  fa : List Fa
  fn : List DefD
  ts : List Tab
  xs : List (Str × Stmt)
  bits : PySem.W.Frag → Bool
  lams : List (Str × Option Str)
  n : Nat
/-- the new ones of a list, by a number's bits -/
def newN : List Addr → Nat → (List Addr → Nat → List Addr) → List Addr → List Addr
  | [], s, k, acc => k acc s
  | a :: r, s, k, acc => match Nat.beq (Nat.land (Nat.shiftRight s a) 1) 1 with
    | true => newN r s k acc
    | false => newN r (Nat.lor s (Nat.shiftLeft 1 a)) k (a :: acc)
/-- what is reached from there in n rounds -/
def asW (g : Addr → Option Obj) : Nat → List Addr → Nat → List Addr
  | 0, fr, _ => fr
  | n + 1, fr, s => newN (fr.flatMap fun a => match g a with
    | some o => refsD o
    | none => []) s (fun new s' => fr ++ asW g n new s') []
/-- all that the module's names reach, but tables, and the statics -/
def asX (g : Addr → Option Obj) (n : Nat) : List Addr := ((asW g n [mainGlobals] (Nat.shiftLeft 1 mainGlobals)).filter fun a => match g a with
  | some ⟨.none, _, _, _⟩ => false
  | _ => true) ++ [cStatics]
abbrev AlX : Type := AlT × (Bool × List FnE)
def obsK (I : HkI) (g : Addr → Option Obj) (K : PySem.W.Frag) : AlX := (obsT I.fa I.fn I.ts K, (I.bits K && I.lams.all (fun p => lamB K g p (lamP K p) && (tblB g (lamP K p) && (K.lookup (lamP K p)).isNone)), I.xs.map fun x => fnE K x.1))
def obsX (I : HkI) (g : Addr → Option Obj) : AlX := obsK I g (frG g (asX g I.n))
def valXX (I : HkI) (w : World) : AlX := (valT I.fn I.ts w, (true, I.xs.map fun x => valX x.1 x.2))
structure SaysX (I : HkI) (w : World) (K : PySem.W.Frag) (h : Heap) : Prop where
  t : SaysT I.fa I.fn I.ts w K
  bits : I.bits K = true
  xs : I.xs.map (fun x => fnE K x.1) = I.xs.map fun x => valX x.1 x.2
  lam : ∀ p ∈ I.lams, (∃ oc od fd osl c, K.lookup (fAd K p) = some ⟨oc, od, .func fd, osl⟩ ∧ fd.code = .ref c ∧ PySem.W.CodeHd h c (lamP K p)) ∧ h.get? (lamP K p) = some { cls := .none, data := .fields #[] } ∧ K.lookup (lamP K p) = none
theorem says_of {I : HkI} {w : World} {h : Heap} (e : obsX I h.get? = valXX I w) : SaysX I w (frG h.get? (asX h.get? I.n)) h := by
  have e1 := congrArg (fun z : AlX => z.1) e
  have e2 := congrArg (fun z : AlX => z.2.1) e
  have e3 := congrArg (fun z : AlX => z.2.2) e
  obtain ⟨b1, b2⟩ := bb (show (I.bits _ && I.lams.all _) = true from e2)
  refine ⟨e1, b1, e3, fun p hp => ?_⟩
  obtain ⟨b3, b4⟩ := bb (List.all_eq_true.mp b2 p hp)
  obtain ⟨b5, b6⟩ := bb b4
  exact ⟨lamB_ok frG_in b3, tblB_ok b5, Option.isNone_iff_eq_none.mp b6⟩
theorem SaysX.keeps {I : HkI} {w : World} {K : PySem.W.Frag} {h h' : Heap} (s : SaysX I w K h) (k : ∀ a o, h.get? a = some o → h'.get? a = some o) : SaysX I w K h' := ⟨s.t, s.bits, s.xs, fun p hp => by
  obtain ⟨⟨oc, od, fd, osl, c, e1, e2, e3⟩, e4, e5⟩ := s.lam p hp
  exact ⟨⟨oc, od, fd, osl, c, e1, e2, e3.keeps k⟩, k _ _ e4, e5⟩⟩
def hookX (I : HkI) : PySem.W.Hook where
  α := AlX
  obs := fun s => obsX I s.heap.get?
  val := fun w => valXX I w
  says := fun w h => ∃ K : PySem.W.Frag, K.In h ∧ SaysX I w K h
  of := fun _ _ e => ⟨_, frG_in, says_of e⟩
  keeps := fun _ _ _ ⟨K, hK, c⟩ k => ⟨K, PySem.W.Frag.In.keeps hK k, c.keeps k⟩
theorem obsX_eq {I : HkI} {g : Addr → Option Obj} {s : Shared} (h : ∀ a, g a = s.heap.get? a) : obsX I g = (hookX I).obs s := by
  have e : g = s.heap.get? := funext h
  rw [e] <;> rfl
section
variable {I : HkI} {w : World} {K : PySem.W.Frag} {h : Heap}
theorem SaysX.fact (c : SaysX I w K h) (i : Nat) {f : Fa} (e : I.fa[i]? = some f := by rfl) : f.ok K = true := c.t.d.fact i e
theorem SaysX.def_ (c : SaysX I w K h) (i : Nat) {d : DefD} (e : I.fn[i]? = some d := by rfl) : ∃ fd, FunD K d.name d.qual d.params d.body d.scope (d.dvs K) (d.kws K) (fAd K d.at_) fd := c.t.d.def_ i e
theorem SaysX.x (c : SaysX I w K h) (i : Nat) {x : Str × Stmt} (e : I.xs[i]? = some x := by rfl) : fnE K x.1 = valX x.1 x.2 := by
  have e2 : (I.xs.map fun x => fnE K x.1)[i]? = (I.xs.map fun x => valX x.1 x.2)[i]? := by rw [c.xs]
  rw [List.getElem?_map, List.getElem?_map, e] at e2
  exact Option.some.inj e2
theorem all_of {α : Type} {l : List α} {P : α → Bool} (h : l.all P = true) : ∀ x ∈ l, P x = true := fun x hx => List.all_eq_true.mp h x hx
end
end HX
end
section
set_option Elab.async false
set_option linter.all false
set_option maxRecDepth 100000
set_option maxHeartbeats 4000000
/-! The defs of the row's text, by name. -/
namespace WK
open PySem PySem.Spec PyProof.Rows L2
abbrev PG : Program := (PySem.W.OpenLaw.row PySem.Challenge.rw_wholeline_k80_whole_lines_changed).prog
def topS (i : Nat) : Stmt := PG.main.body.getD i (.Pass ⟨0, 0, 0, 0⟩)
def inClass (s : Stmt) (j : Nat) : Stmt := match s with
  | .ClassDef _ _ _ body _ _ _ _ _ _ _ => body.getD j (.Pass ⟨0, 0, 0, 0⟩)
  | _ => .Pass ⟨0, 0, 0, 0⟩
abbrev s_is_integer : Stmt := topS 4
theorem sc_is_integer : FnScope ["value"] ["value"] (defScope s_is_integer) := ⟨rfl, rfl, rfl, by decide +kernel, rfl, by decide +kernel, by decide +kernel⟩
abbrev s_is_between : Stmt := topS 5
theorem sc_is_between : FnScope ["value", "least", "most"] ["value", "least", "most"] (defScope s_is_between) := ⟨rfl, rfl, rfl, by decide +kernel, rfl, by decide +kernel, by decide +kernel⟩
abbrev s_is_name : Stmt := topS 6
theorem sc_is_name : FnScope ["value", "sign"] ["value"] (defScope s_is_name) := ⟨rfl, rfl, rfl, by decide +kernel, rfl, by decide +kernel, by decide +kernel⟩
abbrev s_is_list : Stmt := topS 7
theorem sc_is_list : FnScope ["value"] ["value"] (defScope s_is_list) := ⟨rfl, rfl, rfl, by decide +kernel, rfl, by decide +kernel, by decide +kernel⟩
abbrev s_is_rising : Stmt := topS 8
theorem sc_is_rising : FnScope ["values", "one", "other"] ["values"] (defScope s_is_rising) := ⟨rfl, rfl, rfl, by decide +kernel, rfl, by decide +kernel, by decide +kernel⟩
abbrev s_good_begin : Stmt := topS 25
theorem sc_good_begin : FnScope ["begin"] ["begin"] (defScope s_good_begin) := ⟨rfl, rfl, rfl, by decide +kernel, rfl, by decide +kernel, by decide +kernel⟩
abbrev s_good_delays : Stmt := topS 26
theorem sc_good_delays : FnScope ["least", "most"] ["least", "most"] (defScope s_good_delays) := ⟨rfl, rfl, rfl, by decide +kernel, rfl, by decide +kernel, by decide +kernel⟩
abbrev s_good_box : Stmt := topS 27
theorem sc_good_box : FnScope ["box", "least", "most", "near", "far", "shortest", "longest", "number"] ["box", "least", "most"] (defScope s_good_box) := ⟨rfl, rfl, rfl, by decide +kernel, rfl, by decide +kernel, by decide +kernel⟩
abbrev s_Way__init__ : Stmt := inClass (topS 28) 0
theorem sc_Way__init__ : FnScope ["self", "begin", "least", "most", "boxes", "index", "box"] ["self", "begin", "least", "most", "boxes"] (defScope s_Way__init__) := ⟨rfl, rfl, rfl, by decide +kernel, rfl, by decide +kernel, by decide +kernel⟩
abbrev s_Way__eq__ : Stmt := inClass (topS 28) 1
theorem sc_Way__eq__ : FnScope ["self", "other", "mine"] ["self", "other"] (defScope s_Way__eq__) := ⟨rfl, rfl, rfl, by decide +kernel, rfl, by decide +kernel, by decide +kernel⟩
abbrev s_Way_begun_at : Stmt := inClass (topS 28) 3
theorem sc_Way_begun_at : FnScope ["self", "begin"] ["self", "begin"] (defScope s_Way_begun_at) := ⟨rfl, rfl, rfl, by decide +kernel, rfl, by decide +kernel, by decide +kernel⟩
abbrev s_is_letter : Stmt := topS 34
theorem sc_is_letter : FnScope ["value", "head"] ["value"] (defScope s_is_letter) := ⟨rfl, rfl, rfl, by decide +kernel, rfl, by decide +kernel, by decide +kernel⟩
abbrev s_checked_row : Stmt := topS 35
theorem sc_checked_row : FnScope ["index", "row", "at", "letter"] ["index", "row"] (defScope s_checked_row) := ⟨rfl, rfl, rfl, by decide +kernel, rfl, by decide +kernel, by decide +kernel⟩
abbrev s_checked_rows : Stmt := topS 36
theorem sc_checked_rows : FnScope ["rows", "found", "index", "row"] ["rows"] (defScope s_checked_rows) := ⟨rfl, rfl, rfl, by decide +kernel, rfl, by decide +kernel, by decide +kernel⟩
abbrev s_Mail__init__ : Stmt := inClass (topS 37) 0
theorem sc_Mail__init__ : FnScope ["self", "rows"] ["self", "rows"] (defScope s_Mail__init__) := ⟨rfl, rfl, rfl, by decide +kernel, rfl, by decide +kernel, by decide +kernel⟩
abbrev s_Mail__eq__ : Stmt := inClass (topS 37) 4
theorem sc_Mail__eq__ : FnScope ["self", "other"] ["self", "other"] (defScope s_Mail__eq__) := ⟨rfl, rfl, rfl, by decide +kernel, rfl, by decide +kernel, by decide +kernel⟩
abbrev s_is_bound : Stmt := topS 41
theorem sc_is_bound : FnScope ["value"] ["value"] (defScope s_is_bound) := ⟨rfl, rfl, rfl, by decide +kernel, rfl, by decide +kernel, by decide +kernel⟩
abbrev s_Steps__init__ : Stmt := inClass (topS 42) 0
theorem sc_Steps__init__ : FnScope ["self", "bounds", "index", "bound"] ["self", "bounds"] (defScope s_Steps__init__) := ⟨rfl, rfl, rfl, by decide +kernel, rfl, by decide +kernel, by decide +kernel⟩
abbrev s_Steps__eq__ : Stmt := inClass (topS 42) 6
theorem sc_Steps__eq__ : FnScope ["self", "other"] ["self", "other"] (defScope s_Steps__eq__) := ⟨rfl, rfl, rfl, by decide +kernel, rfl, by decide +kernel, by decide +kernel⟩
abbrev s_Room__init__ : Stmt := inClass (topS 44) 0
theorem sc_Room__init__ : FnScope ["self", "size", "steps"] ["self", "size", "steps"] (defScope s_Room__init__) := ⟨rfl, rfl, rfl, by decide +kernel, rfl, by decide +kernel, by decide +kernel⟩
abbrev s_Room__eq__ : Stmt := inClass (topS 44) 2
theorem sc_Room__eq__ : FnScope ["self", "other"] ["self", "other"] (defScope s_Room__eq__) := ⟨rfl, rfl, rfl, by decide +kernel, rfl, by decide +kernel, by decide +kernel⟩
abbrev s_is_right_setting : Stmt := topS 49
theorem sc_is_right_setting : FnScope ["word", "value", "least", "most", "way", "width"] ["word", "value"] (defScope s_is_right_setting) := ⟨rfl, rfl, rfl, by decide +kernel, rfl, by decide +kernel, by decide +kernel⟩
abbrev s_is_change : Stmt := topS 50
theorem sc_is_change : FnScope ["line", "change"] ["line", "change"] (defScope s_is_change) := ⟨rfl, rfl, rfl, by decide +kernel, rfl, by decide +kernel, by decide +kernel⟩
abbrev s_with_bound : Stmt := topS 51
theorem sc_with_bound : FnScope ["room", "bound", "bounds", "place", "other"] ["room", "bound"] (defScope s_with_bound) := ⟨rfl, rfl, rfl, by decide +kernel, rfl, by decide +kernel, by decide +kernel⟩
abbrev s_Line__init__ : Stmt := inClass (topS 52) 0
theorem sc_Line__init__ : FnScope ["self", "mail", "ways", "widths", "turn", "numbers", "room", "head", "places", "cost", "period", "quiet", "silent", "losses", "values", "word", "value", "way"] ["self", "mail", "ways", "widths", "turn", "numbers", "room", "head", "places", "cost", "period", "quiet", "silent", "losses"] (defScope s_Line__init__) := ⟨rfl, rfl, rfl, by decide +kernel, rfl, by decide +kernel, by decide +kernel⟩
abbrev s_Line__eq__ : Stmt := inClass (topS 52) 1
theorem sc_Line__eq__ : FnScope ["self", "other", "word"] ["self", "other"] (defScope s_Line__eq__) := ⟨rfl, rfl, rfl, by decide +kernel, rfl, by decide +kernel, by decide +kernel⟩
abbrev s_Line_with_setting : Stmt := inClass (topS 52) 2
theorem sc_Line_with_setting : FnScope ["self", "word", "value", "given", "one"] ["self", "word", "value"] (defScope s_Line_with_setting) := ⟨rfl, rfl, rfl, by decide +kernel, rfl, by decide +kernel, by decide +kernel⟩
abbrev s_Line_changed : Stmt := inClass (topS 52) 3
theorem sc_Line_changed : FnScope ["self", "change", "ways"] ["self", "change"] (defScope s_Line_changed) := ⟨rfl, rfl, rfl, by decide +kernel, rfl, by decide +kernel, by decide +kernel⟩
abbrev s_line_of : Stmt := topS 53
theorem sc_line_of : FnScope ["given"] ["given"] (defScope s_line_of) := ⟨rfl, rfl, rfl, by decide +kernel, rfl, by decide +kernel, by decide +kernel⟩
abbrev s__law_start : Stmt := topS 55
theorem sc__law_start : FnScope ["_law_script", "_law_first"] ["_law_script"] (defScope s__law_start) := ⟨rfl, rfl, rfl, by decide +kernel, rfl, by decide +kernel, by decide +kernel⟩
abbrev s__law_draw : Stmt := topS 56
theorem sc__law_draw : FnScope ["_law_script", "_law_state", "_law_limit", "_law_number", "_law_cell", "_law_mixed"] ["_law_script", "_law_state", "_law_limit"] (defScope s__law_draw) := ⟨rfl, rfl, rfl, by decide +kernel, rfl, by decide +kernel, by decide +kernel⟩
abbrev s__law_mail : Stmt := topS 57
theorem sc__law_mail : FnScope ["_law_script", "_law_state", "_law_rows", "_law_k", "_law_row", "_law_j", "_law_names", "_law_i"] ["_law_script", "_law_state"] (defScope s__law_mail) := ⟨rfl, rfl, rfl, by decide +kernel, rfl, by decide +kernel, by decide +kernel⟩
abbrev s__law_rising : Stmt := topS 58
theorem sc__law_rising : FnScope ["_law_script", "_law_state", "_law_most", "_law_top", "_law_found", "_law_k"] ["_law_script", "_law_state", "_law_most", "_law_top"] (defScope s__law_rising) := ⟨rfl, rfl, rfl, by decide +kernel, rfl, by decide +kernel, by decide +kernel⟩
abbrev s__law_box : Stmt := topS 59
theorem sc__law_box : FnScope ["_law_script", "_law_state", "_law_low", "_law_high", "_law_near", "_law_far", "_law_keep"] ["_law_script", "_law_state", "_law_low", "_law_high"] (defScope s__law_box) := ⟨rfl, rfl, rfl, by decide +kernel, rfl, by decide +kernel, by decide +kernel⟩
abbrev s__law_way : Stmt := topS 60
theorem sc__law_way : FnScope ["_law_script", "_law_state", "_law_low", "_law_high", "_law_begin", "_law_boxes"] ["_law_script", "_law_state"] (defScope s__law_way) := ⟨rfl, rfl, rfl, by decide +kernel, rfl, by decide +kernel, by decide +kernel⟩
abbrev s__law_raw : Stmt := topS 61
theorem sc__law_raw : FnScope ["_law_script", "_law_state", "_law_raw_here", "_law_begin", "_law_low", "_law_high", "_law_boxes", "_law_k"] ["_law_script", "_law_state"] (defScope s__law_raw) := ⟨rfl, rfl, rfl, by decide +kernel, rfl, by decide +kernel, by decide +kernel⟩
abbrev s__law_made_ways : Stmt := topS 62
theorem sc__law_made_ways : FnScope ["_law_raw_here", "_law_begin", "_law_low", "_law_high", "_law_boxes"] ["_law_raw_here"] (defScope s__law_made_ways) := ⟨rfl, rfl, rfl, by decide +kernel, rfl, by decide +kernel, by decide +kernel⟩
abbrev s__law_line : Stmt := topS 63
theorem sc__law_line : FnScope ["_law_raw_here", "_law_mail_here", "_law_made"] ["_law_raw_here"] (defScope s__law_line) := ⟨rfl, rfl, rfl, by decide +kernel, rfl, by decide +kernel, by decide +kernel⟩
abbrev s__law_copy : Stmt := topS 64
theorem sc__law_copy : FnScope ["_law_raw_here", "_law_found", "_law_word"] ["_law_raw_here"] (defScope s__law_copy) := ⟨rfl, rfl, rfl, by decide +kernel, rfl, by decide +kernel, by decide +kernel⟩
abbrev s__law_change : Stmt := topS 65
theorem sc__law_change : FnScope ["_law_script", "_law_state", "_law_raw_here", "_law_kind", "_law_way_here", "_law_word", "_law_most"] ["_law_script", "_law_state", "_law_raw_here"] (defScope s__law_change) := ⟨rfl, rfl, rfl, by decide +kernel, rfl, by decide +kernel, by decide +kernel⟩
abbrev s__law_after : Stmt := topS 66
theorem sc__law_after : FnScope ["_law_raw_here", "_law_change_here", "_law_found", "_law_way_here", "_law_bounds", "_law_one"] ["_law_raw_here", "_law_change_here"] (defScope s__law_after) := ⟨rfl, rfl, rfl, by decide +kernel, rfl, by decide +kernel, by decide +kernel⟩
abbrev s__law_can_be : Stmt := topS 67
theorem sc__law_can_be : FnScope ["_law_raw_here", "_law_begin", "_law_low", "_law_high", "_law_boxes"] ["_law_raw_here"] (defScope s__law_can_be) := ⟨rfl, rfl, rfl, by decide +kernel, rfl, by decide +kernel, by decide +kernel⟩
abbrev s__law_told : Stmt := topS 68
theorem sc__law_told : FnScope ["_law_action", "_law_told_here", "e"] ["_law_action"] (defScope s__law_told) := ⟨rfl, rfl, rfl, by decide +kernel, rfl, by decide +kernel, by decide +kernel⟩
abbrev s__law_refused_hold : Stmt := topS 69
theorem sc__law_refused_hold : FnScope ["_law_line_here", "_law_cases", "_law_change_here", "_law_due"] ["_law_line_here"] (defScope s__law_refused_hold) := ⟨rfl, rfl, rfl, by decide +kernel, rfl, by decide +kernel, by decide +kernel⟩
abbrev s__law_same : Stmt := topS 70
theorem sc__law_same : FnScope ["_law_line_here", "_law_raw_here"] ["_law_line_here", "_law_raw_here"] (defScope s__law_same) := ⟨rfl, rfl, rfl, by decide +kernel, rfl, by decide +kernel, by decide +kernel⟩
abbrev s_law : Stmt := topS 71
theorem sc_law : FnScope ["_law_script", "_law_state", "_law_raw_here", "_law_first", "_law_line_here", "_law_now", "_law_k", "_law_change_here", "_law_after_here", "_law_back", "_law_word", "_law_way_here"] ["_law_script"] (defScope s_law) := ⟨rfl, rfl, rfl, by decide +kernel, rfl, by decide +kernel, by decide +kernel⟩
end WK
end
section
set_option Elab.async false
set_option linter.all false
set_option maxRecDepth 100000
set_option maxHeartbeats 4000000
/-! What the top has left, as one structure; names for the derivations. -/
namespace WK
open PySem PySem.Spec PyProof.Rows L2
def fdOf (K : PySem.W.Frag) (key : Str × Option Str) : FuncData := match K.lookup (He.fAd K key) with
  | some ⟨_, _, .func fd, _⟩ => fd
  | _ => PySem.W.fnOf "" "" { posonlyargs := [], args := [], vararg := none, kwonlyargs := [], kw_defaults := [], kwarg := none, defaults := [] } [] { kind := .function, names := [], isGenerator := false, isCoroutine := false, more := [] } .none .none .none .none none .none .none
abbrev CLS : List Str := ["Way", "Mail", "Steps", "Room", "Line"]
abbrev SETL : List Str := ["mail", "ways", "widths", "turn", "numbers", "room", "head", "places", "cost", "period", "quiet", "silent", "losses"]
abbrev PLAL : List Str := ["turn", "numbers", "room", "period", "head", "bound"]
abbrev TYS : List String := ["int", "bool", "str", "list", "tuple"]
abbrev XSL : List Str := ["BadChange", "BadPart", "BadSteps"]
structure Txt (K : PySem.W.Frag) (mg : Str → Option Value) (w : World) : Prop where
  f_abs : mg "abs" = none
  f_all : mg "all" = none
  f_any : mg "any" = none
  f_bool : mg "bool" = none
  f_dict : mg "dict" = none
  f_enumerate : mg "enumerate" = none
  f_int : mg "int" = none
  f_isinstance : mg "isinstance" = none
  f_len : mg "len" = none
  f_list : mg "list" = none
  f_max : mg "max" = none
  f_range : mg "range" = none
  f_sorted : mg "sorted" = none
  f_str : mg "str" = none
  f_tuple : mg "tuple" = none
  f_zip : mg "zip" = none
  s_LETTERS : ∃ t, mg "LETTERS" = some (.str "abcdefghijklmnopqrstuvwxyz" t)
  i_MOST_LETTERS_common : ∃ t, mg "MOST_LETTERS_common" = some (.int 8 t)
  i_LATEST_BEGIN : ∃ t, mg "LATEST_BEGIN" = some (.int 1000 t)
  i_GREATEST_DELAY : ∃ t, mg "GREATEST_DELAY" = some (.int 50 t)
  i_MOST_BOXES : ∃ t, mg "MOST_BOXES" = some (.int 3 t)
  i_LONGEST_KEEP : ∃ t, mg "LONGEST_KEEP" = some (.int 10000 t)
  i_MOST_HEADS : ∃ t, mg "MOST_HEADS" = some (.int 4 t)
  i_MOST_BODY : ∃ t, mg "MOST_BODY" = some (.int 60 t)
  i_MOST_LETTERS_letters : ∃ t, mg "MOST_LETTERS_letters" = some (.int 6 t)
  i_MOST_ROWS : ∃ t, mg "MOST_ROWS" = some (.int 3 t)
  i_MOST_SIZE : ∃ t, mg "MOST_SIZE" = some (.int 60 t)
  i_MOST_BOUNDS : ∃ t, mg "MOST_BOUNDS" = some (.int 4 t)
  g_SETTINGS : mg "SETTINGS" = some (.ref (He.ga K "SETTINGS"))
  g_BOUNDS : mg "BOUNDS" = some (.ref (He.ga K "BOUNDS"))
  g_PLAIN_CHANGES : mg "PLAIN_CHANGES" = some (.ref (He.ga K "PLAIN_CHANGES"))
  x_BadPart : WX.Xc PG K mg "BadPart" "part" (fdOf K ("BadPart", some "__init__"))
  xb_BadPart : L2.Binds K (fdOf K ("BadPart", some "__init__")) ["self", "part"] []
  x_BadSteps : WX.Xc PG K mg "BadSteps" "index" (fdOf K ("BadSteps", some "__init__"))
  xb_BadSteps : L2.Binds K (fdOf K ("BadSteps", some "__init__")) ["self", "index"] []
  x_BadChange : WX.Xc PG K mg "BadChange" "change" (fdOf K ("BadChange", some "__init__"))
  xb_BadChange : L2.Binds K (fdOf K ("BadChange", some "__init__")) ["self", "change"] []
  g_Way : mg "Way" = some (.ref (He.ga K "Way"))
  c_Way : Cls K (He.ga K "Way")
  is_Way : WL.IsC K "Way"
  n_Way_begin : NoAttr K (He.ga K "Way") "begin"
  n_Way_least : NoAttr K (He.ga K "Way") "least"
  n_Way_most : NoAttr K (He.ga K "Way") "most"
  n_Way_boxes : NoAttr K (He.ga K "Way") "boxes"
  mk_Way : Mk K (He.ga K "Way") (He.ma K (He.ga K "Way") "__init__")
  m_Way__eq__ : Meth K (He.ga K "Way") "__eq__" (He.ma K (He.ga K "Way") "__eq__")
  m_Way_begun_at : Meth K (He.ga K "Way") "begun_at" (He.ma K (He.ga K "Way") "begun_at")
  g_Mail : mg "Mail" = some (.ref (He.ga K "Mail"))
  c_Mail : Cls K (He.ga K "Mail")
  is_Mail : WL.IsC K "Mail"
  n_Mail_kept_rows : NoAttr K (He.ga K "Mail") "kept_rows"
  mk_Mail : Mk K (He.ga K "Mail") (He.ma K (He.ga K "Mail") "__init__")
  m_Mail__eq__ : Meth K (He.ga K "Mail") "__eq__" (He.ma K (He.ga K "Mail") "__eq__")
  g_Steps : mg "Steps" = some (.ref (He.ga K "Steps"))
  c_Steps : Cls K (He.ga K "Steps")
  is_Steps : WL.IsC K "Steps"
  n_Steps_bounds : NoAttr K (He.ga K "Steps") "bounds"
  mk_Steps : Mk K (He.ga K "Steps") (He.ma K (He.ga K "Steps") "__init__")
  m_Steps__eq__ : Meth K (He.ga K "Steps") "__eq__" (He.ma K (He.ga K "Steps") "__eq__")
  g_Room : mg "Room" = some (.ref (He.ga K "Room"))
  c_Room : Cls K (He.ga K "Room")
  is_Room : WL.IsC K "Room"
  n_Room_size : NoAttr K (He.ga K "Room") "size"
  n_Room_steps : NoAttr K (He.ga K "Room") "steps"
  mk_Room : Mk K (He.ga K "Room") (He.ma K (He.ga K "Room") "__init__")
  m_Room__eq__ : Meth K (He.ga K "Room") "__eq__" (He.ma K (He.ga K "Room") "__eq__")
  g_Line : mg "Line" = some (.ref (He.ga K "Line"))
  c_Line : Cls K (He.ga K "Line")
  is_Line : WL.IsC K "Line"
  n_Line_given : NoAttr K (He.ga K "Line") "given"
  n_Line_mail : NoAttr K (He.ga K "Line") "mail"
  n_Line_ways : NoAttr K (He.ga K "Line") "ways"
  n_Line_widths : NoAttr K (He.ga K "Line") "widths"
  n_Line_turn : NoAttr K (He.ga K "Line") "turn"
  n_Line_numbers : NoAttr K (He.ga K "Line") "numbers"
  n_Line_room : NoAttr K (He.ga K "Line") "room"
  n_Line_head : NoAttr K (He.ga K "Line") "head"
  n_Line_places : NoAttr K (He.ga K "Line") "places"
  n_Line_cost : NoAttr K (He.ga K "Line") "cost"
  n_Line_period : NoAttr K (He.ga K "Line") "period"
  n_Line_quiet : NoAttr K (He.ga K "Line") "quiet"
  n_Line_silent : NoAttr K (He.ga K "Line") "silent"
  n_Line_losses : NoAttr K (He.ga K "Line") "losses"
  mk_Line : Mk K (He.ga K "Line") (He.ma K (He.ga K "Line") "__init__")
  m_Line__eq__ : Meth K (He.ga K "Line") "__eq__" (He.ma K (He.ga K "Line") "__eq__")
  m_Line_with_setting : Meth K (He.ga K "Line") "with_setting" (He.ma K (He.ga K "Line") "with_setting")
  m_Line_changed : Meth K (He.ga K "Line") "changed" (He.ma K (He.ga K "Line") "changed")
  g_is_integer : mg "is_integer" = some (.ref (He.ga K "is_integer"))
  d_is_integer : FunD K "is_integer" "is_integer" (defArgs s_is_integer) (defBody s_is_integer) (defScope s_is_integer) [] [] (He.ga K "is_integer") (fdOf K ("is_integer", none))
  g_is_between : mg "is_between" = some (.ref (He.ga K "is_between"))
  d_is_between : FunD K "is_between" "is_between" (defArgs s_is_between) (defBody s_is_between) (defScope s_is_between) [] [] (He.ga K "is_between") (fdOf K ("is_between", none))
  g_is_name : mg "is_name" = some (.ref (He.ga K "is_name"))
  d_is_name : FunD K "is_name" "is_name" (defArgs s_is_name) (defBody s_is_name) (defScope s_is_name) [] [] (He.ga K "is_name") (fdOf K ("is_name", none))
  g_is_list : mg "is_list" = some (.ref (He.ga K "is_list"))
  d_is_list : FunD K "is_list" "is_list" (defArgs s_is_list) (defBody s_is_list) (defScope s_is_list) [] [] (He.ga K "is_list") (fdOf K ("is_list", none))
  g_is_rising : mg "is_rising" = some (.ref (He.ga K "is_rising"))
  d_is_rising : FunD K "is_rising" "is_rising" (defArgs s_is_rising) (defBody s_is_rising) (defScope s_is_rising) [] [] (He.ga K "is_rising") (fdOf K ("is_rising", none))
  g_good_begin : mg "good_begin" = some (.ref (He.ga K "good_begin"))
  d_good_begin : FunD K "good_begin" "good_begin" (defArgs s_good_begin) (defBody s_good_begin) (defScope s_good_begin) [] [] (He.ga K "good_begin") (fdOf K ("good_begin", none))
  g_good_delays : mg "good_delays" = some (.ref (He.ga K "good_delays"))
  d_good_delays : FunD K "good_delays" "good_delays" (defArgs s_good_delays) (defBody s_good_delays) (defScope s_good_delays) [] [] (He.ga K "good_delays") (fdOf K ("good_delays", none))
  g_good_box : mg "good_box" = some (.ref (He.ga K "good_box"))
  d_good_box : FunD K "good_box" "good_box" (defArgs s_good_box) (defBody s_good_box) (defScope s_good_box) [] [] (He.ga K "good_box") (fdOf K ("good_box", none))
  d_Way__init__ : FunD K "__init__" "Way.__init__" (defArgs s_Way__init__) (defBody s_Way__init__) (defScope s_Way__init__) [V.ref (He.dflAt ("Way", some "__init__") 0 K)] [] (He.ma K (He.ga K "Way") "__init__") (fdOf K ("Way", some "__init__"))
  d_Way__eq__ : FunD K "__eq__" "Way.__eq__" (defArgs s_Way__eq__) (defBody s_Way__eq__) (defScope s_Way__eq__) [] [] (He.ma K (He.ga K "Way") "__eq__") (fdOf K ("Way", some "__eq__"))
  d_Way_begun_at : FunD K "begun_at" "Way.begun_at" (defArgs s_Way_begun_at) (defBody s_Way_begun_at) (defScope s_Way_begun_at) [] [] (He.ma K (He.ga K "Way") "begun_at") (fdOf K ("Way", some "begun_at"))
  g_is_letter : mg "is_letter" = some (.ref (He.ga K "is_letter"))
  d_is_letter : FunD K "is_letter" "is_letter" (defArgs s_is_letter) (defBody s_is_letter) (defScope s_is_letter) [] [] (He.ga K "is_letter") (fdOf K ("is_letter", none))
  g_checked_row : mg "checked_row" = some (.ref (He.ga K "checked_row"))
  d_checked_row : FunD K "checked_row" "checked_row" (defArgs s_checked_row) (defBody s_checked_row) (defScope s_checked_row) [] [] (He.ga K "checked_row") (fdOf K ("checked_row", none))
  g_checked_rows : mg "checked_rows" = some (.ref (He.ga K "checked_rows"))
  d_checked_rows : FunD K "checked_rows" "checked_rows" (defArgs s_checked_rows) (defBody s_checked_rows) (defScope s_checked_rows) [] [] (He.ga K "checked_rows") (fdOf K ("checked_rows", none))
  d_Mail__init__ : FunD K "__init__" "Mail.__init__" (defArgs s_Mail__init__) (defBody s_Mail__init__) (defScope s_Mail__init__) [] [] (He.ma K (He.ga K "Mail") "__init__") (fdOf K ("Mail", some "__init__"))
  d_Mail__eq__ : FunD K "__eq__" "Mail.__eq__" (defArgs s_Mail__eq__) (defBody s_Mail__eq__) (defScope s_Mail__eq__) [] [] (He.ma K (He.ga K "Mail") "__eq__") (fdOf K ("Mail", some "__eq__"))
  g_is_bound : mg "is_bound" = some (.ref (He.ga K "is_bound"))
  d_is_bound : FunD K "is_bound" "is_bound" (defArgs s_is_bound) (defBody s_is_bound) (defScope s_is_bound) [] [] (He.ga K "is_bound") (fdOf K ("is_bound", none))
  d_Steps__init__ : FunD K "__init__" "Steps.__init__" (defArgs s_Steps__init__) (defBody s_Steps__init__) (defScope s_Steps__init__) [] [] (He.ma K (He.ga K "Steps") "__init__") (fdOf K ("Steps", some "__init__"))
  d_Steps__eq__ : FunD K "__eq__" "Steps.__eq__" (defArgs s_Steps__eq__) (defBody s_Steps__eq__) (defScope s_Steps__eq__) [] [] (He.ma K (He.ga K "Steps") "__eq__") (fdOf K ("Steps", some "__eq__"))
  d_Room__init__ : FunD K "__init__" "Room.__init__" (defArgs s_Room__init__) (defBody s_Room__init__) (defScope s_Room__init__) [] [] (He.ma K (He.ga K "Room") "__init__") (fdOf K ("Room", some "__init__"))
  d_Room__eq__ : FunD K "__eq__" "Room.__eq__" (defArgs s_Room__eq__) (defBody s_Room__eq__) (defScope s_Room__eq__) [] [] (He.ma K (He.ga K "Room") "__eq__") (fdOf K ("Room", some "__eq__"))
  g_is_right_setting : mg "is_right_setting" = some (.ref (He.ga K "is_right_setting"))
  d_is_right_setting : FunD K "is_right_setting" "is_right_setting" (defArgs s_is_right_setting) (defBody s_is_right_setting) (defScope s_is_right_setting) [] [] (He.ga K "is_right_setting") (fdOf K ("is_right_setting", none))
  g_is_change : mg "is_change" = some (.ref (He.ga K "is_change"))
  d_is_change : FunD K "is_change" "is_change" (defArgs s_is_change) (defBody s_is_change) (defScope s_is_change) [] [] (He.ga K "is_change") (fdOf K ("is_change", none))
  g_with_bound : mg "with_bound" = some (.ref (He.ga K "with_bound"))
  d_with_bound : FunD K "with_bound" "with_bound" (defArgs s_with_bound) (defBody s_with_bound) (defScope s_with_bound) [] [] (He.ga K "with_bound") (fdOf K ("with_bound", none))
  d_Line__init__ : FunD K "__init__" "Line.__init__" (defArgs s_Line__init__) (defBody s_Line__init__) (defScope s_Line__init__) [] [] (He.ma K (He.ga K "Line") "__init__") (fdOf K ("Line", some "__init__"))
  d_Line__eq__ : FunD K "__eq__" "Line.__eq__" (defArgs s_Line__eq__) (defBody s_Line__eq__) (defScope s_Line__eq__) [] [] (He.ma K (He.ga K "Line") "__eq__") (fdOf K ("Line", some "__eq__"))
  d_Line_with_setting : FunD K "with_setting" "Line.with_setting" (defArgs s_Line_with_setting) (defBody s_Line_with_setting) (defScope s_Line_with_setting) [] [] (He.ma K (He.ga K "Line") "with_setting") (fdOf K ("Line", some "with_setting"))
  d_Line_changed : FunD K "changed" "Line.changed" (defArgs s_Line_changed) (defBody s_Line_changed) (defScope s_Line_changed) [] [] (He.ma K (He.ga K "Line") "changed") (fdOf K ("Line", some "changed"))
  g_line_of : mg "line_of" = some (.ref (He.ga K "line_of"))
  d_line_of : FunD K "line_of" "line_of" (defArgs s_line_of) (defBody s_line_of) (defScope s_line_of) [] [] (He.ga K "line_of") (fdOf K ("line_of", none))
  g__law_start : mg "_law_start" = some (.ref (He.ga K "_law_start"))
  d__law_start : FunD K "_law_start" "_law_start" (defArgs s__law_start) (defBody s__law_start) (defScope s__law_start) [] [] (He.ga K "_law_start") (fdOf K ("_law_start", none))
  g__law_draw : mg "_law_draw" = some (.ref (He.ga K "_law_draw"))
  d__law_draw : FunD K "_law_draw" "_law_draw" (defArgs s__law_draw) (defBody s__law_draw) (defScope s__law_draw) [] [] (He.ga K "_law_draw") (fdOf K ("_law_draw", none))
  g__law_mail : mg "_law_mail" = some (.ref (He.ga K "_law_mail"))
  d__law_mail : FunD K "_law_mail" "_law_mail" (defArgs s__law_mail) (defBody s__law_mail) (defScope s__law_mail) [] [] (He.ga K "_law_mail") (fdOf K ("_law_mail", none))
  g__law_rising : mg "_law_rising" = some (.ref (He.ga K "_law_rising"))
  d__law_rising : FunD K "_law_rising" "_law_rising" (defArgs s__law_rising) (defBody s__law_rising) (defScope s__law_rising) [] [] (He.ga K "_law_rising") (fdOf K ("_law_rising", none))
  g__law_box : mg "_law_box" = some (.ref (He.ga K "_law_box"))
  d__law_box : FunD K "_law_box" "_law_box" (defArgs s__law_box) (defBody s__law_box) (defScope s__law_box) [] [] (He.ga K "_law_box") (fdOf K ("_law_box", none))
  g__law_way : mg "_law_way" = some (.ref (He.ga K "_law_way"))
  d__law_way : FunD K "_law_way" "_law_way" (defArgs s__law_way) (defBody s__law_way) (defScope s__law_way) [] [] (He.ga K "_law_way") (fdOf K ("_law_way", none))
  g__law_raw : mg "_law_raw" = some (.ref (He.ga K "_law_raw"))
  d__law_raw : FunD K "_law_raw" "_law_raw" (defArgs s__law_raw) (defBody s__law_raw) (defScope s__law_raw) [] [] (He.ga K "_law_raw") (fdOf K ("_law_raw", none))
  g__law_made_ways : mg "_law_made_ways" = some (.ref (He.ga K "_law_made_ways"))
  d__law_made_ways : FunD K "_law_made_ways" "_law_made_ways" (defArgs s__law_made_ways) (defBody s__law_made_ways) (defScope s__law_made_ways) [] [] (He.ga K "_law_made_ways") (fdOf K ("_law_made_ways", none))
  g__law_line : mg "_law_line" = some (.ref (He.ga K "_law_line"))
  d__law_line : FunD K "_law_line" "_law_line" (defArgs s__law_line) (defBody s__law_line) (defScope s__law_line) [] [] (He.ga K "_law_line") (fdOf K ("_law_line", none))
  g__law_copy : mg "_law_copy" = some (.ref (He.ga K "_law_copy"))
  d__law_copy : FunD K "_law_copy" "_law_copy" (defArgs s__law_copy) (defBody s__law_copy) (defScope s__law_copy) [] [] (He.ga K "_law_copy") (fdOf K ("_law_copy", none))
  g__law_change : mg "_law_change" = some (.ref (He.ga K "_law_change"))
  d__law_change : FunD K "_law_change" "_law_change" (defArgs s__law_change) (defBody s__law_change) (defScope s__law_change) [] [] (He.ga K "_law_change") (fdOf K ("_law_change", none))
  g__law_after : mg "_law_after" = some (.ref (He.ga K "_law_after"))
  d__law_after : FunD K "_law_after" "_law_after" (defArgs s__law_after) (defBody s__law_after) (defScope s__law_after) [] [] (He.ga K "_law_after") (fdOf K ("_law_after", none))
  g__law_can_be : mg "_law_can_be" = some (.ref (He.ga K "_law_can_be"))
  d__law_can_be : FunD K "_law_can_be" "_law_can_be" (defArgs s__law_can_be) (defBody s__law_can_be) (defScope s__law_can_be) [] [] (He.ga K "_law_can_be") (fdOf K ("_law_can_be", none))
  g__law_told : mg "_law_told" = some (.ref (He.ga K "_law_told"))
  d__law_told : FunD K "_law_told" "_law_told" (defArgs s__law_told) (defBody s__law_told) (defScope s__law_told) [] [] (He.ga K "_law_told") (fdOf K ("_law_told", none))
  g__law_refused_hold : mg "_law_refused_hold" = some (.ref (He.ga K "_law_refused_hold"))
  d__law_refused_hold : FunD K "_law_refused_hold" "_law_refused_hold" (defArgs s__law_refused_hold) (defBody s__law_refused_hold) (defScope s__law_refused_hold) [] [] (He.ga K "_law_refused_hold") (fdOf K ("_law_refused_hold", none))
  g__law_same : mg "_law_same" = some (.ref (He.ga K "_law_same"))
  d__law_same : FunD K "_law_same" "_law_same" (defArgs s__law_same) (defBody s__law_same) (defScope s__law_same) [] [] (He.ga K "_law_same") (fdOf K ("_law_same", none))
  g_law : mg "law" = some (.ref (He.ga K "law"))
  d_law : FunD K "law" "law" (defArgs s_law) (defBody s_law) (defScope s_law) [] [] (He.ga K "law") (fdOf K ("law", none))
  kt : ∀ c ∈ CLS, ∀ t ∈ TYS, PySem.W.kitOne K (.ref (He.ga K c)) (.type t) = some false
  kb : ∀ c ∈ CLS, ∀ t ∈ ["NoneType", "int", "bool", "str", "list", "tuple"], PySem.W.kitOne K (.type t) (.ref (He.ga K c)) = some false
  kc : ∀ c ∈ CLS, ∀ c' ∈ CLS, PySem.W.kitOne K (.ref (He.ga K c)) (.ref (He.ga K c')) = some (decide (c = c'))
  kset : WL.KT K (He.ga K "SETTINGS") (SETL.map V.str)
  kpla : WL.KT K (He.ga K "PLAIN_CHANGES") (PLAL.map V.str)
  kbnd : ∀ q ∈ [(("turn" : Str), (1 : Int), (200 : Int)), ("numbers", 2, 8), ("head", 1, 8), ("places", 0, 4), ("cost", 2, 9), ("period", 1, 200), ("quiet", 1, 500), ("silent", 0, 3), ("losses", 1, 3)], ∃ a, KDct K w (He.ga K "BOUNDS") q.1 (.ref a) ∧ WL.KT K a [.int q.2.1, .int q.2.2]
  kdfl : WL.KT K (He.dflAt ("Way", some "__init__") 0 K) []
  neq : ∀ c ∈ CLS, PySem.W.findIn K (.ref (He.ga K c)) "__ne__" = some (some (.builtin "object.__ne__")) ∧ PySem.W.subIn K (.ref (He.ga K c)) (.type "object") = some true
  feq : ∀ c ∈ CLS, PySem.W.findIn K (.ref (He.ga K c)) "__eq__" = some (some (.ref (He.ma K (He.ga K c) "__eq__"))) ∧ PySem.W.isFn K (.ref (He.ma K (He.ga K c) "__eq__")) = true
theorem bi_is_integer {K : PySem.W.Frag} {mg : Str → Option Value} {w : World} (T : Txt K mg w) : Binds K (fdOf K ("is_integer", none)) ["value"] [] := T.d_is_integer.bindsN fun _ _ _ _ _ _ us hl => match us, hl with | [_], _ => rfl
theorem bi_is_between {K : PySem.W.Frag} {mg : Str → Option Value} {w : World} (T : Txt K mg w) : Binds K (fdOf K ("is_between", none)) ["value", "least", "most"] [] := T.d_is_between.bindsN fun _ _ _ _ _ _ us hl => match us, hl with | [_, _, _], _ => rfl
theorem bi_is_name {K : PySem.W.Frag} {mg : Str → Option Value} {w : World} (T : Txt K mg w) : Binds K (fdOf K ("is_name", none)) ["value"] [] := T.d_is_name.bindsN fun _ _ _ _ _ _ us hl => match us, hl with | [_], _ => rfl
theorem bi_is_list {K : PySem.W.Frag} {mg : Str → Option Value} {w : World} (T : Txt K mg w) : Binds K (fdOf K ("is_list", none)) ["value"] [] := T.d_is_list.bindsN fun _ _ _ _ _ _ us hl => match us, hl with | [_], _ => rfl
theorem bi_is_rising {K : PySem.W.Frag} {mg : Str → Option Value} {w : World} (T : Txt K mg w) : Binds K (fdOf K ("is_rising", none)) ["values"] [] := T.d_is_rising.bindsN fun _ _ _ _ _ _ us hl => match us, hl with | [_], _ => rfl
theorem bi_good_begin {K : PySem.W.Frag} {mg : Str → Option Value} {w : World} (T : Txt K mg w) : Binds K (fdOf K ("good_begin", none)) ["begin"] [] := T.d_good_begin.bindsN fun _ _ _ _ _ _ us hl => match us, hl with | [_], _ => rfl
theorem bi_good_delays {K : PySem.W.Frag} {mg : Str → Option Value} {w : World} (T : Txt K mg w) : Binds K (fdOf K ("good_delays", none)) ["least", "most"] [] := T.d_good_delays.bindsN fun _ _ _ _ _ _ us hl => match us, hl with | [_, _], _ => rfl
theorem bi_good_box {K : PySem.W.Frag} {mg : Str → Option Value} {w : World} (T : Txt K mg w) : Binds K (fdOf K ("good_box", none)) ["box", "least", "most"] [] := T.d_good_box.bindsN fun _ _ _ _ _ _ us hl => match us, hl with | [_, _, _], _ => rfl
theorem bi_Way__eq__ {K : PySem.W.Frag} {mg : Str → Option Value} {w : World} (T : Txt K mg w) : Binds K (fdOf K ("Way", some "__eq__")) ["self", "other"] [] := T.d_Way__eq__.bindsN fun _ _ _ _ _ _ us hl => match us, hl with | [_, _], _ => rfl
theorem bi_Way_begun_at {K : PySem.W.Frag} {mg : Str → Option Value} {w : World} (T : Txt K mg w) : Binds K (fdOf K ("Way", some "begun_at")) ["self", "begin"] [] := T.d_Way_begun_at.bindsN fun _ _ _ _ _ _ us hl => match us, hl with | [_, _], _ => rfl
theorem bi_is_letter {K : PySem.W.Frag} {mg : Str → Option Value} {w : World} (T : Txt K mg w) : Binds K (fdOf K ("is_letter", none)) ["value"] [] := T.d_is_letter.bindsN fun _ _ _ _ _ _ us hl => match us, hl with | [_], _ => rfl
theorem bi_checked_row {K : PySem.W.Frag} {mg : Str → Option Value} {w : World} (T : Txt K mg w) : Binds K (fdOf K ("checked_row", none)) ["index", "row"] [] := T.d_checked_row.bindsN fun _ _ _ _ _ _ us hl => match us, hl with | [_, _], _ => rfl
theorem bi_checked_rows {K : PySem.W.Frag} {mg : Str → Option Value} {w : World} (T : Txt K mg w) : Binds K (fdOf K ("checked_rows", none)) ["rows"] [] := T.d_checked_rows.bindsN fun _ _ _ _ _ _ us hl => match us, hl with | [_], _ => rfl
theorem bi_Mail__init__ {K : PySem.W.Frag} {mg : Str → Option Value} {w : World} (T : Txt K mg w) : Binds K (fdOf K ("Mail", some "__init__")) ["self", "rows"] [] := T.d_Mail__init__.bindsN fun _ _ _ _ _ _ us hl => match us, hl with | [_, _], _ => rfl
theorem bi_Mail__eq__ {K : PySem.W.Frag} {mg : Str → Option Value} {w : World} (T : Txt K mg w) : Binds K (fdOf K ("Mail", some "__eq__")) ["self", "other"] [] := T.d_Mail__eq__.bindsN fun _ _ _ _ _ _ us hl => match us, hl with | [_, _], _ => rfl
theorem bi_is_bound {K : PySem.W.Frag} {mg : Str → Option Value} {w : World} (T : Txt K mg w) : Binds K (fdOf K ("is_bound", none)) ["value"] [] := T.d_is_bound.bindsN fun _ _ _ _ _ _ us hl => match us, hl with | [_], _ => rfl
theorem bi_Steps__init__ {K : PySem.W.Frag} {mg : Str → Option Value} {w : World} (T : Txt K mg w) : Binds K (fdOf K ("Steps", some "__init__")) ["self", "bounds"] [] := T.d_Steps__init__.bindsN fun _ _ _ _ _ _ us hl => match us, hl with | [_, _], _ => rfl
theorem bi_Steps__eq__ {K : PySem.W.Frag} {mg : Str → Option Value} {w : World} (T : Txt K mg w) : Binds K (fdOf K ("Steps", some "__eq__")) ["self", "other"] [] := T.d_Steps__eq__.bindsN fun _ _ _ _ _ _ us hl => match us, hl with | [_, _], _ => rfl
theorem bi_Room__init__ {K : PySem.W.Frag} {mg : Str → Option Value} {w : World} (T : Txt K mg w) : Binds K (fdOf K ("Room", some "__init__")) ["self", "size", "steps"] [] := T.d_Room__init__.bindsN fun _ _ _ _ _ _ us hl => match us, hl with | [_, _, _], _ => rfl
theorem bi_Room__eq__ {K : PySem.W.Frag} {mg : Str → Option Value} {w : World} (T : Txt K mg w) : Binds K (fdOf K ("Room", some "__eq__")) ["self", "other"] [] := T.d_Room__eq__.bindsN fun _ _ _ _ _ _ us hl => match us, hl with | [_, _], _ => rfl
theorem bi_is_right_setting {K : PySem.W.Frag} {mg : Str → Option Value} {w : World} (T : Txt K mg w) : Binds K (fdOf K ("is_right_setting", none)) ["word", "value"] [] := T.d_is_right_setting.bindsN fun _ _ _ _ _ _ us hl => match us, hl with | [_, _], _ => rfl
theorem bi_is_change {K : PySem.W.Frag} {mg : Str → Option Value} {w : World} (T : Txt K mg w) : Binds K (fdOf K ("is_change", none)) ["line", "change"] [] := T.d_is_change.bindsN fun _ _ _ _ _ _ us hl => match us, hl with | [_, _], _ => rfl
theorem bi_with_bound {K : PySem.W.Frag} {mg : Str → Option Value} {w : World} (T : Txt K mg w) : Binds K (fdOf K ("with_bound", none)) ["room", "bound"] [] := T.d_with_bound.bindsN fun _ _ _ _ _ _ us hl => match us, hl with | [_, _], _ => rfl
theorem bi_Line__eq__ {K : PySem.W.Frag} {mg : Str → Option Value} {w : World} (T : Txt K mg w) : Binds K (fdOf K ("Line", some "__eq__")) ["self", "other"] [] := T.d_Line__eq__.bindsN fun _ _ _ _ _ _ us hl => match us, hl with | [_, _], _ => rfl
theorem bi_Line_with_setting {K : PySem.W.Frag} {mg : Str → Option Value} {w : World} (T : Txt K mg w) : Binds K (fdOf K ("Line", some "with_setting")) ["self", "word", "value"] [] := T.d_Line_with_setting.bindsN fun _ _ _ _ _ _ us hl => match us, hl with | [_, _, _], _ => rfl
theorem bi_Line_changed {K : PySem.W.Frag} {mg : Str → Option Value} {w : World} (T : Txt K mg w) : Binds K (fdOf K ("Line", some "changed")) ["self", "change"] [] := T.d_Line_changed.bindsN fun _ _ _ _ _ _ us hl => match us, hl with | [_, _], _ => rfl
theorem bi_line_of {K : PySem.W.Frag} {mg : Str → Option Value} {w : World} (T : Txt K mg w) : Binds K (fdOf K ("line_of", none)) ["given"] [] := T.d_line_of.bindsN fun _ _ _ _ _ _ us hl => match us, hl with | [_], _ => rfl
theorem bi__law_start {K : PySem.W.Frag} {mg : Str → Option Value} {w : World} (T : Txt K mg w) : Binds K (fdOf K ("_law_start", none)) ["_law_script"] [] := T.d__law_start.bindsN fun _ _ _ _ _ _ us hl => match us, hl with | [_], _ => rfl
theorem bi__law_draw {K : PySem.W.Frag} {mg : Str → Option Value} {w : World} (T : Txt K mg w) : Binds K (fdOf K ("_law_draw", none)) ["_law_script", "_law_state", "_law_limit"] [] := T.d__law_draw.bindsN fun _ _ _ _ _ _ us hl => match us, hl with | [_, _, _], _ => rfl
theorem bi__law_mail {K : PySem.W.Frag} {mg : Str → Option Value} {w : World} (T : Txt K mg w) : Binds K (fdOf K ("_law_mail", none)) ["_law_script", "_law_state"] [] := T.d__law_mail.bindsN fun _ _ _ _ _ _ us hl => match us, hl with | [_, _], _ => rfl
theorem bi__law_rising {K : PySem.W.Frag} {mg : Str → Option Value} {w : World} (T : Txt K mg w) : Binds K (fdOf K ("_law_rising", none)) ["_law_script", "_law_state", "_law_most", "_law_top"] [] := T.d__law_rising.bindsN fun _ _ _ _ _ _ us hl => match us, hl with | [_, _, _, _], _ => rfl
theorem bi__law_box {K : PySem.W.Frag} {mg : Str → Option Value} {w : World} (T : Txt K mg w) : Binds K (fdOf K ("_law_box", none)) ["_law_script", "_law_state", "_law_low", "_law_high"] [] := T.d__law_box.bindsN fun _ _ _ _ _ _ us hl => match us, hl with | [_, _, _, _], _ => rfl
theorem bi__law_way {K : PySem.W.Frag} {mg : Str → Option Value} {w : World} (T : Txt K mg w) : Binds K (fdOf K ("_law_way", none)) ["_law_script", "_law_state"] [] := T.d__law_way.bindsN fun _ _ _ _ _ _ us hl => match us, hl with | [_, _], _ => rfl
theorem bi__law_raw {K : PySem.W.Frag} {mg : Str → Option Value} {w : World} (T : Txt K mg w) : Binds K (fdOf K ("_law_raw", none)) ["_law_script", "_law_state"] [] := T.d__law_raw.bindsN fun _ _ _ _ _ _ us hl => match us, hl with | [_, _], _ => rfl
theorem bi__law_made_ways {K : PySem.W.Frag} {mg : Str → Option Value} {w : World} (T : Txt K mg w) : Binds K (fdOf K ("_law_made_ways", none)) ["_law_raw_here"] [] := T.d__law_made_ways.bindsN fun _ _ _ _ _ _ us hl => match us, hl with | [_], _ => rfl
theorem bi__law_line {K : PySem.W.Frag} {mg : Str → Option Value} {w : World} (T : Txt K mg w) : Binds K (fdOf K ("_law_line", none)) ["_law_raw_here"] [] := T.d__law_line.bindsN fun _ _ _ _ _ _ us hl => match us, hl with | [_], _ => rfl
theorem bi__law_copy {K : PySem.W.Frag} {mg : Str → Option Value} {w : World} (T : Txt K mg w) : Binds K (fdOf K ("_law_copy", none)) ["_law_raw_here"] [] := T.d__law_copy.bindsN fun _ _ _ _ _ _ us hl => match us, hl with | [_], _ => rfl
theorem bi__law_change {K : PySem.W.Frag} {mg : Str → Option Value} {w : World} (T : Txt K mg w) : Binds K (fdOf K ("_law_change", none)) ["_law_script", "_law_state", "_law_raw_here"] [] := T.d__law_change.bindsN fun _ _ _ _ _ _ us hl => match us, hl with | [_, _, _], _ => rfl
theorem bi__law_after {K : PySem.W.Frag} {mg : Str → Option Value} {w : World} (T : Txt K mg w) : Binds K (fdOf K ("_law_after", none)) ["_law_raw_here", "_law_change_here"] [] := T.d__law_after.bindsN fun _ _ _ _ _ _ us hl => match us, hl with | [_, _], _ => rfl
theorem bi__law_can_be {K : PySem.W.Frag} {mg : Str → Option Value} {w : World} (T : Txt K mg w) : Binds K (fdOf K ("_law_can_be", none)) ["_law_raw_here"] [] := T.d__law_can_be.bindsN fun _ _ _ _ _ _ us hl => match us, hl with | [_], _ => rfl
theorem bi__law_told {K : PySem.W.Frag} {mg : Str → Option Value} {w : World} (T : Txt K mg w) : Binds K (fdOf K ("_law_told", none)) ["_law_action"] [] := T.d__law_told.bindsN fun _ _ _ _ _ _ us hl => match us, hl with | [_], _ => rfl
theorem bi__law_refused_hold {K : PySem.W.Frag} {mg : Str → Option Value} {w : World} (T : Txt K mg w) : Binds K (fdOf K ("_law_refused_hold", none)) ["_law_line_here"] [] := T.d__law_refused_hold.bindsN fun _ _ _ _ _ _ us hl => match us, hl with | [_], _ => rfl
theorem bi__law_same {K : PySem.W.Frag} {mg : Str → Option Value} {w : World} (T : Txt K mg w) : Binds K (fdOf K ("_law_same", none)) ["_law_line_here", "_law_raw_here"] [] := T.d__law_same.bindsN fun _ _ _ _ _ _ us hl => match us, hl with | [_, _], _ => rfl
theorem bi_law {K : PySem.W.Frag} {mg : Str → Option Value} {w : World} (T : Txt K mg w) : Binds K (fdOf K ("law", none)) ["_law_script"] [] := T.d_law.bindsN fun _ _ _ _ _ _ us hl => match us, hl with | [_], _ => rfl
theorem bi_Way__init__ {K : PySem.W.Frag} {mg : Str → Option Value} {w : World} (T : Txt K mg w) : Binds K (fdOf K ("Way", some "__init__")) ["self", "begin", "least", "most", "boxes"] [] := by
  obtain ⟨ds, v, b⟩ := T.d_Way__init__.binds1 (ps := ["self", "begin", "least", "most", "boxes"]) 5 1 (by simp) rfl fun D kV doc pm an cdv ct us its hl hi => match us, its, hl, hi with
    | [_, _, _, _, _], [_], _, _ => ⟨_, rfl, rfl⟩
  cases v
  exact b
section
variable {X : Cx} {pos : Pos} {x : Str}
theorem pe_gI {i : Int} (hg : Gl X x) (h : ∃ t, X.mg x = some (.int i t)) (hd : (x == ("__debug__" : Str)) = false := by decide) : PE X (.Name x pos) (tC (.int i)) := by
  obtain ⟨t, h⟩ := h
  exact pe_glob hg h ⟨t, rfl⟩ hd
theorem pe_gS {z : Str} (hg : Gl X x) (h : ∃ t, X.mg x = some (.str z t)) (hd : (x == ("__debug__" : Str)) = false := by decide) : PE X (.Name x pos) (tC (.str z)) := by
  obtain ⟨t, h⟩ := h
  exact pe_glob hg h ⟨t, rfl⟩ hd
theorem passR {E : XK} {E₁ : Value → Shared → Prop} (hs : X.stack = X.env :: X.outer) (hf : X.env.frame = some X.env.locals) (hex : X.ex = [])
    (hx : X.xe = fun e s' => wpAny (model X.prog X.w) X.A (leaving X.env e) (fun _ s'' => L2.CX X.prog X.w X.outer X.H_0 X.s_0 E e s'') E₁ s') : Passes (L2.CX X.prog X.w) X E := passes_call (takes_of hs hf hex hx) fun _ _ _ _ h => h
theorem passN : Passes (L2.CX X.prog X.w) X (fun _ _ _ => False) := passes_call (W := fun _ _ _ _ => False) LamX.takes0 fun _ _ _ _ h => h
end
end WK
end
section
set_option Elab.async false
set_option linter.all false
set_option maxRecDepth 100000
set_option maxHeartbeats 4000000
/-! What the head looks at, and what it tells of the top. -/
namespace WK
open PySem PySem.Spec PyProof.Rows L2 WL He
def FA0 : List Fa := [.free "abs", .free "all", .free "any", .free "bool", .free "dict", .free "enumerate", .free "int", .free "isinstance", .free "len", .free "list", .free "max", .free "range", .free "sorted", .free "str", .free "tuple", .free "zip", .str "LETTERS" "abcdefghijklmnopqrstuvwxyz", .int "MOST_LETTERS_common" 8, .int "LATEST_BEGIN" 1000, .int "GREATEST_DELAY" 50, .int "MOST_BOXES" 3, .int "LONGEST_KEEP" 10000, .int "MOST_HEADS" 4, .int "MOST_BODY" 60, .int "MOST_LETTERS_letters" 6, .int "MOST_ROWS" 3, .int "MOST_SIZE" 60, .int "MOST_BOUNDS" 4, .glo "SETTINGS", .glo "BOUNDS"]
def FA1 : List Fa := [.glo "PLAIN_CHANGES", .glo "BadPart", .glo "BadSteps", .glo "BadChange", .glo "Way", .cls "Way", .noat "Way" "begin", .noat "Way" "least", .noat "Way" "most", .noat "Way" "boxes", .mkr "Way", .meth "Way" "__eq__", .meth "Way" "begun_at", .glo "Mail", .cls "Mail", .noat "Mail" "kept_rows", .mkr "Mail", .meth "Mail" "__eq__", .glo "Steps", .cls "Steps", .noat "Steps" "bounds", .mkr "Steps", .meth "Steps" "__eq__", .glo "Room", .cls "Room", .noat "Room" "size", .noat "Room" "steps", .mkr "Room", .meth "Room" "__eq__", .glo "Line"]
def FA2 : List Fa := [.cls "Line", .noat "Line" "given", .noat "Line" "mail", .noat "Line" "ways", .noat "Line" "widths", .noat "Line" "turn", .noat "Line" "numbers", .noat "Line" "room", .noat "Line" "head", .noat "Line" "places", .noat "Line" "cost", .noat "Line" "period", .noat "Line" "quiet", .noat "Line" "silent", .noat "Line" "losses", .mkr "Line", .meth "Line" "__eq__", .meth "Line" "with_setting", .meth "Line" "changed", .glo "is_integer", .glo "is_between", .glo "is_name", .glo "is_list", .glo "is_rising", .glo "good_begin", .glo "good_delays", .glo "good_box", .glo "is_letter", .glo "checked_row", .glo "checked_rows"]
def FA3 : List Fa := [.glo "is_bound", .glo "is_right_setting", .glo "is_change", .glo "with_bound", .glo "line_of", .glo "_law_start", .glo "_law_draw", .glo "_law_mail", .glo "_law_rising", .glo "_law_box", .glo "_law_way", .glo "_law_raw", .glo "_law_made_ways", .glo "_law_line", .glo "_law_copy", .glo "_law_change", .glo "_law_after", .glo "_law_can_be", .glo "_law_told", .glo "_law_refused_hold", .glo "_law_same", .glo "law", .free "super"]
def FA : List Fa := FA0 ++ FA1 ++ FA2 ++ FA3
def FN0 : DefD := ⟨("is_integer", none), "is_integer", "is_integer", defArgs s_is_integer, defBody s_is_integer, defScope s_is_integer, [], []⟩
def FN1 : DefD := ⟨("is_between", none), "is_between", "is_between", defArgs s_is_between, defBody s_is_between, defScope s_is_between, [], []⟩
def FN2 : DefD := ⟨("is_name", none), "is_name", "is_name", defArgs s_is_name, defBody s_is_name, defScope s_is_name, [], []⟩
def FN3 : DefD := ⟨("is_list", none), "is_list", "is_list", defArgs s_is_list, defBody s_is_list, defScope s_is_list, [], []⟩
def FN4 : DefD := ⟨("is_rising", none), "is_rising", "is_rising", defArgs s_is_rising, defBody s_is_rising, defScope s_is_rising, [], []⟩
def FN5 : DefD := ⟨("good_begin", none), "good_begin", "good_begin", defArgs s_good_begin, defBody s_good_begin, defScope s_good_begin, [], []⟩
def FN6 : DefD := ⟨("good_delays", none), "good_delays", "good_delays", defArgs s_good_delays, defBody s_good_delays, defScope s_good_delays, [], []⟩
def FN7 : DefD := ⟨("good_box", none), "good_box", "good_box", defArgs s_good_box, defBody s_good_box, defScope s_good_box, [], []⟩
def FN8 : DefD := ⟨("Way", some "__init__"), "__init__", "Way.__init__", defArgs s_Way__init__, defBody s_Way__init__, defScope s_Way__init__, [.adr (He.dflAt ("Way", some "__init__") 0)], []⟩
def FN9 : DefD := ⟨("Way", some "__eq__"), "__eq__", "Way.__eq__", defArgs s_Way__eq__, defBody s_Way__eq__, defScope s_Way__eq__, [], []⟩
def FN10 : DefD := ⟨("Way", some "begun_at"), "begun_at", "Way.begun_at", defArgs s_Way_begun_at, defBody s_Way_begun_at, defScope s_Way_begun_at, [], []⟩
def FN11 : DefD := ⟨("is_letter", none), "is_letter", "is_letter", defArgs s_is_letter, defBody s_is_letter, defScope s_is_letter, [], []⟩
def FN12 : DefD := ⟨("checked_row", none), "checked_row", "checked_row", defArgs s_checked_row, defBody s_checked_row, defScope s_checked_row, [], []⟩
def FN13 : DefD := ⟨("checked_rows", none), "checked_rows", "checked_rows", defArgs s_checked_rows, defBody s_checked_rows, defScope s_checked_rows, [], []⟩
def FN14 : DefD := ⟨("Mail", some "__init__"), "__init__", "Mail.__init__", defArgs s_Mail__init__, defBody s_Mail__init__, defScope s_Mail__init__, [], []⟩
def FN15 : DefD := ⟨("Mail", some "__eq__"), "__eq__", "Mail.__eq__", defArgs s_Mail__eq__, defBody s_Mail__eq__, defScope s_Mail__eq__, [], []⟩
def FN16 : DefD := ⟨("is_bound", none), "is_bound", "is_bound", defArgs s_is_bound, defBody s_is_bound, defScope s_is_bound, [], []⟩
def FN17 : DefD := ⟨("Steps", some "__init__"), "__init__", "Steps.__init__", defArgs s_Steps__init__, defBody s_Steps__init__, defScope s_Steps__init__, [], []⟩
def FN18 : DefD := ⟨("Steps", some "__eq__"), "__eq__", "Steps.__eq__", defArgs s_Steps__eq__, defBody s_Steps__eq__, defScope s_Steps__eq__, [], []⟩
def FN19 : DefD := ⟨("Room", some "__init__"), "__init__", "Room.__init__", defArgs s_Room__init__, defBody s_Room__init__, defScope s_Room__init__, [], []⟩
def FN20 : DefD := ⟨("Room", some "__eq__"), "__eq__", "Room.__eq__", defArgs s_Room__eq__, defBody s_Room__eq__, defScope s_Room__eq__, [], []⟩
def FN21 : DefD := ⟨("is_right_setting", none), "is_right_setting", "is_right_setting", defArgs s_is_right_setting, defBody s_is_right_setting, defScope s_is_right_setting, [], []⟩
def FN22 : DefD := ⟨("is_change", none), "is_change", "is_change", defArgs s_is_change, defBody s_is_change, defScope s_is_change, [], []⟩
def FN23 : DefD := ⟨("with_bound", none), "with_bound", "with_bound", defArgs s_with_bound, defBody s_with_bound, defScope s_with_bound, [], []⟩
def FN24 : DefD := ⟨("Line", some "__init__"), "__init__", "Line.__init__", defArgs s_Line__init__, defBody s_Line__init__, defScope s_Line__init__, [], []⟩
def FN25 : DefD := ⟨("Line", some "__eq__"), "__eq__", "Line.__eq__", defArgs s_Line__eq__, defBody s_Line__eq__, defScope s_Line__eq__, [], []⟩
def FN26 : DefD := ⟨("Line", some "with_setting"), "with_setting", "Line.with_setting", defArgs s_Line_with_setting, defBody s_Line_with_setting, defScope s_Line_with_setting, [], []⟩
def FN27 : DefD := ⟨("Line", some "changed"), "changed", "Line.changed", defArgs s_Line_changed, defBody s_Line_changed, defScope s_Line_changed, [], []⟩
def FN28 : DefD := ⟨("line_of", none), "line_of", "line_of", defArgs s_line_of, defBody s_line_of, defScope s_line_of, [], []⟩
def FN29 : DefD := ⟨("_law_start", none), "_law_start", "_law_start", defArgs s__law_start, defBody s__law_start, defScope s__law_start, [], []⟩
def FN30 : DefD := ⟨("_law_draw", none), "_law_draw", "_law_draw", defArgs s__law_draw, defBody s__law_draw, defScope s__law_draw, [], []⟩
def FN31 : DefD := ⟨("_law_mail", none), "_law_mail", "_law_mail", defArgs s__law_mail, defBody s__law_mail, defScope s__law_mail, [], []⟩
def FN32 : DefD := ⟨("_law_rising", none), "_law_rising", "_law_rising", defArgs s__law_rising, defBody s__law_rising, defScope s__law_rising, [], []⟩
def FN33 : DefD := ⟨("_law_box", none), "_law_box", "_law_box", defArgs s__law_box, defBody s__law_box, defScope s__law_box, [], []⟩
def FN34 : DefD := ⟨("_law_way", none), "_law_way", "_law_way", defArgs s__law_way, defBody s__law_way, defScope s__law_way, [], []⟩
def FN35 : DefD := ⟨("_law_raw", none), "_law_raw", "_law_raw", defArgs s__law_raw, defBody s__law_raw, defScope s__law_raw, [], []⟩
def FN36 : DefD := ⟨("_law_made_ways", none), "_law_made_ways", "_law_made_ways", defArgs s__law_made_ways, defBody s__law_made_ways, defScope s__law_made_ways, [], []⟩
def FN37 : DefD := ⟨("_law_line", none), "_law_line", "_law_line", defArgs s__law_line, defBody s__law_line, defScope s__law_line, [], []⟩
def FN38 : DefD := ⟨("_law_copy", none), "_law_copy", "_law_copy", defArgs s__law_copy, defBody s__law_copy, defScope s__law_copy, [], []⟩
def FN39 : DefD := ⟨("_law_change", none), "_law_change", "_law_change", defArgs s__law_change, defBody s__law_change, defScope s__law_change, [], []⟩
def FN40 : DefD := ⟨("_law_after", none), "_law_after", "_law_after", defArgs s__law_after, defBody s__law_after, defScope s__law_after, [], []⟩
def FN41 : DefD := ⟨("_law_can_be", none), "_law_can_be", "_law_can_be", defArgs s__law_can_be, defBody s__law_can_be, defScope s__law_can_be, [], []⟩
def FN42 : DefD := ⟨("_law_told", none), "_law_told", "_law_told", defArgs s__law_told, defBody s__law_told, defScope s__law_told, [], []⟩
def FN43 : DefD := ⟨("_law_refused_hold", none), "_law_refused_hold", "_law_refused_hold", defArgs s__law_refused_hold, defBody s__law_refused_hold, defScope s__law_refused_hold, [], []⟩
def FN44 : DefD := ⟨("_law_same", none), "_law_same", "_law_same", defArgs s__law_same, defBody s__law_same, defScope s__law_same, [], []⟩
def FN45 : DefD := ⟨("law", none), "law", "law", defArgs s_law, defBody s_law, defScope s_law, [], []⟩
def FN : List DefD := [FN0, FN1, FN2, FN3, FN4, FN5, FN6, FN7, FN8, FN9, FN10, FN11, FN12, FN13, FN14, FN15, FN16, FN17, FN18, FN19, FN20, FN21, FN22, FN23, FN24, FN25, FN26, FN27, FN28, FN29, FN30, FN31, FN32, FN33, FN34, FN35, FN36, FN37, FN38, FN39, FN40, FN41, FN42, FN43, FN44, FN45]
def TABS : List Tab := [(fun K => ga K "BOUNDS", ["turn", "numbers", "head", "places", "cost", "period", "quiet", "silent", "losses"])]
abbrev s_BadPart__init__ : Stmt := inClass (topS 11) 0
theorem te_BadPart : HX.TxtE "part" s_BadPart__init__ := ⟨_, _, _, _, _, _, _, _, _, _, _, _, rfl, rfl, rfl, rfl⟩
abbrev s_BadSteps__init__ : Stmt := inClass (topS 16) 0
theorem te_BadSteps : HX.TxtE "index" s_BadSteps__init__ := ⟨_, _, _, _, _, _, _, _, _, _, _, _, rfl, rfl, rfl, rfl⟩
abbrev s_BadChange__init__ : Stmt := inClass (topS 18) 0
theorem te_BadChange : HX.TxtE "change" s_BadChange__init__ := ⟨_, _, _, _, _, _, _, _, _, _, _, _, rfl, rfl, rfl, rfl⟩
theorem xf_change : WX.XF "change" := ⟨by decide +kernel, by rfl, by rfl, by rfl, by rfl, by intros; rfl, by intros; rfl, by decide⟩
theorem xf_index : WX.XF "index" := ⟨by decide +kernel, by rfl, by rfl, by rfl, by rfl, by intros; rfl, by intros; rfl, by decide⟩
theorem xf_part : WX.XF "part" := ⟨by decide +kernel, by rfl, by rfl, by rfl, by rfl, by intros; rfl, by intros; rfl, by decide⟩
def XSS : List (Str × Stmt) := [("BadPart", s_BadPart__init__), ("BadSteps", s_BadSteps__init__), ("BadChange", s_BadChange__init__)]
def XFF : List (Str × Str) := [("BadPart", "part"), ("BadSteps", "index"), ("BadChange", "change")]
def LAMS : List (Str × Option Str) := [("law", none), ("_law_refused_hold", none)]
def bndL : List (Str × Int × Int) := [("turn", 1, 200), ("numbers", 2, 8), ("head", 1, 8), ("places", 0, 4), ("cost", 2, 9), ("period", 1, 200), ("quiet", 1, 500), ("silent", 0, 3), ("losses", 1, 3)]
def TYN : List String := ["NoneType", "int", "bool", "str", "list", "tuple"]
structure BitsOk (w : World) (K : PySem.W.Frag) : Prop where
  isc : (CLS.all fun c => HX.iscB K c) = true
  exc : (XFF.all fun q => HX.excB K q.1 q.2) = true
  kt : (CLS.all fun c => TYS.all fun t => decide (PySem.W.kitOne K (.ref (ga K c)) (.type t) = some false)) = true
  kb : (CLS.all fun c => TYN.all fun t => decide (PySem.W.kitOne K (.type t) (.ref (ga K c)) = some false)) = true
  kc : (CLS.all fun c => CLS.all fun c' => decide (PySem.W.kitOne K (.ref (ga K c)) (.ref (ga K c')) = some (decide (c = c')))) = true
  kset : HX.ktupB K (ga K "SETTINGS") (SETL.map V.str) = true
  kpla : HX.ktupB K (ga K "PLAIN_CHANGES") (PLAL.map V.str) = true
  kbnd : (bndL.all fun q => HX.dtupB K (ga K "BOUNDS") q.1 [.int q.2.1, .int q.2.2]) = true
  kdfl : HX.ktupB K (dflAt ("Way", some "__init__") 0 K) [] = true
  neq : (CLS.all fun c => eqO (PySem.W.findIn K (.ref (ga K c)) "__ne__") (some (some (.builtin "object.__ne__"))) && decide (PySem.W.subIn K (.ref (ga K c)) (.type "object") = some true)) = true
  feq : (CLS.all fun c => eqO (PySem.W.findIn K (.ref (ga K c)) "__eq__") (some (some (.ref (ma K (ga K c) "__eq__")))) && PySem.W.isFn K (.ref (ma K (ga K c) "__eq__"))) = true
  kx : (XSL.all fun c => XSL.all fun c' => decide (PySem.W.exmOne K (.ref (ga K c)) (.ref (ga K c')) = some (decide (c = c')))) = true
  lam : decide (HX.lamP K ("law", none) ≠ HX.lamP K ("_law_refused_hold", none)) = true
def BITS (K : PySem.W.Frag) : Bool := (CLS.all fun c => HX.iscB K c) && ((XFF.all fun q => HX.excB K q.1 q.2) && ((CLS.all fun c => TYS.all fun t => decide (PySem.W.kitOne K (.ref (ga K c)) (.type t) = some false)) && ((CLS.all fun c => TYN.all fun t => decide (PySem.W.kitOne K (.type t) (.ref (ga K c)) = some false)) &&
  ((CLS.all fun c => CLS.all fun c' => decide (PySem.W.kitOne K (.ref (ga K c)) (.ref (ga K c')) = some (decide (c = c')))) && (HX.ktupB K (ga K "SETTINGS") (SETL.map V.str) && (HX.ktupB K (ga K "PLAIN_CHANGES") (PLAL.map V.str) && ((bndL.all fun q => HX.dtupB K (ga K "BOUNDS") q.1 [.int q.2.1, .int q.2.2]) && (HX.ktupB K (dflAt ("Way", some "__init__") 0 K) [] &&
  ((CLS.all fun c => eqO (PySem.W.findIn K (.ref (ga K c)) "__ne__") (some (some (.builtin "object.__ne__"))) && decide (PySem.W.subIn K (.ref (ga K c)) (.type "object") = some true)) && ((CLS.all fun c => eqO (PySem.W.findIn K (.ref (ga K c)) "__eq__") (some (some (.ref (ma K (ga K c) "__eq__")))) && PySem.W.isFn K (.ref (ma K (ga K c) "__eq__"))) &&
  ((XSL.all fun c => XSL.all fun c' => decide (PySem.W.exmOne K (.ref (ga K c)) (.ref (ga K c')) = some (decide (c = c')))) && decide (HX.lamP K ("law", none) ≠ HX.lamP K ("_law_refused_hold", none)))))))))))))
theorem bits_ok {w : World} {K : PySem.W.Frag} (h : BITS K = true) : BitsOk w K := by
  obtain ⟨h1, h⟩ := HX.bb h
  obtain ⟨h2, h⟩ := HX.bb h
  obtain ⟨h3, h⟩ := HX.bb h
  obtain ⟨h4, h⟩ := HX.bb h
  obtain ⟨h5, h⟩ := HX.bb h
  obtain ⟨h6, h⟩ := HX.bb h
  obtain ⟨h7, h⟩ := HX.bb h
  obtain ⟨h8, h⟩ := HX.bb h
  obtain ⟨h9, h⟩ := HX.bb h
  obtain ⟨h10, h⟩ := HX.bb h
  obtain ⟨h11, h⟩ := HX.bb h
  obtain ⟨h12, h13⟩ := HX.bb h
  exact ⟨h1, h2, h3, h4, h5, h6, h7, h8, h9, h10, h11, h12, h13⟩
def HK : HX.HkI := { fa := FA, fn := FN, ts := TABS, xs := XSS, bits := BITS, lams := LAMS, n := 5 }
theorem fn_to {K : PySem.W.Frag} {x q : Str} {a : Arguments} {bd : List Stmt} {sc : Scope} {dv : List V} {kw : List (Str × V)} {key : Str × Option Str} (h : ∃ fd, FunD K x q a bd sc dv kw (He.fAd K key) fd) : FunD K x q a bd sc dv kw (He.fAd K key) (fdOf K key) := by
  obtain ⟨fd, F⟩ := h
  have e : fdOf K key = fd := by
    obtain ⟨oc, od, dV, kV, doc, pm, an, cdv, ct, osl, _, e, _⟩ := F.ex
    unfold fdOf
    rw [e]
  rw [e]
  exact F
section
variable {K : PySem.W.Frag} {mg : Str → Option Value} {w : World} {h : Heap}
theorem x_of_BadPart (X : K.In h) (G : h.Ns mainGlobals mg) (c : HX.SaysX HK w K h) (b : BitsOk w K) : WX.Xc PG K mg "BadPart" "part" (fdOf K ("BadPart", some "__init__")) := by
  obtain ⟨oc, od, fd, osl, e, x⟩ := HX.xc_of (P := PG) (mg := mg) (HX.all_of b.exc ("BadPart", "part") (by decide)) (c.x 0 (x := ("BadPart", s_BadPart__init__)) rfl) te_BadPart (He.glo_ok X G (c.fact 31 (f := .glo "BadPart") rfl)) (He.free_ok X G (c.fact 112 (f := .free "super") rfl)) (by kernel_rfl) (by kernel_rfl) xf_part
  have e2 : fdOf K ("BadPart", some "__init__") = fd := by
    unfold fdOf
    rw [show K.lookup (He.fAd K ("BadPart", some "__init__")) = _ from e]
  rw [e2]
  exact x
theorem xb_of_BadPart {fd : FuncData} (x : WX.Xc PG K mg "BadPart" "part" fd) : L2.Binds K fd ["self", "part"] [] := by
  obtain ⟨oc, od, an, doc, pm, ct, osl, cda, cc, p1, p2, q1, q2, q3, q4, q5, q6, r1, r2, r3, r4, rfl, _⟩ := x.fn
  exact Binds.all fun us hl => match us, hl with | [_, _], _ => rfl
theorem x_of_BadSteps (X : K.In h) (G : h.Ns mainGlobals mg) (c : HX.SaysX HK w K h) (b : BitsOk w K) : WX.Xc PG K mg "BadSteps" "index" (fdOf K ("BadSteps", some "__init__")) := by
  obtain ⟨oc, od, fd, osl, e, x⟩ := HX.xc_of (P := PG) (mg := mg) (HX.all_of b.exc ("BadSteps", "index") (by decide)) (c.x 1 (x := ("BadSteps", s_BadSteps__init__)) rfl) te_BadSteps (He.glo_ok X G (c.fact 32 (f := .glo "BadSteps") rfl)) (He.free_ok X G (c.fact 112 (f := .free "super") rfl)) (by kernel_rfl) (by kernel_rfl) xf_index
  have e2 : fdOf K ("BadSteps", some "__init__") = fd := by
    unfold fdOf
    rw [show K.lookup (He.fAd K ("BadSteps", some "__init__")) = _ from e]
  rw [e2]
  exact x
theorem xb_of_BadSteps {fd : FuncData} (x : WX.Xc PG K mg "BadSteps" "index" fd) : L2.Binds K fd ["self", "index"] [] := by
  obtain ⟨oc, od, an, doc, pm, ct, osl, cda, cc, p1, p2, q1, q2, q3, q4, q5, q6, r1, r2, r3, r4, rfl, _⟩ := x.fn
  exact Binds.all fun us hl => match us, hl with | [_, _], _ => rfl
theorem x_of_BadChange (X : K.In h) (G : h.Ns mainGlobals mg) (c : HX.SaysX HK w K h) (b : BitsOk w K) : WX.Xc PG K mg "BadChange" "change" (fdOf K ("BadChange", some "__init__")) := by
  obtain ⟨oc, od, fd, osl, e, x⟩ := HX.xc_of (P := PG) (mg := mg) (HX.all_of b.exc ("BadChange", "change") (by decide)) (c.x 2 (x := ("BadChange", s_BadChange__init__)) rfl) te_BadChange (He.glo_ok X G (c.fact 33 (f := .glo "BadChange") rfl)) (He.free_ok X G (c.fact 112 (f := .free "super") rfl)) (by kernel_rfl) (by kernel_rfl) xf_change
  have e2 : fdOf K ("BadChange", some "__init__") = fd := by
    unfold fdOf
    rw [show K.lookup (He.fAd K ("BadChange", some "__init__")) = _ from e]
  rw [e2]
  exact x
theorem xb_of_BadChange {fd : FuncData} (x : WX.Xc PG K mg "BadChange" "change" fd) : L2.Binds K fd ["self", "change"] [] := by
  obtain ⟨oc, od, an, doc, pm, ct, osl, cda, cc, p1, p2, q1, q2, q3, q4, q5, q6, r1, r2, r3, r4, rfl, _⟩ := x.fn
  exact Binds.all fun us hl => match us, hl with | [_, _], _ => rfl
theorem txt_of (X : K.In h) (G : h.Ns mainGlobals mg) (c : HX.SaysX HK w K h) (b : BitsOk w K) : Txt K mg w where
  f_abs := He.free_ok X G (c.fact 0 (f := .free "abs") rfl)
  f_all := He.free_ok X G (c.fact 1 (f := .free "all") rfl)
  f_any := He.free_ok X G (c.fact 2 (f := .free "any") rfl)
  f_bool := He.free_ok X G (c.fact 3 (f := .free "bool") rfl)
  f_dict := He.free_ok X G (c.fact 4 (f := .free "dict") rfl)
  f_enumerate := He.free_ok X G (c.fact 5 (f := .free "enumerate") rfl)
  f_int := He.free_ok X G (c.fact 6 (f := .free "int") rfl)
  f_isinstance := He.free_ok X G (c.fact 7 (f := .free "isinstance") rfl)
  f_len := He.free_ok X G (c.fact 8 (f := .free "len") rfl)
  f_list := He.free_ok X G (c.fact 9 (f := .free "list") rfl)
  f_max := He.free_ok X G (c.fact 10 (f := .free "max") rfl)
  f_range := He.free_ok X G (c.fact 11 (f := .free "range") rfl)
  f_sorted := He.free_ok X G (c.fact 12 (f := .free "sorted") rfl)
  f_str := He.free_ok X G (c.fact 13 (f := .free "str") rfl)
  f_tuple := He.free_ok X G (c.fact 14 (f := .free "tuple") rfl)
  f_zip := He.free_ok X G (c.fact 15 (f := .free "zip") rfl)
  s_LETTERS := He.str_ok X G (c.fact 16 (f := .str "LETTERS" "abcdefghijklmnopqrstuvwxyz") rfl)
  i_MOST_LETTERS_common := He.int_ok X G (c.fact 17 (f := .int "MOST_LETTERS_common" 8) rfl)
  i_LATEST_BEGIN := He.int_ok X G (c.fact 18 (f := .int "LATEST_BEGIN" 1000) rfl)
  i_GREATEST_DELAY := He.int_ok X G (c.fact 19 (f := .int "GREATEST_DELAY" 50) rfl)
  i_MOST_BOXES := He.int_ok X G (c.fact 20 (f := .int "MOST_BOXES" 3) rfl)
  i_LONGEST_KEEP := He.int_ok X G (c.fact 21 (f := .int "LONGEST_KEEP" 10000) rfl)
  i_MOST_HEADS := He.int_ok X G (c.fact 22 (f := .int "MOST_HEADS" 4) rfl)
  i_MOST_BODY := He.int_ok X G (c.fact 23 (f := .int "MOST_BODY" 60) rfl)
  i_MOST_LETTERS_letters := He.int_ok X G (c.fact 24 (f := .int "MOST_LETTERS_letters" 6) rfl)
  i_MOST_ROWS := He.int_ok X G (c.fact 25 (f := .int "MOST_ROWS" 3) rfl)
  i_MOST_SIZE := He.int_ok X G (c.fact 26 (f := .int "MOST_SIZE" 60) rfl)
  i_MOST_BOUNDS := He.int_ok X G (c.fact 27 (f := .int "MOST_BOUNDS" 4) rfl)
  g_SETTINGS := He.glo_ok X G (c.fact 28 (f := .glo "SETTINGS") rfl)
  g_BOUNDS := He.glo_ok X G (c.fact 29 (f := .glo "BOUNDS") rfl)
  g_PLAIN_CHANGES := He.glo_ok X G (c.fact 30 (f := .glo "PLAIN_CHANGES") rfl)
  x_BadPart := x_of_BadPart X G c b
  xb_BadPart := xb_of_BadPart (x_of_BadPart X G c b)
  x_BadSteps := x_of_BadSteps X G c b
  xb_BadSteps := xb_of_BadSteps (x_of_BadSteps X G c b)
  x_BadChange := x_of_BadChange X G c b
  xb_BadChange := xb_of_BadChange (x_of_BadChange X G c b)
  g_Way := He.glo_ok X G (c.fact 34 (f := .glo "Way") rfl)
  c_Way := He.cls_ok (c.fact 35 (f := .cls "Way") rfl)
  is_Way := HX.iscB_ok (HX.all_of b.isc "Way" (by decide))
  n_Way_begin := He.noat_ok (c.fact 36 (f := .noat "Way" "begin") rfl)
  n_Way_least := He.noat_ok (c.fact 37 (f := .noat "Way" "least") rfl)
  n_Way_most := He.noat_ok (c.fact 38 (f := .noat "Way" "most") rfl)
  n_Way_boxes := He.noat_ok (c.fact 39 (f := .noat "Way" "boxes") rfl)
  mk_Way := He.mkr_ok (c.fact 40 (f := .mkr "Way") rfl)
  m_Way__eq__ := He.meth_ok (c.fact 41 (f := .meth "Way" "__eq__") rfl)
  m_Way_begun_at := He.meth_ok (c.fact 42 (f := .meth "Way" "begun_at") rfl)
  g_Mail := He.glo_ok X G (c.fact 43 (f := .glo "Mail") rfl)
  c_Mail := He.cls_ok (c.fact 44 (f := .cls "Mail") rfl)
  is_Mail := HX.iscB_ok (HX.all_of b.isc "Mail" (by decide))
  n_Mail_kept_rows := He.noat_ok (c.fact 45 (f := .noat "Mail" "kept_rows") rfl)
  mk_Mail := He.mkr_ok (c.fact 46 (f := .mkr "Mail") rfl)
  m_Mail__eq__ := He.meth_ok (c.fact 47 (f := .meth "Mail" "__eq__") rfl)
  g_Steps := He.glo_ok X G (c.fact 48 (f := .glo "Steps") rfl)
  c_Steps := He.cls_ok (c.fact 49 (f := .cls "Steps") rfl)
  is_Steps := HX.iscB_ok (HX.all_of b.isc "Steps" (by decide))
  n_Steps_bounds := He.noat_ok (c.fact 50 (f := .noat "Steps" "bounds") rfl)
  mk_Steps := He.mkr_ok (c.fact 51 (f := .mkr "Steps") rfl)
  m_Steps__eq__ := He.meth_ok (c.fact 52 (f := .meth "Steps" "__eq__") rfl)
  g_Room := He.glo_ok X G (c.fact 53 (f := .glo "Room") rfl)
  c_Room := He.cls_ok (c.fact 54 (f := .cls "Room") rfl)
  is_Room := HX.iscB_ok (HX.all_of b.isc "Room" (by decide))
  n_Room_size := He.noat_ok (c.fact 55 (f := .noat "Room" "size") rfl)
  n_Room_steps := He.noat_ok (c.fact 56 (f := .noat "Room" "steps") rfl)
  mk_Room := He.mkr_ok (c.fact 57 (f := .mkr "Room") rfl)
  m_Room__eq__ := He.meth_ok (c.fact 58 (f := .meth "Room" "__eq__") rfl)
  g_Line := He.glo_ok X G (c.fact 59 (f := .glo "Line") rfl)
  c_Line := He.cls_ok (c.fact 60 (f := .cls "Line") rfl)
  is_Line := HX.iscB_ok (HX.all_of b.isc "Line" (by decide))
  n_Line_given := He.noat_ok (c.fact 61 (f := .noat "Line" "given") rfl)
  n_Line_mail := He.noat_ok (c.fact 62 (f := .noat "Line" "mail") rfl)
  n_Line_ways := He.noat_ok (c.fact 63 (f := .noat "Line" "ways") rfl)
  n_Line_widths := He.noat_ok (c.fact 64 (f := .noat "Line" "widths") rfl)
  n_Line_turn := He.noat_ok (c.fact 65 (f := .noat "Line" "turn") rfl)
  n_Line_numbers := He.noat_ok (c.fact 66 (f := .noat "Line" "numbers") rfl)
  n_Line_room := He.noat_ok (c.fact 67 (f := .noat "Line" "room") rfl)
  n_Line_head := He.noat_ok (c.fact 68 (f := .noat "Line" "head") rfl)
  n_Line_places := He.noat_ok (c.fact 69 (f := .noat "Line" "places") rfl)
  n_Line_cost := He.noat_ok (c.fact 70 (f := .noat "Line" "cost") rfl)
  n_Line_period := He.noat_ok (c.fact 71 (f := .noat "Line" "period") rfl)
  n_Line_quiet := He.noat_ok (c.fact 72 (f := .noat "Line" "quiet") rfl)
  n_Line_silent := He.noat_ok (c.fact 73 (f := .noat "Line" "silent") rfl)
  n_Line_losses := He.noat_ok (c.fact 74 (f := .noat "Line" "losses") rfl)
  mk_Line := He.mkr_ok (c.fact 75 (f := .mkr "Line") rfl)
  m_Line__eq__ := He.meth_ok (c.fact 76 (f := .meth "Line" "__eq__") rfl)
  m_Line_with_setting := He.meth_ok (c.fact 77 (f := .meth "Line" "with_setting") rfl)
  m_Line_changed := He.meth_ok (c.fact 78 (f := .meth "Line" "changed") rfl)
  g_is_integer := He.glo_ok X G (c.fact 79 (f := .glo "is_integer") rfl)
  g_is_between := He.glo_ok X G (c.fact 80 (f := .glo "is_between") rfl)
  g_is_name := He.glo_ok X G (c.fact 81 (f := .glo "is_name") rfl)
  g_is_list := He.glo_ok X G (c.fact 82 (f := .glo "is_list") rfl)
  g_is_rising := He.glo_ok X G (c.fact 83 (f := .glo "is_rising") rfl)
  g_good_begin := He.glo_ok X G (c.fact 84 (f := .glo "good_begin") rfl)
  g_good_delays := He.glo_ok X G (c.fact 85 (f := .glo "good_delays") rfl)
  g_good_box := He.glo_ok X G (c.fact 86 (f := .glo "good_box") rfl)
  g_is_letter := He.glo_ok X G (c.fact 87 (f := .glo "is_letter") rfl)
  g_checked_row := He.glo_ok X G (c.fact 88 (f := .glo "checked_row") rfl)
  g_checked_rows := He.glo_ok X G (c.fact 89 (f := .glo "checked_rows") rfl)
  g_is_bound := He.glo_ok X G (c.fact 90 (f := .glo "is_bound") rfl)
  g_is_right_setting := He.glo_ok X G (c.fact 91 (f := .glo "is_right_setting") rfl)
  g_is_change := He.glo_ok X G (c.fact 92 (f := .glo "is_change") rfl)
  g_with_bound := He.glo_ok X G (c.fact 93 (f := .glo "with_bound") rfl)
  g_line_of := He.glo_ok X G (c.fact 94 (f := .glo "line_of") rfl)
  g__law_start := He.glo_ok X G (c.fact 95 (f := .glo "_law_start") rfl)
  g__law_draw := He.glo_ok X G (c.fact 96 (f := .glo "_law_draw") rfl)
  g__law_mail := He.glo_ok X G (c.fact 97 (f := .glo "_law_mail") rfl)
  g__law_rising := He.glo_ok X G (c.fact 98 (f := .glo "_law_rising") rfl)
  g__law_box := He.glo_ok X G (c.fact 99 (f := .glo "_law_box") rfl)
  g__law_way := He.glo_ok X G (c.fact 100 (f := .glo "_law_way") rfl)
  g__law_raw := He.glo_ok X G (c.fact 101 (f := .glo "_law_raw") rfl)
  g__law_made_ways := He.glo_ok X G (c.fact 102 (f := .glo "_law_made_ways") rfl)
  g__law_line := He.glo_ok X G (c.fact 103 (f := .glo "_law_line") rfl)
  g__law_copy := He.glo_ok X G (c.fact 104 (f := .glo "_law_copy") rfl)
  g__law_change := He.glo_ok X G (c.fact 105 (f := .glo "_law_change") rfl)
  g__law_after := He.glo_ok X G (c.fact 106 (f := .glo "_law_after") rfl)
  g__law_can_be := He.glo_ok X G (c.fact 107 (f := .glo "_law_can_be") rfl)
  g__law_told := He.glo_ok X G (c.fact 108 (f := .glo "_law_told") rfl)
  g__law_refused_hold := He.glo_ok X G (c.fact 109 (f := .glo "_law_refused_hold") rfl)
  g__law_same := He.glo_ok X G (c.fact 110 (f := .glo "_law_same") rfl)
  g_law := He.glo_ok X G (c.fact 111 (f := .glo "law") rfl)
  d_is_integer := fn_to (c.def_ 0 (d := FN0) rfl)
  d_is_between := fn_to (c.def_ 1 (d := FN1) rfl)
  d_is_name := fn_to (c.def_ 2 (d := FN2) rfl)
  d_is_list := fn_to (c.def_ 3 (d := FN3) rfl)
  d_is_rising := fn_to (c.def_ 4 (d := FN4) rfl)
  d_good_begin := fn_to (c.def_ 5 (d := FN5) rfl)
  d_good_delays := fn_to (c.def_ 6 (d := FN6) rfl)
  d_good_box := fn_to (c.def_ 7 (d := FN7) rfl)
  d_Way__init__ := fn_to (c.def_ 8 (d := FN8) rfl)
  d_Way__eq__ := fn_to (c.def_ 9 (d := FN9) rfl)
  d_Way_begun_at := fn_to (c.def_ 10 (d := FN10) rfl)
  d_is_letter := fn_to (c.def_ 11 (d := FN11) rfl)
  d_checked_row := fn_to (c.def_ 12 (d := FN12) rfl)
  d_checked_rows := fn_to (c.def_ 13 (d := FN13) rfl)
  d_Mail__init__ := fn_to (c.def_ 14 (d := FN14) rfl)
  d_Mail__eq__ := fn_to (c.def_ 15 (d := FN15) rfl)
  d_is_bound := fn_to (c.def_ 16 (d := FN16) rfl)
  d_Steps__init__ := fn_to (c.def_ 17 (d := FN17) rfl)
  d_Steps__eq__ := fn_to (c.def_ 18 (d := FN18) rfl)
  d_Room__init__ := fn_to (c.def_ 19 (d := FN19) rfl)
  d_Room__eq__ := fn_to (c.def_ 20 (d := FN20) rfl)
  d_is_right_setting := fn_to (c.def_ 21 (d := FN21) rfl)
  d_is_change := fn_to (c.def_ 22 (d := FN22) rfl)
  d_with_bound := fn_to (c.def_ 23 (d := FN23) rfl)
  d_Line__init__ := fn_to (c.def_ 24 (d := FN24) rfl)
  d_Line__eq__ := fn_to (c.def_ 25 (d := FN25) rfl)
  d_Line_with_setting := fn_to (c.def_ 26 (d := FN26) rfl)
  d_Line_changed := fn_to (c.def_ 27 (d := FN27) rfl)
  d_line_of := fn_to (c.def_ 28 (d := FN28) rfl)
  d__law_start := fn_to (c.def_ 29 (d := FN29) rfl)
  d__law_draw := fn_to (c.def_ 30 (d := FN30) rfl)
  d__law_mail := fn_to (c.def_ 31 (d := FN31) rfl)
  d__law_rising := fn_to (c.def_ 32 (d := FN32) rfl)
  d__law_box := fn_to (c.def_ 33 (d := FN33) rfl)
  d__law_way := fn_to (c.def_ 34 (d := FN34) rfl)
  d__law_raw := fn_to (c.def_ 35 (d := FN35) rfl)
  d__law_made_ways := fn_to (c.def_ 36 (d := FN36) rfl)
  d__law_line := fn_to (c.def_ 37 (d := FN37) rfl)
  d__law_copy := fn_to (c.def_ 38 (d := FN38) rfl)
  d__law_change := fn_to (c.def_ 39 (d := FN39) rfl)
  d__law_after := fn_to (c.def_ 40 (d := FN40) rfl)
  d__law_can_be := fn_to (c.def_ 41 (d := FN41) rfl)
  d__law_told := fn_to (c.def_ 42 (d := FN42) rfl)
  d__law_refused_hold := fn_to (c.def_ 43 (d := FN43) rfl)
  d__law_same := fn_to (c.def_ 44 (d := FN44) rfl)
  d_law := fn_to (c.def_ 45 (d := FN45) rfl)
  kt := fun c hc t ht => of_decide_eq_true (HX.all_of (HX.all_of b.kt c hc) t ht)
  kb := fun c hc t ht => of_decide_eq_true (HX.all_of (HX.all_of b.kb c hc) t ht)
  kc := fun c hc c' hc' => of_decide_eq_true (HX.all_of (HX.all_of b.kc c hc) c' hc')
  kset := HX.ktupB_ok b.kset
  kpla := HX.ktupB_ok b.kpla
  kbnd := fun q hq => by
    obtain ⟨a, e, k⟩ := HX.dtupB_ok (HX.all_of b.kbnd q hq)
    obtain ⟨es, n, D⟩ := c.t.tab 0 (t := (fun K => ga K "BOUNDS", ["turn", "numbers", "head", "places", "cost", "period", "quiet", "silent", "losses"])) rfl
    exact ⟨a, HX.kdct_of D e rfl, k⟩
  kdfl := HX.ktupB_ok b.kdfl
  neq := fun c hc => let ⟨h1, h2⟩ := HX.bb (HX.all_of b.neq c hc); ⟨eqO_ok h1, of_decide_eq_true h2⟩
  feq := fun c hc => let ⟨h1, h2⟩ := HX.bb (HX.all_of b.feq c hc); ⟨eqO_ok h1, h2⟩
end
end WK
end
section
set_option Elab.async false
set_option linter.all false
set_option maxRecDepth 100000
set_option maxHeartbeats 0
/-! The top, run in the kernel. -/
namespace KH
open PySem PySem.W PySem.Calls PyProof.Rows
abbrev R : OpenRow := OpenLaw.row PySem.Challenge.rw_wholeline_k80_whole_lines_changed
abbrev qv : Program := view R.prog [71]
def names0 : List PySem.Str := ["_wall", "LETTERS", "MOST_LETTERS_common", "is_integer", "is_between", "is_name", "is_list", "is_rising", "WholeError", "BadPart", "BadNumber", "BadIndex", "BadRow", "BadLetter", "BadSteps", "BadBox", "BadChange", "TooMany", "LATEST_BEGIN", "GREATEST_DELAY", "MOST_BOXES", "LONGEST_KEEP", "good_begin", "good_delays", "good_box", "Way", "MOST_HEADS", "MOST_BODY", "MOST_LETTERS_letters", "MOST_ROWS"]
def names1 : List PySem.Str := ["is_letter", "checked_row", "checked_rows", "Mail", "MOST_SIZE", "MOST_BOUNDS", "is_bound", "Steps", "told_of", "Room", "SETTINGS", "BOUNDS", "PLAIN_CHANGES", "is_right_setting", "is_change", "with_bound", "Line", "line_of", "_law_start", "_law_draw", "_law_mail", "_law_rising", "_law_box", "_law_way", "_law_raw", "_law_made_ways", "_law_line", "_law_copy", "_law_change", "_law_after"]
def names2 : List PySem.Str := ["_law_can_be", "_law_told", "_law_refused_hold", "_law_same"]
def names : List PySem.Str := names0 ++ names1 ++ names2
abbrev hk : PySem.W.Hook := HX.hookX WK.HK
def ob (s : PySem.W.SharedT) : HX.AlX := HX.obsX WK.HK (HandSHeadRun.getT s)
theorem ob_eq (s : PySem.W.SharedT) : ob s = hk.obs s.abs := HX.obsX_eq (HandSHeadRun.getT_eq s)
theorem runF (w : World) : HandSHeadRun.RunEq R qv hk ob 20000 names (w.withFollow "special-get-raises" false) := by
  intro os
  kernel_rfl
theorem runT (w : World) : HandSHeadRun.RunEq R qv hk ob 20000 names (w.withFollow "special-get-raises" true) := by
  intro os
  kernel_rfl
theorem run (w : World) : HandSHeadRun.RunEq R qv hk ob 20000 names w := byRow2 "special-get-raises" (P := fun w => HandSHeadRun.RunEq R qv hk ob 20000 names w) runF runT w
end KH
namespace WK
open PySem PySem.Spec PyProof.Rows L2 WL He
theorem cx_no {P : Program} {w : World} {outer : List Env} {H : Hp} {s s' : Shared} {e : Value} (z : L2.CX P w outer H s (fun _ _ _ => False) e s') : False := by
  obtain ⟨_, _, _, _, _, _, _, _, _, _, _, _, z⟩ := z
  exact z
end WK
open PySem PySem.W PySem.Calls PyProof.Rows
theorem KH.fin (L : ∀ {K : PySem.W.Frag} {mg : PySem.Str → Option PySem.Value} {w : World} {h : Heap} {fa : Addr}, K.In h → h.Ns mainGlobals mg → mg ("law" : PySem.Str) = some (.ref fa) → HX.SaysX WK.HK w K h →
    LamX.LawAtS PySem.Challenge.rw_wholeline_k80_whole_lines_changed w K (L2.CX WK.PG w) 100 63 "_law_script" mg fa h) : PySem.Challenge.rw_wholeline_k80_whole_lines_changed.Holds := by
  w_on; o_law
  refine HandSHeadRun.head_any (r := OpenLaw.row PySem.Challenge.rw_wholeline_k80_whole_lines_changed) (q := view (OpenLaw.row PySem.Challenge.rw_wholeline_k80_whole_lines_changed).prog [71]) (H := KH.hk) (ob := KH.ob) (M := 20000) (loose := KH.names) (d := HandSHeadRun.topDef (OpenLaw.row PySem.Challenge.rw_wholeline_k80_whole_lines_changed).prog 71) (kwd := []) KH.ob_eq
    (by kernel_rfl) (fun s => by kernel_rfl) KH.run (by kernel_rfl) (by kernel_rfl) (by kernel_rfl) (by rfl) (by first | assumption | decide +kernel) (by decide +kernel) ⟨rfl, rfl, rfl, rfl, rfl, by decide +kernel⟩ ?hw ?hc
  case hw => w_witness2
  case hc =>
    refine LamX.walk_ofTsE (l := PySem.Challenge.rw_wholeline_k80_whole_lines_changed) (n := 63) (k := 100) (x := "_law_script") (CX := fun w => L2.CX WK.PG w) rfl (by decide) (by kernel_rfl) ⟨rfl, by decide, by decide⟩ ?F (fun w H s e s' z => WK.cx_no z)
    intro w mg fa h Y G hmg0
    obtain ⟨K, KX, c⟩ := Y
    have hmg : mg ("law" : PySem.Str) = some (.ref fa) := by
      have e : (HandSHeadRun.topDef (OpenLaw.row PySem.Challenge.rw_wholeline_k80_whole_lines_changed).prog 71).name = ("law" : PySem.Str) := by kernel_rfl
      rw [← e]
      exact hmg0
    exact ⟨K, KX, L KX G hmg c⟩
end
section
set_option Elab.async false
set_option linter.all false
set_option maxRecDepth 100000
set_option maxHeartbeats 4000000
/-! The library's defs over data: types, numbers. -/
namespace WL
theorem ift {c : Bool} {P Q : Prop} (h : c = true) (k : P) : if c = true then P else Q := by rw [if_pos h]; exact k
theorem iff' {c : Bool} {P Q : Prop} (h : c = false) (k : Q) : if c = true then P else Q := by rw [if_neg (by rw [h]; decide)]; exact k
theorem ifb {c : Bool} {P Q : Prop} (h : c = true → P) (k : c = false → Q) : if c = true then P else Q := by
  cases c with
  | true => exact h rfl
  | false => exact k rfl
def D.isI : D → Bool
  | .int _ => true
  | _ => false
def D.isIB : D → Bool
  | .int _ => true
  | .bl _ => true
  | _ => false
def D.isB : D → Bool
  | .bl _ => true
  | _ => false
def D.isS : D → Bool
  | .str _ => true
  | _ => false
def D.isL : D → Bool
  | .lst _ => true
  | _ => false
def D.isT : D → Bool
  | .tup _ => true
  | _ => false
def D.isQ : D → Bool
  | .lst _ => true
  | .tup _ => true
  | _ => false
/-- in the bounds, an int -/
def btw (x : D) (a b : Int) : Bool := match x with
  | .int i => decide (a ≤ i) && decide (i ≤ b)
  | _ => false
end WL
namespace WK
open PySem PySem.Spec PyProof.Rows L2 WL
/-- data whose type is known -/
def Kn : D → Prop
  | .ins c _ => c ∈ CLS
  | .raw _ => False
  | _ => True
section
variable {K : PySem.W.Frag} {mg : Str → Option Value} {w : World} {base : Heap}
theorem isC_of (T : Txt K mg w) : ∀ {c : Str}, c ∈ CLS → WL.IsC K c := fun {c} h => by
  simp only [CLS, List.mem_cons, List.not_mem_nil, or_false] at h
  rcases h with rfl | rfl | rfl | rfl | rfl
  · exact T.is_Way
  · exact T.is_Mail
  · exact T.is_Steps
  · exact T.is_Room
  · exact T.is_Line
section
variable {R : Bool → Prop} {x : D}
theorem ty_int (T : Txt K mg w) (h : Kn x) (k : R x.isIB) : ∃ tv b, TyD K x tv ∧ PySem.W.kitOne K tv (.type "int") = some b ∧ R b := by
  cases x with
  | ins c l => exact ⟨_, _, .ins l (isC_of T h), T.kt c h "int" (by decide), k⟩
  | raw a => exact h.elim
  | non => exact ⟨_, _, .non, by kernel_rfl, k⟩
  | bl b => exact ⟨_, _, .bl b, by kernel_rfl, k⟩
  | int b => exact ⟨_, _, .int b, by kernel_rfl, k⟩
  | str b => exact ⟨_, _, .str b, by kernel_rfl, k⟩
  | lst b => exact ⟨_, _, .lst b, by kernel_rfl, k⟩
  | tup b => exact ⟨_, _, .tup b, by kernel_rfl, k⟩
  | dic b => exact ⟨_, _, .dic b, by kernel_rfl, k⟩
theorem ty_bool (T : Txt K mg w) (h : Kn x) (k : R x.isB) : ∃ tv b, TyD K x tv ∧ PySem.W.kitOne K tv (.type "bool") = some b ∧ R b := by
  cases x with
  | ins c l => exact ⟨_, _, .ins l (isC_of T h), T.kt c h "bool" (by decide), k⟩
  | raw a => exact h.elim
  | non => exact ⟨_, _, .non, by kernel_rfl, k⟩
  | bl b => exact ⟨_, _, .bl b, by kernel_rfl, k⟩
  | int b => exact ⟨_, _, .int b, by kernel_rfl, k⟩
  | str b => exact ⟨_, _, .str b, by kernel_rfl, k⟩
  | lst b => exact ⟨_, _, .lst b, by kernel_rfl, k⟩
  | tup b => exact ⟨_, _, .tup b, by kernel_rfl, k⟩
  | dic b => exact ⟨_, _, .dic b, by kernel_rfl, k⟩
theorem ty_str (T : Txt K mg w) (h : Kn x) (k : R x.isS) : ∃ tv b, TyD K x tv ∧ PySem.W.kitOne K tv (.type "str") = some b ∧ R b := by
  cases x with
  | ins c l => exact ⟨_, _, .ins l (isC_of T h), T.kt c h "str" (by decide), k⟩
  | raw a => exact h.elim
  | non => exact ⟨_, _, .non, by kernel_rfl, k⟩
  | bl b => exact ⟨_, _, .bl b, by kernel_rfl, k⟩
  | int b => exact ⟨_, _, .int b, by kernel_rfl, k⟩
  | str b => exact ⟨_, _, .str b, by kernel_rfl, k⟩
  | lst b => exact ⟨_, _, .lst b, by kernel_rfl, k⟩
  | tup b => exact ⟨_, _, .tup b, by kernel_rfl, k⟩
  | dic b => exact ⟨_, _, .dic b, by kernel_rfl, k⟩
theorem ty_tup (T : Txt K mg w) (h : Kn x) (k : R x.isT) : ∃ tv b, TyD K x tv ∧ PySem.W.kitOne K tv (.type "tuple") = some b ∧ R b := by
  cases x with
  | ins c l => exact ⟨_, _, .ins l (isC_of T h), T.kt c h "tuple" (by decide), k⟩
  | raw a => exact h.elim
  | non => exact ⟨_, _, .non, by kernel_rfl, k⟩
  | bl b => exact ⟨_, _, .bl b, by kernel_rfl, k⟩
  | int b => exact ⟨_, _, .int b, by kernel_rfl, k⟩
  | str b => exact ⟨_, _, .str b, by kernel_rfl, k⟩
  | lst b => exact ⟨_, _, .lst b, by kernel_rfl, k⟩
  | tup b => exact ⟨_, _, .tup b, by kernel_rfl, k⟩
  | dic b => exact ⟨_, _, .dic b, by kernel_rfl, k⟩
theorem ty_seq (T : Txt K mg w) (h : Kn x) (k : R x.isQ) : ∃ tv b, TyD K x tv ∧ PySem.W.kitAny K tv [.type "list", .type "tuple"] = some b ∧ R b := by
  cases x with
  | ins c l =>
    refine ⟨_, _, .ins l (isC_of T h), ?_, k⟩
    unfold PySem.W.kitAny PySem.W.kitAny
    rw [T.kt c h "list" (by decide), T.kt c h "tuple" (by decide)] <;> rfl
  | raw a => exact h.elim
  | non => exact ⟨_, _, .non, by kernel_rfl, k⟩
  | bl b => exact ⟨_, _, .bl b, by kernel_rfl, k⟩
  | int b => exact ⟨_, _, .int b, by kernel_rfl, k⟩
  | str b => exact ⟨_, _, .str b, by kernel_rfl, k⟩
  | lst b => exact ⟨_, _, .lst b, by kernel_rfl, k⟩
  | tup b => exact ⟨_, _, .tup b, by kernel_rfl, k⟩
  | dic b => exact ⟨_, _, .dic b, by kernel_rfl, k⟩
/-- of an own class -/
def isK (c : Str) : D → Bool
  | .ins c' _ => decide (c' = c)
  | _ => false
theorem ty_own (T : Txt K mg w) {c : Str} (hc : c ∈ CLS) (h : Kn x) (nd : ∀ l, x ≠ .dic l) (k : R (isK c x)) : ∃ tv b, TyD K x tv ∧ PySem.W.kitOne K tv (.ref (He.ga K c)) = some b ∧ R b := by
  cases x with
  | ins c' l => exact ⟨_, _, .ins l (isC_of T h), T.kc c' h c hc, k⟩
  | raw a => exact h.elim
  | non => exact ⟨_, _, .non, T.kb c hc _ (by decide), k⟩
  | bl b => exact ⟨_, _, .bl b, T.kb c hc _ (by decide), k⟩
  | int b => exact ⟨_, _, .int b, T.kb c hc _ (by decide), k⟩
  | str b => exact ⟨_, _, .str b, T.kb c hc _ (by decide), k⟩
  | lst b => exact ⟨_, _, .lst b, T.kb c hc _ (by decide), k⟩
  | tup b => exact ⟨_, _, .tup b, T.kb c hc _ (by decide), k⟩
  | dic b => exact absurd rfl (nd b)
end
end
end WK
end
section
set_option Elab.async false
set_option linter.all false
set_option maxRecDepth 100000
set_option maxHeartbeats 400000
/-! The library's defs over data. -/
local macro_rules | `(tactic| walk_at "ev") => `(tactic| first
  | (with_reducible refine WL.st_seq ?_) | (with_reducible refine WL.st_ret ?_) | (with_reducible refine WL.st_retN ?_) | (with_reducible refine WL.st_next ?_) | (with_reducible refine WL.st_if ?_)
  | (with_reducible refine WL.et_and ?_) | (with_reducible refine WL.et_or ?_) | (with_reducible refine WL.et_not ?_) | (with_reducible refine WL.et_test ?_) | (with_reducible refine WL.et_B ?_)
  | (with_reducible refine WL.ev_andV ?_) | (with_reducible refine WL.ev_orV ?_) | (with_reducible refine WL.ev_notV ?_) | (with_reducible refine WL.ev_if ?_)
  | (with_reducible refine WL.ev_v ?_) | (with_reducible refine WL.ev_int ?_) | (with_reducible refine WL.ev_str ?_) | (with_reducible refine WL.ev_non ?_) | (with_reducible refine WL.ev_bl ?_)
  | (with_reducible refine WL.ea_nil ?_) | (with_reducible refine WL.ea_cons ?_) | (with_reducible refine WL.ev_tup ?_)
  | (with_reducible refine WL.ev_make ?_) | (with_reducible refine WL.ev_makeN ?_) | (with_reducible refine WL.ev_call ?_) | (with_reducible refine WL.ev_callN ?_) | (with_reducible refine WL.ev_meth ?_) | (with_reducible refine WL.ev_methN ?_)
  | (with_reducible refine WL.ev_isi (.ty _) ?_) | (with_reducible refine WL.ev_isi (.own _) ?_) | (with_reducible refine WL.ev_isiT (.ty _) (.ty _) ?_)
  | (with_reducible refine WL.ev_len ?_) | (with_reducible refine WL.ev_all ?_) | (with_reducible refine WL.ev_any ?_) | (with_reducible refine WL.ev_tuple ?_) | (with_reducible refine WL.ev_listD ?_) | (with_reducible refine WL.ev_map ?_) | (with_reducible refine WL.ei_tup ?_) | (with_reducible refine WL.ei_list ?_) | (with_reducible refine WL.ei_str ?_) | (with_reducible refine WL.ei_zip ?_) | (with_reducible refine WL.ei_seqV ?_) | (with_reducible refine WL.ei_enumA ?_) | (with_reducible refine WL.ev_eqS ?_) | (with_reducible refine WL.ev_inS ?_)
  | (with_reducible refine WL.ev_chain ?_) | (with_reducible refine WL.ev_chain3 ?_) | (with_reducible refine WL.ev_opB ?_) | (with_reducible refine WL.ev_opI ?_) | (with_reducible refine WL.ev_eq ?_) | (with_reducible refine WL.ev_ne ?_) | (with_reducible refine WL.ev_isN ?_) | (with_reducible refine WL.ev_notN ?_)
  | (with_reducible refine WL.ev_ixL ?_) | (with_reducible refine WL.ev_ixT ?_) | (with_reducible refine WL.ev_ixD ?_) | (with_reducible refine WL.ev_kstr (by assumption) ?_) | (with_reducible refine WL.ev_eqG ?_) | (with_reducible refine WL.ev_in ?_) | (with_reducible refine WL.st_raise ?_) | (with_reducible refine WL.st_fl ?_) | (with_reducible refine WL.ev_fld ?_)
  | (with_reducible refine WK.ty_int (by assumption) ?_ ?_) | (with_reducible refine WK.ty_bool (by assumption) ?_ ?_) | (with_reducible refine WK.ty_str (by assumption) ?_ ?_) | (with_reducible refine WK.ty_tup (by assumption) ?_ ?_) | (with_reducible refine WK.ty_seq (by assumption) ?_ ?_) | (with_reducible refine WK.ty_own (by assumption) ?_ ?_ ?_ ?_; focus (simp [WK.CLS]; done))
  | (show WK.Kn _; first | assumption | trivial | (simp [WK.Kn, WK.CLS]; done)) | (show ∀ l, _ ≠ WL.D.dic l; intro _ h; cases h)
  | (with_reducible refine WL.st_asg ?_) | (with_reducible refine WL.st_asgT (js := List.range 64) ?_) | (with_reducible refine WL.tg_tu ?_) | (with_reducible refine WL.tg_cons ?_) | (with_reducible refine WL.tg_nil ?_) | (with_reducible refine WL.tg_name (by first | decide | simp) ?_)
  | refine WL.ift rfl ?_ | refine WL.iff' rfl ?_
  | refine And.intro (by first | assumption | trivial : WK.Kn _) ?_
  | refine ⟨_, _, _, rfl, (by assumption : L2.Cls _ _), (by assumption : L2.NoAttr _ _ _), (by first | rfl | exact Nat.le_of_ble_eq_true rfl), ?_⟩
  | refine ⟨_, rfl, ?_⟩ | refine ⟨_, _, rfl, rfl, ?_⟩ | refine ⟨_, _, rfl, (by assumption : _ ∨ _), ?_⟩ | refine ⟨_, _, rfl, ?_⟩ | refine ⟨_, _, _, rfl, ?_⟩ | refine ⟨_, _, _, _, rfl, ?_⟩ | refine ⟨_, _, _, rfl, rfl, (by first | assumption | rfl : WL.atD _ _ = some _), ?_⟩ | refine ⟨_, _, _, rfl, rfl, rfl, ?_⟩ | refine And.intro rfl ?_ | refine And.intro (by assumption) ?_ | refine And.intro (Nat.le_of_ble_eq_true rfl) ?_ | exact rfl)
local macro_rules | `(tactic| walk_at "evs") => `(tactic| first | walk_at "ev" | (with_reducible refine WL.ift ?_ ?_; focus (first | assumption | (simp [*]; done) | (simp; omega))) | (with_reducible refine WL.iff' ?_ ?_; focus (first | assumption | (simp [*]; done) | (simp; omega))))
local macro_rules | `(tactic| walk_at "evb") => `(tactic| first | walk_at "ev" | (with_reducible refine WL.ifb (fun _ => ?_) (fun _ => ?_)))
local macro_rules | `(tactic| walk_at "evt") => `(tactic| first | walk_at "evs" | refine ⟨_, Or.inl rfl, ?_⟩ | refine ⟨_, Or.inr rfl, ?_⟩ | fail)
local macro_rules | `(tactic| walk_at "evu") => `(tactic| first | (with_reducible refine WL.ev_ofl ?_; refine ⟨_, _, _, _, rfl, (by assumption : L2.Cls _ _), (by assumption : L2.NoAttr _ _ _), rfl, ?_⟩) | walk_at "evt" | (with_reducible refine WL.ev_opC ?_) | (with_reducible refine WL.ev_dget ?_) | (with_reducible refine WL.ev_ofl ?_) | (with_reducible refine WL.ev_makeK ?_) | fail)
namespace WK
open PySem PySem.Spec PyProof.Rows L2 WL
section
variable {K : PySem.W.Frag} {mg : Str → Option Value} {w : World} {base : Heap}
abbrev F_is_integer : Fn1 := fun _ ds R _ => ∃ x, ds = [x] ∧ Kn x ∧ R (.bl x.isI)
theorem ok_is_integer (T : Txt K mg w) : FnOk PG w K mg base (L2.CX PG w) 3 (He.ga K "is_integer") (fdOf K ("is_integer", none)) ["value"] (spD K F_is_integer) :=
  WL.fnD (k := 2) T.d_is_integer sc_is_integer (fun _ _ _ _ ⟨_, e, _⟩ => by rw [e] <;> rfl) fun cdv A outer s H E G ds R ex hr ⟨x, e, kx, k⟩ => by
    subst e
    refine ⟨_, (pss_one (ps_ret (pe_and (pe_callB call_isi (by rfl) T.f_isinstance (by decide +kernel) (pa_cons (pv 0) (pa_cons (pe_bltn (v := .ty "int") (u := .type "int") rfl T.f_int (by kernel_rfl) rfl) pa_nil))) (pe_one (pe_not (pe_callB call_isi (by rfl) T.f_isinstance (by decide +kernel) (pa_cons (pv 0) (pa_cons (pe_bltn (v := .ty "bool") (u := .type "bool") rfl T.f_bool (by kernel_rfl) rfl) pa_nil)))))))), ?_⟩
    dsimp only [cxOf]
    repeat' walk_at "evb"
    all_goals (cases x <;> simp_all [D.isIB, D.isB, D.isI])
abbrev F_is_between : Fn1 := fun _ ds R _ => ∃ x a b, ds = [x, .int a, .int b] ∧ Kn x ∧ R (.bl (btw x a b))
theorem ok_is_between (T : Txt K mg w) : FnOk PG w K mg base (L2.CX PG w) 5 (He.ga K "is_between") (fdOf K ("is_between", none)) ["value", "least", "most"] (spD K F_is_between) :=
  WL.fnD (k := 4) T.d_is_between sc_is_between (fun _ _ _ _ ⟨_, _, _, e, _⟩ => by rw [e] <;> rfl) fun cdv A outer s H E G ds R ex hr ⟨x, a, b, e, kx, k⟩ => by
    subst e
    refine ⟨_, (pss_one (ps_ret (pe_and (pe_call (ok_is_integer T) (hr.mono (by decide)) rfl T.g_is_integer T.d_is_integer.kp (bi_is_integer T) .nil passN (pa_cons (pv 0) pa_nil)) (pe_one (pe_chain op_le op_le (pv 1) (pv 0) (pv 2)))))), ?_⟩
    dsimp only [cxOf]
    cases x <;> repeat' walk_at "evb"
    all_goals (simp_all [btw])
abbrev F_is_list : Fn1 := fun _ ds R _ => ∃ x, ds = [x] ∧ Kn x ∧ R (.bl x.isQ)
theorem ok_is_list (T : Txt K mg w) : FnOk PG w K mg base (L2.CX PG w) 3 (He.ga K "is_list") (fdOf K ("is_list", none)) ["value"] (spD K F_is_list) :=
  WL.fnD (k := 2) T.d_is_list sc_is_list (fun _ _ _ _ ⟨_, e, _⟩ => by rw [e] <;> rfl) fun cdv A outer s H E G ds R ex hr ⟨x, e, kx, k⟩ => by
    subst e
    refine ⟨_, (pss_one (ps_ret (pe_callB call_isiT (by rfl) T.f_isinstance (by decide +kernel) (pa_cons (pv 0) (pa_cons (pe_tup (pa_cons (pe_bltn (v := .ty "list") (u := .type "list") rfl T.f_list (by kernel_rfl) rfl) (pa_cons (pe_bltn (v := .ty "tuple") (u := .type "tuple") rfl T.f_tuple (by kernel_rfl) rfl) pa_nil))) pa_nil))))), ?_⟩
    dsimp only [cxOf]
    repeat' walk_at "evb"
    exact k
/-- a begin: none, or an int -/
def begD : Option Int → D
  | none => .non
  | some i => .int i
def goodB : Option Int → Bool
  | none => true
  | some i => decide (0 ≤ i) && decide (i ≤ 1000)
abbrev F_good_begin : Fn1 := fun _ ds R _ => ∃ b, ds = [begD b] ∧ R (.bl (goodB b))
theorem ok_good_begin (T : Txt K mg w) : FnOk PG w K mg base (L2.CX PG w) 7 (He.ga K "good_begin") (fdOf K ("good_begin", none)) ["begin"] (spD K F_good_begin) :=
  WL.fnD (k := 6) T.d_good_begin sc_good_begin (fun _ _ _ _ ⟨_, e, _⟩ => by rw [e] <;> rfl) fun cdv A outer s H E G ds R ex hr ⟨b, e, k⟩ => by
    subst e
    refine ⟨_, (pss_one (ps_ret (pe_or (pe_cmpR op_isN (pv 0) pe_non (nomark _)) (pe_one (pe_call (ok_is_between T) (hr.mono (by decide)) rfl T.g_is_between T.d_is_between.kp (bi_is_between T) .nil passN (pa_cons (pv 0) (pa_cons pe_int (pa_cons (pe_gI rfl T.i_LATEST_BEGIN) pa_nil)))))))), ?_⟩
    dsimp only [cxOf]
    cases b <;> repeat' walk_at "evb"
    all_goals simp_all [goodB, begD, btw]
abbrev F_good_delays : Fn1 := fun _ ds R _ => ∃ l m, ds = [.int l, .int m] ∧ R (.bl (decide (1 ≤ l) && decide (l ≤ m) && decide (m ≤ 50)))
theorem ok_good_delays (T : Txt K mg w) : FnOk PG w K mg base (L2.CX PG w) 5 (He.ga K "good_delays") (fdOf K ("good_delays", none)) ["least", "most"] (spD K F_good_delays) :=
  WL.fnD (k := 4) T.d_good_delays sc_good_delays (fun _ _ _ _ ⟨_, _, e, _⟩ => by rw [e] <;> rfl) fun cdv A outer s H E G ds R ex hr ⟨l, m, e, k⟩ => by
    subst e
    refine ⟨_, (pss_one (ps_ret (pe_and (pe_call (ok_is_integer T) (hr.mono (by decide)) rfl T.g_is_integer T.d_is_integer.kp (bi_is_integer T) .nil passN (pa_cons (pv 0) pa_nil)) (pe_and (pe_call (ok_is_integer T) (hr.mono (by decide)) rfl T.g_is_integer T.d_is_integer.kp (bi_is_integer T) .nil passN (pa_cons (pv 1) pa_nil)) (pe_one (WX.pe_chain3 op_le op_le op_le pe_int (pv 0) (pv 1) (pe_gI rfl T.i_GREATEST_DELAY))))))), ?_⟩
    dsimp only [cxOf]
    repeat' walk_at "evb"
    all_goals simp_all
abbrev boxD (b : Int × Int × Int × Int) : D := .tup [.int b.1, .int b.2.1, .int b.2.2.1, .int b.2.2.2]
def goodX (l m : Int) (b : Int × Int × Int × Int) : Bool := decide (0 ≤ b.1) && decide (b.1 ≤ b.2.1) && decide (b.1 ≤ l) && decide (b.2.1 ≤ m) && decide (1 ≤ b.2.2.1) && decide (b.2.2.1 ≤ b.2.2.2) && decide (b.2.2.2 ≤ 10000)
abbrev F_good_box : Fn1 := fun _ ds R _ => ∃ b l m, ds = [boxD b, .int l, .int m] ∧ goodX l m b = true ∧ R (.bl true)
theorem ok_good_box (T : Txt K mg w) : FnOk PG w K mg base (L2.CX PG w) 5 (He.ga K "good_box") (fdOf K ("good_box", none)) ["box", "least", "most"] (spD K F_good_box) :=
  WL.fnD (k := 4) T.d_good_box sc_good_box (fun _ _ _ _ ⟨_, _, _, e, _⟩ => by rw [e] <;> rfl) fun cdv A outer s H E G ds R ex hr ⟨b, l, m, e, gb, k⟩ => by
    subst e
    simp only [goodX, Bool.and_eq_true_iff, decide_eq_true_eq] at gb
    obtain ⟨⟨⟨⟨⟨⟨g1, g2⟩, g3⟩, g4⟩, g5⟩, g6⟩, g7⟩ := gb
    obtain ⟨near, far, sh, lo⟩ := b
    refine ⟨_, (pss_cons (ps_if (PW.pt (pw_or (pt_not (pt_val (pe_callB call_isi (by rfl) T.f_isinstance (by decide +kernel) (pa_cons (pv 0) (pa_cons (pe_bltn (v := .ty "tuple") (u := .type "tuple") rfl T.f_tuple (by kernel_rfl) rfl) pa_nil))))) (pw_or (pt_cmpR op_ne (pe_callB call_len (by rfl) T.f_len (by decide +kernel) (pa_cons (pv 0) pa_nil)) pe_int (nomark _)) (pw_or1 (pt_not (pt_val (pe_callB (cr_all rfl) (by rfl) T.f_all (by decide +kernel) (pa_cons (pe_lc (own := [("number", 7)]) rfl sc_good_box.nd (pi_tup (pv 0)) (blkOk_by (own := [("number", 7)]) (N := ["box", "least", "most", "near", "far", "shortest", "longest", "number"]) (sc := defScope s_good_box) (by decide +kernel)) (fun _ _ _ _ _ => (pg_name (i := 7) sc_good_box.nd rfl (Or.inl rfl))) (fun _ _ _ _ _ => pts_nil) (fun _ _ _ _ _ => (pe_call (ok_is_integer T) (hr.mono (by decide)) rfl T.g_is_integer T.d_is_integer.kp (bi_is_integer T) .nil passN (pa_cons (pv 7) pa_nil)))) pa_nil)))))))) (pss_one (ps_ret pe_bl)) pss_nil)
    (pss_cons (ps_asg (pv 0) (pg_tup (n := 4) rfl (pgs_cons (pg_name (i := 3) sc_good_box.nd rfl (Or.inl rfl)) (pgs_cons (pg_name (i := 4) sc_good_box.nd rfl (Or.inl rfl)) (pgs_cons (pg_name (i := 5) sc_good_box.nd rfl (Or.inl rfl)) (pgs_cons (pg_name (i := 6) sc_good_box.nd rfl (Or.inl rfl)) pgs_nil))))))
    (pss_cons (ps_if (PW.pt (pw_or (pt_not (pt_chain op_le op_le pe_int (pv 3) (pv 4))) (pw_or (pt_cmpR op_gt (pv 3) (pv 1) (nomark _)) (pw_or1 (pt_cmpR op_gt (pv 4) (pv 2) (nomark _)))))) (pss_one (ps_ret pe_bl)) pss_nil)
    (pss_one (ps_ret (WX.pe_chain3 op_le op_le op_le pe_int (pv 5) (pv 6) (pe_gI rfl T.i_LONGEST_KEEP))))))), ?_⟩
    dsimp only [cxOf]
    repeat' walk_at "evb"
    refine ⟨fun y => .bl y.isI, ?_, ?_⟩
    · intro y hy
      have hi : ∃ i, y = .int i := by
        simp only [List.mem_cons, List.not_mem_nil, or_false] at hy
        rcases hy with rfl | rfl | rfl | rfl <;> exact ⟨_, rfl⟩
      obtain ⟨i, rfl⟩ := hi
      repeat' walk_at "evb"
    · refine ⟨[true, true, true, true], rfl, ?_⟩
      repeat' walk_at "evb"
      all_goals first | exact k | (simp_all; done) | (exfalso; simp_all; omega)
/-- the begin's part of a way -/
structure Wy where
  b : Option Int
  lo : Int
  hi : Int
  bx : List (Int × Int × Int × Int)
abbrev wayF (x : Wy) : List (Str × D) := [("begin", begD x.b), ("least", .int x.lo), ("most", .int x.hi), ("boxes", .tup (x.bx.map boxD))]
abbrev wayD (x : Wy) : D := .ins "Way" (wayF x)
def goodW (x : Wy) : Bool := goodB x.b && (decide (1 ≤ x.lo) && decide (x.lo ≤ x.hi) && decide (x.hi ≤ 50)) && decide (x.bx.length ≤ 3) && x.bx.all (goodX x.lo x.hi)
abbrev F_Way_init : FnI := fun _ ds R ex => ∃ (x : Wy) (q : D), ds = [begD x.b, .int x.lo, .int x.hi, q] ∧ (q = .lst (x.bx.map boxD) ∨ q = .tup (x.bx.map boxD)) ∧ ((goodW x = true ∧ R (wayF x)) ∨ (goodB x.b = false ∧ ex "BadPart" "part" (.str "begin")))
theorem ok_Way__init__ (T : Txt K mg w) : FnOk PG w K mg base (L2.CX PG w) 31 (He.ma K (He.ga K "Way") "__init__") (fdOf K ("Way", some "__init__")) ["self", "begin", "least", "most", "boxes"] (spI K "Way" F_Way_init) :=
  WL.fnI (k := 30) T.d_Way__init__ sc_Way__init__ (by decide) (fun _ _ _ _ ⟨_, _, e, _⟩ => by rw [e] <;> rfl) fun cdv A outer s H E G ds R ex hr ⟨x, q, e, hq, k⟩ => by
    subst e
    refine ⟨_, (pss_cons (ps_if (pt_not (pt_val (pe_call (ok_good_begin T) (hr.mono (by decide)) rfl T.g_good_begin T.d_good_begin.kp (bi_good_begin T) .nil passN (pa_cons (pv 1) pa_nil)))) (pss_one (WL.ps_raiseD rfl (takes_of rfl rfl rfl rfl) T.x_BadPart (WX.xinit_fn (k := 0) T.x_BadPart) (hr.mono (by decide)) T.xb_BadPart passN rfl pe_str)) pss_nil)
    (pss_cons (ps_if (pt_not (pt_val (pe_call (ok_good_delays T) (hr.mono (by decide)) rfl T.g_good_delays T.d_good_delays.kp (bi_good_delays T) .nil passN (pa_cons (pv 2) (pa_cons (pv 3) pa_nil))))) (pss_one (WL.ps_raiseD rfl (takes_of rfl rfl rfl rfl) T.x_BadPart (WX.xinit_fn (k := 0) T.x_BadPart) (hr.mono (by decide)) T.xb_BadPart passN rfl pe_str)) pss_nil)
    (pss_cons (ps_if (PW.pt (pw_or (pt_not (pt_val (pe_call (ok_is_list T) (hr.mono (by decide)) rfl T.g_is_list T.d_is_list.kp (bi_is_list T) .nil passN (pa_cons (pv 4) pa_nil)))) (pw_or1 (pt_cmpR op_gt (pe_callB call_len (by rfl) T.f_len (by decide +kernel) (pa_cons (pv 4) pa_nil)) (pe_gI rfl T.i_MOST_BOXES) (nomark _))))) (pss_one (WL.ps_raiseD rfl (takes_of rfl rfl rfl rfl) T.x_BadPart (WX.xinit_fn (k := 0) T.x_BadPart) (hr.mono (by decide)) T.xb_BadPart passN rfl pe_str)) pss_nil)
    (pss_cons (ps_for (passes_of rfl) rfl (WX.pi_enumA rfl T.f_enumerate (pa_cons (pv 4) pa_nil)) (pg_tup (n := 2) rfl (pgs_cons (pg_name (i := 5) sc_Way__init__.nd rfl (Or.inl rfl)) (pgs_cons (pg_name (i := 6) sc_Way__init__.nd rfl (Or.inl rfl)) pgs_nil))) (pss_one (ps_if (pt_not (pt_val (pe_call (ok_good_box T) (hr.mono (by decide)) rfl T.g_good_box T.d_good_box.kp (bi_good_box T) .nil passN (pa_cons (pv 6) (pa_cons (pv 2) (pa_cons (pv 3) pa_nil)))))) (pss_one ps_never) pss_nil)))
    (pss_cons (ps_fld (pv 0) (pv 1) rfl)
    (pss_cons (ps_fld (pv 0) (pv 2) rfl)
    (pss_cons (ps_fld (pv 0) (pv 3) rfl)
    (pss_one (ps_fld (pv 0) (pe_callTy call_tuple_of (by rfl) T.f_tuple (by decide +kernel) (pa_cons (pv 4) pa_nil)) rfl))))))))), fun xa => ?_⟩
    dsimp only [cxOf]
    have e0 : (Sl.oins xa "Way" [] :: (List.map Sl.d [begD x.b, D.int x.lo, D.int x.hi, q] ++ List.replicate ((["self", "begin", "least", "most", "boxes", "index", "box"] : List Str).length - ([begD x.b, D.int x.lo, D.int x.hi, q].length + 1)) Sl.un)) = [Sl.oins xa "Way" [], .d (begD x.b), .d (.int x.lo), .d (.int x.hi), .d q, .un, .un] := rfl
    rw [e0]
    have hk : Kn q := by rcases hq with rfl | rfl <;> trivial
    have hqq : q.isQ = true := by rcases hq with rfl | rfl <;> rfl
    have hlen : q.len = some x.bx.length := by rcases hq with rfl | rfl <;> exact congrArg some (List.length_map ..)
    rcases k with ⟨gw, k⟩ | ⟨gb, k⟩
    · unfold goodW at gw
      rw [Bool.and_eq_true_iff, Bool.and_eq_true_iff, Bool.and_eq_true_iff] at gw
      obtain ⟨⟨⟨g1, g2⟩, g3⟩, g4⟩ := gw
      have g5 : decide ((3 : Int) < (x.bx.length : Int)) = false := by
        have := of_decide_eq_true g3
        exact decide_eq_false (by omega)
      have c1 := T.c_Way
      have n1 := T.n_Way_begin
      have n2 := T.n_Way_least
      have n3 := T.n_Way_most
      have n4 := T.n_Way_boxes
      repeat' walk_at "evs"
      refine ⟨_, hlen, ?_⟩
      repeat' walk_at "evs"
      refine st_for (js := List.range 64) ?_
      refine ei_enumA ?_
      repeat' walk_at "evs"
      refine ⟨x.bx.map boxD, by rcases hq with rfl | rfl <;> simp, ?_⟩
      refine ⟨fun _ δ' => ∃ s5 s6, δ' = [Sl.oins xa "Way" [], .d (begD x.b), .d (.int x.lo), .d (.int x.hi), .d q, s5, s6], ⟨_, _, rfl⟩, ?_, ?_⟩
      · intro i y δ' hy ⟨s5, s6, e⟩
        subst e
        obtain ⟨a, h1, rfl⟩ := enumD_get hy
        rw [List.getElem?_map] at h1
        obtain ⟨b, hb, rfl⟩ := Option.map_eq_some_iff.mp h1
        have gbx : goodX x.lo x.hi b = true := List.all_eq_true.mp g4 b (List.mem_of_getElem? hb)
        repeat' walk_at "evs"
        exact ⟨_, _, rfl⟩
      · rintro δ' ⟨s5, s6, rfl⟩
        repeat' walk_at "evs"
        exact ⟨x.bx.map boxD, hq, _, rfl, k⟩
    · repeat' walk_at "evs"
      exact k
end
end WK
end
section
set_option Elab.async false
set_option linter.all false
set_option maxRecDepth 100000
set_option maxHeartbeats 400000
/-! The library's defs over data: ways, letters, mails. -/
local macro_rules | `(tactic| walk_at "ev") => `(tactic| first
  | (with_reducible refine WL.st_seq ?_) | (with_reducible refine WL.st_ret ?_) | (with_reducible refine WL.st_retN ?_) | (with_reducible refine WL.st_next ?_) | (with_reducible refine WL.st_if ?_)
  | (with_reducible refine WL.et_and ?_) | (with_reducible refine WL.et_or ?_) | (with_reducible refine WL.et_not ?_) | (with_reducible refine WL.et_test ?_) | (with_reducible refine WL.et_B ?_)
  | (with_reducible refine WL.ev_andV ?_) | (with_reducible refine WL.ev_orV ?_) | (with_reducible refine WL.ev_notV ?_) | (with_reducible refine WL.ev_if ?_)
  | (with_reducible refine WL.ev_v ?_) | (with_reducible refine WL.ev_int ?_) | (with_reducible refine WL.ev_str ?_) | (with_reducible refine WL.ev_non ?_) | (with_reducible refine WL.ev_bl ?_)
  | (with_reducible refine WL.ea_nil ?_) | (with_reducible refine WL.ea_cons ?_) | (with_reducible refine WL.ev_tup ?_)
  | (with_reducible refine WL.ev_make ?_) | (with_reducible refine WL.ev_makeN ?_) | (with_reducible refine WL.ev_call ?_) | (with_reducible refine WL.ev_callN ?_) | (with_reducible refine WL.ev_meth ?_) | (with_reducible refine WL.ev_methN ?_)
  | (with_reducible refine WL.ev_isi (.ty _) ?_) | (with_reducible refine WL.ev_isi (.own _) ?_) | (with_reducible refine WL.ev_isiT (.ty _) (.ty _) ?_)
  | (with_reducible refine WL.ev_len ?_) | (with_reducible refine WL.ev_all ?_) | (with_reducible refine WL.ev_any ?_) | (with_reducible refine WL.ev_tuple ?_) | (with_reducible refine WL.ev_listD ?_) | (with_reducible refine WL.ev_map ?_) | (with_reducible refine WL.ei_tup ?_) | (with_reducible refine WL.ei_list ?_) | (with_reducible refine WL.ei_str ?_) | (with_reducible refine WL.ei_zip ?_) | (with_reducible refine WL.ei_seqV ?_) | (with_reducible refine WL.ei_enumA ?_) | (with_reducible refine WL.ev_eqS ?_) | (with_reducible refine WL.ev_inS ?_)
  | (with_reducible refine WL.ev_chain ?_) | (with_reducible refine WL.ev_chain3 ?_) | (with_reducible refine WL.ev_opB ?_) | (with_reducible refine WL.ev_opI ?_) | (with_reducible refine WL.ev_eq ?_) | (with_reducible refine WL.ev_ne ?_) | (with_reducible refine WL.ev_isN ?_) | (with_reducible refine WL.ev_notN ?_)
  | (with_reducible refine WL.ev_ixL ?_) | (with_reducible refine WL.ev_ixT ?_) | (with_reducible refine WL.ev_ixD ?_) | (with_reducible refine WL.ev_kstr (by assumption) ?_) | (with_reducible refine WL.ev_eqG ?_) | (with_reducible refine WL.ev_in ?_) | (with_reducible refine WL.st_raise ?_) | (with_reducible refine WL.st_fl ?_) | (with_reducible refine WL.ev_fld ?_)
  | (with_reducible refine WK.ty_int (by assumption) ?_ ?_) | (with_reducible refine WK.ty_bool (by assumption) ?_ ?_) | (with_reducible refine WK.ty_str (by assumption) ?_ ?_) | (with_reducible refine WK.ty_tup (by assumption) ?_ ?_) | (with_reducible refine WK.ty_seq (by assumption) ?_ ?_) | (with_reducible refine WK.ty_own (by assumption) ?_ ?_ ?_ ?_; focus (simp [WK.CLS]; done))
  | (show WK.Kn _; first | assumption | trivial | (simp [WK.Kn, WK.CLS]; done)) | (show ∀ l, _ ≠ WL.D.dic l; intro _ h; cases h)
  | (with_reducible refine WL.st_asg ?_) | (with_reducible refine WL.st_asgT (js := List.range 64) ?_) | (with_reducible refine WL.tg_tu ?_) | (with_reducible refine WL.tg_cons ?_) | (with_reducible refine WL.tg_nil ?_) | (with_reducible refine WL.tg_name (by first | decide | simp) ?_)
  | refine WL.ift rfl ?_ | refine WL.iff' rfl ?_
  | refine And.intro (by first | assumption | trivial : WK.Kn _) ?_
  | refine ⟨_, _, _, rfl, (by assumption : L2.Cls _ _), (by assumption : L2.NoAttr _ _ _), (by first | rfl | exact Nat.le_of_ble_eq_true rfl), ?_⟩
  | refine ⟨_, rfl, ?_⟩ | refine ⟨_, _, rfl, rfl, ?_⟩ | refine ⟨_, _, rfl, (by assumption : _ ∨ _), ?_⟩ | refine ⟨_, _, rfl, ?_⟩ | refine ⟨_, _, _, rfl, ?_⟩ | refine ⟨_, _, _, _, rfl, ?_⟩ | refine ⟨_, _, _, rfl, rfl, (by first | assumption | rfl : WL.atD _ _ = some _), ?_⟩ | refine ⟨_, _, _, rfl, rfl, rfl, ?_⟩ | refine And.intro rfl ?_ | refine And.intro (by assumption) ?_ | refine And.intro (Nat.le_of_ble_eq_true rfl) ?_ | exact rfl)
local macro_rules | `(tactic| walk_at "evs") => `(tactic| first | walk_at "ev" | (with_reducible refine WL.ift ?_ ?_; focus (first | assumption | (simp [*]; done) | (simp; omega))) | (with_reducible refine WL.iff' ?_ ?_; focus (first | assumption | (simp [*]; done) | (simp; omega))))
local macro_rules | `(tactic| walk_at "evb") => `(tactic| first | walk_at "ev" | (with_reducible refine WL.ifb (fun _ => ?_) (fun _ => ?_)))
local macro_rules | `(tactic| walk_at "evt") => `(tactic| first | walk_at "evs" | refine ⟨_, Or.inl rfl, ?_⟩ | refine ⟨_, Or.inr rfl, ?_⟩ | fail)
local macro_rules | `(tactic| walk_at "evu") => `(tactic| first | (with_reducible refine WL.ev_ofl ?_; refine ⟨_, _, _, _, rfl, (by assumption : L2.Cls _ _), (by assumption : L2.NoAttr _ _ _), rfl, ?_⟩) | walk_at "evt" | (with_reducible refine WL.ev_opC ?_) | (with_reducible refine WL.ev_dget ?_) | (with_reducible refine WL.ev_ofl ?_) | (with_reducible refine WL.ev_makeK ?_) | fail)
namespace WK
open PySem PySem.Spec PyProof.Rows L2 WL
section
variable {K : PySem.W.Frag} {mg : Str → Option Value} {w : World} {base : Heap}
theorem pl_ints {n : Nat} {l : List Int} : ∀ x ∈ l.map D.int, Pl n x := fun x hx => by
  obtain ⟨i, _, rfl⟩ := List.mem_map.mp hx
  exact .int i
theorem pl_box (b : Int × Int × Int × Int) : Pl 1 (boxD b) := .tup fun x hx => by
  simp only [List.mem_cons, List.not_mem_nil, or_false] at hx
  rcases hx with rfl | rfl | rfl | rfl <;> exact .int _
theorem pl_beg {n : Nat} (b : Option Int) : Pl n (begD b) := by cases b <;> first | exact .non | exact .int _
theorem Pl.mono : ∀ {n m : Nat} {d : D}, Pl n d → n ≤ m → Pl m d
  | _, _, _, .non, _ => .non
  | _, _, _, .bl b, _ => .bl b
  | _, _, _, .int b, _ => .int b
  | _, _, _, .str b, _ => .str b
  | n + 1, m + 1, _, .lst h, e => .lst fun x hx => Pl.mono (h x hx) (Nat.le_of_succ_le_succ e)
  | n + 1, m + 1, _, .tup h, e => .tup fun x hx => Pl.mono (h x hx) (Nat.le_of_succ_le_succ e)
theorem pl_boxes (l : List (Int × Int × Int × Int)) : Pl 2 (.tup (l.map boxD)) := .tup fun x hx => by
  obtain ⟨i, _, rfl⟩ := List.mem_map.mp hx
  exact pl_box i
abbrev F_Way_eq : Fn1 := fun _ ds R _ => ∃ x, ds = [wayD x, wayD x] ∧ R (.bl true)
theorem ok_Way__eq__ (T : Txt K mg w) : FnOk PG w K mg base (L2.CX PG w) 34 (He.ma K (He.ga K "Way") "__eq__") (fdOf K ("Way", some "__eq__")) ["self", "other"] (spD K F_Way_eq) :=
  WL.fnD (k := 33) T.d_Way__eq__ sc_Way__eq__ (fun _ _ _ _ ⟨_, e, _⟩ => by rw [e] <;> rfl) fun cdv A outer s H E G ds R ex hr ⟨x, e, k⟩ => by
    subst e
    refine ⟨_, (pss_cons (ps_if (pt_not (pt_val (pe_callB call_isi (by rfl) T.f_isinstance (by decide +kernel) (pa_cons (pv 1) (pa_cons (pe_glob (v := V.ref (He.ga K "Way")) rfl T.g_Way rfl) pa_nil))))) (pss_one (ps_ret pe_bl)) pss_nil)
    (pss_cons (ps_set (i := 2) sc_Way__eq__.nd rfl (Or.inl rfl) (pe_tup (pa_cons (pe_fld (pv 0) rfl) (pa_cons (pe_fld (pv 0) rfl) (pa_cons (pe_fld (pv 0) rfl) (pa_cons (pe_fld (pv 0) rfl) pa_nil))))))
    (pss_one (ps_ret (pe_cmpR (op_eqD hr.units) (pv 2) (pe_tup (pa_cons (pe_fld (pv 1) rfl) (pa_cons (pe_fld (pv 1) rfl) (pa_cons (pe_fld (pv 1) rfl) (pa_cons (pe_fld (pv 1) rfl) pa_nil))))) (nomark _)))))), ?_⟩
    dsimp only [cxOf]
    have c1 := T.c_Way
    have n1 := T.n_Way_begin
    have n2 := T.n_Way_least
    have n3 := T.n_Way_most
    have n4 := T.n_Way_boxes
    repeat' walk_at "evs"
    refine ⟨.tup fun y hy => ?_, k⟩
    simp only [List.mem_cons, List.not_mem_nil, or_false] at hy
    rcases hy with rfl | rfl | rfl | rfl
    · exact pl_beg _
    · exact .int _
    · exact .int _
    · exact Pl.mono (pl_boxes _) (by decide)
/-- a way begun at b: it may be refused -/
abbrev F_Way_begun_at : Fn1 := fun _ ds R ex => ∃ (x : Wy) (b : Option Int), ds = [wayD x, begD b] ∧ ((goodW { x with b := b } = true ∧ R (wayD { x with b := b })) ∨ (goodB b = false ∧ ex "BadPart" "part" (.str "begin")))
theorem ok_Way_begun_at (T : Txt K mg w) : FnOk PG w K mg base (L2.CX PG w) 34 (He.ma K (He.ga K "Way") "begun_at") (fdOf K ("Way", some "begun_at")) ["self", "begin"] (spD K F_Way_begun_at) :=
  WL.fnD (k := 33) T.d_Way_begun_at sc_Way_begun_at (fun _ _ _ _ ⟨_, _, e, _⟩ => by rw [e] <;> rfl) fun cdv A outer s H E G ds R ex hr ⟨x, b, e, k⟩ => by
    subst e
    refine ⟨_, (pss_one (ps_ret (pe_make T.mk_Way (ok_Way__init__ T) (hr.mono (by decide)) rfl T.g_Way (bi_Way__init__ T) .nil (passR rfl rfl rfl rfl) (pa_cons (pv 1) (pa_cons (pe_fld (pv 0) rfl) (pa_cons (pe_fld (pv 0) rfl) (pa_cons (pe_fld (pv 0) rfl) pa_nil))))))), ?_⟩
    dsimp only [cxOf]
    have c1 := T.c_Way
    have n1 := T.n_Way_begin
    have n2 := T.n_Way_least
    have n3 := T.n_Way_most
    have n4 := T.n_Way_boxes
    rcases k with ⟨gw, k⟩ | ⟨gb, k⟩
    · repeat' walk_at "evs"
      exact ⟨{ x with b := b }, _, rfl, .inr rfl, .inl ⟨gw, k⟩⟩
    · repeat' walk_at "evs"
      exact ⟨{ x with b := b }, _, rfl, .inr rfl, .inr ⟨gb, k⟩⟩
abbrev nms : List Str := ["x", "y", "z"]
abbrev F_is_name : Fn1 := fun _ ds R _ => ∃ z, ds = [.str z] ∧ z ∈ nms ∧ R (.bl true)
theorem ok_is_name (T : Txt K mg w) : FnOk PG w K mg base (L2.CX PG w) 3 (He.ga K "is_name") (fdOf K ("is_name", none)) ["value"] (spD K F_is_name) :=
  WL.fnD (k := 2) T.d_is_name sc_is_name (fun _ _ _ _ ⟨_, e, _⟩ => by rw [e] <;> rfl) fun cdv A outer s H E G ds R ex hr ⟨z, e, hz, k⟩ => by
    subst e
    refine ⟨_, (pss_cons (ps_if (PW.pt (pw_or (pt_not (pt_val (pe_callB call_isi (by rfl) T.f_isinstance (by decide +kernel) (pa_cons (pv 0) (pa_cons (pe_bltn (v := .ty "str") (u := .type "str") rfl T.f_str (by kernel_rfl) rfl) pa_nil))))) (pw_or1 (pt_not (pt_chain op_le op_le pe_int (pe_callB call_len (by rfl) T.f_len (by decide +kernel) (pa_cons (pv 0) pa_nil)) (pe_gI rfl T.i_MOST_LETTERS_common)))))) (pss_one (ps_ret pe_bl)) pss_nil)
    (pss_one (ps_ret (pe_callB (cr_all rfl) (by rfl) T.f_all (by decide +kernel) (pa_cons (pe_lc (own := [("sign", 1)]) rfl sc_is_name.nd (pi_str (pv 0)) (blkOk_by (own := [("sign", 1)]) (N := ["value", "sign"]) (sc := defScope s_is_name) (by decide +kernel)) (fun _ _ _ _ _ => (pg_name (i := 1) sc_is_name.nd rfl (Or.inl rfl))) (fun _ _ _ _ _ => pts_nil) (fun _ _ _ _ _ => (pe_cmpR op_in_sign (pv 1) (pe_gS rfl T.s_LETTERS) rfl))) pa_nil))))), ?_⟩
    dsimp only [cxOf]
    have hl : (D.str z).len = some 1 := by simp only [nms, List.mem_cons, List.not_mem_nil, or_false] at hz; rcases hz with rfl | rfl | rfl <;> rfl
    have hs : ∃ c, z = ⟨#[c]⟩ ∧ (decide (c ∈ ("abcdefghijklmnopqrstuvwxyz" : Str).cps.toList)) = true := by
      simp only [nms, List.mem_cons, List.not_mem_nil, or_false] at hz
      rcases hz with rfl | rfl | rfl
      · exact ⟨120, by decide +kernel, by decide +kernel⟩
      · exact ⟨121, by decide +kernel, by decide +kernel⟩
      · exact ⟨122, by decide +kernel, by decide +kernel⟩
    obtain ⟨c, rfl, hc⟩ := hs
    repeat' walk_at "evs"
    refine ⟨fun _ => .bl true, fun y hy => ?_, ?_⟩
    · have e : y = .str ⟨#[c]⟩ := by simpa [signsD] using hy
      subst e
      repeat' walk_at "evs"
      rw [hc]
    · exact ⟨[true], rfl, k⟩
structure Lt where
  ns : List Str
  n : Int
abbrev letD (x : Lt) : D := .tup [.tup (x.ns.map D.str), .int x.n]
def goodL (x : Lt) : Prop := x.ns.length ≤ 4 ∧ (∀ z ∈ x.ns, z ∈ nms) ∧ 0 ≤ x.n ∧ x.n ≤ 60
abbrev F_is_letter : Fn1 := fun _ ds R _ => ∃ x, ds = [letD x] ∧ goodL x ∧ R (.bl true)
theorem ok_is_letter (T : Txt K mg w) : FnOk PG w K mg base (L2.CX PG w) 7 (He.ga K "is_letter") (fdOf K ("is_letter", none)) ["value"] (spD K F_is_letter) :=
  WL.fnD (k := 6) T.d_is_letter sc_is_letter (fun _ _ _ _ ⟨_, e, _⟩ => by rw [e] <;> rfl) fun cdv A outer s H E G ds R ex hr ⟨x, e, gx, k⟩ => by
    subst e
    refine ⟨_, (pss_cons (ps_if (PW.pt (pw_or (pt_not (pt_val (pe_callB call_isi (by rfl) T.f_isinstance (by decide +kernel) (pa_cons (pv 0) (pa_cons (pe_bltn (v := .ty "tuple") (u := .type "tuple") rfl T.f_tuple (by kernel_rfl) rfl) pa_nil))))) (pw_or (pt_cmpR op_ne (pe_callB call_len (by rfl) T.f_len (by decide +kernel) (pa_cons (pv 0) pa_nil)) pe_int (nomark _)) (pw_or1 (pt_not (pt_val (pe_callB call_isi (by rfl) T.f_isinstance (by decide +kernel) (pa_cons (pe_ix ix_tup (pv 0) pe_int (fun _ _ => rfl)) (pa_cons (pe_bltn (v := .ty "tuple") (u := .type "tuple") rfl T.f_tuple (by kernel_rfl) rfl) pa_nil))))))))) (pss_one (ps_ret pe_bl)) pss_nil)
    (pss_cons (ps_if (PW.pt (pw_or (pt_cmpR op_gt (pe_callB call_len (by rfl) T.f_len (by decide +kernel) (pa_cons (pe_ix ix_tup (pv 0) pe_int (fun _ _ => rfl)) pa_nil)) (pe_gI rfl T.i_MOST_HEADS) (nomark _)) (pw_or1 (pt_not (pt_val (pe_callB (cr_all rfl) (by rfl) T.f_all (by decide +kernel) (pa_cons (pe_lc (own := [("head", 1)]) rfl sc_is_letter.nd (pi_tup (pe_ix ix_tup (pv 0) pe_int (fun _ _ => rfl))) (blkOk_by (own := [("head", 1)]) (N := ["value", "head"]) (sc := defScope s_is_letter) (by decide +kernel)) (fun _ _ _ _ _ => (pg_name (i := 1) sc_is_letter.nd rfl (Or.inl rfl))) (fun _ _ _ _ _ => pts_nil) (fun _ _ _ _ _ => (pe_call (ok_is_name T) (hr.mono (by decide)) rfl T.g_is_name T.d_is_name.kp (bi_is_name T) .nil passN (pa_cons (pv 1) pa_nil)))) pa_nil))))))) (pss_one (ps_ret pe_bl)) pss_nil)
    (pss_one (ps_ret (pe_call (ok_is_between T) (hr.mono (by decide)) rfl T.g_is_between T.d_is_between.kp (bi_is_between T) .nil passN (pa_cons (pe_ix ix_tup (pv 0) pe_int (fun _ _ => rfl)) (pa_cons pe_int (pa_cons (pe_gI rfl T.i_MOST_BODY) pa_nil)))))))), ?_⟩
    dsimp only [cxOf]
    obtain ⟨g1, g2, g3, g4⟩ := gx
    have g5 : decide ((4 : Int) < ((x.ns.map D.str).length : Int)) = false := decide_eq_false (by rw [List.length_map]; omega)
    have g6 : btw (.int x.n) 0 60 = true := by simp [btw, g3, g4]
    repeat' walk_at "evs"
    refine ⟨by rw [List.length_map]; omega, fun _ => .bl true, fun y hy => ?_, ?_⟩
    · obtain ⟨z, hz, rfl⟩ := List.mem_map.mp hy
      have := g2 z hz
      repeat' walk_at "evs"
    · refine ⟨x.ns.map fun _ => true, by rw [List.map_map, List.map_map] <;> rfl, ?_⟩
      have e : (x.ns.map fun _ => true).all id = true := by simp
      rw [e]
      repeat' walk_at "evs"
      rw [g6]
      exact k
abbrev rowD (l : List Lt) : D := .lst (l.map letD)
def goodR (l : List Lt) : Prop := 1 ≤ l.length ∧ l.length ≤ 6 ∧ ∀ x ∈ l, goodL x
abbrev F_checked_row : Fn1 := fun _ ds R _ => ∃ i l, ds = [.int i, rowD l] ∧ goodR l ∧ R (rowD l)
theorem ok_checked_row (T : Txt K mg w) : FnOk PG w K mg base (L2.CX PG w) 22 (He.ga K "checked_row") (fdOf K ("checked_row", none)) ["index", "row"] (spD K F_checked_row) :=
  WL.fnD (k := 21) T.d_checked_row sc_checked_row (fun _ _ _ _ ⟨_, _, e, _⟩ => by rw [e] <;> rfl) fun cdv A outer s H E G ds R ex hr ⟨i, l, e, gl, k⟩ => by
    subst e
    refine ⟨_, (pss_cons (ps_if (PW.pt (pw_or (pt_not (pt_val (pe_call (ok_is_list T) (hr.mono (by decide)) rfl T.g_is_list T.d_is_list.kp (bi_is_list T) .nil passN (pa_cons (pv 1) pa_nil)))) (pw_or1 (pt_cmpR op_eq (pe_callB call_len (by rfl) T.f_len (by decide +kernel) (pa_cons (pv 1) pa_nil)) pe_int (nomark _))))) (pss_one ps_never) pss_nil)
    (pss_cons (ps_for (passes_of rfl) rfl (WX.pi_enumA rfl T.f_enumerate (pa_cons (pv 1) pa_nil)) (pg_tup (n := 2) rfl (pgs_cons (pg_name (i := 2) sc_checked_row.nd rfl (Or.inl rfl)) (pgs_cons (pg_name (i := 3) sc_checked_row.nd rfl (Or.inl rfl)) pgs_nil))) (pss_one (ps_if (pt_not (pt_val (pe_call (ok_is_letter T) (hr.mono (by decide)) rfl T.g_is_letter T.d_is_letter.kp (bi_is_letter T) .nil passN (pa_cons (pv 3) pa_nil)))) (pss_one ps_never) pss_nil)))
    (pss_cons (ps_if (pt_cmpR op_gt (pe_callB call_len (by rfl) T.f_len (by decide +kernel) (pa_cons (pv 1) pa_nil)) (pe_gI rfl T.i_MOST_LETTERS_letters) (nomark _)) (pss_one ps_never) pss_nil)
    (pss_one (ps_ret (pe_callTy call_list_of (by rfl) T.f_list (by decide +kernel) (pa_cons (pv 1) pa_nil))))))), ?_⟩
    dsimp only [cxOf]
    obtain ⟨g1, g2, g3⟩ := gl
    have h0 : decide (((l.map letD).length : Int) = 0) = false := decide_eq_false (by rw [List.length_map]; omega)
    have h1 : decide ((6 : Int) < ((l.map letD).length : Int)) = false := decide_eq_false (by rw [List.length_map]; omega)
    repeat' walk_at "evs"
    refine st_for (js := List.range 64) ?_
    repeat' walk_at "evs"
    refine ⟨_, .inl rfl, ?_⟩
    refine ⟨fun _ δ' => ∃ s2 s3, δ' = [Sl.d (.int i), .d (rowD l), s2, s3], ⟨_, _, rfl⟩, ?_, ?_⟩
    · intro j y δ' hy ⟨s2, s3, e⟩
      subst e
      obtain ⟨a, h1, rfl⟩ := enumD_get hy
      rw [List.getElem?_map] at h1
      obtain ⟨b, hb, rfl⟩ := Option.map_eq_some_iff.mp h1
      have gx := g3 b (List.mem_of_getElem? hb)
      repeat' walk_at "evs"
      exact ⟨_, _, rfl⟩
    · rintro δ' ⟨s2, s3, rfl⟩
      repeat' walk_at "evs"
      exact ⟨_, .inl rfl, k⟩
def sndD : D → D
  | .tup [_, a] => a
  | d => d
theorem enum_snd (l : List D) : (enumD l).map sndD = l := by
  apply List.ext_getElem?
  intro i
  rw [List.getElem?_map]
  cases h : (enumD l)[i]? with
  | none =>
    have := List.getElem?_eq_none_iff.mp h
    rw [enumD_len] at this
    rw [List.getElem?_eq_none this] <;> rfl
  | some y =>
    obtain ⟨a, h1, rfl⟩ := enumD_get h
    rw [h1] <;> rfl
abbrev rowsD (r : List (List Lt)) : D := .lst (r.map rowD)
def goodM (r : List (List Lt)) : Prop := 1 ≤ r.length ∧ r.length ≤ 3 ∧ ∀ l ∈ r, goodR l
abbrev F_checked_rows : Fn1 := fun _ ds R _ => ∃ r, ds = [rowsD r] ∧ goodM r ∧ R (rowsD r)
theorem ok_checked_rows (T : Txt K mg w) : FnOk PG w K mg base (L2.CX PG w) 24 (He.ga K "checked_rows") (fdOf K ("checked_rows", none)) ["rows"] (spD K F_checked_rows) :=
  WL.fnD (k := 23) T.d_checked_rows sc_checked_rows (fun _ _ _ _ ⟨_, e, _⟩ => by rw [e] <;> rfl) fun cdv A outer s H E G ds R ex hr ⟨r, e, gr, k⟩ => by
    subst e
    refine ⟨_, (pss_cons (ps_if (PW.pt (pw_or (pt_not (pt_val (pe_call (ok_is_list T) (hr.mono (by decide)) rfl T.g_is_list T.d_is_list.kp (bi_is_list T) .nil passN (pa_cons (pv 0) pa_nil)))) (pw_or1 (pt_cmpR op_eq (pe_callB call_len (by rfl) T.f_len (by decide +kernel) (pa_cons (pv 0) pa_nil)) pe_int (nomark _))))) (pss_one (WL.ps_raiseD rfl (takes_of rfl rfl rfl rfl) T.x_BadPart (WX.xinit_fn (k := 0) T.x_BadPart) (hr.mono (by decide)) T.xb_BadPart passN rfl pe_str)) pss_nil)
    (pss_cons (ps_setLc (X := (cxOf (L2.CX PG w) PG w K mg base ["rows", "found", "index", "row"] "checked_rows" (defScope s_checked_rows) (He.ga K "checked_rows") cdv A outer s H E)) (i := 1) (own := [("index", 2), ("row", 3)]) (g := gTup K 2 (gCons (gName 2) (gCons (gName 3) gNil))) rfl sc_checked_rows.nd rfl rfl (sw_true rfl rfl rfl (by decide +kernel)) (WX.pi_enumA rfl T.f_enumerate (pa_cons (pv 0) pa_nil)) (blkOk_by (own := [("index", 2), ("row", 3)]) (N := ["rows", "found", "index", "row"]) (sc := defScope s_checked_rows) (by decide +kernel)) (fun _ _ _ _ _ => (pg_tup rfl (pgs_cons (pg_name (i := 2) sc_checked_rows.nd rfl (Or.inl rfl)) (pgs_cons (pg_name (i := 3) sc_checked_rows.nd rfl (Or.inl rfl)) pgs_nil)))) (fun _ _ _ _ _ => pts_nil) (fun _ _ _ _ _ => (pe_call (ok_checked_row T) (hr.mono (by decide)) rfl T.g_checked_row T.d_checked_row.kp (bi_checked_row T) .nil passN (pa_cons (pv 2) (pa_cons (pv 3) pa_nil)))))
    (pss_cons (ps_if (pt_cmpR op_gt (pe_callB call_len (by rfl) T.f_len (by decide +kernel) (pa_cons (pv 1) pa_nil)) (pe_gI rfl T.i_MOST_ROWS) (nomark _)) (pss_one ps_never) pss_nil)
    (pss_one (ps_ret (pv 1)))))), ?_⟩
    dsimp only [cxOf]
    obtain ⟨g1, g2, g3⟩ := gr
    have h0 : decide (((r.map rowD).length : Int) = 0) = false := decide_eq_false (by rw [List.length_map]; omega)
    have h1 : decide ((3 : Int) < ((r.map rowD).length : Int)) = false := decide_eq_false (by rw [List.length_map]; omega)
    repeat' walk_at "evs"
    refine ⟨_, .inl rfl, by rw [enumD_len, List.length_map]; omega, sndD, ?_, ?_⟩
    · intro y hy
      obtain ⟨j, hj, e⟩ := List.getElem_of_mem hy
      have e' := List.getElem?_eq_getElem hj
      rw [e] at e'
      obtain ⟨a, h2, rfl⟩ := enumD_get e'
      rw [List.getElem?_map] at h2
      obtain ⟨l, hl, rfl⟩ := Option.map_eq_some_iff.mp h2
      have gx := g3 l (List.mem_of_getElem? hl)
      repeat' walk_at "evs"
    · rw [enum_snd]
      repeat' walk_at "evs"
      exact k
abbrev mailF (r : List (List Lt)) : List (Str × D) := [("kept_rows", rowsD r)]
abbrev mailD (r : List (List Lt)) : D := .ins "Mail" (mailF r)
abbrev F_Mail_init : FnI := fun _ ds R _ => ∃ r, ds = [rowsD r] ∧ goodM r ∧ R (mailF r)
theorem ok_Mail__init__ (T : Txt K mg w) : FnOk PG w K mg base (L2.CX PG w) 26 (He.ma K (He.ga K "Mail") "__init__") (fdOf K ("Mail", some "__init__")) ["self", "rows"] (spI K "Mail" F_Mail_init) :=
  WL.fnI (k := 25) T.d_Mail__init__ sc_Mail__init__ (by decide) (fun _ _ _ _ ⟨_, e, _⟩ => by rw [e] <;> rfl) fun cdv A outer s H E G ds R ex hr ⟨r, e, gr, k⟩ => by
    subst e
    refine ⟨_, (pss_one (ps_fld (pv 0) (pe_call (ok_checked_rows T) (hr.mono (by decide)) rfl T.g_checked_rows T.d_checked_rows.kp (bi_checked_rows T) .nil (passR rfl rfl rfl rfl) (pa_cons (pv 1) pa_nil)) rfl)), fun xa => ?_⟩
    dsimp only [cxOf]
    have c1 := T.c_Mail
    have n1 := T.n_Mail_kept_rows
    repeat' walk_at "evs"
    exact k
theorem pl_let {x : Lt} (g : goodL x) : Pl 2 (letD x) := .tup fun y hy => by
  simp only [List.mem_cons, List.not_mem_nil, or_false] at hy
  rcases hy with rfl | rfl
  · refine .tup fun z hz => ?_
    obtain ⟨q, hq, rfl⟩ := List.mem_map.mp hz
    refine .str ?_
    have := g.2.1 q hq
    simp only [nms, List.mem_cons, List.not_mem_nil, or_false] at this
    rcases this with rfl | rfl | rfl <;> decide +kernel
  · exact .int _
theorem pl_rows {r : List (List Lt)} (g : goodM r) : Pl 4 (rowsD r) := .lst fun y hy => by
  obtain ⟨l, hl, rfl⟩ := List.mem_map.mp hy
  refine .lst fun z hz => ?_
  obtain ⟨x, hx, rfl⟩ := List.mem_map.mp hz
  exact pl_let ((g.2.2 l hl).2.2 x hx)
abbrev F_Mail_eq : Fn1 := fun _ ds R _ => ∃ r, ds = [mailD r, mailD r] ∧ goodM r ∧ R (.bl true)
theorem ok_Mail__eq__ (T : Txt K mg w) : FnOk PG w K mg base (L2.CX PG w) 29 (He.ma K (He.ga K "Mail") "__eq__") (fdOf K ("Mail", some "__eq__")) ["self", "other"] (spD K F_Mail_eq) :=
  WL.fnD (k := 28) T.d_Mail__eq__ sc_Mail__eq__ (fun _ _ _ _ ⟨_, e, _⟩ => by rw [e] <;> rfl) fun cdv A outer s H E G ds R ex hr ⟨r, e, gr, k⟩ => by
    subst e
    refine ⟨_, (pss_one (ps_ret (pe_and (pe_callB call_isi (by rfl) T.f_isinstance (by decide +kernel) (pa_cons (pv 1) (pa_cons (pe_glob (v := V.ref (He.ga K "Mail")) rfl T.g_Mail rfl) pa_nil))) (pe_one (pe_cmpR (op_eqD hr.units) (pe_fld (pv 0) rfl) (pe_fld (pv 1) rfl) (nomark _)))))), ?_⟩
    dsimp only [cxOf]
    have c1 := T.c_Mail
    have n1 := T.n_Mail_kept_rows
    have pl : Pl 64 (rowsD r) := Pl.mono (pl_rows gr) (by decide)
    repeat' walk_at "evs"
    exact k
end
end WK
end
section
set_option Elab.async false
set_option linter.all false
set_option maxRecDepth 100000
set_option maxHeartbeats 400000
/-! The library's defs over data: steps, rooms. -/
local macro_rules | `(tactic| walk_at "ev") => `(tactic| first
  | (with_reducible refine WL.st_seq ?_) | (with_reducible refine WL.st_ret ?_) | (with_reducible refine WL.st_retN ?_) | (with_reducible refine WL.st_next ?_) | (with_reducible refine WL.st_if ?_)
  | (with_reducible refine WL.et_and ?_) | (with_reducible refine WL.et_or ?_) | (with_reducible refine WL.et_not ?_) | (with_reducible refine WL.et_test ?_) | (with_reducible refine WL.et_B ?_)
  | (with_reducible refine WL.ev_andV ?_) | (with_reducible refine WL.ev_orV ?_) | (with_reducible refine WL.ev_notV ?_) | (with_reducible refine WL.ev_if ?_)
  | (with_reducible refine WL.ev_v ?_) | (with_reducible refine WL.ev_int ?_) | (with_reducible refine WL.ev_str ?_) | (with_reducible refine WL.ev_non ?_) | (with_reducible refine WL.ev_bl ?_)
  | (with_reducible refine WL.ea_nil ?_) | (with_reducible refine WL.ea_cons ?_) | (with_reducible refine WL.ev_tup ?_)
  | (with_reducible refine WL.ev_make ?_) | (with_reducible refine WL.ev_makeN ?_) | (with_reducible refine WL.ev_call ?_) | (with_reducible refine WL.ev_callN ?_) | (with_reducible refine WL.ev_meth ?_) | (with_reducible refine WL.ev_methN ?_)
  | (with_reducible refine WL.ev_isi (.ty _) ?_) | (with_reducible refine WL.ev_isi (.own _) ?_) | (with_reducible refine WL.ev_isiT (.ty _) (.ty _) ?_)
  | (with_reducible refine WL.ev_len ?_) | (with_reducible refine WL.ev_all ?_) | (with_reducible refine WL.ev_any ?_) | (with_reducible refine WL.ev_tuple ?_) | (with_reducible refine WL.ev_listD ?_) | (with_reducible refine WL.ev_map ?_) | (with_reducible refine WL.ei_tup ?_) | (with_reducible refine WL.ei_list ?_) | (with_reducible refine WL.ei_str ?_) | (with_reducible refine WL.ei_zip ?_) | (with_reducible refine WL.ei_seqV ?_) | (with_reducible refine WL.ei_enumA ?_) | (with_reducible refine WL.ev_eqS ?_) | (with_reducible refine WL.ev_inS ?_)
  | (with_reducible refine WL.ev_chain ?_) | (with_reducible refine WL.ev_chain3 ?_) | (with_reducible refine WL.ev_opB ?_) | (with_reducible refine WL.ev_opI ?_) | (with_reducible refine WL.ev_eq ?_) | (with_reducible refine WL.ev_ne ?_) | (with_reducible refine WL.ev_isN ?_) | (with_reducible refine WL.ev_notN ?_)
  | (with_reducible refine WL.ev_ixL ?_) | (with_reducible refine WL.ev_ixT ?_) | (with_reducible refine WL.ev_ixD ?_) | (with_reducible refine WL.ev_kstr (by assumption) ?_) | (with_reducible refine WL.ev_eqG ?_) | (with_reducible refine WL.ev_in ?_) | (with_reducible refine WL.st_raise ?_) | (with_reducible refine WL.st_fl ?_) | (with_reducible refine WL.ev_fld ?_)
  | (with_reducible refine WK.ty_int (by assumption) ?_ ?_) | (with_reducible refine WK.ty_bool (by assumption) ?_ ?_) | (with_reducible refine WK.ty_str (by assumption) ?_ ?_) | (with_reducible refine WK.ty_tup (by assumption) ?_ ?_) | (with_reducible refine WK.ty_seq (by assumption) ?_ ?_) | (with_reducible refine WK.ty_own (by assumption) ?_ ?_ ?_ ?_; focus (simp [WK.CLS]; done))
  | (show WK.Kn _; first | assumption | trivial | (simp [WK.Kn, WK.CLS]; done)) | (show ∀ l, _ ≠ WL.D.dic l; intro _ h; cases h)
  | (with_reducible refine WL.st_asg ?_) | (with_reducible refine WL.st_asgT (js := List.range 64) ?_) | (with_reducible refine WL.tg_tu ?_) | (with_reducible refine WL.tg_cons ?_) | (with_reducible refine WL.tg_nil ?_) | (with_reducible refine WL.tg_name (by first | decide | simp) ?_)
  | refine WL.ift rfl ?_ | refine WL.iff' rfl ?_
  | refine And.intro (by first | assumption | trivial : WK.Kn _) ?_
  | refine ⟨_, _, _, rfl, (by assumption : L2.Cls _ _), (by assumption : L2.NoAttr _ _ _), (by first | rfl | exact Nat.le_of_ble_eq_true rfl), ?_⟩
  | refine ⟨_, rfl, ?_⟩ | refine ⟨_, _, rfl, rfl, ?_⟩ | refine ⟨_, _, rfl, (by assumption : _ ∨ _), ?_⟩ | refine ⟨_, _, rfl, ?_⟩ | refine ⟨_, _, _, rfl, ?_⟩ | refine ⟨_, _, _, _, rfl, ?_⟩ | refine ⟨_, _, _, rfl, rfl, (by first | assumption | rfl : WL.atD _ _ = some _), ?_⟩ | refine ⟨_, _, _, rfl, rfl, rfl, ?_⟩ | refine And.intro rfl ?_ | refine And.intro (by assumption) ?_ | refine And.intro (Nat.le_of_ble_eq_true rfl) ?_ | exact rfl)
local macro_rules | `(tactic| walk_at "evs") => `(tactic| first | walk_at "ev" | (with_reducible refine WL.ift ?_ ?_; focus (first | assumption | (simp [*]; done) | (simp; omega))) | (with_reducible refine WL.iff' ?_ ?_; focus (first | assumption | (simp [*]; done) | (simp; omega))))
local macro_rules | `(tactic| walk_at "evb") => `(tactic| first | walk_at "ev" | (with_reducible refine WL.ifb (fun _ => ?_) (fun _ => ?_)))
local macro_rules | `(tactic| walk_at "evt") => `(tactic| first | walk_at "evs" | refine ⟨_, Or.inl rfl, ?_⟩ | refine ⟨_, Or.inr rfl, ?_⟩ | fail)
local macro_rules | `(tactic| walk_at "evu") => `(tactic| first | (with_reducible refine WL.ev_ofl ?_; refine ⟨_, _, _, _, rfl, (by assumption : L2.Cls _ _), (by assumption : L2.NoAttr _ _ _), rfl, ?_⟩) | walk_at "evt" | (with_reducible refine WL.ev_opC ?_) | (with_reducible refine WL.ev_dget ?_) | (with_reducible refine WL.ev_ofl ?_) | (with_reducible refine WL.ev_makeK ?_) | fail)
namespace WK
open PySem PySem.Spec PyProof.Rows L2 WL
section
variable {K : PySem.W.Frag} {mg : Str → Option Value} {w : World} {base : Heap}
abbrev F_is_bound : Fn1 := fun _ ds R _ => ∃ x, ds = [x] ∧ Kn x ∧ R (.bl (btw x 1 60))
theorem ok_is_bound (T : Txt K mg w) : FnOk PG w K mg base (L2.CX PG w) 7 (He.ga K "is_bound") (fdOf K ("is_bound", none)) ["value"] (spD K F_is_bound) :=
  WL.fnD (k := 6) T.d_is_bound sc_is_bound (fun _ _ _ _ ⟨_, e, _⟩ => by rw [e] <;> rfl) fun cdv A outer s H E G ds R ex hr ⟨x, e, kx, k⟩ => by
    subst e
    refine ⟨_, (pss_one (ps_ret (pe_call (ok_is_between T) (hr.mono (by decide)) rfl T.g_is_between T.d_is_between.kp (bi_is_between T) .nil passN (pa_cons (pv 0) (pa_cons pe_int (pa_cons (pe_gI rfl T.i_MOST_SIZE) pa_nil)))))), ?_⟩
    dsimp only [cxOf]
    repeat' walk_at "evs"
    exact k
/-- bounds: from 1 to 60, ascending -/
def prevOk (bs : List Int) (b : Int) : Nat → Bool
  | 0 => true
  | j + 1 => match bs[j]? with
    | some a => decide (a < b)
    | none => true
def bndAt (bs : List Int) (i : Nat) : Bool := match bs[i]? with
  | some b => btw (.int b) 1 60 && prevOk bs b i
  | none => true
theorem bndAt_some {bs : List Int} {i : Nat} {b : Int} (hb : bs[i]? = some b) : bndAt bs i = (btw (.int b) 1 60 && prevOk bs b i) := by
  unfold bndAt
  rw [hb]
theorem bnd_next {bs : List Int} {i : Nat} (h : bndAt bs i = true) (pre : ∀ j, j < i → bndAt bs j = true) : ∀ j, j < i + 1 → bndAt bs j = true := fun j hj => by
  by_cases e : j = i
  · rw [e]; exact h
  · exact pre j (by omega)
theorem ixN_natL {n j : Nat} (hj : j < n) : ixN n (j : Int) = some j := by
  unfold ixN
  rw [if_pos (by omega), if_pos (by omega)]
  simp
theorem atD_int {bs : List Int} {j : Nat} {a : Int} (h : bs[j]? = some a) : atD (bs.map D.int) (((j + 1 : Nat) : Int) - 1) = some (.int a) := by
  have e : (((j + 1 : Nat) : Int) - 1) = (j : Int) := by omega
  rw [e]
  have hj : j < bs.length := (List.getElem?_eq_some_iff.mp h).1
  unfold atD
  have e2 : ixN (bs.map D.int).length ((j : Nat) : Int) = some j := ixN_natL (by rw [List.length_map]; exact hj)
  rw [e2]
  show (bs.map D.int)[j]? = _
  rw [List.getElem?_map, h] <;> rfl
def okS (bs : List Int) : Prop := ∀ i, bndAt bs i = true
abbrev stepF (bs : List Int) : List (Str × D) := [("bounds", .tup (bs.map D.int))]
abbrev stepD (bs : List Int) : D := .ins "Steps" (stepF bs)
abbrev F_Steps_init : FnI := fun _ ds R ex => ∃ bs : List Int, ds = [.lst (bs.map D.int)] ∧ (1 ≤ bs.length ∧ bs.length ≤ 4) ∧ (okS bs → R (stepF bs)) ∧ (¬ okS bs → ∀ i, ex "BadSteps" "index" (.int i))
theorem ok_Steps__init__ (T : Txt K mg w) : FnOk PG w K mg base (L2.CX PG w) 17 (He.ma K (He.ga K "Steps") "__init__") (fdOf K ("Steps", some "__init__")) ["self", "bounds"] (spI K "Steps" F_Steps_init) :=
  WL.fnI (k := 16) T.d_Steps__init__ sc_Steps__init__ (by decide) (fun _ _ _ _ ⟨_, e, _⟩ => by rw [e] <;> rfl) fun cdv A outer s H E G ds R ex hr ⟨bs, e, ⟨g1, g2⟩, k1, k2⟩ => by
    subst e
    refine ⟨_, (pss_cons (ps_if (PW.pt (pw_or (pt_not (pt_val (pe_call (ok_is_list T) (hr.mono (by decide)) rfl T.g_is_list T.d_is_list.kp (bi_is_list T) .nil passN (pa_cons (pv 1) pa_nil)))) (pw_or1 (pt_not (pt_chain op_le op_le pe_int (pe_callB call_len (by rfl) T.f_len (by decide +kernel) (pa_cons (pv 1) pa_nil)) (pe_gI rfl T.i_MOST_BOUNDS)))))) (pss_one (WL.ps_raiseD rfl (takes_of rfl rfl rfl rfl) T.x_BadSteps (WX.xinit_fn (k := 0) T.x_BadSteps) (hr.mono (by decide)) T.xb_BadSteps passN rfl pe_non)) pss_nil)
    (pss_cons (ps_for (passes_of rfl) rfl (WX.pi_enumA rfl T.f_enumerate (pa_cons (pv 1) pa_nil)) (pg_tup (n := 2) rfl (pgs_cons (pg_name (i := 2) sc_Steps__init__.nd rfl (Or.inl rfl)) (pgs_cons (pg_name (i := 3) sc_Steps__init__.nd rfl (Or.inl rfl)) pgs_nil))) (pss_one (ps_if (PW.pt (pw_or (pt_not (pt_val (pe_call (ok_is_bound T) (hr.mono (by decide)) rfl T.g_is_bound T.d_is_bound.kp (bi_is_bound T) .nil passN (pa_cons (pv 3) pa_nil)))) (pw_or1 (PW.pt (pw_and (pt_cmpR op_gt (pv 2) pe_int (nomark _)) (pw_and1 (pt_cmpR op_le (pv 3) (pe_ix ix_list (pv 1) (pe_op op_sub (pv 2) pe_int) (fun _ _ => rfl)) (nomark _)))))))) (pss_one (WL.ps_raiseD rfl (takes_of rfl rfl rfl rfl) T.x_BadSteps (WX.xinit_fn (k := 0) T.x_BadSteps) (hr.mono (by decide)) T.xb_BadSteps passN rfl (pv 2))) pss_nil)))
    (pss_one (ps_fld (pv 0) (pe_callTy call_tuple_of (by rfl) T.f_tuple (by decide +kernel) (pa_cons (pv 1) pa_nil)) rfl)))), fun xa => ?_⟩
    dsimp only [cxOf]
    have e0 : (Sl.oins xa "Steps" [] :: (List.map Sl.d [D.lst (bs.map D.int)] ++ List.replicate ((["self", "bounds", "index", "bound"] : List Str).length - ([D.lst (bs.map D.int)].length + 1)) Sl.un)) = [Sl.oins xa "Steps" [], .d (.lst (bs.map D.int)), .un, .un] := rfl
    rw [e0]
    have c1 := T.c_Steps
    have n1 := T.n_Steps_bounds
    have h0 : decide ((1 : Int) ≤ ((bs.map D.int).length : Int)) = true := decide_eq_true (by rw [List.length_map]; omega)
    have h1 : decide (((bs.map D.int).length : Int) ≤ 4) = true := decide_eq_true (by rw [List.length_map]; omega)
    repeat' walk_at "evs"
    refine st_for (js := List.range 64) ?_
    repeat' walk_at "evs"
    refine ⟨_, .inl rfl, ?_⟩
    refine ⟨fun n δ' => (∃ s2 s3, δ' = [Sl.oins xa "Steps" [], .d (.lst (bs.map D.int)), s2, s3]) ∧ ∀ j, j < n → bndAt bs j = true, ⟨⟨_, _, rfl⟩, fun j hj => absurd hj (Nat.not_lt_zero _)⟩, ?_, ?_⟩
    · rintro i y δ' hy ⟨⟨s2, s3, rfl⟩, pre⟩
      obtain ⟨a, h2, rfl⟩ := enumD_get hy
      rw [List.getElem?_map] at h2
      obtain ⟨b, hb, rfl⟩ := Option.map_eq_some_iff.mp h2
      cases i with
      | zero =>
        cases h5 : btw (.int b) 1 60 with
        | false =>
          repeat' walk_at "evs"
          exact k2 (fun ok => by have := ok 0; rw [bndAt_some hb, h5] at this; cases this) _
        | true =>
          repeat' walk_at "evs"
          exact ⟨⟨_, _, rfl⟩, bnd_next (by rw [bndAt_some hb, h5] <;> rfl) pre⟩
      | succ j =>
        have hj : j < bs.length := by
          have := (List.getElem?_eq_some_iff.mp hb).1
          omega
        have ha : bs[j]? = some bs[j] := List.getElem?_eq_getElem hj
        have hat := atD_int ha
        have hpos : decide ((0 : Int) < ((j + 1 : Nat) : Int)) = true := decide_eq_true (by omega)
        cases h5 : btw (.int b) 1 60 with
        | false =>
          repeat' walk_at "evs"
          exact k2 (fun ok => by have := ok (j + 1); rw [bndAt_some hb, h5] at this; cases this) _
        | true =>
          by_cases h6 : bs[j] < b
          · have h7 : decide (b ≤ bs[j]) = false := decide_eq_false (by omega)
            repeat' walk_at "evs"
            refine ⟨⟨_, _, rfl⟩, bnd_next (by rw [bndAt_some hb, h5]; show (true && (match bs[j]? with | some a => decide (a < b) | none => true)) = true; rw [ha]; simpa using h6) pre⟩
          · have h7 : decide (b ≤ bs[j]) = true := decide_eq_true (by omega)
            repeat' walk_at "evs"
            exact k2 (fun ok => by have := ok (j + 1); rw [bndAt_some hb, h5] at this; have this : (true && (match bs[j]? with | some a => decide (a < b) | none => true)) = true := this; rw [ha] at this; exact h6 (by simpa using this)) _
    · rintro δ' ⟨⟨s2, s3, rfl⟩, pre⟩
      repeat' walk_at "evs"
      refine ⟨_, .inl rfl, _, rfl, k1 fun i => ?_⟩
      by_cases hi : i < bs.length
      · exact pre i (by rw [enumD_len, List.length_map]; exact hi)
      · unfold bndAt
        rw [List.getElem?_eq_none (by omega)]
end
end WK
end
section
set_option Elab.async false
set_option linter.all false
set_option maxRecDepth 100000
set_option maxHeartbeats 400000
/-! The library's defs over data: rooms, settings. -/
local macro_rules | `(tactic| walk_at "ev") => `(tactic| first
  | (with_reducible refine WL.st_seq ?_) | (with_reducible refine WL.st_ret ?_) | (with_reducible refine WL.st_retN ?_) | (with_reducible refine WL.st_next ?_) | (with_reducible refine WL.st_if ?_)
  | (with_reducible refine WL.et_and ?_) | (with_reducible refine WL.et_or ?_) | (with_reducible refine WL.et_not ?_) | (with_reducible refine WL.et_test ?_) | (with_reducible refine WL.et_B ?_)
  | (with_reducible refine WL.ev_andV ?_) | (with_reducible refine WL.ev_orV ?_) | (with_reducible refine WL.ev_notV ?_) | (with_reducible refine WL.ev_if ?_)
  | (with_reducible refine WL.ev_v ?_) | (with_reducible refine WL.ev_int ?_) | (with_reducible refine WL.ev_str ?_) | (with_reducible refine WL.ev_non ?_) | (with_reducible refine WL.ev_bl ?_)
  | (with_reducible refine WL.ea_nil ?_) | (with_reducible refine WL.ea_cons ?_) | (with_reducible refine WL.ev_tup ?_)
  | (with_reducible refine WL.ev_make ?_) | (with_reducible refine WL.ev_makeN ?_) | (with_reducible refine WL.ev_call ?_) | (with_reducible refine WL.ev_callN ?_) | (with_reducible refine WL.ev_meth ?_) | (with_reducible refine WL.ev_methN ?_)
  | (with_reducible refine WL.ev_isi (.ty _) ?_) | (with_reducible refine WL.ev_isi (.own _) ?_) | (with_reducible refine WL.ev_isiT (.ty _) (.ty _) ?_)
  | (with_reducible refine WL.ev_len ?_) | (with_reducible refine WL.ev_all ?_) | (with_reducible refine WL.ev_any ?_) | (with_reducible refine WL.ev_tuple ?_) | (with_reducible refine WL.ev_listD ?_) | (with_reducible refine WL.ev_map ?_) | (with_reducible refine WL.ei_tup ?_) | (with_reducible refine WL.ei_list ?_) | (with_reducible refine WL.ei_str ?_) | (with_reducible refine WL.ei_zip ?_) | (with_reducible refine WL.ei_seqV ?_) | (with_reducible refine WL.ei_enumA ?_) | (with_reducible refine WL.ev_eqS ?_) | (with_reducible refine WL.ev_inS ?_)
  | (with_reducible refine WL.ev_chain ?_) | (with_reducible refine WL.ev_chain3 ?_) | (with_reducible refine WL.ev_opB ?_) | (with_reducible refine WL.ev_opI ?_) | (with_reducible refine WL.ev_eq ?_) | (with_reducible refine WL.ev_ne ?_) | (with_reducible refine WL.ev_isN ?_) | (with_reducible refine WL.ev_notN ?_)
  | (with_reducible refine WL.ev_ixL ?_) | (with_reducible refine WL.ev_ixT ?_) | (with_reducible refine WL.ev_ixD ?_) | (with_reducible refine WL.ev_kstr (by assumption) ?_) | (with_reducible refine WL.ev_eqG ?_) | (with_reducible refine WL.ev_in ?_) | (with_reducible refine WL.st_raise ?_) | (with_reducible refine WL.st_fl ?_) | (with_reducible refine WL.ev_fld ?_)
  | (with_reducible refine WK.ty_int (by assumption) ?_ ?_) | (with_reducible refine WK.ty_bool (by assumption) ?_ ?_) | (with_reducible refine WK.ty_str (by assumption) ?_ ?_) | (with_reducible refine WK.ty_tup (by assumption) ?_ ?_) | (with_reducible refine WK.ty_seq (by assumption) ?_ ?_) | (with_reducible refine WK.ty_own (by assumption) ?_ ?_ ?_ ?_; focus (simp [WK.CLS]; done))
  | (show WK.Kn _; first | assumption | trivial | (simp [WK.Kn, WK.CLS]; done)) | (show ∀ l, _ ≠ WL.D.dic l; intro _ h; cases h)
  | (with_reducible refine WL.st_asg ?_) | (with_reducible refine WL.st_asgT (js := List.range 64) ?_) | (with_reducible refine WL.tg_tu ?_) | (with_reducible refine WL.tg_cons ?_) | (with_reducible refine WL.tg_nil ?_) | (with_reducible refine WL.tg_name (by first | decide | simp) ?_)
  | refine WL.ift rfl ?_ | refine WL.iff' rfl ?_
  | refine And.intro (by first | assumption | trivial : WK.Kn _) ?_
  | refine ⟨_, _, _, rfl, (by assumption : L2.Cls _ _), (by assumption : L2.NoAttr _ _ _), (by first | rfl | exact Nat.le_of_ble_eq_true rfl), ?_⟩
  | refine ⟨_, rfl, ?_⟩ | refine ⟨_, _, rfl, rfl, ?_⟩ | refine ⟨_, _, rfl, (by assumption : _ ∨ _), ?_⟩ | refine ⟨_, _, rfl, ?_⟩ | refine ⟨_, _, _, rfl, ?_⟩ | refine ⟨_, _, _, _, rfl, ?_⟩ | refine ⟨_, _, _, rfl, rfl, (by first | assumption | rfl : WL.atD _ _ = some _), ?_⟩ | refine ⟨_, _, _, rfl, rfl, rfl, ?_⟩ | refine And.intro rfl ?_ | refine And.intro (by assumption) ?_ | refine And.intro (Nat.le_of_ble_eq_true rfl) ?_ | exact rfl)
local macro_rules | `(tactic| walk_at "evs") => `(tactic| first | walk_at "ev" | (with_reducible refine WL.ift ?_ ?_; focus (first | assumption | (simp [*]; done) | (simp; omega))) | (with_reducible refine WL.iff' ?_ ?_; focus (first | assumption | (simp [*]; done) | (simp; omega))))
local macro_rules | `(tactic| walk_at "evb") => `(tactic| first | walk_at "ev" | (with_reducible refine WL.ifb (fun _ => ?_) (fun _ => ?_)))
local macro_rules | `(tactic| walk_at "evt") => `(tactic| first | walk_at "evs" | refine ⟨_, Or.inl rfl, ?_⟩ | refine ⟨_, Or.inr rfl, ?_⟩ | fail)
local macro_rules | `(tactic| walk_at "evu") => `(tactic| first | (with_reducible refine WL.ev_ofl ?_; refine ⟨_, _, _, _, rfl, (by assumption : L2.Cls _ _), (by assumption : L2.NoAttr _ _ _), rfl, ?_⟩) | walk_at "evt" | (with_reducible refine WL.ev_opC ?_) | (with_reducible refine WL.ev_dget ?_) | (with_reducible refine WL.ev_ofl ?_) | (with_reducible refine WL.ev_makeK ?_) | fail)
namespace WK
open PySem PySem.Spec PyProof.Rows L2 WL
section
variable {K : PySem.W.Frag} {mg : Str → Option Value} {w : World} {base : Heap}
abbrev F_Steps_eq : Fn1 := fun _ ds R _ => ∃ bs, ds = [stepD bs, stepD bs] ∧ R (.bl true)
theorem ok_Steps__eq__ (T : Txt K mg w) : FnOk PG w K mg base (L2.CX PG w) 20 (He.ma K (He.ga K "Steps") "__eq__") (fdOf K ("Steps", some "__eq__")) ["self", "other"] (spD K F_Steps_eq) :=
  WL.fnD (k := 19) T.d_Steps__eq__ sc_Steps__eq__ (fun _ _ _ _ ⟨_, e, _⟩ => by rw [e] <;> rfl) fun cdv A outer s H E G ds R ex hr ⟨bs, e, k⟩ => by
    subst e
    refine ⟨_, (pss_one (ps_ret (pe_and (pe_callB call_isi (by rfl) T.f_isinstance (by decide +kernel) (pa_cons (pv 1) (pa_cons (pe_glob (v := V.ref (He.ga K "Steps")) rfl T.g_Steps rfl) pa_nil))) (pe_one (pe_cmpR (op_eqD hr.units) (pe_fld (pv 0) rfl) (pe_fld (pv 1) rfl) (nomark _)))))), ?_⟩
    dsimp only [cxOf]
    have c1 := T.c_Steps
    have n1 := T.n_Steps_bounds
    have pl : Pl 64 (.tup (bs.map D.int)) := .tup pl_ints
    repeat' walk_at "evs"
    exact k
theorem fe_Steps : FnEq F_Steps_eq (TIns "Steps" fun d => ∃ bs, d = stepD bs) := fun d R ex ⟨l, e, bs, e2⟩ k => ⟨bs, by rw [e2], k⟩
abbrev roomF (s : Int) (bs : List Int) : List (Str × D) := [("size", .int s), ("steps", stepD bs)]
abbrev roomD (s : Int) (bs : List Int) : D := .ins "Room" (roomF s bs)
abbrev F_Room_init : FnI := fun _ ds R ex => ∃ s bs, ds = [.int s, stepD bs] ∧ ((btw (.int s) 1 60 = true ∧ R (roomF s bs)) ∨ (btw (.int s) 1 60 = false ∧ ex "BadPart" "part" (.str "size")))
theorem ok_Room__init__ (T : Txt K mg w) : FnOk PG w K mg base (L2.CX PG w) 7 (He.ma K (He.ga K "Room") "__init__") (fdOf K ("Room", some "__init__")) ["self", "size", "steps"] (spI K "Room" F_Room_init) :=
  WL.fnI (k := 6) T.d_Room__init__ sc_Room__init__ (by decide) (fun _ _ _ _ ⟨_, _, e, _⟩ => by rw [e] <;> rfl) fun cdv A outer s H E G ds R ex hr ⟨sz, bs, e, k⟩ => by
    subst e
    refine ⟨_, (pss_cons (ps_if (pt_not (pt_val (pe_call (ok_is_between T) (hr.mono (by decide)) rfl T.g_is_between T.d_is_between.kp (bi_is_between T) .nil passN (pa_cons (pv 1) (pa_cons pe_int (pa_cons (pe_gI rfl T.i_MOST_SIZE) pa_nil)))))) (pss_one (WL.ps_raiseD rfl (takes_of rfl rfl rfl rfl) T.x_BadPart (WX.xinit_fn (k := 0) T.x_BadPart) (hr.mono (by decide)) T.xb_BadPart passN rfl pe_str)) pss_nil)
    (pss_cons (ps_if (pt_not (pt_val (pe_callB call_isi (by rfl) T.f_isinstance (by decide +kernel) (pa_cons (pv 2) (pa_cons (pe_glob (v := V.ref (He.ga K "Steps")) rfl T.g_Steps rfl) pa_nil))))) (pss_one (WL.ps_raiseD rfl (takes_of rfl rfl rfl rfl) T.x_BadPart (WX.xinit_fn (k := 0) T.x_BadPart) (hr.mono (by decide)) T.xb_BadPart passN rfl pe_str)) pss_nil)
    (pss_cons (ps_fld (pv 0) (pv 1) rfl)
    (pss_one (ps_fld (pv 0) (pv 2) rfl))))), fun xa => ?_⟩
    dsimp only [cxOf]
    have c1 := T.c_Room
    have n1 := T.n_Room_size
    have n2 := T.n_Room_steps
    rcases k with ⟨g, k⟩ | ⟨g, k⟩
    · repeat' walk_at "evs"
      exact k
    · repeat' walk_at "evs"
      exact k
abbrev F_Room_eq : Fn1 := fun _ ds R _ => ∃ s bs, ds = [roomD s bs, roomD s bs] ∧ R (.bl true)
theorem ok_Room__eq__ (T : Txt K mg w) : FnOk PG w K mg base (L2.CX PG w) 26 (He.ma K (He.ga K "Room") "__eq__") (fdOf K ("Room", some "__eq__")) ["self", "other"] (spD K F_Room_eq) :=
  WL.fnD (k := 25) T.d_Room__eq__ sc_Room__eq__ (fun _ _ _ _ ⟨_, _, e, _⟩ => by rw [e] <;> rfl) fun cdv A outer s H E G ds R ex hr ⟨sz, bs, e, k⟩ => by
    subst e
    refine ⟨_, (pss_one (ps_ret (pe_and (pe_callB call_isi (by rfl) T.f_isinstance (by decide +kernel) (pa_cons (pv 1) (pa_cons (pe_glob (v := V.ref (He.ga K "Room")) rfl T.g_Room rfl) pa_nil))) (pe_and (pe_cmpR op_eq (pe_fld (pv 0) rfl) (pe_fld (pv 1) rfl) (nomark _)) (pe_one (pe_cmpR (op_eqG (rcT_ins (ok_Steps__eq__ T) fe_Steps (T.feq "Steps" (by decide)).1 (T.feq "Steps" (by decide)).2 (bi_Steps__eq__ T) passN) (hr.mono (by decide))) (pe_fld (pv 0) rfl) (pe_fld (pv 1) rfl) (nomark _))))))), ?_⟩
    dsimp only [cxOf]
    have c1 := T.c_Room
    have n1 := T.n_Room_size
    have n2 := T.n_Room_steps
    repeat' walk_at "evs"
    exact ⟨⟨_, rfl, _, rfl⟩, k⟩
theorem fe_Room : FnEq F_Room_eq (TIns "Room" fun d => ∃ s bs, d = roomD s bs) := fun d R ex ⟨l, e, s, bs, e2⟩ k => ⟨s, bs, by rw [e2], k⟩
theorem fe_Way : FnEq F_Way_eq (TIns "Way" fun d => ∃ x, d = wayD x) := fun d R ex ⟨l, e, x, e2⟩ k => ⟨x, by rw [e2], k⟩
theorem fe_Mail : FnEq F_Mail_eq (TIns "Mail" fun d => ∃ r, goodM r ∧ d = mailD r) := fun d R ex ⟨l, e, r, g, e2⟩ k => ⟨r, by rw [e2], g, k⟩
/-- ascending -/
def asc : List Int → Bool
  | a :: b :: r => decide (a < b) && asc (b :: r)
  | _ => true
theorem asc_all : ∀ ns : List Int, ((ns.zip (ns.drop 1)).map fun q => decide (q.1 < q.2)).all id = asc ns
  | [] => rfl
  | [a] => rfl
  | a :: b :: r => by
    have h := asc_all (b :: r)
    show (decide (a < b) && _) = (decide (a < b) && asc (b :: r))
    rw [← h] <;> rfl
theorem cut_tail (l : List D) : cutD l (some 1) none = l.drop 1 := by
  cases l with
  | nil => rfl
  | cons a r =>
    unfold WL.cutD
    have e1 : HT.sIx (a :: r).length 0 (some 1) = 1 := by
      exact (HT.sIx_nat (a :: r).length 0 1).trans (by simp)
    have e2 : HT.sIx (a :: r).length (a :: r).length none = (a :: r).length := rfl
    rw [e1, e2]
    simp
def ltD : D → D
  | .tup [.int a, .int b] => .bl (decide (a < b))
  | _ => .non
theorem zip_int (ns ms : List Int) : zipD (ns.map D.int) (ms.map D.int) = (ns.zip ms).map fun q => .tup [.int q.1, .int q.2] := by
  unfold zipD
  rw [List.zip_map, List.map_map] <;> rfl
abbrev F_is_rising : Fn1 := fun _ ds R _ => ∃ (q : D) (ns : List Int), ds = [q] ∧ (q = .lst (ns.map D.int) ∨ q = .tup (ns.map D.int)) ∧ ns.length ≤ 100 ∧ asc ns = true ∧ R (.bl true)
theorem ok_is_rising (T : Txt K mg w) : FnOk PG w K mg base (L2.CX PG w) 3 (He.ga K "is_rising") (fdOf K ("is_rising", none)) ["values"] (spD K F_is_rising) :=
  WL.fnD (k := 2) T.d_is_rising sc_is_rising (fun _ _ _ _ ⟨_, _, e, _⟩ => by rw [e] <;> rfl) fun cdv A outer s H E G ds R ex hr ⟨q, ns, e, hq, hl, ha, k⟩ => by
    subst e
    refine ⟨_, (pss_one (ps_ret (pe_callB (cr_all rfl) (by rfl) T.f_all (by decide +kernel) (pa_cons (pe_lc (own := [("one", 1), ("other", 2)]) (g := gTup K 2 (gCons (gName 1) (gCons (gName 2) gNil))) rfl sc_is_rising.nd (RZ.pi_zipA rfl T.f_zip (pa_cons (pv 0) (pa_cons (WX.pe_ei (pe_slice sl_list (pv 0) (po_some pe_int) po_none) (pe_slice sl_tupA (pv 0) (po_some pe_int) po_none)) pa_nil))) (blkOk_by (own := [("one", 1), ("other", 2)]) (N := ["values", "one", "other"]) (sc := defScope s_is_rising) (by decide +kernel)) (fun _ _ _ _ _ => (pg_tup rfl (pgs_cons (pg_name (i := 1) sc_is_rising.nd rfl (Or.inl rfl)) (pgs_cons (pg_name (i := 2) sc_is_rising.nd rfl (Or.inl rfl)) pgs_nil)))) (fun _ _ _ _ _ => pts_nil) (fun _ _ _ _ _ => (pe_cmpR op_lt (pv 1) (pv 2) (nomark _)))) pa_nil)))), ?_⟩
    dsimp only [cxOf]
    have fin : ∃ bs : List Bool, (zipD (ns.map D.int) (cutD (ns.map D.int) (some 1) none)).map ltD = bs.map D.bl ∧ R (.bl (bs.all id)) := by
      refine ⟨(ns.zip (ns.drop 1)).map fun q => decide (q.1 < q.2), ?_, by rw [asc_all, ha]; exact k⟩
      rw [cut_tail, ← List.map_drop, zip_int, List.map_map, List.map_map] <;> rfl
    have turn : ∀ (y : D), y ∈ zipD (ns.map D.int) (cutD (ns.map D.int) (some 1) none) → ∃ a b : Int, y = .tup [.int a, .int b] := fun y hy => by
      rw [cut_tail, ← List.map_drop, zip_int] at hy
      obtain ⟨q, _, rfl⟩ := List.mem_map.mp hy
      exact ⟨_, _, rfl⟩
    have hz : (zipD (ns.map D.int) (cutD (ns.map D.int) (some 1) none)).length ≤ 50000 := by
      unfold zipD
      rw [List.length_map, List.length_zip, List.length_map]
      omega
    obtain ⟨bs, e1, kb⟩ := fin
    rcases hq with rfl | rfl
    · repeat' walk_at "evs"
      refine ev_ei1 (ev_new (eo_slL ?_))
      repeat' walk_at "evs"
      refine es_some (ev_int ⟨_, rfl, es_none ⟨_, rfl, _, rfl, ?_⟩⟩)
      refine ea_nil ⟨_, _, .inl rfl, hz, ltD, fun y hy => ?_, bs, by rw [e1], kb⟩
      obtain ⟨a, b, rfl⟩ := turn y hy
      repeat' walk_at "evs"
    · repeat' walk_at "evs"
      refine ev_ei2 (ev_slT ?_)
      repeat' walk_at "evs"
      refine es_some (ev_int ⟨_, rfl, es_none ⟨_, rfl, ?_⟩⟩)
      refine ea_nil ⟨_, _, .inr rfl, hz, ltD, fun y hy => ?_, bs, by rw [e1], kb⟩
      obtain ⟨a, b, rfl⟩ := turn y hy
      repeat' walk_at "evs"
end
end WK
end
section
set_option Elab.async false
set_option linter.all false
set_option maxRecDepth 100000
set_option maxHeartbeats 400000
/-! The library's defs over data: settings, changes. -/
local macro_rules | `(tactic| walk_at "ev") => `(tactic| first
  | (with_reducible refine WL.st_seq ?_) | (with_reducible refine WL.st_ret ?_) | (with_reducible refine WL.st_retN ?_) | (with_reducible refine WL.st_next ?_) | (with_reducible refine WL.st_if ?_)
  | (with_reducible refine WL.et_and ?_) | (with_reducible refine WL.et_or ?_) | (with_reducible refine WL.et_not ?_) | (with_reducible refine WL.et_test ?_) | (with_reducible refine WL.et_B ?_)
  | (with_reducible refine WL.ev_andV ?_) | (with_reducible refine WL.ev_orV ?_) | (with_reducible refine WL.ev_notV ?_) | (with_reducible refine WL.ev_if ?_)
  | (with_reducible refine WL.ev_v ?_) | (with_reducible refine WL.ev_int ?_) | (with_reducible refine WL.ev_str ?_) | (with_reducible refine WL.ev_non ?_) | (with_reducible refine WL.ev_bl ?_)
  | (with_reducible refine WL.ea_nil ?_) | (with_reducible refine WL.ea_cons ?_) | (with_reducible refine WL.ev_tup ?_)
  | (with_reducible refine WL.ev_make ?_) | (with_reducible refine WL.ev_makeN ?_) | (with_reducible refine WL.ev_call ?_) | (with_reducible refine WL.ev_callN ?_) | (with_reducible refine WL.ev_meth ?_) | (with_reducible refine WL.ev_methN ?_)
  | (with_reducible refine WL.ev_isi (.ty _) ?_) | (with_reducible refine WL.ev_isi (.own _) ?_) | (with_reducible refine WL.ev_isiT (.ty _) (.ty _) ?_)
  | (with_reducible refine WL.ev_len ?_) | (with_reducible refine WL.ev_all ?_) | (with_reducible refine WL.ev_any ?_) | (with_reducible refine WL.ev_tuple ?_) | (with_reducible refine WL.ev_listD ?_) | (with_reducible refine WL.ev_map ?_) | (with_reducible refine WL.ei_tup ?_) | (with_reducible refine WL.ei_list ?_) | (with_reducible refine WL.ei_str ?_) | (with_reducible refine WL.ei_zip ?_) | (with_reducible refine WL.ei_seqV ?_) | (with_reducible refine WL.ei_enumA ?_) | (with_reducible refine WL.ev_eqS ?_) | (with_reducible refine WL.ev_inS ?_)
  | (with_reducible refine WL.ev_chain ?_) | (with_reducible refine WL.ev_chain3 ?_) | (with_reducible refine WL.ev_opB ?_) | (with_reducible refine WL.ev_opI ?_) | (with_reducible refine WL.ev_eq ?_) | (with_reducible refine WL.ev_ne ?_) | (with_reducible refine WL.ev_isN ?_) | (with_reducible refine WL.ev_notN ?_)
  | (with_reducible refine WL.ev_ixL ?_) | (with_reducible refine WL.ev_ixT ?_) | (with_reducible refine WL.ev_ixD ?_) | (with_reducible refine WL.ev_kstr (by assumption) ?_) | (with_reducible refine WL.ev_eqG ?_) | (with_reducible refine WL.ev_in ?_) | (with_reducible refine WL.st_raise ?_) | (with_reducible refine WL.st_fl ?_) | (with_reducible refine WL.ev_fld ?_)
  | (with_reducible refine WK.ty_int (by assumption) ?_ ?_) | (with_reducible refine WK.ty_bool (by assumption) ?_ ?_) | (with_reducible refine WK.ty_str (by assumption) ?_ ?_) | (with_reducible refine WK.ty_tup (by assumption) ?_ ?_) | (with_reducible refine WK.ty_seq (by assumption) ?_ ?_) | (with_reducible refine WK.ty_own (by assumption) ?_ ?_ ?_ ?_; focus (simp [WK.CLS]; done))
  | (show WK.Kn _; first | assumption | trivial | (simp [WK.Kn, WK.CLS]; done)) | (show ∀ l, _ ≠ WL.D.dic l; intro _ h; cases h)
  | (with_reducible refine WL.st_asg ?_) | (with_reducible refine WL.st_asgT (js := List.range 64) ?_) | (with_reducible refine WL.tg_tu ?_) | (with_reducible refine WL.tg_cons ?_) | (with_reducible refine WL.tg_nil ?_) | (with_reducible refine WL.tg_name (by first | decide | simp) ?_)
  | refine WL.ift rfl ?_ | refine WL.iff' rfl ?_
  | refine And.intro (by first | assumption | trivial : WK.Kn _) ?_
  | refine ⟨_, _, _, rfl, (by assumption : L2.Cls _ _), (by assumption : L2.NoAttr _ _ _), (by first | rfl | exact Nat.le_of_ble_eq_true rfl), ?_⟩
  | refine ⟨_, rfl, ?_⟩ | refine ⟨_, _, rfl, rfl, ?_⟩ | refine ⟨_, _, rfl, (by assumption : _ ∨ _), ?_⟩ | refine ⟨_, _, rfl, ?_⟩ | refine ⟨_, _, _, rfl, ?_⟩ | refine ⟨_, _, _, _, rfl, ?_⟩ | refine ⟨_, _, _, rfl, rfl, (by first | assumption | rfl : WL.atD _ _ = some _), ?_⟩ | refine ⟨_, _, _, rfl, rfl, rfl, ?_⟩ | refine And.intro rfl ?_ | refine And.intro (by assumption) ?_ | refine And.intro (Nat.le_of_ble_eq_true rfl) ?_ | exact rfl)
local macro_rules | `(tactic| walk_at "evs") => `(tactic| first | walk_at "ev" | (with_reducible refine WL.ift ?_ ?_; focus (first | assumption | (simp [*]; done) | (simp; omega))) | (with_reducible refine WL.iff' ?_ ?_; focus (first | assumption | (simp [*]; done) | (simp; omega))))
local macro_rules | `(tactic| walk_at "evb") => `(tactic| first | walk_at "ev" | (with_reducible refine WL.ifb (fun _ => ?_) (fun _ => ?_)))
local macro_rules | `(tactic| walk_at "evt") => `(tactic| first | walk_at "evs" | refine ⟨_, Or.inl rfl, ?_⟩ | refine ⟨_, Or.inr rfl, ?_⟩ | fail)
local macro_rules | `(tactic| walk_at "evu") => `(tactic| first | (with_reducible refine WL.ev_ofl ?_; refine ⟨_, _, _, _, rfl, (by assumption : L2.Cls _ _), (by assumption : L2.NoAttr _ _ _), rfl, ?_⟩) | walk_at "evt" | (with_reducible refine WL.ev_opC ?_) | (with_reducible refine WL.ev_dget ?_) | (with_reducible refine WL.ev_ofl ?_) | (with_reducible refine WL.ev_makeK ?_) | fail)
namespace WK
open PySem PySem.Spec PyProof.Rows L2 WL
section
variable {K : PySem.W.Frag} {mg : Str → Option Value} {w : World} {base : Heap}
abbrev BND : List (Str × Int × Int) := [(("turn" : Str), (1 : Int), (200 : Int)), ("numbers", 2, 8), ("head", 1, 8), ("places", 0, 4), ("cost", 2, 9), ("period", 1, 200), ("quiet", 1, 500), ("silent", 0, 3), ("losses", 1, 3)]
abbrev seqD (q : D) (l : List D) : Prop := q = .lst l ∨ q = .tup l
inductive RS : Str → D → Bool → Prop
  | mail (r : List (List Lt)) : RS "mail" (mailD r) true
  | ways {q : D} {l : List Wy} : seqD q (l.map wayD) → 1 ≤ l.length → l.length ≤ 4 → RS "ways" q true
  | widths {q : D} {l : List Int} : seqD q (l.map D.int) → 1 ≤ l.length → l.length ≤ 8 → (∀ i ∈ l, 1 ≤ i ∧ i ≤ 100) → asc l = true → RS "widths" q true
  | room (s : Int) (bs : List Int) : RS "room" (roomD s bs) true
  | num {z : Str} {a b : Int} (i : Int) : (z, a, b) ∈ BND → RS z (.int i) (btw (.int i) a b)
theorem reps_two {K : PySem.W.Frag} {Z : Addr → Prop} {H : Hp} (a b : Int) : Reps K Z H [.int a, .int b] [.int a, .int b] := .cons (.int a) (.cons (.int b) .nil)
abbrev F_is_right_setting : Fn1 := fun _ ds R _ => ∃ z v b, ds = [.str z, v] ∧ RS z v b ∧ R (.bl b)
theorem ok_is_right_setting (T : Txt K mg w) : FnOk PG w K mg base (L2.CX PG w) 10 (He.ga K "is_right_setting") (fdOf K ("is_right_setting", none)) ["word", "value"] (spD K F_is_right_setting) :=
  WL.fnD (k := 9) T.d_is_right_setting sc_is_right_setting (fun _ _ _ _ ⟨_, _, _, e, _⟩ => by rw [e] <;> rfl) fun cdv A outer s H E G ds R ex hr ⟨z, v, b, e, rs, k⟩ => by
    subst e
    refine ⟨_, (pss_cons (ps_if (pt_cmpR op_eq (pv 0) pe_str (nomark _)) (pss_one (ps_ret (pe_callB call_isi (by rfl) T.f_isinstance (by decide +kernel) (pa_cons (pv 1) (pa_cons (pe_glob (v := V.ref (He.ga K "Mail")) rfl T.g_Mail rfl) pa_nil))))) pss_nil)
    (pss_cons (ps_if (pt_cmpR op_eq (pv 0) pe_str (nomark _)) (pss_one (ps_ret (pe_and (pe_call (ok_is_list T) (hr.mono (by decide)) rfl T.g_is_list T.d_is_list.kp (bi_is_list T) .nil passN (pa_cons (pv 1) pa_nil)) (pe_and (pe_chain op_le op_le pe_int (pe_callB call_len (by rfl) T.f_len (by decide +kernel) (pa_cons (pv 1) pa_nil)) pe_int) (pe_one (pe_callB (cr_all rfl) (by rfl) T.f_all (by decide +kernel) (pa_cons (pe_lc (own := [("way", 4)]) rfl sc_is_right_setting.nd (WX.pi_ei (pi_list (pv 1)) (pi_tup (pv 1))) (blkOk_by (own := [("way", 4)]) (N := ["word", "value", "least", "most", "way", "width"]) (sc := defScope s_is_right_setting) (by decide +kernel)) (fun _ _ _ _ _ => (pg_name (i := 4) sc_is_right_setting.nd rfl (Or.inl rfl))) (fun _ _ _ _ _ => pts_nil) (fun _ _ _ _ _ => (pe_callB (WX.cK rIsi (K := K) (by rfl) call_isi) (by rfl) T.f_isinstance (by decide +kernel) (pa_cons (pv 4) (pa_cons (pe_glob (v := V.ref (He.ga K "Way")) rfl T.g_Way rfl) pa_nil))))) pa_nil))))))) pss_nil)
    (pss_cons (ps_if (pt_cmpR op_eq (pv 0) pe_str (nomark _)) (pss_cons (ps_if (PW.pt (pw_or (pt_not (pt_val (pe_call (ok_is_list T) (hr.mono (by decide)) rfl T.g_is_list T.d_is_list.kp (bi_is_list T) .nil passN (pa_cons (pv 1) pa_nil)))) (pw_or1 (pt_not (pt_chain op_le op_le pe_int (pe_callB call_len (by rfl) T.f_len (by decide +kernel) (pa_cons (pv 1) pa_nil)) pe_int))))) (pss_one (ps_ret pe_bl)) pss_nil)
    (pss_one (ps_ret (pe_and (pe_callB (cr_all rfl) (by rfl) T.f_all (by decide +kernel) (pa_cons (pe_lc (own := [("width", 5)]) rfl sc_is_right_setting.nd (WX.pi_ei (pi_list (pv 1)) (pi_tup (pv 1))) (blkOk_by (own := [("width", 5)]) (N := ["word", "value", "least", "most", "way", "width"]) (sc := defScope s_is_right_setting) (by decide +kernel)) (fun _ _ _ _ _ => (pg_name (i := 5) sc_is_right_setting.nd rfl (Or.inl rfl))) (fun _ _ _ _ _ => pts_nil) (fun _ _ _ _ _ => (pe_call (ok_is_between T) (hr.mono (by decide)) rfl T.g_is_between T.d_is_between.kp (bi_is_between T) .nil passN (pa_cons (pv 5) (pa_cons pe_int (pa_cons pe_int pa_nil)))))) pa_nil)) (pe_one (pe_call (ok_is_rising T) (hr.mono (by decide)) rfl T.g_is_rising T.d_is_rising.kp (bi_is_rising T) .nil passN (pa_cons (pv 1) pa_nil))))))) pss_nil)
    (pss_cons (ps_if (pt_cmpR op_eq (pv 0) pe_str (nomark _)) (pss_one (ps_ret (pe_callB call_isi (by rfl) T.f_isinstance (by decide +kernel) (pa_cons (pv 1) (pa_cons (pe_glob (v := V.ref (He.ga K "Room")) rfl T.g_Room rfl) pa_nil))))) pss_nil)
    (pss_cons (ps_asg (pe_ix ix_kdict (pe_glob (v := V.ref (He.ga K "BOUNDS")) rfl T.g_BOUNDS rfl) (pv 0) (fun _ _ => rfl)) (pg_tup (n := 2) rfl (pgs_cons (pg_name (i := 2) sc_is_right_setting.nd rfl (Or.inl rfl)) (pgs_cons (pg_name (i := 3) sc_is_right_setting.nd rfl (Or.inl rfl)) pgs_nil))))
    (pss_one (ps_ret (pe_call (ok_is_between T) (hr.mono (by decide)) rfl T.g_is_between T.d_is_between.kp (bi_is_between T) .nil passN (pa_cons (pv 1) (pa_cons (pv 2) (pa_cons (pv 3) pa_nil))))))))))), ?_⟩
    dsimp only [cxOf]
    cases rs with
    | mail r =>
      repeat' walk_at "evs"
      exact k
    | room sz bs =>
      repeat' walk_at "evs"
      exact k
    | @ways _ l hq h1 h2 =>
      have hk : Kn v := by rcases hq with rfl | rfl <;> trivial
      have hqq : v.isQ = true := by rcases hq with rfl | rfl <;> rfl
      have hlen : v.len = some l.length := by rcases hq with rfl | rfl <;> exact congrArg some (List.length_map ..)
      repeat' walk_at "evs"
      refine ⟨_, hlen, ?_⟩
      repeat' walk_at "evs"
      refine ⟨by rw [List.length_map]; omega, fun _ => .bl true, ?_, ?_⟩
      · intro y hy
        obtain ⟨x, _, rfl⟩ := List.mem_map.mp hy
        repeat' walk_at "evs"
      · refine ⟨l.map fun _ => true, by rw [List.map_map, List.map_map] <;> rfl, ?_⟩
        have e : (l.map fun _ => true).all id = true := by simp
        rw [e]
        exact k
    | @widths _ l hq h1 h2 h3 h4 =>
      have hk : Kn v := by rcases hq with rfl | rfl <;> trivial
      have hqq : v.isQ = true := by rcases hq with rfl | rfl <;> rfl
      have hlen : v.len = some l.length := by rcases hq with rfl | rfl <;> exact congrArg some (List.length_map ..)
      repeat' walk_at "evs"
      refine ⟨_, hlen, ?_⟩
      repeat' walk_at "evs"
      refine ⟨by rw [List.length_map]; omega, fun _ => .bl true, ?_, ?_⟩
      · intro y hy
        obtain ⟨i, hi, rfl⟩ := List.mem_map.mp hy
        have hb : btw (.int i) 1 100 = true := by simp [btw, h3 i hi]
        repeat' walk_at "evs"
        rw [hb]
      · refine ⟨l.map fun _ => true, by rw [List.map_map, List.map_map] <;> rfl, ?_⟩
        have e : (l.map fun _ => true).all id = true := by simp
        rw [e]
        have hl : l.length ≤ 100 := by omega
        repeat' walk_at "evs"
        exact k
    | num i hm =>
      obtain ⟨p, kd, kt⟩ := T.kbnd _ hm
      simp only [BND, List.mem_cons, List.not_mem_nil, or_false, Prod.mk.injEq] at hm
      rcases hm with ⟨rfl, rfl, rfl⟩ | ⟨rfl, rfl, rfl⟩ | ⟨rfl, rfl, rfl⟩ | ⟨rfl, rfl, rfl⟩ | ⟨rfl, rfl, rfl⟩ | ⟨rfl, rfl, rfl⟩ | ⟨rfl, rfl, rfl⟩ | ⟨rfl, rfl, rfl⟩ | ⟨rfl, rfl, rfl⟩
      all_goals repeat' walk_at "evs"
      all_goals refine ⟨_, _, _, rfl, kd, fun Z H => .ktup kt (reps_two _ _), ?_⟩
      all_goals repeat' walk_at "evs"
      all_goals exact k
end
end WK
end
section
set_option Elab.async false
set_option linter.all false
set_option maxRecDepth 100000
set_option maxHeartbeats 400000
/-! The library's defs over data: changes, bounds put in. -/
local macro_rules | `(tactic| walk_at "ev") => `(tactic| first
  | (with_reducible refine WL.st_seq ?_) | (with_reducible refine WL.st_ret ?_) | (with_reducible refine WL.st_retN ?_) | (with_reducible refine WL.st_next ?_) | (with_reducible refine WL.st_if ?_)
  | (with_reducible refine WL.et_and ?_) | (with_reducible refine WL.et_or ?_) | (with_reducible refine WL.et_not ?_) | (with_reducible refine WL.et_test ?_) | (with_reducible refine WL.et_B ?_)
  | (with_reducible refine WL.ev_andV ?_) | (with_reducible refine WL.ev_orV ?_) | (with_reducible refine WL.ev_notV ?_) | (with_reducible refine WL.ev_if ?_)
  | (with_reducible refine WL.ev_v ?_) | (with_reducible refine WL.ev_int ?_) | (with_reducible refine WL.ev_str ?_) | (with_reducible refine WL.ev_non ?_) | (with_reducible refine WL.ev_bl ?_)
  | (with_reducible refine WL.ea_nil ?_) | (with_reducible refine WL.ea_cons ?_) | (with_reducible refine WL.ev_tup ?_)
  | (with_reducible refine WL.ev_make ?_) | (with_reducible refine WL.ev_makeN ?_) | (with_reducible refine WL.ev_call ?_) | (with_reducible refine WL.ev_callN ?_) | (with_reducible refine WL.ev_meth ?_) | (with_reducible refine WL.ev_methN ?_)
  | (with_reducible refine WL.ev_isi (.ty _) ?_) | (with_reducible refine WL.ev_isi (.own _) ?_) | (with_reducible refine WL.ev_isiT (.ty _) (.ty _) ?_)
  | (with_reducible refine WL.ev_len ?_) | (with_reducible refine WL.ev_all ?_) | (with_reducible refine WL.ev_any ?_) | (with_reducible refine WL.ev_tuple ?_) | (with_reducible refine WL.ev_listD ?_) | (with_reducible refine WL.ev_map ?_) | (with_reducible refine WL.ei_tup ?_) | (with_reducible refine WL.ei_list ?_) | (with_reducible refine WL.ei_str ?_) | (with_reducible refine WL.ei_zip ?_) | (with_reducible refine WL.ei_seqV ?_) | (with_reducible refine WL.ei_enumA ?_) | (with_reducible refine WL.ev_eqS ?_) | (with_reducible refine WL.ev_inS ?_)
  | (with_reducible refine WL.ev_chain ?_) | (with_reducible refine WL.ev_chain3 ?_) | (with_reducible refine WL.ev_opB ?_) | (with_reducible refine WL.ev_opI ?_) | (with_reducible refine WL.ev_eq ?_) | (with_reducible refine WL.ev_ne ?_) | (with_reducible refine WL.ev_isN ?_) | (with_reducible refine WL.ev_notN ?_)
  | (with_reducible refine WL.ev_ixL ?_) | (with_reducible refine WL.ev_ixT ?_) | (with_reducible refine WL.ev_ixD ?_) | (with_reducible refine WL.ev_kstr (by assumption) ?_) | (with_reducible refine WL.ev_eqG ?_) | (with_reducible refine WL.ev_in ?_) | (with_reducible refine WL.st_raise ?_) | (with_reducible refine WL.st_fl ?_) | (with_reducible refine WL.ev_fld ?_)
  | (with_reducible refine WK.ty_int (by assumption) ?_ ?_) | (with_reducible refine WK.ty_bool (by assumption) ?_ ?_) | (with_reducible refine WK.ty_str (by assumption) ?_ ?_) | (with_reducible refine WK.ty_tup (by assumption) ?_ ?_) | (with_reducible refine WK.ty_seq (by assumption) ?_ ?_) | (with_reducible refine WK.ty_own (by assumption) ?_ ?_ ?_ ?_; focus (simp [WK.CLS]; done))
  | (show WK.Kn _; first | assumption | trivial | (simp [WK.Kn, WK.CLS]; done)) | (show ∀ l, _ ≠ WL.D.dic l; intro _ h; cases h)
  | (with_reducible refine WL.st_asg ?_) | (with_reducible refine WL.st_asgT (js := List.range 64) ?_) | (with_reducible refine WL.tg_tu ?_) | (with_reducible refine WL.tg_cons ?_) | (with_reducible refine WL.tg_nil ?_) | (with_reducible refine WL.tg_name (by first | decide | simp) ?_)
  | refine WL.ift rfl ?_ | refine WL.iff' rfl ?_
  | refine And.intro (by first | assumption | trivial : WK.Kn _) ?_
  | refine ⟨_, _, _, rfl, (by assumption : L2.Cls _ _), (by assumption : L2.NoAttr _ _ _), (by first | rfl | exact Nat.le_of_ble_eq_true rfl), ?_⟩
  | refine ⟨_, rfl, ?_⟩ | refine ⟨_, _, rfl, rfl, ?_⟩ | refine ⟨_, _, rfl, (by assumption : _ ∨ _), ?_⟩ | refine ⟨_, _, rfl, ?_⟩ | refine ⟨_, _, _, rfl, ?_⟩ | refine ⟨_, _, _, _, rfl, ?_⟩ | refine ⟨_, _, _, rfl, rfl, (by first | assumption | rfl : WL.atD _ _ = some _), ?_⟩ | refine ⟨_, _, _, rfl, rfl, rfl, ?_⟩ | refine And.intro rfl ?_ | refine And.intro (by assumption) ?_ | refine And.intro (Nat.le_of_ble_eq_true rfl) ?_ | exact rfl)
local macro_rules | `(tactic| walk_at "evs") => `(tactic| first | walk_at "ev" | (with_reducible refine WL.ift ?_ ?_; focus (first | assumption | (simp [*]; done) | (simp; omega))) | (with_reducible refine WL.iff' ?_ ?_; focus (first | assumption | (simp [*]; done) | (simp; omega))))
local macro_rules | `(tactic| walk_at "evb") => `(tactic| first | walk_at "ev" | (with_reducible refine WL.ifb (fun _ => ?_) (fun _ => ?_)))
local macro_rules | `(tactic| walk_at "evt") => `(tactic| first | walk_at "evs" | refine ⟨_, Or.inl rfl, ?_⟩ | refine ⟨_, Or.inr rfl, ?_⟩ | fail)
local macro_rules | `(tactic| walk_at "evu") => `(tactic| first | (with_reducible refine WL.ev_ofl ?_; refine ⟨_, _, _, _, rfl, (by assumption : L2.Cls _ _), (by assumption : L2.NoAttr _ _ _), rfl, ?_⟩) | walk_at "evt" | (with_reducible refine WL.ev_opC ?_) | (with_reducible refine WL.ev_dget ?_) | (with_reducible refine WL.ev_ofl ?_) | (with_reducible refine WL.ev_makeK ?_) | fail)
namespace WL
open PySem PySem.Spec PyProof.Rows L2
section
variable {p : Pr} {te : TE} {tt : TT} {δ : List Sl} {R : D → Prop} {RB : Bool → Prop}
/-- an own list read as a datum, while a truth or a number is found -/
theorem et_own (i : Nat) {l : List D} (hi : δ[i]? = some (.own l)) (h : EvT p tt (δ.set i (.d (.lst l))) RB) : EvT p tt δ RB := fun Z0 H0 Z σ H Q s e q => by
  obtain ⟨ov, e1, a, xs, rfl, z, n0, hH, rr⟩ := s.slot hi
  have g1 : Go Z H (fun b => Z b ∧ b ≠ a) H := ⟨fun _ _ _ h => h, fun _ h => .inl h.1⟩
  obtain ⟨g, s2⟩ := s.freeze hi e1 n0 rfl (.lst (fun q => q.2 rfl) hH (rr.go g1))
  exact h Z0 H0 _ σ H Q s2 e q
theorem ev_own (i : Nat) {l : List D} (hi : δ[i]? = some (.own l)) (h : EvP p te (δ.set i (.d (.lst l))) fun d => d.flat = true ∧ R d) : EvP p te δ R := fun Z0 H0 Z σ H Q s e q => by
  obtain ⟨ov, e1, a, xs, rfl, z, n0, hH, rr⟩ := s.slot hi
  have g1 : Go Z H (fun b => Z b ∧ b ≠ a) H := ⟨fun _ _ _ h => h, fun _ h => .inl h.1⟩
  obtain ⟨g, s2⟩ := s.freeze hi e1 n0 rfl (.lst (fun q => q.2 rfl) hH (rr.go g1))
  refine h Z0 H0 _ σ H Q s2 e fun v d H2 l2 r ⟨hf, k⟩ => q v d H2 l2 ?_ k
  cases r <;> first | exact .non | exact .bl _ | exact .int _ | exact .str _ | cases hf
end
end WL
namespace WK
open PySem PySem.Spec PyProof.Rows L2 WL
/-- the plain settings of a line -/
structure Rw where
  rows : List (List Lt)
  ways : List Wy
  widths : List Int
  turn : Int
  numbers : Int
  size : Int
  bnds : List Int
  head : Int
  places : Int
  cost : Int
  period : Int
  quiet : Int
  silent : Int
  losses : Int
abbrev waysD (l : List Wy) : D := .tup (l.map wayD)
abbrev intsT (l : List Int) : D := .tup (l.map D.int)
abbrev lineG (r : Rw) : List (Str × D) := [("mail", mailD r.rows), ("ways", waysD r.ways), ("widths", intsT r.widths), ("turn", .int r.turn), ("numbers", .int r.numbers), ("room", roomD r.size r.bnds), ("head", .int r.head), ("places", .int r.places), ("cost", .int r.cost), ("period", .int r.period), ("quiet", .int r.quiet), ("silent", .int r.silent), ("losses", .int r.losses)]
abbrev lineF (r : Rw) : List (Str × D) := ("given", .dic (lineG r)) :: lineG r
abbrev lineD (r : Rw) : D := .ins "Line" (lineF r)
section
variable {K : PySem.W.Frag} {mg : Str → Option Value} {w : World} {base : Heap}
inductive IsCh (n : Nat) : D → Bool → Prop
  | set {z : Str} (i : Int) : z ∈ PLAL → IsCh n (.tup [.str z, .int i]) true
  | beg (i : Int) (b : Option Int) : IsCh n (.tup [.str "begin", .int i, begD b]) (btw (.int i) 0 (n - 1))
  | non : IsCh n .non false
  | tru : IsCh n (.tup [.str "turn", .bl true]) false
abbrev F_is_change : Fn1 := fun _ ds R _ => ∃ r c b, ds = [lineD r, c] ∧ IsCh r.ways.length c b ∧ R (.bl b)
theorem ok_is_change (T : Txt K mg w) : FnOk PG w K mg base (L2.CX PG w) 7 (He.ga K "is_change") (fdOf K ("is_change", none)) ["line", "change"] (spD K F_is_change) :=
  WL.fnD (k := 6) T.d_is_change sc_is_change (fun _ _ _ _ ⟨_, _, _, e, _⟩ => by rw [e] <;> rfl) fun cdv A outer s H E G ds R ex hr ⟨r, c, b, e, ch, k⟩ => by
    subst e
    refine ⟨_, (pss_cons (ps_if (PW.pt (pw_or (pt_not (pt_val (pe_callB call_isi (by rfl) T.f_isinstance (by decide +kernel) (pa_cons (pv 1) (pa_cons (pe_bltn (v := .ty "tuple") (u := .type "tuple") rfl T.f_tuple (by kernel_rfl) rfl) pa_nil))))) (pw_or (pt_cmpR op_lt (pe_callB call_len (by rfl) T.f_len (by decide +kernel) (pa_cons (pv 1) pa_nil)) pe_int (nomark _)) (pw_or1 (pt_not (pt_val (pe_callB call_isi (by rfl) T.f_isinstance (by decide +kernel) (pa_cons (pe_ix ix_tup (pv 1) pe_int (fun _ _ => rfl)) (pa_cons (pe_bltn (v := .ty "str") (u := .type "str") rfl T.f_str (by kernel_rfl) rfl) pa_nil))))))))) (pss_one (ps_ret pe_bl)) pss_nil)
    (pss_cons (ps_if (pt_cmpR op_in_seq (pe_ix ix_tup (pv 1) pe_int (fun _ _ => rfl)) (pe_glob (v := V.ref (He.ga K "PLAIN_CHANGES")) rfl T.g_PLAIN_CHANGES rfl) rfl) (pss_one (ps_ret (pe_and (pe_cmpR op_eq (pe_callB call_len (by rfl) T.f_len (by decide +kernel) (pa_cons (pv 1) pa_nil)) pe_int (nomark _)) (pe_one (pe_call (ok_is_integer T) (hr.mono (by decide)) rfl T.g_is_integer T.d_is_integer.kp (bi_is_integer T) .nil passN (pa_cons (pe_ix ix_tup (pv 1) pe_int (fun _ _ => rfl)) pa_nil)))))) pss_nil)
    (pss_cons (ps_if (PW.pt (pw_or (pt_cmpR op_ne (pe_ix ix_tup (pv 1) pe_int (fun _ _ => rfl)) pe_str (nomark _)) (pw_or (pt_cmpR op_ne (pe_callB call_len (by rfl) T.f_len (by decide +kernel) (pa_cons (pv 1) pa_nil)) pe_int (nomark _)) (pw_or1 (pt_not (pt_val (pe_call (ok_is_between T) (hr.mono (by decide)) rfl T.g_is_between T.d_is_between.kp (bi_is_between T) .nil passN (pa_cons (pe_ix ix_tup (pv 1) pe_int (fun _ _ => rfl)) (pa_cons pe_int (pa_cons (pe_op op_sub (pe_callB call_len (by rfl) T.f_len (by decide +kernel) (pa_cons (pe_fld (pv 0) rfl) pa_nil)) pe_int) pa_nil)))))))))) (pss_one (ps_ret pe_bl)) pss_nil)
    (pss_one (ps_ret (pe_or (pe_cmpR op_isN (pe_ix ix_tup (pv 1) pe_int (fun _ _ => rfl)) pe_non (nomark _)) (pe_one (pe_call (ok_is_integer T) (hr.mono (by decide)) rfl T.g_is_integer T.d_is_integer.kp (bi_is_integer T) .nil passN (pa_cons (pe_ix ix_tup (pv 1) pe_int (fun _ _ => rfl)) pa_nil))))))))), ?_⟩
    dsimp only [cxOf]
    have c1 := T.c_Line
    have n1 := T.n_Line_ways
    have kp := T.kpla
    cases ch with
    | non =>
      repeat' walk_at "evt"
      exact k
    | tru =>
      repeat' walk_at "evt"
      exact k
    | set i hz =>
      simp only [PLAL, List.mem_cons, List.not_mem_nil, or_false] at hz
      rcases hz with rfl | rfl | rfl | rfl | rfl | rfl
      all_goals repeat' walk_at "evt"
      all_goals exact k
    | beg i b =>
      repeat' walk_at "evt"
      rw [List.length_map]
      cases hb : btw (.int i) 0 (r.ways.length - 1) with
      | false =>
        rw [hb] at k
        repeat' walk_at "evt"
        exact k
      | true =>
        rw [hb] at k
        cases b <;> repeat' walk_at "evt"
        all_goals exact k
/-- a bound put into the tail of the bounds, by its order -/
def insB (l : List Int) (b : Int) : List Int := if b ∈ l then l else l.take (l.filter (fun x => decide (x < b))).length ++ [b] ++ l.drop (l.filter (fun x => decide (x < b))).length
theorem inV_int (b : Int) : ∀ l : List Int, inV (V.int b) (l.map V.int) = decide (b ∈ l)
  | [] => by simp [inV]
  | a :: r => by
    have h := inV_int b r
    simp only [inV, List.map_cons, List.any_cons] at h ⊢
    rw [h]
    by_cases e : b = a
    · subst e; simp [eqV]
    · have e' : ¬ a = b := fun z => e z.symm
      simp [eqV, e, e']
theorem insB_len {l : List Int} (b : Int) : (insB l b).length ≤ l.length + 1 ∧ 1 ≤ (insB l b).length := by
  unfold insB
  split
  · rename_i h
    exact ⟨Nat.le_succ _, List.length_pos_of_mem h⟩
  · simp only [List.length_append, List.length_take, List.length_drop, List.length_cons, List.length_nil]
    omega
abbrev F_with_bound : Fn1 := fun _ ds R ex => ∃ s bs b, ds = [roomD s bs, .int b] ∧ bs.length ≤ 4 ∧ 1 ≤ bs.length ∧ btw (.int s) 1 60 = true ∧ (okS (insB (bs.drop 1) b) → R (roomD s (insB (bs.drop 1) b))) ∧ (¬ okS (insB (bs.drop 1) b) → ∀ i, ex "BadSteps" "index" (.int i))
theorem ok_with_bound (T : Txt K mg w) : FnOk PG w K mg base (L2.CX PG w) 20 (He.ga K "with_bound") (fdOf K ("with_bound", none)) ["room", "bound"] (spD K F_with_bound) :=
  WL.fnD (k := 19) T.d_with_bound sc_with_bound (fun _ _ _ _ ⟨_, _, _, e, _⟩ => by rw [e] <;> rfl) fun cdv A outer s H E G ds R ex hr ⟨sz, bs, b, e, h1, h2, h3, k1, k2⟩ => by
    subst e
    refine ⟨_, (pss_cons (ps_set (i := 2) sc_with_bound.nd rfl (Or.inl rfl) (pe_callTy call_list_of (by rfl) T.f_list (by decide +kernel) (pa_cons (pe_slice sl_tupA (pe_fld (pe_fld (pv 0) rfl) rfl) (po_some pe_int) po_none) pa_nil)))
    (pss_cons (ps_if (pt_cmpR op_notIn_seq (pv 1) (pv 2) rfl) (pss_cons (ps_set (i := 3) sc_with_bound.nd rfl (Or.inl rfl) (pe_callB call_len (by rfl) T.f_len (by decide +kernel) (pa_cons (pe_lc (own := [("other", 4)]) rfl sc_with_bound.nd (pi_list (pv 2)) (blkOk_by (own := [("other", 4)]) (N := ["room", "bound", "bounds", "place", "other"]) (sc := defScope s_with_bound) (by decide +kernel)) (fun _ _ _ _ _ => (pg_name (i := 4) sc_with_bound.nd rfl (Or.inl rfl))) (fun _ _ _ _ _ => (pts_one (pt_cmpR op_lt (pv 4) (pv 1) (nomark _)))) (fun _ _ _ _ _ => (pv 4))) pa_nil)))
    (pss_one (ps_expr (pe_bm PySem.F.plainAttrs_list PySem.F.slot_list_insert PySem.F.type_list_insert mt_insert (pv 2) (pa_cons (pv 3) (pa_cons (pv 1) pa_nil)))))) pss_nil)
    (pss_one (ps_ret (pe_make T.mk_Room (ok_Room__init__ T) (hr.mono (by decide)) rfl T.g_Room (bi_Room__init__ T) .nil (passR rfl rfl rfl rfl) (pa_cons (pe_fld (pv 0) rfl) (pa_cons (pe_make T.mk_Steps (ok_Steps__init__ T) (hr.mono (by decide)) rfl T.g_Steps (bi_Steps__init__ T) .nil (passR rfl rfl rfl rfl) (pa_cons (pv 2) pa_nil)) pa_nil))))))), ?_⟩
    dsimp only [cxOf]
    have c1 := T.c_Room
    have n1 := T.n_Room_size
    have n2 := T.n_Room_steps
    have c2 := T.c_Steps
    have n3 := T.n_Steps_bounds
    refine st_seq (st_asgO (eo_list ?_))
    refine ev_slT ?_
    repeat' walk_at "evt"
    refine es_some (ev_int ⟨_, rfl, es_none ⟨_, rfl, _, .inr rfl, ?_⟩⟩)
    rw [cut_tail, ← List.map_drop]
    have hin : inV (D.int b).v (((bs.drop 1).map D.int).map D.v) = decide (b ∈ bs.drop 1) := by
      rw [List.map_map]
      exact inV_int b _
    have hfl : ((bs.drop 1).map D.int).all D.flat = true := by
      rw [List.all_map]
      exact List.all_eq_true.mpr fun _ _ => rfl
    have hsz : (bs.drop 1).length + 1 ≤ 4 := by rw [List.length_drop]; omega
    obtain ⟨i1, i2⟩ := insB_len (l := bs.drop 1) b
    by_cases hb : b ∈ bs.drop 1
    · have e1 : insB (bs.drop 1) b = bs.drop 1 := if_pos hb
      rw [e1] at k1 k2 i1 i2
      refine st_seq (st_if (et_own 2 rfl ?_))
      repeat' walk_at "evt"
      rw [if_pos rfl, hin, decide_eq_true hb]
      refine iff' rfl (st_next ?_)
      refine st_freeze 2 rfl ?_
      repeat' walk_at "evt"
      refine ⟨⟨i2, by omega⟩, fun ok => ?_, k2⟩
      repeat' walk_at "evt"
      exact .inl ⟨h3, k1 ok⟩
    · have e1 : insB (bs.drop 1) b = _ := if_neg hb
      rw [e1] at k1 k2 i1 i2
      refine st_seq (st_if (et_own 2 rfl ?_))
      repeat' walk_at "evt"
      rw [if_pos rfl, hin, decide_eq_false hb]
      refine ift rfl (st_seq (st_asg (ev_own 2 rfl ?_)))
      refine ev_len (ev_mapF ?_)
      repeat' walk_at "evt"
      refine ⟨by rw [List.length_map]; omega, fun y => match y with
        | .int i => decide (i < b)
        | _ => false, id, ?_, ?_⟩
      · intro y hy
        obtain ⟨j, _, rfl⟩ := List.mem_map.mp hy
        repeat' walk_at "evt"
        intro _
        repeat' walk_at "evt"
      · have hc : (List.map id (List.filter (fun y => match y with
          | D.int i => decide (i < b)
          | _ => false) (List.map D.int (List.drop 1 bs)))).length = ((bs.drop 1).filter fun x => decide (x < b)).length := by
          rw [List.length_map, List.filter_map, List.length_map]
          rfl
        refine ⟨_, congrArg some hc, rfl, ?_⟩
        have hn := List.length_filter_le (fun x => decide (x < b)) (bs.drop 1)
        generalize ((bs.drop 1).filter fun x => decide (x < b)).length = n at hn k1 k2 i1 i2 ⊢
        refine st_ins (i := 2) rfl (by rw [List.length_map]; omega) ?_
        repeat' walk_at "evt"
        refine ⟨by omega, by omega, ?_⟩
        show StP _ _ _ _
        refine st_freeze 2 rfl ?_
        have hl : ((bs.drop 1).map D.int).take ((n : Int).toNat) ++ [D.int b] ++ ((bs.drop 1).map D.int).drop ((n : Int).toNat) = ((bs.drop 1).take n ++ [b] ++ (bs.drop 1).drop n).map D.int := by
          simp only [Int.toNat_natCast, List.map_append, List.map_take, List.map_drop, List.map_cons, List.map_nil]
        rw [hl]
        repeat' walk_at "evt"
        refine ⟨⟨i2, by omega⟩, fun ok => ?_, k2⟩
        repeat' walk_at "evt"
        exact .inl ⟨h3, k1 ok⟩
end
end WK
end
section
set_option Elab.async false
set_option linter.all false
set_option maxRecDepth 100000
set_option maxHeartbeats 400000
/-! The law's defs over data: the draws. -/
local macro_rules | `(tactic| walk_at "ev") => `(tactic| first
  | (with_reducible refine WL.st_seq ?_) | (with_reducible refine WL.st_ret ?_) | (with_reducible refine WL.st_retN ?_) | (with_reducible refine WL.st_next ?_) | (with_reducible refine WL.st_if ?_)
  | (with_reducible refine WL.et_and ?_) | (with_reducible refine WL.et_or ?_) | (with_reducible refine WL.et_not ?_) | (with_reducible refine WL.et_test ?_) | (with_reducible refine WL.et_B ?_)
  | (with_reducible refine WL.ev_andV ?_) | (with_reducible refine WL.ev_orV ?_) | (with_reducible refine WL.ev_notV ?_) | (with_reducible refine WL.ev_if ?_)
  | (with_reducible refine WL.ev_v ?_) | (with_reducible refine WL.ev_int ?_) | (with_reducible refine WL.ev_str ?_) | (with_reducible refine WL.ev_non ?_) | (with_reducible refine WL.ev_bl ?_)
  | (with_reducible refine WL.ea_nil ?_) | (with_reducible refine WL.ea_cons ?_) | (with_reducible refine WL.ev_tup ?_)
  | (with_reducible refine WL.ev_make ?_) | (with_reducible refine WL.ev_makeN ?_) | (with_reducible refine WL.ev_call ?_) | (with_reducible refine WL.ev_callN ?_) | (with_reducible refine WL.ev_meth ?_) | (with_reducible refine WL.ev_methN ?_)
  | (with_reducible refine WL.ev_isi (.ty _) ?_) | (with_reducible refine WL.ev_isi (.own _) ?_) | (with_reducible refine WL.ev_isiT (.ty _) (.ty _) ?_)
  | (with_reducible refine WL.ev_len ?_) | (with_reducible refine WL.ev_all ?_) | (with_reducible refine WL.ev_any ?_) | (with_reducible refine WL.ev_tuple ?_) | (with_reducible refine WL.ev_listD ?_) | (with_reducible refine WL.ev_map ?_) | (with_reducible refine WL.ei_tup ?_) | (with_reducible refine WL.ei_list ?_) | (with_reducible refine WL.ei_str ?_) | (with_reducible refine WL.ei_zip ?_) | (with_reducible refine WL.ei_seqV ?_) | (with_reducible refine WL.ei_enumA ?_) | (with_reducible refine WL.ev_eqS ?_) | (with_reducible refine WL.ev_inS ?_)
  | (with_reducible refine WL.ev_chain ?_) | (with_reducible refine WL.ev_chain3 ?_) | (with_reducible refine WL.ev_opB ?_) | (with_reducible refine WL.ev_opI ?_) | (with_reducible refine WL.ev_eq ?_) | (with_reducible refine WL.ev_ne ?_) | (with_reducible refine WL.ev_isN ?_) | (with_reducible refine WL.ev_notN ?_)
  | (with_reducible refine WL.ev_ixL ?_) | (with_reducible refine WL.ev_ixT ?_) | (with_reducible refine WL.ev_ixD ?_) | (with_reducible refine WL.ev_kstr (by assumption) ?_) | (with_reducible refine WL.ev_eqG ?_) | (with_reducible refine WL.ev_in ?_) | (with_reducible refine WL.st_raise ?_) | (with_reducible refine WL.st_fl ?_) | (with_reducible refine WL.ev_fld ?_)
  | (with_reducible refine WK.ty_int (by assumption) ?_ ?_) | (with_reducible refine WK.ty_bool (by assumption) ?_ ?_) | (with_reducible refine WK.ty_str (by assumption) ?_ ?_) | (with_reducible refine WK.ty_tup (by assumption) ?_ ?_) | (with_reducible refine WK.ty_seq (by assumption) ?_ ?_) | (with_reducible refine WK.ty_own (by assumption) ?_ ?_ ?_ ?_; focus (simp [WK.CLS]; done))
  | (show WK.Kn _; first | assumption | trivial | (simp [WK.Kn, WK.CLS]; done)) | (show ∀ l, _ ≠ WL.D.dic l; intro _ h; cases h)
  | (with_reducible refine WL.st_asg ?_) | (with_reducible refine WL.st_asgT (js := List.range 64) ?_) | (with_reducible refine WL.tg_tu ?_) | (with_reducible refine WL.tg_cons ?_) | (with_reducible refine WL.tg_nil ?_) | (with_reducible refine WL.tg_name (by first | decide | simp) ?_)
  | refine WL.ift rfl ?_ | refine WL.iff' rfl ?_
  | refine And.intro (by first | assumption | trivial : WK.Kn _) ?_
  | refine ⟨_, _, _, rfl, (by assumption : L2.Cls _ _), (by assumption : L2.NoAttr _ _ _), (by first | rfl | exact Nat.le_of_ble_eq_true rfl), ?_⟩
  | refine ⟨_, rfl, ?_⟩ | refine ⟨_, _, rfl, rfl, ?_⟩ | refine ⟨_, _, rfl, (by assumption : _ ∨ _), ?_⟩ | refine ⟨_, _, rfl, ?_⟩ | refine ⟨_, _, _, rfl, ?_⟩ | refine ⟨_, _, _, _, rfl, ?_⟩ | refine ⟨_, _, _, rfl, rfl, (by first | assumption | rfl : WL.atD _ _ = some _), ?_⟩ | refine ⟨_, _, _, rfl, rfl, rfl, ?_⟩ | refine And.intro rfl ?_ | refine And.intro (by assumption) ?_ | refine And.intro (Nat.le_of_ble_eq_true rfl) ?_ | exact rfl)
local macro_rules | `(tactic| walk_at "evs") => `(tactic| first | walk_at "ev" | (with_reducible refine WL.ift ?_ ?_; focus (first | assumption | (simp [*]; done) | (simp; omega))) | (with_reducible refine WL.iff' ?_ ?_; focus (first | assumption | (simp [*]; done) | (simp; omega))))
local macro_rules | `(tactic| walk_at "evb") => `(tactic| first | walk_at "ev" | (with_reducible refine WL.ifb (fun _ => ?_) (fun _ => ?_)))
local macro_rules | `(tactic| walk_at "evt") => `(tactic| first | walk_at "evs" | refine ⟨_, Or.inl rfl, ?_⟩ | refine ⟨_, Or.inr rfl, ?_⟩ | fail)
local macro_rules | `(tactic| walk_at "evu") => `(tactic| first | (with_reducible refine WL.ev_ofl ?_; refine ⟨_, _, _, _, rfl, (by assumption : L2.Cls _ _), (by assumption : L2.NoAttr _ _ _), rfl, ?_⟩) | walk_at "evt" | (with_reducible refine WL.ev_opC ?_) | (with_reducible refine WL.ev_dget ?_) | (with_reducible refine WL.ev_ofl ?_) | (with_reducible refine WL.ev_makeK ?_) | fail)
local macro_rules | `(tactic| walk_at "evc") => `(tactic| first | assumption | omega | fail)
local macro_rules | `(tactic| walk_at "evd") => `(tactic| first
  | (with_reducible refine WL.ev_drixV ?_; refine ⟨_, _, rfl, (by assumption), ?_⟩) | (with_reducible refine WL.ev_scixV ?_; refine ⟨_, _, rfl, (by assumption), ?_⟩) | (with_reducible refine WL.st_drsetV ?_; refine ⟨_, _, rfl, (by assumption), by omega, by omega, ?_⟩) | (with_reducible refine WL.ev_sclenV ?_; refine ⟨_, _, rfl, (by assumption), ?_⟩)
  | refine ⟨_, rfl, Int.emod_nonneg _ (by omega), Int.emod_lt_of_pos _ (by omega), fun _ => ?_⟩ | refine ⟨_, rfl, (by omega : (0 : Int) ≤ _), (by omega), fun _ => ?_⟩
  | walk_at "ev" | (with_reducible refine WL.ev_opC ?_) | (with_reducible refine WL.ev_intI ?_) | (with_reducible refine WL.ev_max2 ?_)
  | refine And.intro (WL.pos_of (by walk_at "evc"; done)) ?_ | refine And.intro (WL.cdiv_of (by walk_at "evc"; done) (by walk_at "evc"; done)) ?_ | refine And.intro (WL.cmul_l (by walk_at "evc"; done) (by walk_at "evc"; done)) ?_ | refine And.intro (WL.cmul_r (by walk_at "evc"; done) (by walk_at "evc"; done)) ?_
  | (with_reducible refine WL.ifd (fun _ => ?_) (fun _ => ?_)) | (with_reducible refine WL.ifb (fun _ => ?_) (fun _ => ?_)) | fail)
namespace WK
open PySem PySem.Spec PyProof.Rows L2 WL
section
variable {K : PySem.W.Frag} {mg : Str → Option Value} {w : World} {base : Heap}
/-- a draw below the limit: any number of these -/
abbrev F__law_draw : Fn1 := fun G ds R _ => ∃ sc st lim, ds = [.raw sc, .raw st, .int lim] ∧ G.dr = some (sc, st) ∧ 0 < lim ∧ lim < 1073741824 ∧ ∀ k : Int, 0 ≤ k → k < lim → R (.int k)

theorem ok__law_draw (T : Txt K mg w) : FnOk PG w K mg base (L2.CX PG w) 3 (He.ga K "_law_draw") (fdOf K ("_law_draw", none)) ["_law_script", "_law_state", "_law_limit"] (spD K F__law_draw) :=
  WL.fnD (k := 2) T.d__law_draw sc__law_draw (fun _ _ _ _ ⟨_, _, _, e, _⟩ => by rw [e] <;> rfl) fun cdv A outer s H E G ds R ex hr ⟨sc, st, lim, e, hG, l0, l1, k⟩ => by
    subst e
    refine ⟨_, (pss_cons (ps_asg (pe_op op_add (pe_ix ix_list (pv 1) pe_int (fun _ _ => rfl)) pe_int) (pg_sub (pv 1) pe_int set_list))
    (pss_cons (ps_if (PW.pt (pw_and (pt_cmpR op_eq (pe_ix ix_list (pv 1) pe_int (fun _ _ => rfl)) pe_int (nomark _)) (pw_and1 (pt_cmpR op_gt (pe_ix ix_list (pv 1) pe_int (fun _ _ => rfl)) pe_int (nomark _))))) (pss_cons (ps_set (i := 3) sc__law_draw.nd rfl (Or.inl rfl) (pe_op op_mod (pe_callTy call_int1 (by rfl) T.f_int (by decide +kernel) (pa_cons (pe_ix ix_list (pv 1) pe_int (fun _ _ => rfl)) pa_nil)) (pv 2)))
    (pss_cons (ps_asg (pe_op op_fdiv (pe_ix ix_list (pv 1) pe_int (fun _ _ => rfl)) (pv 2)) (pg_sub (pv 1) pe_int set_list))
    (pss_one (ps_ret (pv 3))))) pss_nil)
    (pss_cons (ps_asg pe_int (pg_sub (pv 1) pe_int set_list))
    (pss_cons (ps_set (i := 4) sc__law_draw.nd rfl (Or.inl rfl) pe_int)
    (pss_cons (ps_if (pt_cmpR op_gt (pe_callB call_len (by rfl) T.f_len (by decide +kernel) (pa_cons (pv 0) pa_nil)) pe_int (nomark _)) (pss_one (ps_set (i := 4) sc__law_draw.nd rfl (Or.inl rfl) (pe_ix ix_list (pv 0) (pe_op op_mod (pe_callTy call_int1 (by rfl) T.f_int (by decide +kernel) (pa_cons (pe_ix ix_list (pv 1) pe_int (fun _ _ => rfl)) pa_nil)) (pe_callB call_len (by rfl) T.f_len (by decide +kernel) (pa_cons (pv 0) pa_nil))) (fun _ _ => rfl)))) pss_nil)
    (pss_cons (ps_asg (pe_op op_add (pe_ix ix_list (pv 1) pe_int (fun _ _ => rfl)) pe_int) (pg_sub (pv 1) pe_int set_list))
    (pss_cons (ps_set (i := 5) sc__law_draw.nd rfl (Or.inl rfl) (pe_op op_mul (pe_op op_mod (pe_callTy call_int1 (by rfl) T.f_int (by decide +kernel) (pa_cons (pe_ix ix_list (pv 1) pe_int (fun _ _ => rfl)) pa_nil)) pe_int) pe_int))
    (pss_cons (ps_set (i := 5) sc__law_draw.nd rfl (Or.inl rfl) (pe_op op_add (pe_op op_add (pe_op op_add (pv 5) (pe_op op_mod (pe_callTy call_int1 (by rfl) T.f_int (by decide +kernel) (pa_cons (pv 4) pa_nil)) pe_int)) (pe_op op_mul pe_int (pe_ix ix_list (pv 1) pe_int (fun _ _ => rfl)))) pe_int))
    (pss_cons (ps_asg (pe_op op_mod (pe_callTy call_int1 (by rfl) T.f_int (by decide +kernel) (pa_cons (pv 5) pa_nil)) pe_int) (pg_sub (pv 1) pe_int set_list))
    (pss_cons (ps_set (i := 5) sc__law_draw.nd rfl (Or.inl rfl) (pe_op op_mod (pe_callTy call_int1 (by rfl) T.f_int (by decide +kernel) (pa_cons (pe_op op_add (pe_op op_mul (pe_ix ix_list (pv 1) pe_int (fun _ _ => rfl)) pe_int) (pe_ix ix_list (pv 1) pe_int (fun _ _ => rfl))) pa_nil)) pe_int))
    (pss_one (ps_ret (pe_op op_mod (pe_callTy call_int1 (by rfl) T.f_int (by decide +kernel) (pa_cons (pe_op op_fdiv (pv 5) pe_int) pa_nil)) (pv 2)))))))))))))), ?_⟩
    dsimp only [cxOf]
    have l2 : ∀ i : Int, 0 ≤ i % lim ∧ i % lim < lim := fun i => ⟨Int.emod_nonneg _ (by omega), Int.emod_lt_of_pos _ l0⟩
    have e0 : (startD ["_law_script", "_law_state", "_law_limit", "_law_number", "_law_cell", "_law_mixed"] [D.raw sc, D.raw st, D.int lim]) = [Sl.d (.raw sc), .d (.raw st), .d (.int lim), .un, .un, .un] := rfl
    rw [e0]
    refine st_mid (fun δ' => δ' = [Sl.d (.raw sc), .d (.raw st), .d (.int lim), .un, .un, .un]) (by repeat' walk_at "evd") ?_
    rintro δ' rfl
    refine st_mid (fun δ' => δ' = [Sl.d (.raw sc), .d (.raw st), .d (.int lim), .un, .un, .un]) (st_ifA ?_ ?_ ?_) ?_
    · repeat' walk_at "evd"
      all_goals trivial
    · repeat' (first | with_reducible exact k _ (l2 _).1 (l2 _).2 | walk_at "evd")
    · repeat' walk_at "evd"
    rintro δ' rfl
    refine st_mid (fun δ' => δ' = [Sl.d (.raw sc), .d (.raw st), .d (.int lim), .un, .un, .un]) (by repeat' walk_at "evd") ?_
    rintro δ' rfl
    refine st_mid (fun δ' => δ' = [Sl.d (.raw sc), .d (.raw st), .d (.int lim), .un, .d (.int 0), .un]) (by repeat' walk_at "evd") ?_
    rintro δ' rfl
    refine st_mid (fun δ' => ∃ c : Int, δ' = [Sl.d (.raw sc), .d (.raw st), .d (.int lim), .un, .d (.int c), .un]) ?_ ?_
    · repeat' (first | exact ⟨_, rfl⟩ | walk_at "evd")
    rintro δ' ⟨c, rfl⟩
    repeat' (first | with_reducible exact k _ (l2 _).1 (l2 _).2 | walk_at "evd")
end
end WK
end
section
set_option Elab.async false
set_option linter.all false
set_option maxRecDepth 100000
set_option maxHeartbeats 400000
/-! The law's defs over data: mails, rising numbers, boxes, ways drawn. -/
local macro_rules | `(tactic| walk_at "ev") => `(tactic| first
  | (with_reducible refine WL.st_seq ?_) | (with_reducible refine WL.st_ret ?_) | (with_reducible refine WL.st_retN ?_) | (with_reducible refine WL.st_next ?_) | (with_reducible refine WL.st_if ?_)
  | (with_reducible refine WL.et_and ?_) | (with_reducible refine WL.et_or ?_) | (with_reducible refine WL.et_not ?_) | (with_reducible refine WL.et_test ?_) | (with_reducible refine WL.et_B ?_)
  | (with_reducible refine WL.ev_andV ?_) | (with_reducible refine WL.ev_orV ?_) | (with_reducible refine WL.ev_notV ?_) | (with_reducible refine WL.ev_if ?_)
  | (with_reducible refine WL.ev_v ?_) | (with_reducible refine WL.ev_int ?_) | (with_reducible refine WL.ev_str ?_) | (with_reducible refine WL.ev_non ?_) | (with_reducible refine WL.ev_bl ?_)
  | (with_reducible refine WL.ea_nil ?_) | (with_reducible refine WL.ea_cons ?_) | (with_reducible refine WL.ev_tup ?_)
  | (with_reducible refine WL.ev_make ?_) | (with_reducible refine WL.ev_makeN ?_) | (with_reducible refine WL.ev_call ?_) | (with_reducible refine WL.ev_callN ?_) | (with_reducible refine WL.ev_meth ?_) | (with_reducible refine WL.ev_methN ?_)
  | (with_reducible refine WL.ev_isi (.ty _) ?_) | (with_reducible refine WL.ev_isi (.own _) ?_) | (with_reducible refine WL.ev_isiT (.ty _) (.ty _) ?_)
  | (with_reducible refine WL.ev_len ?_) | (with_reducible refine WL.ev_all ?_) | (with_reducible refine WL.ev_any ?_) | (with_reducible refine WL.ev_tuple ?_) | (with_reducible refine WL.ev_listD ?_) | (with_reducible refine WL.ev_map ?_) | (with_reducible refine WL.ei_tup ?_) | (with_reducible refine WL.ei_list ?_) | (with_reducible refine WL.ei_str ?_) | (with_reducible refine WL.ei_zip ?_) | (with_reducible refine WL.ei_seqV ?_) | (with_reducible refine WL.ei_enumA ?_) | (with_reducible refine WL.ev_eqS ?_) | (with_reducible refine WL.ev_inS ?_)
  | (with_reducible refine WL.ev_chain ?_) | (with_reducible refine WL.ev_chain3 ?_) | (with_reducible refine WL.ev_opB ?_) | (with_reducible refine WL.ev_opI ?_) | (with_reducible refine WL.ev_eq ?_) | (with_reducible refine WL.ev_ne ?_) | (with_reducible refine WL.ev_isN ?_) | (with_reducible refine WL.ev_notN ?_)
  | (with_reducible refine WL.ev_ixL ?_) | (with_reducible refine WL.ev_ixT ?_) | (with_reducible refine WL.ev_ixD ?_) | (with_reducible refine WL.ev_kstr (by assumption) ?_) | (with_reducible refine WL.ev_eqG ?_) | (with_reducible refine WL.ev_in ?_) | (with_reducible refine WL.st_raise ?_) | (with_reducible refine WL.st_fl ?_) | (with_reducible refine WL.ev_fld ?_)
  | (with_reducible refine WK.ty_int (by assumption) ?_ ?_) | (with_reducible refine WK.ty_bool (by assumption) ?_ ?_) | (with_reducible refine WK.ty_str (by assumption) ?_ ?_) | (with_reducible refine WK.ty_tup (by assumption) ?_ ?_) | (with_reducible refine WK.ty_seq (by assumption) ?_ ?_) | (with_reducible refine WK.ty_own (by assumption) ?_ ?_ ?_ ?_; focus (simp [WK.CLS]; done))
  | (show WK.Kn _; first | assumption | trivial | (simp [WK.Kn, WK.CLS]; done)) | (show ∀ l, _ ≠ WL.D.dic l; intro _ h; cases h)
  | (with_reducible refine WL.st_asg ?_) | (with_reducible refine WL.st_asgT (js := List.range 64) ?_) | (with_reducible refine WL.tg_tu ?_) | (with_reducible refine WL.tg_cons ?_) | (with_reducible refine WL.tg_nil ?_) | (with_reducible refine WL.tg_name (by first | decide | simp) ?_)
  | refine WL.ift rfl ?_ | refine WL.iff' rfl ?_
  | refine And.intro (by first | assumption | trivial : WK.Kn _) ?_
  | refine ⟨_, _, _, rfl, (by assumption : L2.Cls _ _), (by assumption : L2.NoAttr _ _ _), (by first | rfl | exact Nat.le_of_ble_eq_true rfl), ?_⟩
  | refine ⟨_, rfl, ?_⟩ | refine ⟨_, _, rfl, rfl, ?_⟩ | refine ⟨_, _, rfl, (by assumption : _ ∨ _), ?_⟩ | refine ⟨_, _, rfl, ?_⟩ | refine ⟨_, _, _, rfl, ?_⟩ | refine ⟨_, _, _, _, rfl, ?_⟩ | refine ⟨_, _, _, rfl, rfl, (by first | assumption | rfl : WL.atD _ _ = some _), ?_⟩ | refine ⟨_, _, _, rfl, rfl, rfl, ?_⟩ | refine And.intro rfl ?_ | refine And.intro (by assumption) ?_ | refine And.intro (Nat.le_of_ble_eq_true rfl) ?_ | exact rfl)
local macro_rules | `(tactic| walk_at "evs") => `(tactic| first | walk_at "ev" | (with_reducible refine WL.ift ?_ ?_; focus (first | assumption | (simp [*]; done) | (simp; omega))) | (with_reducible refine WL.iff' ?_ ?_; focus (first | assumption | (simp [*]; done) | (simp; omega))))
local macro_rules | `(tactic| walk_at "evb") => `(tactic| first | walk_at "ev" | (with_reducible refine WL.ifb (fun _ => ?_) (fun _ => ?_)))
local macro_rules | `(tactic| walk_at "evt") => `(tactic| first | walk_at "evs" | refine ⟨_, Or.inl rfl, ?_⟩ | refine ⟨_, Or.inr rfl, ?_⟩ | fail)
local macro_rules | `(tactic| walk_at "evu") => `(tactic| first | (with_reducible refine WL.ev_ofl ?_; refine ⟨_, _, _, _, rfl, (by assumption : L2.Cls _ _), (by assumption : L2.NoAttr _ _ _), rfl, ?_⟩) | walk_at "evt" | (with_reducible refine WL.ev_opC ?_) | (with_reducible refine WL.ev_dget ?_) | (with_reducible refine WL.ev_ofl ?_) | (with_reducible refine WL.ev_makeK ?_) | fail)
local macro_rules | `(tactic| walk_at "evc") => `(tactic| first | assumption | omega | fail)
local macro_rules | `(tactic| walk_at "evd") => `(tactic| first
  | (with_reducible refine WL.ev_drixV ?_; refine ⟨_, _, rfl, (by assumption), ?_⟩) | (with_reducible refine WL.ev_scixV ?_; refine ⟨_, _, rfl, (by assumption), ?_⟩) | (with_reducible refine WL.st_drsetV ?_; refine ⟨_, _, rfl, (by assumption), by omega, by omega, ?_⟩) | (with_reducible refine WL.ev_sclenV ?_; refine ⟨_, _, rfl, (by assumption), ?_⟩)
  | refine ⟨_, rfl, Int.emod_nonneg _ (by omega), Int.emod_lt_of_pos _ (by omega), fun _ => ?_⟩ | refine ⟨_, rfl, (by omega : (0 : Int) ≤ _), (by omega), fun _ => ?_⟩
  | refine ⟨_, _, _, rfl, (by assumption), (by walk_at "evc"; done), (by walk_at "evc"; done), fun _ _ _ => ?_⟩ | refine ⟨_, rfl, (by walk_at "evc"; done : -(2 ^ 62) ≤ _), (by walk_at "evc"; done), ?_⟩
  | walk_at "ev" | (with_reducible refine WL.ev_opC ?_) | (with_reducible refine WL.ev_intI ?_) | (with_reducible refine WL.ev_max2 ?_) | (with_reducible refine WL.ei_range1 ?_) | (with_reducible refine WL.ev_catT ?_) | (with_reducible refine WL.ev_lst ?_)
  | refine And.intro (WL.pos_of (by walk_at "evc"; done)) ?_ | refine And.intro (WL.cdiv_of (by walk_at "evc"; done) (by walk_at "evc"; done)) ?_ | refine And.intro (WL.cmul_l (by walk_at "evc"; done) (by walk_at "evc"; done)) ?_ | refine And.intro (WL.cmul_r (by walk_at "evc"; done) (by walk_at "evc"; done)) ?_
  | (with_reducible refine WL.ifd (fun _ => ?_) (fun _ => ?_)) | (with_reducible refine WL.ifb (fun _ => ?_) (fun _ => ?_)) | fail)
namespace WK
open PySem PySem.Spec PyProof.Rows L2 WL
theorem atD_lt {l : List D} {k : Int} (h0 : 0 ≤ k) (h1 : k < l.length) : ∃ z, atD l k = some z ∧ z ∈ l := by
  have hk : k.toNat < l.length := by omega
  have e : ixN l.length k = some k.toNat := by
    unfold ixN
    rw [if_pos h0, if_pos h1]
  refine ⟨l[k.toNat], ?_, List.getElem_mem hk⟩
  unfold atD
  rw [e]
  exact List.getElem?_eq_getElem hk
theorem asc_app : ∀ {l : List Int} {a b : Int}, asc (l ++ [a]) = true → a < b → asc (l ++ [a] ++ [b]) = true
  | [], a, b, _, h => by simp [asc, h]
  | [c], a, b, h1, h => by
    have h2 : c < a := by simpa [asc] using h1
    simp [asc, h2, h]
  | c :: d :: l, a, b, h1, h => by
    have h2 : (decide (c < d) && asc (d :: l ++ [a])) = true := h1
    rw [Bool.and_eq_true_iff] at h2
    have h3 := asc_app (l := d :: l) h2.2 h
    show (decide (c < d) && asc (d :: l ++ [a] ++ [b])) = true
    rw [h2.1, h3] <;> rfl
section
variable {K : PySem.W.Frag} {mg : Str → Option Value} {w : World} {base : Heap}
abbrev F__law_mail : Fn1 := fun G ds R _ => ∃ sc st, ds = [.raw sc, .raw st] ∧ G.dr = some (sc, st) ∧ ∀ r, goodM r → R (rowsD r)
theorem ok__law_mail (T : Txt K mg w) : FnOk PG w K mg base (L2.CX PG w) 5 (He.ga K "_law_mail") (fdOf K ("_law_mail", none)) ["_law_script", "_law_state"] (spD K F__law_mail) :=
  WL.fnD (k := 4) T.d__law_mail sc__law_mail (fun _ _ _ _ ⟨_, _, e, _⟩ => by rw [e] <;> rfl) fun cdv A outer s H E G ds R ex hr ⟨sc, st, e, hG, k⟩ => by
    subst e
    refine ⟨_, (pss_cons (ps_set (i := 2) sc__law_mail.nd rfl (Or.inl rfl) (pe_lst pa_nil))
    (pss_cons (ps_for (passes_of rfl) rfl (pi_range1 rfl T.f_range (pa_cons (pe_op op_add pe_int (pe_call (ok__law_draw T) (hr.mono (by decide)) rfl T.g__law_draw T.d__law_draw.kp (bi__law_draw T) .nil passN (pa_cons (pv 0) (pa_cons (pv 1) (pa_cons pe_int pa_nil))))) pa_nil)) (pg_name (i := 3) sc__law_mail.nd rfl (Or.inl rfl)) (pss_cons (ps_set (i := 4) sc__law_mail.nd rfl (Or.inl rfl) (pe_lst pa_nil))
    (pss_cons (ps_for (passes_of rfl) rfl (pi_range1 rfl T.f_range (pa_cons (pe_op op_add pe_int (pe_call (ok__law_draw T) (hr.mono (by decide)) rfl T.g__law_draw T.d__law_draw.kp (bi__law_draw T) .nil passN (pa_cons (pv 0) (pa_cons (pv 1) (pa_cons pe_int pa_nil))))) pa_nil)) (pg_name (i := 5) sc__law_mail.nd rfl (Or.inl rfl)) (pss_cons (ps_set (i := 6) sc__law_mail.nd rfl (Or.inl rfl) (pe_tup pa_nil))
    (pss_cons (ps_for (passes_of rfl) rfl (pi_range1 rfl T.f_range (pa_cons (pe_call (ok__law_draw T) (hr.mono (by decide)) rfl T.g__law_draw T.d__law_draw.kp (bi__law_draw T) .nil passN (pa_cons (pv 0) (pa_cons (pv 1) (pa_cons pe_int pa_nil)))) pa_nil)) (pg_name (i := 7) sc__law_mail.nd rfl (Or.inl rfl)) (pss_one (ps_set (i := 6) sc__law_mail.nd rfl (Or.inl rfl) (pe_op op_catA (pv 6) (pe_tup (pa_cons (pe_ix ix_list (pe_lst (pa_cons pe_str (pa_cons pe_str (pa_cons pe_str pa_nil)))) (pe_call (ok__law_draw T) (hr.mono (by decide)) rfl T.g__law_draw T.d__law_draw.kp (bi__law_draw T) .nil passN (pa_cons (pv 0) (pa_cons (pv 1) (pa_cons pe_int pa_nil)))) (fun _ _ => rfl)) pa_nil))))))
    (pss_one (ps_expr (pe_bm PySem.F.plainAttrs_list PySem.F.slot_list_append PySem.F.type_list_append mt_append (pv 4) (pa_cons (pe_tup (pa_cons (pv 6) (pa_cons (pe_call (ok__law_draw T) (hr.mono (by decide)) rfl T.g__law_draw T.d__law_draw.kp (bi__law_draw T) .nil passN (pa_cons (pv 0) (pa_cons (pv 1) (pa_cons pe_int pa_nil)))) pa_nil))) pa_nil)))))))
    (pss_one (ps_expr (pe_bm PySem.F.plainAttrs_list PySem.F.slot_list_append PySem.F.type_list_append mt_append (pv 2) (pa_cons (pv 4) pa_nil)))))))
    (pss_one (ps_ret (pv 2))))), ?_⟩
    dsimp only [cxOf]
    have e0 : (startD ["_law_script", "_law_state", "_law_rows", "_law_k", "_law_row", "_law_j", "_law_names", "_law_i"] [D.raw sc, D.raw st]) = [Sl.d (.raw sc), .d (.raw st), .un, .un, .un, .un, .un, .un] := rfl
    rw [e0]
    refine st_seq (st_asgO (eo_lst (ea_nil ⟨by decide, ?_⟩)))
    refine st_mid (fun δ' => ∃ r s3 s4 s5 s6 s7, goodM r ∧ δ' = [Sl.d (.raw sc), .d (.raw st), .own (r.map rowD), s3, s4, s5, s6, s7]) ?_ ?_
    · refine st_for (js := List.range 64) ?_
      repeat' walk_at "evd"
      rename_i q hq0 hq1
      refine ⟨fun n δ' => ∃ (r : List (List Lt)) (s3 s4 s5 s6 s7 : Sl), r.length = n ∧ (∀ l ∈ r, goodR l) ∧ δ' = [Sl.d (.raw sc), .d (.raw st), .own (r.map rowD), s3, s4, s5, s6, s7], ⟨[], _, _, _, _, _, rfl, (fun _ h => nomatch h), rfl⟩, ?_, ?_⟩
      · rintro n y δ' hy ⟨r, s3, s4, s5, s6, s7, hl, hr, rfl⟩
        obtain ⟨hn, rfl⟩ := rangeD_get hy
        refine tg_name (by decide) ?_
        refine st_seq (st_asgO (eo_lst (ea_nil ⟨by decide, ?_⟩)))
        refine st_mid (fun δ' => ∃ (l : List Lt) (s5 s6 s7 : Sl), goodR l ∧ δ' = [Sl.d (.raw sc), .d (.raw st), .own (r.map rowD), .d (.int (0 + (n : Nat))), .own (l.map letD), s5, s6, s7]) ?_ ?_
        · refine st_for (js := List.range 64) ?_
          repeat' walk_at "evd"
          rename_i q2 hq20 hq21
          refine ⟨fun m δ' => ∃ (l : List Lt) (s5 s6 s7 : Sl), l.length = m ∧ (∀ x ∈ l, goodL x) ∧ δ' = [Sl.d (.raw sc), .d (.raw st), .own (r.map rowD), .d (.int (0 + (n : Nat))), .own (l.map letD), s5, s6, s7], ⟨[], _, _, _, rfl, (fun _ h => nomatch h), rfl⟩, ?_, ?_⟩
          · rintro m y δ' hy ⟨l, s5, s6, s7, hl2, hr2, rfl⟩
            obtain ⟨hm, rfl⟩ := rangeD_get hy
            refine tg_name (by decide) ?_
            refine st_seq (st_asg (ev_tup (ea_nil ⟨by decide, ?_⟩)))
            refine st_mid (fun δ' => ∃ (ns : List Str) (s7 : Sl), ns.length ≤ 2 ∧ (∀ z ∈ ns, z ∈ nms) ∧ δ' = [Sl.d (.raw sc), .d (.raw st), .own (r.map rowD), .d (.int (0 + (n : Nat))), .own (l.map letD), .d (.int (0 + (m : Nat))), .d (.tup (ns.map D.str)), s7]) ?_ ?_
            · refine st_for (js := List.range 64) ?_
              repeat' walk_at "evd"
              rename_i q3 hq30 hq31
              refine ⟨fun t δ' => ∃ (ns : List Str) (s7 : Sl), ns.length = t ∧ (∀ z ∈ ns, z ∈ nms) ∧ δ' = [Sl.d (.raw sc), .d (.raw st), .own (r.map rowD), .d (.int (0 + (n : Nat))), .own (l.map letD), .d (.int (0 + (m : Nat))), .d (.tup (ns.map D.str)), s7], ⟨[], _, rfl, (fun _ h => nomatch h), rfl⟩, ?_, ?_⟩
              · rintro t y δ' hy ⟨ns, s7, hl3, hr3, rfl⟩
                obtain ⟨ht, rfl⟩ := rangeD_get hy
                repeat' walk_at "evd"
                rename_i q4 hq40 hq41
                obtain ⟨z, hz, hm⟩ := atD_lt (l := [D.str "x", D.str "y", D.str "z"]) hq40 hq41
                have hz2 : ∃ z0, z = .str z0 ∧ z0 ∈ nms := by
                  simp only [List.mem_cons, List.not_mem_nil, or_false] at hm
                  rcases hm with rfl | rfl | rfl
                  · exact ⟨_, rfl, by decide⟩
                  · exact ⟨_, rfl, by decide⟩
                  · exact ⟨_, rfl, by decide⟩
                obtain ⟨z0, rfl, hz0⟩ := hz2
                refine ⟨_, _, _, rfl, rfl, hz, ea_nil ⟨(by show 1 ≤ 100000; omega), _, _, rfl, rfl, ?_, ?_⟩⟩
                · rw [List.length_map, hl3]
                  show t + 1 ≤ 100000
                  omega
                · refine ⟨ns ++ [z0], .d (.int (0 + (t : Nat))), by rw [List.length_append, hl3] <;> rfl, fun x hx => ?_, ?_⟩
                  · rcases List.mem_append.mp hx with h | h
                    · exact hr3 x h
                    · rw [List.mem_singleton.mp h]; exact hz0
                  · show _ = _
                    rw [List.map_append] <;> rfl
              · rintro δ' ⟨ns, s7, hl3, hr3, rfl⟩
                refine ⟨ns, s7, ?_, hr3, rfl⟩
                rw [rangeD_len] at hl3
                omega
            · rintro δ' ⟨ns, s7, hl3, hr3, rfl⟩
              refine st_app (i := 4) rfl (by rw [List.length_map]; omega) ?_
              repeat' walk_at "evd"
              rename_i q5 hq50 hq51
              refine ⟨l ++ [⟨ns, q5⟩], .d (.int (0 + (m : Nat))), .d (.tup (ns.map D.str)), s7, by rw [List.length_append, hl2] <;> rfl, fun x hx => ?_, ?_⟩
              · rcases List.mem_append.mp hx with h | h
                · exact hr2 x h
                · rw [List.mem_singleton.mp h]; exact ⟨by show ns.length ≤ 4; omega, hr3, hq50, by show q5 ≤ 60; omega⟩
              · rw [List.map_append] <;> rfl
          · rintro δ' ⟨l, s5, s6, s7, hl2, hr2, rfl⟩
            rw [rangeD_len] at hl2
            exact ⟨l, s5, s6, s7, ⟨by omega, by omega, hr2⟩, rfl⟩
        · rintro δ' ⟨l, s5, s6, s7, gl, rfl⟩
          refine st_freeze 4 rfl ?_
          refine st_app (i := 2) rfl (by rw [List.length_map]; omega) ?_
          refine ev_v ⟨_, rfl, ?_⟩
          refine ⟨r ++ [l], .d (.int (0 + (n : Nat))), .d (.lst (l.map letD)), s5, s6, s7, by rw [List.length_append, hl] <;> rfl, fun x hx => ?_, ?_⟩
          · rcases List.mem_append.mp hx with h | h
            · exact hr x h
            · rw [List.mem_singleton.mp h]; exact gl
          · rw [List.map_append] <;> rfl
      · rintro δ' ⟨r, s3, s4, s5, s6, s7, hl, hr, rfl⟩
        rw [rangeD_len] at hl
        exact ⟨r, s3, s4, s5, s6, s7, ⟨by omega, by omega, hr⟩, rfl⟩
    · rintro δ' ⟨r, s3, s4, s5, s6, s7, gr, rfl⟩
      refine st_freeze 2 rfl ?_
      exact st_ret (ev_v ⟨_, rfl, k r gr⟩)
/-- rising numbers: at most so many, the first up to top -/
abbrev F__law_rising : Fn1 := fun G ds R _ => ∃ sc st most top, ds = [.raw sc, .raw st, .int most, .int top] ∧ G.dr = some (sc, st) ∧ (0 < most ∧ most < 8) ∧ (0 < top ∧ top < 8) ∧ ∀ l : List Int, 1 ≤ l.length → (l.length : Int) ≤ most → asc l = true → (∀ x ∈ l, 1 ≤ x ∧ x ≤ top + 5 * (most - 1)) → R (.lst (l.map D.int))
theorem ok__law_rising (T : Txt K mg w) : FnOk PG w K mg base (L2.CX PG w) 5 (He.ga K "_law_rising") (fdOf K ("_law_rising", none)) ["_law_script", "_law_state", "_law_most", "_law_top"] (spD K F__law_rising) :=
  WL.fnD (k := 4) T.d__law_rising sc__law_rising (fun _ _ _ _ ⟨_, _, _, _, e, _⟩ => by rw [e] <;> rfl) fun cdv A outer s H E G ds R ex hr ⟨sc, st, most, top, e, hG, ⟨m0, m1⟩, ⟨t0, t1⟩, k⟩ => by
    subst e
    refine ⟨_, (pss_cons (ps_set (i := 4) sc__law_rising.nd rfl (Or.inl rfl) (pe_lst (pa_cons (pe_op op_add pe_int (pe_call (ok__law_draw T) (hr.mono (by decide)) rfl T.g__law_draw T.d__law_draw.kp (bi__law_draw T) .nil passN (pa_cons (pv 0) (pa_cons (pv 1) (pa_cons (pv 3) pa_nil))))) pa_nil)))
    (pss_cons (ps_for (passes_of rfl) rfl (pi_range1 rfl T.f_range (pa_cons (pe_call (ok__law_draw T) (hr.mono (by decide)) rfl T.g__law_draw T.d__law_draw.kp (bi__law_draw T) .nil passN (pa_cons (pv 0) (pa_cons (pv 1) (pa_cons (pv 2) pa_nil)))) pa_nil)) (pg_name (i := 5) sc__law_rising.nd rfl (Or.inl rfl)) (pss_one (ps_expr (pe_bm PySem.F.plainAttrs_list PySem.F.slot_list_append PySem.F.type_list_append mt_append (pv 4) (pa_cons (pe_op op_add (pe_op op_add (pe_ix ix_list (pv 4) (pe_un un_neg pe_int) (fun _ _ => rfl)) pe_int) (pe_call (ok__law_draw T) (hr.mono (by decide)) rfl T.g__law_draw T.d__law_draw.kp (bi__law_draw T) .nil passN (pa_cons (pv 0) (pa_cons (pv 1) (pa_cons pe_int pa_nil))))) pa_nil)))))
    (pss_one (ps_ret (pv 4))))), ?_⟩
    dsimp only [cxOf]
    have e0 : (startD ["_law_script", "_law_state", "_law_most", "_law_top", "_law_found", "_law_k"] [D.raw sc, D.raw st, .int most, .int top]) = [Sl.d (.raw sc), .d (.raw st), .d (.int most), .d (.int top), .un, .un] := rfl
    rw [e0]
    refine st_mid (fun δ' => ∃ a : Int, 1 ≤ a ∧ a ≤ top ∧ δ' = [Sl.d (.raw sc), .d (.raw st), .d (.int most), .d (.int top), .own [.int a], .un]) ?_ ?_
    · refine st_asgO (eo_lst ?_)
      repeat' walk_at "evd"
      rename_i q hq0 hq1
      exact ⟨1 + q, by omega, by omega, rfl⟩
    rintro δ' ⟨a, a1, a2, rfl⟩
    refine st_mid (fun δ' => ∃ (l : List Int) (s5 : Sl), 1 ≤ l.length ∧ (l.length : Int) ≤ most ∧ asc l = true ∧ (∀ x ∈ l, 1 ≤ x ∧ x ≤ top + 5 * (most - 1)) ∧ δ' = [Sl.d (.raw sc), .d (.raw st), .d (.int most), .d (.int top), .own (l.map D.int), s5]) ?_ ?_
    · refine st_for (js := List.range 64) ?_
      repeat' walk_at "evd"
      rename_i q hq0 hq1
      refine ⟨fun n δ' => ∃ (l : List Int) (z : Int) (s5 : Sl), l.length = n ∧ asc (l ++ [z]) = true ∧ (∀ x ∈ l ++ [z], 1 ≤ x ∧ x ≤ top + 5 * n) ∧ δ' = [Sl.d (.raw sc), .d (.raw st), .d (.int most), .d (.int top), .own ((l ++ [z]).map D.int), s5], ⟨[], a, _, rfl, rfl, fun x hx => ?_, rfl⟩, ?_, ?_⟩
      · rw [List.mem_singleton.mp hx]
        omega
      · rintro n y δ' hy ⟨l, z, s5, hl, ha, hb, rfl⟩
        obtain ⟨hn, rfl⟩ := rangeD_get hy
        refine tg_name (by decide) ?_
        refine st_app (i := 4) rfl (by rw [List.length_map, List.length_append, hl]; show n + 1 < 100000; omega) ?_
        refine ev_opI (ev_opI (ev_ixO (j := 4) rfl (ev_neg (ev_int ⟨_, rfl, _, _, rfl, (by rw [List.map_append]; exact atI_last (l.map D.int) (D.int z)), ?_⟩))))
        repeat' walk_at "evd"
        rename_i q2 hq20 hq21
        have hz := hb z (by simp)
        refine ⟨l ++ [z], z + 1 + q2, .d (.int (0 + (n : Nat))), by rw [List.length_append, hl] <;> rfl, asc_app ha (by omega), fun x hx => ?_, ?_⟩
        · rcases List.mem_append.mp hx with h | h
          · have := hb x h
            omega
          · rw [List.mem_singleton.mp h]
            omega
        · rw [List.map_append (l₁ := l ++ [z])] <;> rfl
      · rintro δ' ⟨l, z, s5, hl, ha, hb, rfl⟩
        rw [rangeD_len] at hl hb
        refine ⟨l ++ [z], s5, by simp, by rw [List.length_append, hl]; show ((q.toNat + 1 : Nat) : Int) ≤ most; omega, ha, fun x hx => ?_, rfl⟩
        have := hb x hx
        omega
    · rintro δ' ⟨l, s5, h1, h2, h3, h4, rfl⟩
      refine st_freeze 4 rfl ?_
      exact st_ret (ev_v ⟨_, rfl, k l h1 h2 h3 h4⟩)
abbrev F__law_box : Fn1 := fun G ds R _ => ∃ sc st lo hi, ds = [.raw sc, .raw st, .int lo, .int hi] ∧ G.dr = some (sc, st) ∧ (0 < lo ∧ lo ≤ hi ∧ hi < 100) ∧ ∀ b, goodX lo hi b = true → R (boxD b)
theorem ok__law_box (T : Txt K mg w) : FnOk PG w K mg base (L2.CX PG w) 5 (He.ga K "_law_box") (fdOf K ("_law_box", none)) ["_law_script", "_law_state", "_law_low", "_law_high"] (spD K F__law_box) :=
  WL.fnD (k := 4) T.d__law_box sc__law_box (fun _ _ _ _ ⟨_, _, _, _, e, _⟩ => by rw [e] <;> rfl) fun cdv A outer s H E G ds R ex hr ⟨sc, st, lo, hi, e, hG, ⟨l0, l1, l2⟩, k⟩ => by
    subst e
    refine ⟨_, (pss_cons (ps_set (i := 4) sc__law_box.nd rfl (Or.inl rfl) (pe_call (ok__law_draw T) (hr.mono (by decide)) rfl T.g__law_draw T.d__law_draw.kp (bi__law_draw T) .nil passN (pa_cons (pv 0) (pa_cons (pv 1) (pa_cons (pe_op op_add (pv 2) pe_int) pa_nil)))))
    (pss_cons (ps_set (i := 5) sc__law_box.nd rfl (Or.inl rfl) (pe_op op_add (pv 4) (pe_call (ok__law_draw T) (hr.mono (by decide)) rfl T.g__law_draw T.d__law_draw.kp (bi__law_draw T) .nil passN (pa_cons (pv 0) (pa_cons (pv 1) (pa_cons (pe_op op_add (pe_op op_sub (pv 3) (pv 4)) pe_int) pa_nil))))))
    (pss_cons (ps_set (i := 6) sc__law_box.nd rfl (Or.inl rfl) (pe_op op_add pe_int (pe_call (ok__law_draw T) (hr.mono (by decide)) rfl T.g__law_draw T.d__law_draw.kp (bi__law_draw T) .nil passN (pa_cons (pv 0) (pa_cons (pv 1) (pa_cons (pe_ix ix_list (pe_lst (pa_cons pe_int (pa_cons pe_int pa_nil))) (pe_call (ok__law_draw T) (hr.mono (by decide)) rfl T.g__law_draw T.d__law_draw.kp (bi__law_draw T) .nil passN (pa_cons (pv 0) (pa_cons (pv 1) (pa_cons pe_int pa_nil)))) (fun _ _ => rfl)) pa_nil))))))
    (pss_one (ps_ret (pe_tup (pa_cons (pv 4) (pa_cons (pv 5) (pa_cons (pv 6) (pa_cons (pe_op op_add (pv 6) (pe_call (ok__law_draw T) (hr.mono (by decide)) rfl T.g__law_draw T.d__law_draw.kp (bi__law_draw T) .nil passN (pa_cons (pv 0) (pa_cons (pv 1) (pa_cons pe_int pa_nil))))) pa_nil)))))))))), ?_⟩
    dsimp only [cxOf]
    have e0 : (startD ["_law_script", "_law_state", "_law_low", "_law_high", "_law_near", "_law_far", "_law_keep"] [D.raw sc, D.raw st, .int lo, .int hi]) = [Sl.d (.raw sc), .d (.raw st), .d (.int lo), .d (.int hi), .un, .un, .un] := rfl
    rw [e0]
    refine st_mid (fun δ' => ∃ a b : Int, (0 ≤ a ∧ a ≤ lo) ∧ (a ≤ b ∧ b ≤ hi) ∧ δ' = [Sl.d (.raw sc), .d (.raw st), .d (.int lo), .d (.int hi), .d (.int a), .un, .un] ∧ b = a) ?_ ?_
    · repeat' walk_at "evd"
      rename_i q hq0 hq1
      exact ⟨q, q, by omega, by omega, rfl, rfl⟩
    rintro δ' ⟨a, _, ⟨a0, a1⟩, _, rfl, _⟩
    refine st_mid (fun δ' => ∃ b : Int, (a ≤ b ∧ b ≤ hi) ∧ δ' = [Sl.d (.raw sc), .d (.raw st), .d (.int lo), .d (.int hi), .d (.int a), .d (.int b), .un]) ?_ ?_
    · repeat' walk_at "evd"
      rename_i q hq0 hq1
      exact ⟨a + q, by omega, rfl⟩
    rintro δ' ⟨b, ⟨b0, b1⟩, rfl⟩
    refine st_mid (fun δ' => ∃ c : Int, (1 ≤ c ∧ c ≤ 120) ∧ δ' = [Sl.d (.raw sc), .d (.raw st), .d (.int lo), .d (.int hi), .d (.int a), .d (.int b), .d (.int c)]) ?_ ?_
    · repeat' walk_at "evd"
      rename_i q hq0 hq1
      obtain ⟨z, hz, hm⟩ := atD_lt (l := [D.int 30, D.int 120]) hq0 hq1
      have hz2 : ∃ i : Int, z = .int i ∧ 30 ≤ i ∧ i ≤ 120 := by
        simp only [List.mem_cons, List.not_mem_nil, or_false] at hm
        rcases hm with rfl | rfl
        · exact ⟨_, rfl, by omega, by omega⟩
        · exact ⟨_, rfl, by omega, by omega⟩
      obtain ⟨i, rfl, i0, i1⟩ := hz2
      refine ⟨_, _, _, rfl, rfl, hz, ?_⟩
      repeat' walk_at "evd"
      rename_i q2 hq20 hq21
      exact ⟨1 + q2, by omega, rfl⟩
    rintro δ' ⟨c, ⟨c0, c1⟩, rfl⟩
    repeat' walk_at "evd"
    rename_i q hq0 hq1
    refine k (a, b, c, c + q) ?_
    simp only [goodX, Bool.and_eq_true_iff, decide_eq_true_eq]
    omega
/-- a way as it is drawn -/
abbrev rawW (x : Wy) : D := .tup [begD x.b, .int x.lo, .int x.hi, .lst (x.bx.map boxD)]
/-- a good way, its delays small -/
def okW (x : Wy) : Prop := goodW x = true ∧ x.hi ≤ 4
abbrev F__law_way : Fn1 := fun G ds R _ => ∃ sc st, ds = [.raw sc, .raw st] ∧ G.dr = some (sc, st) ∧ ∀ x, okW x → R (rawW x)
theorem ok__law_way (T : Txt K mg w) : FnOk PG w K mg base (L2.CX PG w) 7 (He.ga K "_law_way") (fdOf K ("_law_way", none)) ["_law_script", "_law_state"] (spD K F__law_way) :=
  WL.fnD (k := 6) T.d__law_way sc__law_way (fun _ _ _ _ ⟨_, _, e, _⟩ => by rw [e] <;> rfl) fun cdv A outer s H E G ds R ex hr ⟨sc, st, e, hG, k⟩ => by
    subst e
    refine ⟨_, (pss_cons (ps_set (i := 2) sc__law_way.nd rfl (Or.inl rfl) (pe_op op_add pe_int (pe_call (ok__law_draw T) (hr.mono (by decide)) rfl T.g__law_draw T.d__law_draw.kp (bi__law_draw T) .nil passN (pa_cons (pv 0) (pa_cons (pv 1) (pa_cons pe_int pa_nil))))))
    (pss_cons (ps_set (i := 3) sc__law_way.nd rfl (Or.inl rfl) (pe_op op_add (pv 2) (pe_call (ok__law_draw T) (hr.mono (by decide)) rfl T.g__law_draw T.d__law_draw.kp (bi__law_draw T) .nil passN (pa_cons (pv 0) (pa_cons (pv 1) (pa_cons pe_int pa_nil))))))
    (pss_cons (ps_set (i := 4) sc__law_way.nd rfl (Or.inl rfl) (pe_call (ok__law_draw T) (hr.mono (by decide)) rfl T.g__law_draw T.d__law_draw.kp (bi__law_draw T) .nil passN (pa_cons (pv 0) (pa_cons (pv 1) (pa_cons pe_int pa_nil)))))
    (pss_cons (ps_if (pt_cmpR op_eq (pe_call (ok__law_draw T) (hr.mono (by decide)) rfl T.g__law_draw T.d__law_draw.kp (bi__law_draw T) .nil passN (pa_cons (pv 0) (pa_cons (pv 1) (pa_cons pe_int pa_nil)))) pe_int (nomark _)) (pss_one (ps_set (i := 4) sc__law_way.nd rfl (Or.inl rfl) pe_non)) pss_nil)
    (pss_cons (ps_set (i := 5) sc__law_way.nd rfl (Or.inl rfl) (pe_lst pa_nil))
    (pss_cons (ps_if (pt_cmpR op_eq (pe_call (ok__law_draw T) (hr.mono (by decide)) rfl T.g__law_draw T.d__law_draw.kp (bi__law_draw T) .nil passN (pa_cons (pv 0) (pa_cons (pv 1) (pa_cons pe_int pa_nil)))) pe_int (nomark _)) (pss_one (ps_expr (pe_bm PySem.F.plainAttrs_list PySem.F.slot_list_append PySem.F.type_list_append mt_append (pv 5) (pa_cons (pe_call (ok__law_box T) (hr.mono (by decide)) rfl T.g__law_box T.d__law_box.kp (bi__law_box T) .nil passN (pa_cons (pv 0) (pa_cons (pv 1) (pa_cons (pv 2) (pa_cons (pv 3) pa_nil))))) pa_nil)))) pss_nil)
    (pss_one (ps_ret (pe_tup (pa_cons (pv 4) (pa_cons (pv 2) (pa_cons (pv 3) (pa_cons (pv 5) pa_nil))))))))))))), ?_⟩
    dsimp only [cxOf]
    have e0 : (startD ["_law_script", "_law_state", "_law_low", "_law_high", "_law_begin", "_law_boxes"] [D.raw sc, D.raw st]) = [Sl.d (.raw sc), .d (.raw st), .un, .un, .un, .un] := rfl
    rw [e0]
    refine st_mid (fun δ' => ∃ lo : Int, (1 ≤ lo ∧ lo ≤ 2) ∧ δ' = [Sl.d (.raw sc), .d (.raw st), .d (.int lo), .un, .un, .un]) ?_ ?_
    · repeat' walk_at "evd"
      rename_i q hq0 hq1
      exact ⟨1 + q, by omega, rfl⟩
    rintro δ' ⟨lo, ⟨l0, l1⟩, rfl⟩
    refine st_mid (fun δ' => ∃ hi : Int, (lo ≤ hi ∧ hi ≤ 4) ∧ δ' = [Sl.d (.raw sc), .d (.raw st), .d (.int lo), .d (.int hi), .un, .un]) ?_ ?_
    · repeat' walk_at "evd"
      rename_i q hq0 hq1
      exact ⟨lo + q, by omega, rfl⟩
    rintro δ' ⟨hi, ⟨h0, h1⟩, rfl⟩
    refine st_mid (fun δ' => ∃ b : Int, (0 ≤ b ∧ b < 8) ∧ δ' = [Sl.d (.raw sc), .d (.raw st), .d (.int lo), .d (.int hi), .d (.int b), .un]) ?_ ?_
    · repeat' walk_at "evd"
      rename_i q hq0 hq1
      exact ⟨q, by omega, rfl⟩
    rintro δ' ⟨b, ⟨b0, b1⟩, rfl⟩
    refine st_mid (fun δ' => ∃ b : Option Int, goodB b = true ∧ δ' = [Sl.d (.raw sc), .d (.raw st), .d (.int lo), .d (.int hi), .d (begD b), .un]) (st_ifA ?_ ?_ ?_) ?_
    · repeat' walk_at "evd"
      all_goals trivial
    · repeat' walk_at "evd"
      exact ⟨none, rfl, rfl⟩
    · refine st_next ⟨some b, ?_, rfl⟩
      simp only [goodB, Bool.and_eq_true_iff, decide_eq_true_eq]
      omega
    rintro δ' ⟨bg, gb, rfl⟩
    refine st_seq (st_asgO (eo_lst (ea_nil ⟨by decide, ?_⟩)))
    refine st_mid (fun δ' => ∃ bx : List (Int × Int × Int × Int), bx.length ≤ 1 ∧ bx.all (goodX lo hi) = true ∧ δ' = [Sl.d (.raw sc), .d (.raw st), .d (.int lo), .d (.int hi), .d (begD bg), .own (bx.map boxD)]) (st_ifA ?_ ?_ ?_) ?_
    · repeat' walk_at "evd"
      all_goals trivial
    · refine st_app (i := 5) (l := []) rfl (by decide) ?_
      refine ev_callN (ea_cons (ev_v ⟨_, rfl, ea_cons (ev_v ⟨_, rfl, ea_cons (ev_v ⟨_, rfl, ea_cons (ev_v ⟨_, rfl, ea_nil ?_⟩)⟩)⟩)⟩))
      exact ⟨_, _, _, _, rfl, hG, by omega, fun b gx => ⟨[b], Nat.le_refl _, by simp [gx], rfl⟩⟩
    · exact st_next ⟨[], by decide, rfl, rfl⟩
    rintro δ' ⟨bx, hb, gx, rfl⟩
    refine st_freeze 5 rfl ?_
    repeat' walk_at "evd"
    refine k ⟨bg, lo, hi, bx⟩ ⟨?_, h1⟩
    simp only [goodW, Bool.and_eq_true_iff, decide_eq_true_eq, gb, gx]
    exact ⟨⟨⟨trivial, by omega⟩, by omega⟩, trivial⟩
end
end WK
end
section
set_option Elab.async false
set_option linter.all false
set_option maxRecDepth 100000
set_option maxHeartbeats 1000000
/-! The library's defs over data: a line is made. -/
local macro_rules | `(tactic| walk_at "ev") => `(tactic| first
  | (with_reducible refine WL.st_seq ?_) | (with_reducible refine WL.st_ret ?_) | (with_reducible refine WL.st_retN ?_) | (with_reducible refine WL.st_next ?_) | (with_reducible refine WL.st_if ?_)
  | (with_reducible refine WL.et_and ?_) | (with_reducible refine WL.et_or ?_) | (with_reducible refine WL.et_not ?_) | (with_reducible refine WL.et_test ?_) | (with_reducible refine WL.et_B ?_)
  | (with_reducible refine WL.ev_andV ?_) | (with_reducible refine WL.ev_orV ?_) | (with_reducible refine WL.ev_notV ?_) | (with_reducible refine WL.ev_if ?_)
  | (with_reducible refine WL.ev_v ?_) | (with_reducible refine WL.ev_int ?_) | (with_reducible refine WL.ev_str ?_) | (with_reducible refine WL.ev_non ?_) | (with_reducible refine WL.ev_bl ?_)
  | (with_reducible refine WL.ea_nil ?_) | (with_reducible refine WL.ea_cons ?_) | (with_reducible refine WL.ev_tup ?_)
  | (with_reducible refine WL.ev_make ?_) | (with_reducible refine WL.ev_makeN ?_) | (with_reducible refine WL.ev_call ?_) | (with_reducible refine WL.ev_callN ?_) | (with_reducible refine WL.ev_meth ?_) | (with_reducible refine WL.ev_methN ?_)
  | (with_reducible refine WL.ev_isi (.ty _) ?_) | (with_reducible refine WL.ev_isi (.own _) ?_) | (with_reducible refine WL.ev_isiT (.ty _) (.ty _) ?_)
  | (with_reducible refine WL.ev_len ?_) | (with_reducible refine WL.ev_all ?_) | (with_reducible refine WL.ev_any ?_) | (with_reducible refine WL.ev_tuple ?_) | (with_reducible refine WL.ev_listD ?_) | (with_reducible refine WL.ev_map ?_) | (with_reducible refine WL.ei_tup ?_) | (with_reducible refine WL.ei_list ?_) | (with_reducible refine WL.ei_str ?_) | (with_reducible refine WL.ei_zip ?_) | (with_reducible refine WL.ei_seqV ?_) | (with_reducible refine WL.ei_enumA ?_) | (with_reducible refine WL.ev_eqS ?_) | (with_reducible refine WL.ev_inS ?_)
  | (with_reducible refine WL.ev_chain ?_) | (with_reducible refine WL.ev_chain3 ?_) | (with_reducible refine WL.ev_opB ?_) | (with_reducible refine WL.ev_opI ?_) | (with_reducible refine WL.ev_eq ?_) | (with_reducible refine WL.ev_ne ?_) | (with_reducible refine WL.ev_isN ?_) | (with_reducible refine WL.ev_notN ?_)
  | (with_reducible refine WL.ev_ixL ?_) | (with_reducible refine WL.ev_ixT ?_) | (with_reducible refine WL.ev_ixD ?_) | (with_reducible refine WL.ev_kstr (by assumption) ?_) | (with_reducible refine WL.ev_eqG ?_) | (with_reducible refine WL.ev_in ?_) | (with_reducible refine WL.st_raise ?_) | (with_reducible refine WL.st_fl ?_) | (with_reducible refine WL.ev_fld ?_)
  | (with_reducible refine WK.ty_int (by assumption) ?_ ?_) | (with_reducible refine WK.ty_bool (by assumption) ?_ ?_) | (with_reducible refine WK.ty_str (by assumption) ?_ ?_) | (with_reducible refine WK.ty_tup (by assumption) ?_ ?_) | (with_reducible refine WK.ty_seq (by assumption) ?_ ?_) | (with_reducible refine WK.ty_own (by assumption) ?_ ?_ ?_ ?_; focus (simp [WK.CLS]; done))
  | (show WK.Kn _; first | assumption | trivial | (simp [WK.Kn, WK.CLS]; done)) | (show ∀ l, _ ≠ WL.D.dic l; intro _ h; cases h)
  | (with_reducible refine WL.st_asg ?_) | (with_reducible refine WL.st_asgT (js := List.range 64) ?_) | (with_reducible refine WL.tg_tu ?_) | (with_reducible refine WL.tg_cons ?_) | (with_reducible refine WL.tg_nil ?_) | (with_reducible refine WL.tg_name (by first | decide | simp) ?_)
  | refine WL.ift rfl ?_ | refine WL.iff' rfl ?_
  | refine And.intro (by first | assumption | trivial : WK.Kn _) ?_
  | refine ⟨_, _, _, rfl, (by assumption : L2.Cls _ _), (by assumption : L2.NoAttr _ _ _), (by first | rfl | exact Nat.le_of_ble_eq_true rfl), ?_⟩
  | refine ⟨_, rfl, ?_⟩ | refine ⟨_, _, rfl, rfl, ?_⟩ | refine ⟨_, _, rfl, (by assumption : _ ∨ _), ?_⟩ | refine ⟨_, _, rfl, ?_⟩ | refine ⟨_, _, _, rfl, ?_⟩ | refine ⟨_, _, _, _, rfl, ?_⟩ | refine ⟨_, _, _, rfl, rfl, (by first | assumption | rfl : WL.atD _ _ = some _), ?_⟩ | refine ⟨_, _, _, rfl, rfl, rfl, ?_⟩ | refine And.intro rfl ?_ | refine And.intro (by assumption) ?_ | refine And.intro (Nat.le_of_ble_eq_true rfl) ?_ | exact rfl)
local macro_rules | `(tactic| walk_at "evs") => `(tactic| first | walk_at "ev" | (with_reducible refine WL.ift ?_ ?_; focus (first | assumption | (simp [*]; done) | (simp; omega))) | (with_reducible refine WL.iff' ?_ ?_; focus (first | assumption | (simp [*]; done) | (simp; omega))))
local macro_rules | `(tactic| walk_at "evb") => `(tactic| first | walk_at "ev" | (with_reducible refine WL.ifb (fun _ => ?_) (fun _ => ?_)))
local macro_rules | `(tactic| walk_at "evt") => `(tactic| first | walk_at "evs" | refine ⟨_, Or.inl rfl, ?_⟩ | refine ⟨_, Or.inr rfl, ?_⟩ | fail)
local macro_rules | `(tactic| walk_at "evu") => `(tactic| first | (with_reducible refine WL.ev_ofl ?_; refine ⟨_, _, _, _, rfl, (by assumption : L2.Cls _ _), (by assumption : L2.NoAttr _ _ _), rfl, ?_⟩) | walk_at "evt" | (with_reducible refine WL.ev_opC ?_) | (with_reducible refine WL.ev_dget ?_) | (with_reducible refine WL.ev_ofl ?_) | (with_reducible refine WL.ev_makeK ?_) | fail)
namespace WK
open PySem PySem.Spec PyProof.Rows L2 WL
section
variable {K : PySem.W.Frag} {mg : Str → Option Value} {w : World} {base : Heap}
def rsBs (r : Rw) : List Bool := [true, true, true, btw (.int r.turn) 1 200, btw (.int r.numbers) 2 8, true, btw (.int r.head) 1 8, btw (.int r.places) 0 4, btw (.int r.cost) 2 9, btw (.int r.period) 1 200, btw (.int r.quiet) 1 500, btw (.int r.silent) 0 3, btw (.int r.losses) 1 3]
def ffS : List Str → List Bool → Option Str
  | z :: zs, b :: bs => if b = true then ffS zs bs else some z
  | _, _ => none
theorem ff_some : ∀ {zs : List Str} {bs : List Bool} {i : Nat} {z : Str}, (∀ j, j < i → bs[j]? ≠ some false) → zs[i]? = some z → bs[i]? = some false → ffS zs bs = some z
  | z0 :: zs, b :: bs, 0, z, _, h1, h2 => by
    simp at h1 h2
    subst h1 h2
    rfl
  | z0 :: zs, b :: bs, i + 1, z, h, h1, h2 => by
    have hb : b = true := by
      have := h 0 (Nat.succ_pos _)
      cases b with
      | true => rfl
      | false => exact absurd rfl this
    subst hb
    exact ff_some (zs := zs) (bs := bs) (i := i) (fun j hj => h (j + 1) (Nat.succ_lt_succ hj)) (by simpa using h1) (by simpa using h2)
  | [], _, i, z, _, h1, _ => by simp at h1
  | _ :: _, [], i, z, _, _, h2 => by simp at h2
theorem ff_none : ∀ {zs : List Str} {bs : List Bool}, (∀ j : Nat, bs[j]? ≠ some false) → ffS zs bs = none
  | [], _, _ => rfl
  | _ :: _, [], _ => rfl
  | z0 :: zs, b :: bs, h => by
    have hb : b = true := by
      have := h 0
      cases b with
      | true => rfl
      | false => exact absurd rfl this
    subst hb
    exact ff_none (zs := zs) (bs := bs) fun j => h (j + 1)
def boxBad (t : Int) (x : Wy) : Bool := x.b.isSome && (decide (0 < x.bx.length) && decide (t < 2 * x.hi))
/-- what is raised, by its word: none if the line is made -/
def outW (r : Rw) : Option Str := match ffS SETL (rsBs r) with
  | some z => some z
  | none => if r.ways.any (boxBad r.turn) = true then some ("turn" : Str) else none
structure BaseOk (r : Rw) : Prop where
  mail : goodM r.rows
  ways : 1 ≤ r.ways.length ∧ r.ways.length ≤ 4
  wys : ∀ x ∈ r.ways, x.hi ≤ 50
  widths : 1 ≤ r.widths.length ∧ r.widths.length ≤ 8
  wds : ∀ i ∈ r.widths, 1 ≤ i ∧ i ≤ 100
  asc : asc r.widths = true
def valsL (r : Rw) (qw qd : D) : List D := [mailD r.rows, qw, qd, .int r.turn, .int r.numbers, roomD r.size r.bnds, .int r.head, .int r.places, .int r.cost, .int r.period, .int r.quiet, .int r.silent, .int r.losses]
theorem rs_at {r : Rw} {qw qd : D} (b : BaseOk r) (hw : seqD qw (r.ways.map wayD)) (hd : seqD qd (r.widths.map D.int)) : ∀ {i : Nat} {z : Str} {v : D}, SETL[i]? = some z → (valsL r qw qd)[i]? = some v → ∃ c, RS z v c ∧ (rsBs r)[i]? = some c
  | 0, _, _, h1, h2 => by cases h1; cases h2; exact ⟨_, .mail _, rfl⟩
  | 1, _, _, h1, h2 => by cases h1; cases h2; exact ⟨_, .ways hw b.ways.1 b.ways.2, rfl⟩
  | 2, _, _, h1, h2 => by cases h1; cases h2; exact ⟨_, .widths hd b.widths.1 b.widths.2 b.wds b.asc, rfl⟩
  | 3, _, _, h1, h2 => by cases h1; cases h2; exact ⟨_, .num (a := 1) (b := 200) _ (by decide), rfl⟩
  | 4, _, _, h1, h2 => by cases h1; cases h2; exact ⟨_, .num (a := 2) (b := 8) _ (by decide), rfl⟩
  | 5, _, _, h1, h2 => by cases h1; cases h2; exact ⟨_, .room _ _, rfl⟩
  | 6, _, _, h1, h2 => by cases h1; cases h2; exact ⟨_, .num (a := 1) (b := 8) _ (by decide), rfl⟩
  | 7, _, _, h1, h2 => by cases h1; cases h2; exact ⟨_, .num (a := 0) (b := 4) _ (by decide), rfl⟩
  | 8, _, _, h1, h2 => by cases h1; cases h2; exact ⟨_, .num (a := 2) (b := 9) _ (by decide), rfl⟩
  | 9, _, _, h1, h2 => by cases h1; cases h2; exact ⟨_, .num (a := 1) (b := 200) _ (by decide), rfl⟩
  | 10, _, _, h1, h2 => by cases h1; cases h2; exact ⟨_, .num (a := 1) (b := 500) _ (by decide), rfl⟩
  | 11, _, _, h1, h2 => by cases h1; cases h2; exact ⟨_, .num (a := 0) (b := 3) _ (by decide), rfl⟩
  | 12, _, _, h1, h2 => by cases h1; cases h2; exact ⟨_, .num (a := 1) (b := 3) _ (by decide), rfl⟩
  | n + 13, _, _, h1, _ => by cases h1
theorem RS.kn {z : Str} {v : D} {c : Bool} (h : RS z v c) : Kn v := by
  cases h with
  | mail r => show ("Mail" : Str) ∈ CLS; decide
  | room s bs => show ("Room" : Str) ∈ CLS; decide
  | ways h _ _ => rcases h with rfl | rfl <;> trivial
  | widths h _ _ _ _ => rcases h with rfl | rfl <;> trivial
  | num i h => trivial
def boxBadD (t : Int) : D → Bool
  | .ins _ [(_, b), _, (_, .int hi), (_, .tup bx)] => !b.isNon && (decide ((0 : Int) < (bx.length : Int)) && decide (t < 2 * hi))
  | _ => false
theorem boxBad_eq (t : Int) (x : Wy) : boxBadD t (wayD x) = boxBad t x := by
  show (!(begD x.b).isNon && (decide ((0 : Int) < ((x.bx.map boxD).length : Int)) && decide (t < 2 * x.hi))) = _
  unfold boxBad
  rw [List.length_map]
  have e : (!(begD x.b).isNon) = x.b.isSome := by cases x.b <;> rfl
  have e2 : decide ((0 : Int) < (x.bx.length : Int)) = decide (0 < x.bx.length) := by
    by_cases h : 0 < x.bx.length
    · rw [decide_eq_true h]; exact decide_eq_true (by omega)
    · rw [decide_eq_false h]; exact decide_eq_false (by omega)
  rw [e, e2]
def toT : D → D
  | .lst l => .tup l
  | d => d
def givD : D → D
  | .tup [z, v] => .tup [z, toT v]
  | d => d
abbrev F_Line_init : FnI := fun _ ds R ex => ∃ (r : Rw) (qw qd : D), ds = valsL r qw qd ∧ BaseOk r ∧ seqD qw (r.ways.map wayD) ∧ seqD qd (r.widths.map D.int) ∧ (∀ z, outW r = some z → ex "BadPart" "part" (.str z)) ∧ (outW r = none → R (lineF r))
set_option maxHeartbeats 2000000 in
theorem ok_Line__init__ (T : Txt K mg w) : FnOk PG w K mg base (L2.CX PG w) 12 (He.ma K (He.ga K "Line") "__init__") (fdOf K ("Line", some "__init__")) ["self", "mail", "ways", "widths", "turn", "numbers", "room", "head", "places", "cost", "period", "quiet", "silent", "losses"] (spI K "Line" F_Line_init) :=
  WL.fnI (k := 11) T.d_Line__init__ sc_Line__init__ (by decide) (fun _ _ _ _ ⟨_, _, _, e, _⟩ => by rw [e] <;> rfl) fun cdv A outer s H E G ds R ex hr ⟨r, qw, qd, e, ok, hw, hd, k1, k2⟩ => by
    subst e
    refine ⟨_, (pss_cons (ps_set (i := 14) sc_Line__init__.nd rfl (Or.inl rfl) (pe_tup (pa_cons (pv 1) (pa_cons (pv 2) (pa_cons (pv 3) (pa_cons (pv 4) (pa_cons (pv 5) (pa_cons (pv 6) (pa_cons (pv 7) (pa_cons (pv 8) (pa_cons (pv 9) (pa_cons (pv 10) (pa_cons (pv 11) (pa_cons (pv 12) (pa_cons (pv 13) pa_nil)))))))))))))))
    (pss_cons (ps_for (passes_of rfl) rfl (RZ.pi_zipA rfl T.f_zip (pa_cons (pe_glob (v := V.ref (He.ga K "SETTINGS")) rfl T.g_SETTINGS rfl) (pa_cons (pv 14) pa_nil))) (pg_tup (n := 2) rfl (pgs_cons (pg_name (i := 15) sc_Line__init__.nd rfl (Or.inl rfl)) (pgs_cons (pg_name (i := 16) sc_Line__init__.nd rfl (Or.inl rfl)) pgs_nil))) (pss_one (ps_if (pt_not (pt_val (pe_call (ok_is_right_setting T) (hr.mono (by decide)) rfl T.g_is_right_setting T.d_is_right_setting.kp (bi_is_right_setting T) .nil passN (pa_cons (pv 15) (pa_cons (pv 16) pa_nil))))) (pss_one (WL.ps_raiseD rfl (takes_of rfl rfl rfl rfl) T.x_BadPart (WX.xinit_fn (k := 0) T.x_BadPart) (hr.mono (by decide)) T.xb_BadPart passN rfl (pv 15))) pss_nil)))
    (pss_cons (ps_if (pt_val (pe_callB (cr_any rfl) (by rfl) T.f_any (by decide +kernel) (pa_cons (pe_lc (own := [("way", 17)]) rfl sc_Line__init__.nd (WX.pi_ei (pi_list (pv 2)) (pi_tup (pv 2))) (blkOk_by (own := [("way", 17)]) (N := ["self", "mail", "ways", "widths", "turn", "numbers", "room", "head", "places", "cost", "period", "quiet", "silent", "losses", "values", "word", "value", "way"]) (sc := defScope s_Line__init__) (by decide +kernel)) (fun _ _ _ _ _ => (pg_name (i := 17) sc_Line__init__.nd rfl (Or.inl rfl))) (fun _ _ _ _ _ => pts_nil) (fun _ _ _ _ _ => (pe_and (pe_cmpR op_notN (WX.fldK (K := K) (by rfl) (pv 17) rfl) pe_non (nomark _)) (pe_and (pe_cmpR op_gt (pe_callB (WX.cK WX.rLenK (K := K) (by rfl) call_len) (by rfl) T.f_len (by decide +kernel) (pa_cons (WX.fldK (K := K) (by rfl) (pv 17) rfl) pa_nil)) pe_int (nomark _)) (pe_one (pe_cmpR op_lt (pv 4) (pe_op op_mul pe_int (WX.fldK (K := K) (by rfl) (pv 17) rfl)) (nomark _))))))) pa_nil))) (pss_one (WL.ps_raiseD rfl (takes_of rfl rfl rfl rfl) T.x_BadPart (WX.xinit_fn (k := 0) T.x_BadPart) (hr.mono (by decide)) T.xb_BadPart passN rfl pe_str)) pss_nil)
    (pss_cons (ps_fld (pv 0) (pe_callTy (call_dictP rfl) (by rfl) T.f_dict (by decide +kernel) (pa_cons (pe_lc (own := [("word", 15), ("value", 16)]) (g := gTup K 2 (gCons (gName 15) (gCons (gName 16) gNil))) rfl sc_Line__init__.nd (RZ.pi_zipA rfl T.f_zip (pa_cons (pe_glob (v := V.ref (He.ga K "SETTINGS")) rfl T.g_SETTINGS rfl) (pa_cons (pv 14) pa_nil))) (blkOk_by (own := [("word", 15), ("value", 16)]) (N := ["self", "mail", "ways", "widths", "turn", "numbers", "room", "head", "places", "cost", "period", "quiet", "silent", "losses", "values", "word", "value", "way"]) (sc := defScope s_Line__init__) (by decide +kernel)) (fun _ _ _ _ _ => (pg_tup rfl (pgs_cons (pg_name (i := 15) sc_Line__init__.nd rfl (Or.inl rfl)) (pgs_cons (pg_name (i := 16) sc_Line__init__.nd rfl (Or.inl rfl)) pgs_nil)))) (fun _ _ _ _ _ => pts_nil) (fun _ _ _ _ _ => (pe_tup (pa_cons (pv 15) (pa_cons (pe_ifExp (pt_val (pe_call (ok_is_list T) (hr.mono (by decide)) rfl T.g_is_list T.d_is_list.kp (bi_is_list T) .nil passN (pa_cons (pv 16) pa_nil))) (pe_callTy (WX.cK WX.rTupK (K := K) (by rfl) call_tuple_of) (by rfl) T.f_tuple (by decide +kernel) (pa_cons (pv 16) pa_nil)) (pv 16)) pa_nil))))) pa_nil)) rfl)
    (pss_cons (ps_fld (pv 0) (pv 1) rfl)
    (pss_cons (ps_fld (pv 0) (pe_dget (hu_of hr) (pe_fld (pv 0) rfl) pe_str (fun _ _ => rfl)) rfl)
    (pss_cons (ps_fld (pv 0) (pe_dget (hu_of hr) (pe_fld (pv 0) rfl) pe_str (fun _ _ => rfl)) rfl)
    (pss_cons (ps_fld (pv 0) (pv 4) rfl)
    (pss_cons (ps_fld (pv 0) (pv 5) rfl)
    (pss_cons (ps_fld (pv 0) (pv 6) rfl)
    (pss_cons (ps_fld (pv 0) (pv 7) rfl)
    (pss_cons (ps_fld (pv 0) (pv 8) rfl)
    (pss_cons (ps_fld (pv 0) (pv 9) rfl)
    (pss_cons (ps_fld (pv 0) (pv 10) rfl)
    (pss_cons (ps_fld (pv 0) (pv 11) rfl)
    (pss_cons (ps_fld (pv 0) (pv 12) rfl)
    (pss_one (ps_fld (pv 0) (pv 13) rfl)))))))))))))))))), fun xa => ?_⟩
    dsimp only [cxOf]
    have e0 : (Sl.oins xa "Line" [] :: (List.map Sl.d (valsL r qw qd) ++ List.replicate ((["self", "mail", "ways", "widths", "turn", "numbers", "room", "head", "places", "cost", "period", "quiet", "silent", "losses", "values", "word", "value", "way"] : List Str).length - ((valsL r qw qd).length + 1)) Sl.un)) = [Sl.oins xa "Line" [], .d (mailD r.rows), .d qw, .d qd, .d (.int r.turn), .d (.int r.numbers), .d (roomD r.size r.bnds), .d (.int r.head), .d (.int r.places), .d (.int r.cost), .d (.int r.period), .d (.int r.quiet), .d (.int r.silent), .d (.int r.losses), .un, .un, .un, .un] := rfl
    rw [e0]
    have c1 := T.c_Line
    have n1 := T.n_Line_given
    have n2 := T.n_Line_mail
    have n3 := T.n_Line_ways
    have n4 := T.n_Line_widths
    have n5 := T.n_Line_turn
    have n6 := T.n_Line_numbers
    have n7 := T.n_Line_room
    have n8 := T.n_Line_head
    have n9 := T.n_Line_places
    have n10 := T.n_Line_cost
    have n11 := T.n_Line_period
    have n12 := T.n_Line_quiet
    have n13 := T.n_Line_silent
    have n14 := T.n_Line_losses
    have ks := T.kset
    have cw := T.c_Way
    have nw1 := T.n_Way_begin
    have nw2 := T.n_Way_boxes
    have nw3 := T.n_Way_most
    repeat' walk_at "evu"
    refine st_for (js := List.range 64) ?_
    repeat' walk_at "evs"
    refine ⟨_, _, .inr rfl, ?_⟩
    refine ⟨fun (n : Nat) δ' => (∃ s1 s2, δ' = [Sl.oins xa "Line" [], .d (mailD r.rows), .d qw, .d qd, .d (.int r.turn), .d (.int r.numbers), .d (roomD r.size r.bnds), .d (.int r.head), .d (.int r.places), .d (.int r.cost), .d (.int r.period), .d (.int r.quiet), .d (.int r.silent), .d (.int r.losses), .d (.tup (valsL r qw qd)), s1, s2, .un]) ∧ ∀ j : Nat, j < n → (rsBs r)[j]? ≠ some false, ⟨⟨_, _, rfl⟩, fun j hj => absurd hj (Nat.not_lt_zero _)⟩, ?_, ?_⟩
    · rintro i y δ' hy ⟨⟨s1, s2, rfl⟩, pre⟩
      obtain ⟨dz, v, h1, h2, rfl⟩ := zipD_get hy
      rw [List.getElem?_map] at h1
      obtain ⟨z, hz, rfl⟩ := Option.map_eq_some_iff.mp h1
      obtain ⟨c, rs, hc⟩ := rs_at ok hw hd hz h2
      repeat' walk_at "evs"
      refine ⟨_, _, _, rfl, rs, ?_⟩
      cases c with
      | false =>
        repeat' walk_at "evs"
        exact k1 z (by unfold outW; rw [ff_some pre hz hc])
      | true =>
        repeat' walk_at "evs"
        refine ⟨⟨_, _, rfl⟩, fun j hj => ?_⟩
        by_cases e : j = i
        · rw [e, hc]; exact fun q => by cases q
        · exact pre j (by omega)
    · rintro δ' ⟨⟨s1, s2, rfl⟩, pre⟩
      have hz13 : (zipD (SETL.map D.str) (valsL r qw qd)).length = 13 := rfl
      have pre2 : ∀ j : Nat, (rsBs r)[j]? ≠ some false := fun j => by
        by_cases hj : j < 13
        · exact pre j hj
        · rw [List.getElem?_eq_none (by show 13 ≤ j; omega)]; exact fun q => by cases q
      have ho : outW r = if r.ways.any (boxBad r.turn) = true then some ("turn" : Str) else none := by unfold outW; rw [ff_none pre2]
      repeat' walk_at "evs"
      refine ⟨by rw [List.length_map]; have := ok.ways; omega, fun y => .bl (boxBadD r.turn y), ?_, ?_⟩
      · intro y hy
        obtain ⟨x, hx, rfl⟩ := List.mem_map.mp hy
        have hhi := ok.wys x hx
        have hlen : (D.tup (x.bx.map boxD)).len = some (x.bx.map boxD).length := rfl
        cases hb : x.b with
        | none =>
          have e1 : (begD x.b).isNon = true := by rw [hb] <;> rfl
          repeat' walk_at "evu"
          show D.bl false = D.bl (!(begD x.b).isNon && _)
          rw [e1] <;> rfl
        | some b0 =>
          have e1 : (begD x.b).isNon = false := by rw [hb] <;> rfl
          have e3 : D.bl (boxBadD r.turn (wayD x)) = D.bl (decide ((0 : Int) < ((x.bx.map boxD).length : Int)) && decide (r.turn < 2 * x.hi)) := by
            show D.bl (!(begD x.b).isNon && _) = _
            rw [e1] <;> rfl
          cases hq : decide ((0 : Int) < ((x.bx.map boxD).length : Int)) with
          | false =>
            rw [hq] at e3
            repeat' walk_at "evu"
            exact e3.symm
          | true =>
            rw [hq] at e3
            repeat' walk_at "evu"
            refine ⟨.inl ⟨by decide, by decide⟩, _, _, rfl, rfl, ?_⟩
            exact e3.symm
      · refine ⟨r.ways.map (boxBad r.turn), ?_, ?_⟩
        · rw [List.map_map, List.map_map]
          exact congrArg D.lst (List.map_congr_left fun x _ => congrArg D.bl (boxBad_eq r.turn x))
        · have e : (r.ways.map (boxBad r.turn)).any id = r.ways.any (boxBad r.turn) := by rw [List.any_map] <;> rfl
          rw [e]
          cases ha : r.ways.any (boxBad r.turn) with
          | true =>
            rw [ha] at ho
            repeat' walk_at "evs"
            exact k1 _ (ho.trans (if_pos rfl))
          | false =>
            rw [ha] at ho
            have ho2 : outW r = none := ho
            have kk := k2 ho2
            repeat' walk_at "evs"
            refine ev_newD (eo_dictP (ev_map ?_))
            repeat' walk_at "evs"
            refine ⟨_, _, .inr rfl, by rw [hz13]; decide, givD, ?_, lineG r, ?_, ?_, ?_⟩
            · intro y hy
              obtain ⟨j, hj, e⟩ := List.getElem_of_mem hy
              have e' := List.getElem?_eq_getElem hj
              rw [e] at e'
              obtain ⟨dz, v, h1, h2, rfl⟩ := zipD_get e'
              rw [List.getElem?_map] at h1
              obtain ⟨z, hz, rfl⟩ := Option.map_eq_some_iff.mp h1
              obtain ⟨c, rs, hc⟩ := rs_at ok hw hd hz h2
              have kn := rs.kn
              cases v with
              | raw a => exact kn.elim
              | _ =>
                repeat' walk_at "evt"
            · rcases hw with rfl | rfl <;> rcases hd with rfl | rfl <;> rfl
            · show SETL.Nodup
              decide
            · refine ⟨_, rfl, ?_⟩
              repeat' walk_at "evu"
              exact kk
end
end WK
end
section
set_option Elab.async false
set_option linter.all false
set_option maxRecDepth 100000
set_option maxHeartbeats 1000000
/-! The library's defs over data: a line from its settings, one setting changed. -/
local macro_rules | `(tactic| walk_at "ev") => `(tactic| first
  | (with_reducible refine WL.st_seq ?_) | (with_reducible refine WL.st_ret ?_) | (with_reducible refine WL.st_retN ?_) | (with_reducible refine WL.st_next ?_) | (with_reducible refine WL.st_if ?_)
  | (with_reducible refine WL.et_and ?_) | (with_reducible refine WL.et_or ?_) | (with_reducible refine WL.et_not ?_) | (with_reducible refine WL.et_test ?_) | (with_reducible refine WL.et_B ?_)
  | (with_reducible refine WL.ev_andV ?_) | (with_reducible refine WL.ev_orV ?_) | (with_reducible refine WL.ev_notV ?_) | (with_reducible refine WL.ev_if ?_)
  | (with_reducible refine WL.ev_v ?_) | (with_reducible refine WL.ev_int ?_) | (with_reducible refine WL.ev_str ?_) | (with_reducible refine WL.ev_non ?_) | (with_reducible refine WL.ev_bl ?_)
  | (with_reducible refine WL.ea_nil ?_) | (with_reducible refine WL.ea_cons ?_) | (with_reducible refine WL.ev_tup ?_)
  | (with_reducible refine WL.ev_make ?_) | (with_reducible refine WL.ev_makeN ?_) | (with_reducible refine WL.ev_call ?_) | (with_reducible refine WL.ev_callN ?_) | (with_reducible refine WL.ev_meth ?_) | (with_reducible refine WL.ev_methN ?_)
  | (with_reducible refine WL.ev_isi (.ty _) ?_) | (with_reducible refine WL.ev_isi (.own _) ?_) | (with_reducible refine WL.ev_isiT (.ty _) (.ty _) ?_)
  | (with_reducible refine WL.ev_len ?_) | (with_reducible refine WL.ev_all ?_) | (with_reducible refine WL.ev_any ?_) | (with_reducible refine WL.ev_tuple ?_) | (with_reducible refine WL.ev_listD ?_) | (with_reducible refine WL.ev_map ?_) | (with_reducible refine WL.ei_tup ?_) | (with_reducible refine WL.ei_list ?_) | (with_reducible refine WL.ei_str ?_) | (with_reducible refine WL.ei_zip ?_) | (with_reducible refine WL.ei_seqV ?_) | (with_reducible refine WL.ei_enumA ?_) | (with_reducible refine WL.ev_eqS ?_) | (with_reducible refine WL.ev_inS ?_)
  | (with_reducible refine WL.ev_chain ?_) | (with_reducible refine WL.ev_chain3 ?_) | (with_reducible refine WL.ev_opB ?_) | (with_reducible refine WL.ev_opI ?_) | (with_reducible refine WL.ev_eq ?_) | (with_reducible refine WL.ev_ne ?_) | (with_reducible refine WL.ev_isN ?_) | (with_reducible refine WL.ev_notN ?_)
  | (with_reducible refine WL.ev_ixL ?_) | (with_reducible refine WL.ev_ixT ?_) | (with_reducible refine WL.ev_ixD ?_) | (with_reducible refine WL.ev_kstr (by assumption) ?_) | (with_reducible refine WL.ev_eqG ?_) | (with_reducible refine WL.ev_in ?_) | (with_reducible refine WL.st_raise ?_) | (with_reducible refine WL.st_fl ?_) | (with_reducible refine WL.ev_fld ?_)
  | (with_reducible refine WK.ty_int (by assumption) ?_ ?_) | (with_reducible refine WK.ty_bool (by assumption) ?_ ?_) | (with_reducible refine WK.ty_str (by assumption) ?_ ?_) | (with_reducible refine WK.ty_tup (by assumption) ?_ ?_) | (with_reducible refine WK.ty_seq (by assumption) ?_ ?_) | (with_reducible refine WK.ty_own (by assumption) ?_ ?_ ?_ ?_; focus (simp [WK.CLS]; done))
  | (show WK.Kn _; first | assumption | trivial | (simp [WK.Kn, WK.CLS]; done)) | (show ∀ l, _ ≠ WL.D.dic l; intro _ h; cases h)
  | (with_reducible refine WL.st_asg ?_) | (with_reducible refine WL.st_asgT (js := List.range 64) ?_) | (with_reducible refine WL.tg_tu ?_) | (with_reducible refine WL.tg_cons ?_) | (with_reducible refine WL.tg_nil ?_) | (with_reducible refine WL.tg_name (by first | decide | simp) ?_)
  | refine WL.ift rfl ?_ | refine WL.iff' rfl ?_
  | refine And.intro (by first | assumption | trivial : WK.Kn _) ?_
  | refine ⟨_, _, _, rfl, (by assumption : L2.Cls _ _), (by assumption : L2.NoAttr _ _ _), (by first | rfl | exact Nat.le_of_ble_eq_true rfl), ?_⟩
  | refine ⟨_, rfl, ?_⟩ | refine ⟨_, _, rfl, rfl, ?_⟩ | refine ⟨_, _, rfl, (by assumption : _ ∨ _), ?_⟩ | refine ⟨_, _, rfl, ?_⟩ | refine ⟨_, _, _, rfl, ?_⟩ | refine ⟨_, _, _, _, rfl, ?_⟩ | refine ⟨_, _, _, rfl, rfl, (by first | assumption | rfl : WL.atD _ _ = some _), ?_⟩ | refine ⟨_, _, _, rfl, rfl, rfl, ?_⟩ | refine And.intro rfl ?_ | refine And.intro (by assumption) ?_ | refine And.intro (Nat.le_of_ble_eq_true rfl) ?_ | exact rfl)
local macro_rules | `(tactic| walk_at "evs") => `(tactic| first | walk_at "ev" | (with_reducible refine WL.ift ?_ ?_; focus (first | assumption | (simp [*]; done) | (simp; omega))) | (with_reducible refine WL.iff' ?_ ?_; focus (first | assumption | (simp [*]; done) | (simp; omega))))
local macro_rules | `(tactic| walk_at "evb") => `(tactic| first | walk_at "ev" | (with_reducible refine WL.ifb (fun _ => ?_) (fun _ => ?_)))
local macro_rules | `(tactic| walk_at "evt") => `(tactic| first | walk_at "evs" | refine ⟨_, Or.inl rfl, ?_⟩ | refine ⟨_, Or.inr rfl, ?_⟩ | fail)
local macro_rules | `(tactic| walk_at "evu") => `(tactic| first | (with_reducible refine WL.ev_ofl ?_; refine ⟨_, _, _, _, rfl, (by assumption : L2.Cls _ _), (by assumption : L2.NoAttr _ _ _), rfl, ?_⟩) | walk_at "evt" | (with_reducible refine WL.ev_opC ?_) | (with_reducible refine WL.ev_dget ?_) | (with_reducible refine WL.ev_ofl ?_) | (with_reducible refine WL.ev_makeK ?_) | fail)
namespace WK
open PySem PySem.Spec PyProof.Rows L2 WL
section
variable {K : PySem.W.Frag} {mg : Str → Option Value} {w : World} {base : Heap}
theorem len_succ {α : Type} {l : List α} {n : Nat} (h : l.length = n + 1) : ∃ a t, l = a :: t ∧ t.length = n := by
  cases l with
  | nil => cases h
  | cons a t => exact ⟨a, t, rfl, Nat.succ.inj h⟩
theorem bindLine (kV doc pm : Value) (an : Option Addr) (cdv ct : Value) (a0 a1 a2 a3 a4 a5 a6 a7 a8 a9 a10 a11 a12 a13 : Value) : bindArgs (PySem.W.fnOf "__init__" "Line.__init__" (defArgs s_Line__init__) (defBody s_Line__init__) (defScope s_Line__init__) .none kV doc pm an cdv ct) ⟨[a0, a1, a2, a3], [(("turn" : Str), a4), (("numbers" : Str), a5), (("room" : Str), a6), (("head" : Str), a7), (("places" : Str), a8), (("cost" : Str), a9), (("period" : Str), a10), (("quiet" : Str), a11), (("silent" : Str), a12), (("losses" : Str), a13)]⟩ = (pure [(("self" : Str), a0), (("mail" : Str), a1), (("ways" : Str), a2), (("widths" : Str), a3), (("turn" : Str), a4), (("numbers" : Str), a5), (("room" : Str), a6), (("head" : Str), a7), (("places" : Str), a8), (("cost" : Str), a9), (("period" : Str), a10), (("quiet" : Str), a11), (("silent" : Str), a12), (("losses" : Str), a13)] : Sem (List (Str × Value))) := by kernel_rfl!
theorem kb_Line__init__ (T : Txt K mg w) : KBn K (fdOf K ("Line", some "__init__")) ["self", "mail", "ways", "widths", "turn", "numbers", "room", "head", "places", "cost", "period", "quiet", "silent", "losses"] 4
    ["turn", "numbers", "room", "head", "places", "cost", "period", "quiet", "silent", "losses"] (fun us ws => us ++ ws) (fun vs zs => vs ++ zs) where
  to := fun s us ws X l1 l2 => by
    obtain ⟨oc, od, dV, kV, doc, pm, an, cdv, ct, osl, e, lk, hcd, hD, hK⟩ := T.d_Line__init__.ex
    rcases hD with ⟨_, rfl⟩ | ⟨e, _⟩
    · rw [e]
      obtain ⟨a0, u0, rfl, m1⟩ := len_succ l1
      obtain ⟨a1, u1, rfl, m2⟩ := len_succ m1
      obtain ⟨a2, u2, rfl, m3⟩ := len_succ m2
      obtain ⟨a3, u3, rfl, m4⟩ := len_succ m3
      obtain ⟨a4, u4, rfl, p5⟩ := len_succ l2
      obtain ⟨a5, u5, rfl, p6⟩ := len_succ p5
      obtain ⟨a6, u6, rfl, p7⟩ := len_succ p6
      obtain ⟨a7, u7, rfl, p8⟩ := len_succ p7
      obtain ⟨a8, u8, rfl, p9⟩ := len_succ p8
      obtain ⟨a9, u9, rfl, p10⟩ := len_succ p9
      obtain ⟨a10, u10, rfl, p11⟩ := len_succ p10
      obtain ⟨a11, u11, rfl, p12⟩ := len_succ p11
      obtain ⟨a12, u12, rfl, p13⟩ := len_succ p12
      obtain ⟨a13, u13, rfl, p14⟩ := len_succ p13
      obtain rfl := List.eq_nil_of_length_eq_zero m4
      obtain rfl := List.eq_nil_of_length_eq_zero p14
      have h := @BindsTo.of_eq s _ _ _ (bindLine kV doc pm an cdv ct a0 a1 a2 a3 a4 a5 a6 a7 a8 a9 a10 a11 a12 a13)
      simp only [List.zip_cons_cons, List.zip_nil_right, List.zip_nil_left, List.cons_append, List.nil_append]
      with_reducible exact h
    · exact absurd rfl e
  rel := fun r1 r2 => r1.append r2
abbrev lineQ (r : Rw) (qw qd : D) : List (Str × D) := [("mail", mailD r.rows), ("ways", qw), ("widths", qd), ("turn", .int r.turn), ("numbers", .int r.numbers), ("room", roomD r.size r.bnds), ("head", .int r.head), ("places", .int r.places), ("cost", .int r.cost), ("period", .int r.period), ("quiet", .int r.quiet), ("silent", .int r.silent), ("losses", .int r.losses)]
abbrev F_line_of : Fn1 := fun _ ds R ex => ∃ (r : Rw) (qw qd : D), ds = [.dic (lineQ r qw qd)] ∧ BaseOk r ∧ seqD qw (r.ways.map wayD) ∧ seqD qd (r.widths.map D.int) ∧ (∀ z, outW r = some z → ex "BadPart" "part" (.str z)) ∧ (outW r = none → R (lineD r))
theorem ok_line_of (T : Txt K mg w) : FnOk PG w K mg base (L2.CX PG w) 15 (He.ga K "line_of") (fdOf K ("line_of", none)) ["given"] (spD K F_line_of) :=
  WL.fnD (k := 14) T.d_line_of sc_line_of (fun _ _ _ _ ⟨_, _, _, e, _⟩ => by rw [e] <;> rfl) fun cdv A outer s H E G ds R ex hr ⟨r, qw, qd, e, ok, hw, hd, k1, k2⟩ => by
    subst e
    refine ⟨_, (pss_one (ps_ret (pe_makeK T.mk_Line (ok_Line__init__ T) (hr.mono (by decide)) rfl T.g_Line (kb_Line__init__ T) (passR rfl rfl rfl rfl) (pa_cons (pe_dget (hu_of hr) (pv 0) pe_str (fun _ _ => rfl)) (pa_cons (pe_dget (hu_of hr) (pv 0) pe_str (fun _ _ => rfl)) (pa_cons (pe_dget (hu_of hr) (pv 0) pe_str (fun _ _ => rfl)) pa_nil))) (pk_cons (pe_dget (hu_of hr) (pv 0) pe_str (fun _ _ => rfl)) (pk_cons (pe_dget (hu_of hr) (pv 0) pe_str (fun _ _ => rfl)) (pk_cons (pe_dget (hu_of hr) (pv 0) pe_str (fun _ _ => rfl)) (pk_cons (pe_dget (hu_of hr) (pv 0) pe_str (fun _ _ => rfl)) (pk_cons (pe_dget (hu_of hr) (pv 0) pe_str (fun _ _ => rfl)) (pk_cons (pe_dget (hu_of hr) (pv 0) pe_str (fun _ _ => rfl)) (pk_cons (pe_dget (hu_of hr) (pv 0) pe_str (fun _ _ => rfl)) (pk_cons (pe_dget (hu_of hr) (pv 0) pe_str (fun _ _ => rfl)) (pk_cons (pe_dget (hu_of hr) (pv 0) pe_str (fun _ _ => rfl)) (pk_cons (pe_dget (hu_of hr) (pv 0) pe_str (fun _ _ => rfl)) pk_nil))))))))))))), ?_⟩
    dsimp only [cxOf]
    repeat' walk_at "evu"
    exact k2
/-- one setting, made anew -/
inductive SetR (r : Rw) : Str → D → Rw → D → D → Prop
  | turn (n : Int) : SetR r "turn" (.int n) { r with turn := n } (waysD r.ways) (intsT r.widths)
  | numbers (n : Int) : SetR r "numbers" (.int n) { r with numbers := n } (waysD r.ways) (intsT r.widths)
  | head (n : Int) : SetR r "head" (.int n) { r with head := n } (waysD r.ways) (intsT r.widths)
  | period (n : Int) : SetR r "period" (.int n) { r with period := n } (waysD r.ways) (intsT r.widths)
  | quiet (n : Int) : SetR r "quiet" (.int n) { r with quiet := n } (waysD r.ways) (intsT r.widths)
  | losses (n : Int) : SetR r "losses" (.int n) { r with losses := n } (waysD r.ways) (intsT r.widths)
  | room (s : Int) (bs : List Int) : SetR r "room" (roomD s bs) { r with size := s, bnds := bs } (waysD r.ways) (intsT r.widths)
  | ways (l : List Wy) (q : D) : seqD q (l.map wayD) → SetR r "ways" q { r with ways := l } q (intsT r.widths)
abbrev F_with_setting : Fn1 := fun _ ds R ex => ∃ (r : Rw) (z : Str) (v : D), ds = [lineD r, .str z, v] ∧ ((∃ r' qw qd, SetR r z v r' qw qd ∧ BaseOk r' ∧ (∀ z, outW r' = some z → ex "BadPart" "part" (.str z)) ∧ (outW r' = none → R (lineD r'))) ∨ (z = "word" ∧ ex "BadPart" "part" (.str "word")))
def getD : D → D → D
  | .dic l, .str z => match l.lookup z with
    | some v => .tup [.str z, v]
    | none => .non
  | _, _ => .non
theorem ok_Line_with_setting (T : Txt K mg w) : FnOk PG w K mg base (L2.CX PG w) 31 (He.ma K (He.ga K "Line") "with_setting") (fdOf K ("Line", some "with_setting")) ["self", "word", "value"] (spD K F_with_setting) :=
  WL.fnD (k := 30) T.d_Line_with_setting sc_Line_with_setting (fun _ _ _ _ ⟨_, _, _, e, _⟩ => by rw [e] <;> rfl) fun cdv A outer s H E G ds R ex hr ⟨r, z, v, e, k⟩ => by
    subst e
    refine ⟨_, (pss_cons (ps_if (PW.pt (pw_or (pt_not (pt_val (pe_callB call_isi (by rfl) T.f_isinstance (by decide +kernel) (pa_cons (pv 1) (pa_cons (pe_bltn (v := .ty "str") (u := .type "str") rfl T.f_str (by kernel_rfl) rfl) pa_nil))))) (pw_or1 (pt_cmpR op_notIn_seq (pv 1) (pe_glob (v := V.ref (He.ga K "SETTINGS")) rfl T.g_SETTINGS rfl) rfl)))) (pss_one (WL.ps_raiseD rfl (takes_of rfl rfl rfl rfl) T.x_BadPart (WX.xinit_fn (k := 0) T.x_BadPart) (hr.mono (by decide)) T.xb_BadPart passN rfl (pv 1))) pss_nil)
    (pss_cons (ps_set (i := 3) sc_Line_with_setting.nd rfl (Or.inl rfl) (pe_callTy (call_dictP rfl) (by rfl) T.f_dict (by decide +kernel) (pa_cons (pe_lc (own := [("one", 4)]) rfl sc_Line_with_setting.nd (pi_tup (pe_glob (v := V.ref (He.ga K "SETTINGS")) rfl T.g_SETTINGS rfl)) (blkOk_by (own := [("one", 4)]) (N := ["self", "word", "value", "given", "one"]) (sc := defScope s_Line_with_setting) (by decide +kernel)) (fun _ _ _ _ _ => (pg_name (i := 4) sc_Line_with_setting.nd rfl (Or.inl rfl))) (fun _ _ _ _ _ => pts_nil) (fun _ _ _ _ _ => (pe_tup (pa_cons (pv 4) (pa_cons (pe_dget (hu_of hr) (WX.fldK (K := K) (by rfl) (pv 0) rfl) (pv 4) (fun _ _ => rfl)) pa_nil))))) pa_nil)))
    (pss_cons (ps_dput (hu_of hr) (pv 3) (pv 1) (pv 2) rfl)
    (pss_one (ps_ret (pe_call (ok_line_of T) (hr.mono (by decide)) rfl T.g_line_of T.d_line_of.kp (bi_line_of T) .nil (passR rfl rfl rfl rfl) (pa_cons (pv 3) pa_nil))))))), ?_⟩
    dsimp only [cxOf]
    have c1 := T.c_Line
    have n1 := T.n_Line_given
    have ks := T.kset
    rcases k with ⟨r', qw, qd, sr, ok, k1, k2⟩ | ⟨rfl, k⟩
    · have facts : inV (V.str z) (SETL.map V.str) = true ∧ putA z v (lineG r) = lineQ r' qw qd ∧ seqD qw (r'.ways.map wayD) ∧ seqD qd (r'.widths.map D.int) := by
        cases sr with
        | ways l q h => exact ⟨rfl, rfl, h, .inr rfl⟩
        | _ => exact ⟨rfl, rfl, .inr rfl, .inr rfl⟩
      obtain ⟨hin, hp, hw, hd⟩ := facts
      repeat' walk_at "evu"
      refine iff' (by show (!inV (V.str z) (SETL.map V.str)) = false; rw [hin] <;> rfl) (st_next ?_)
      refine st_seq (st_asgO (eo_dictP (ev_map ?_)))
      repeat' walk_at "evu"
      refine ⟨getD (.dic (lineG r)), ?_, lineG r, rfl, (show SETL.Nodup by decide), ?_⟩
      · intro y hy
        obtain ⟨q, hq, rfl⟩ := List.mem_map.mp hy
        simp only [SETL, List.mem_cons, List.not_mem_nil, or_false] at hq
        rcases hq with rfl | rfl | rfl | rfl | rfl | rfl | rfl | rfl | rfl | rfl | rfl | rfl | rfl
        all_goals repeat' walk_at "evu"
      · refine st_seq (st_dput (i := 3) rfl (Nat.le_of_ble_eq_true rfl) (show SETL.Nodup by decide) ?_)
        refine ev_v ⟨_, rfl, ?_⟩
        refine ev_v ⟨_, rfl, ?_⟩
        refine ⟨_, rfl, ?_⟩
        rw [hp]
        refine st_freezeD 3 rfl ?_
        repeat' walk_at "evu"
        exact k2
    · repeat' walk_at "evu"
      exact k
end
end WK
end
section
set_option Elab.async false
set_option linter.all false
set_option maxRecDepth 100000
set_option maxHeartbeats 1000000
/-! The library's defs over data: lines compared, changed. -/
local macro_rules | `(tactic| walk_at "ev") => `(tactic| first
  | (with_reducible refine WL.st_seq ?_) | (with_reducible refine WL.st_ret ?_) | (with_reducible refine WL.st_retN ?_) | (with_reducible refine WL.st_next ?_) | (with_reducible refine WL.st_if ?_)
  | (with_reducible refine WL.et_and ?_) | (with_reducible refine WL.et_or ?_) | (with_reducible refine WL.et_not ?_) | (with_reducible refine WL.et_test ?_) | (with_reducible refine WL.et_B ?_)
  | (with_reducible refine WL.ev_andV ?_) | (with_reducible refine WL.ev_orV ?_) | (with_reducible refine WL.ev_notV ?_) | (with_reducible refine WL.ev_if ?_)
  | (with_reducible refine WL.ev_v ?_) | (with_reducible refine WL.ev_int ?_) | (with_reducible refine WL.ev_str ?_) | (with_reducible refine WL.ev_non ?_) | (with_reducible refine WL.ev_bl ?_)
  | (with_reducible refine WL.ea_nil ?_) | (with_reducible refine WL.ea_cons ?_) | (with_reducible refine WL.ev_tup ?_)
  | (with_reducible refine WL.ev_make ?_) | (with_reducible refine WL.ev_makeN ?_) | (with_reducible refine WL.ev_call ?_) | (with_reducible refine WL.ev_callN ?_) | (with_reducible refine WL.ev_meth ?_) | (with_reducible refine WL.ev_methN ?_)
  | (with_reducible refine WL.ev_isi (.ty _) ?_) | (with_reducible refine WL.ev_isi (.own _) ?_) | (with_reducible refine WL.ev_isiT (.ty _) (.ty _) ?_)
  | (with_reducible refine WL.ev_len ?_) | (with_reducible refine WL.ev_all ?_) | (with_reducible refine WL.ev_any ?_) | (with_reducible refine WL.ev_tuple ?_) | (with_reducible refine WL.ev_listD ?_) | (with_reducible refine WL.ev_map ?_) | (with_reducible refine WL.ei_tup ?_) | (with_reducible refine WL.ei_list ?_) | (with_reducible refine WL.ei_str ?_) | (with_reducible refine WL.ei_zip ?_) | (with_reducible refine WL.ei_seqV ?_) | (with_reducible refine WL.ei_enumA ?_) | (with_reducible refine WL.ev_eqS ?_) | (with_reducible refine WL.ev_inS ?_)
  | (with_reducible refine WL.ev_chain ?_) | (with_reducible refine WL.ev_chain3 ?_) | (with_reducible refine WL.ev_opB ?_) | (with_reducible refine WL.ev_opI ?_) | (with_reducible refine WL.ev_eq ?_) | (with_reducible refine WL.ev_ne ?_) | (with_reducible refine WL.ev_isN ?_) | (with_reducible refine WL.ev_notN ?_)
  | (with_reducible refine WL.ev_ixL ?_) | (with_reducible refine WL.ev_ixT ?_) | (with_reducible refine WL.ev_ixD ?_) | (with_reducible refine WL.ev_kstr (by assumption) ?_) | (with_reducible refine WL.ev_eqG ?_) | (with_reducible refine WL.ev_in ?_) | (with_reducible refine WL.st_raise ?_) | (with_reducible refine WL.st_fl ?_) | (with_reducible refine WL.ev_fld ?_)
  | (with_reducible refine WK.ty_int (by assumption) ?_ ?_) | (with_reducible refine WK.ty_bool (by assumption) ?_ ?_) | (with_reducible refine WK.ty_str (by assumption) ?_ ?_) | (with_reducible refine WK.ty_tup (by assumption) ?_ ?_) | (with_reducible refine WK.ty_seq (by assumption) ?_ ?_) | (with_reducible refine WK.ty_own (by assumption) ?_ ?_ ?_ ?_; focus (simp [WK.CLS]; done))
  | (show WK.Kn _; first | assumption | trivial | (simp [WK.Kn, WK.CLS]; done)) | (show ∀ l, _ ≠ WL.D.dic l; intro _ h; cases h)
  | (with_reducible refine WL.st_asg ?_) | (with_reducible refine WL.st_asgT (js := List.range 64) ?_) | (with_reducible refine WL.tg_tu ?_) | (with_reducible refine WL.tg_cons ?_) | (with_reducible refine WL.tg_nil ?_) | (with_reducible refine WL.tg_name (by first | decide | simp) ?_)
  | refine WL.ift rfl ?_ | refine WL.iff' rfl ?_
  | refine And.intro (by first | assumption | trivial : WK.Kn _) ?_
  | refine ⟨_, _, _, rfl, (by assumption : L2.Cls _ _), (by assumption : L2.NoAttr _ _ _), (by first | rfl | exact Nat.le_of_ble_eq_true rfl), ?_⟩
  | refine ⟨_, rfl, ?_⟩ | refine ⟨_, _, rfl, rfl, ?_⟩ | refine ⟨_, _, rfl, (by assumption : _ ∨ _), ?_⟩ | refine ⟨_, _, rfl, ?_⟩ | refine ⟨_, _, _, rfl, ?_⟩ | refine ⟨_, _, _, _, rfl, ?_⟩ | refine ⟨_, _, _, rfl, rfl, (by first | assumption | rfl : WL.atD _ _ = some _), ?_⟩ | refine ⟨_, _, _, rfl, rfl, rfl, ?_⟩ | refine And.intro rfl ?_ | refine And.intro (by assumption) ?_ | refine And.intro (Nat.le_of_ble_eq_true rfl) ?_ | exact rfl)
local macro_rules | `(tactic| walk_at "evs") => `(tactic| first | walk_at "ev" | (with_reducible refine WL.ift ?_ ?_; focus (first | assumption | (simp [*]; done) | (simp; omega))) | (with_reducible refine WL.iff' ?_ ?_; focus (first | assumption | (simp [*]; done) | (simp; omega))))
local macro_rules | `(tactic| walk_at "evb") => `(tactic| first | walk_at "ev" | (with_reducible refine WL.ifb (fun _ => ?_) (fun _ => ?_)))
local macro_rules | `(tactic| walk_at "evt") => `(tactic| first | walk_at "evs" | refine ⟨_, Or.inl rfl, ?_⟩ | refine ⟨_, Or.inr rfl, ?_⟩ | fail)
local macro_rules | `(tactic| walk_at "evu") => `(tactic| first | (with_reducible refine WL.ev_ofl ?_; refine ⟨_, _, _, _, rfl, (by assumption : L2.Cls _ _), (by assumption : L2.NoAttr _ _ _), rfl, ?_⟩) | walk_at "evt" | (with_reducible refine WL.ev_opC ?_) | (with_reducible refine WL.ev_dget ?_) | (with_reducible refine WL.ev_ofl ?_) | (with_reducible refine WL.ev_makeK ?_) | fail)
namespace WK
open PySem PySem.Spec PyProof.Rows L2 WL
abbrev TL : D → Prop := fun d => TIns "Mail" (fun d => ∃ r, goodM r ∧ d = mailD r) d ∨ (TTup (fun e => TIns "Way" (fun d => ∃ x, d = wayD x) e ∨ TFlat e) d ∨ TIns "Room" (fun d => ∃ s bs, d = roomD s bs) d)
section
variable {p : Pr} {ta tb : TE} {δ : List Sl} {R : D → Prop} {T : D → Prop}
theorem ev_eqU (h : EvP p ta δ fun x => EvP p tb δ fun y => x = y ∧ ((∃ n, x = .int n) ∨ T x) ∧ R (.bl true)) : EvP p (tOp (fun x y H Q => rEq x y H Q ∨ rEqG (Dq p.K T) x y H Q) ta tb) δ R :=
  ev_op2 h fun x y ⟨e, t, k⟩ Z v w H Q ek r1 r2 q => by
    subst e
    rcases t with ⟨n, rfl⟩ | t
    · refine .inl ?_
      cases r1
      cases r2
      refine ⟨rfl, ?_⟩
      have e : decide (V.int n = V.int n) = true := decide_eq_true rfl
      rw [e]
      exact q _ _ H (Le.refl _ _) (.bl true) k
    · exact .inr ⟨⟨x, t, r1.noZ, r2.noZ⟩, fun H' e => q _ _ H' (Le.of e) (.bl _) k⟩
end
theorem rcLine {X : Cx} (T : Txt X.K X.mg X.w) (hp : X.prog = PG) : RcG X 60 (Dq X.K TL) := by
  have f1 := ok_Mail__eq__ (base := X.base) T
  have f2 := ok_Way__eq__ (base := X.base) T
  have f3 := ok_Room__eq__ (base := X.base) T
  rw [← hp] at f1 f2 f3
  refine rcT_or (WL.RcG.mono (rcT_ins f1 fe_Mail (T.feq "Mail" (by decide)).1 (T.feq "Mail" (by decide)).2 (bi_Mail__eq__ T) passN) (by decide)) (rcT_or ?_ (WL.RcG.mono (rcT_ins f3 fe_Room (T.feq "Room" (by decide)).1 (T.feq "Room" (by decide)).2 (bi_Room__eq__ T) passN) (by decide)))
  exact WL.RcG.mono (rcT_tup (eqT_or (eqT_ins f2 fe_Way (T.feq "Way" (by decide)).1 (T.feq "Way" (by decide)).2 (bi_Way__eq__ T) passN) (eqT_flat.mono (Nat.zero_le _)))) (by decide)
section
variable {K : PySem.W.Frag} {mg : Str → Option Value} {w : World} {base : Heap}
abbrev F_Line_eq : Fn1 := fun _ ds R _ => ∃ r, ds = [lineD r, lineD r] ∧ goodM r.rows ∧ R (.bl true)
theorem ok_Line__eq__ (T : Txt K mg w) : FnOk PG w K mg base (L2.CX PG w) 80 (He.ma K (He.ga K "Line") "__eq__") (fdOf K ("Line", some "__eq__")) ["self", "other"] (spD K F_Line_eq) :=
  WL.fnD (k := 79) T.d_Line__eq__ sc_Line__eq__ (fun _ _ _ _ ⟨_, e, _⟩ => by rw [e] <;> rfl) fun cdv A outer s H E G ds R ex hr ⟨r, e, gr, k⟩ => by
    subst e
    refine ⟨_, (pss_cons (ps_if (pt_not (pt_val (pe_callB call_isi (by rfl) T.f_isinstance (by decide +kernel) (pa_cons (pv 1) (pa_cons (pe_glob (v := V.ref (He.ga K "Line")) rfl T.g_Line rfl) pa_nil))))) (pss_one ps_never) pss_nil)
    (pss_one (ps_ret (pe_callB (cr_all rfl) (by rfl) T.f_all (by decide +kernel) (pa_cons (pe_lc (own := [("word", 2)]) rfl sc_Line__eq__.nd (pi_tup (pe_glob (v := V.ref (He.ga K "SETTINGS")) rfl T.g_SETTINGS rfl)) (blkOk_by (own := [("word", 2)]) (N := ["self", "other", "word"]) (sc := defScope s_Line__eq__) (by decide +kernel)) (fun _ _ _ _ _ => (pg_name (i := 2) sc_Line__eq__.nd rfl (Or.inl rfl))) (fun _ _ _ _ _ => pts_nil) (fun _ _ _ _ _ => (pe_cmpR (op_or op_eq (WX.oK (fun K => rEqG (Dq K TL)) (K := K) (by rfl) (by exact op_eqG (rcLine T rfl) (hr.mono (by decide))))) (pe_dget (hu_of hr) (WX.fldK (K := K) (by rfl) (pv 0) rfl) (pv 2) (fun _ _ => rfl)) (pe_dget (hu_of hr) (WX.fldK (K := K) (by rfl) (pv 1) rfl) (pv 2) (fun _ _ => rfl)) (nomark _)))) pa_nil))))), ?_⟩
    dsimp only [cxOf]
    have c1 := T.c_Line
    have n1 := T.n_Line_given
    have ks := T.kset
    have tm : TL (mailD r.rows) := .inl ⟨_, rfl, _, gr, rfl⟩
    have tr : TL (roomD r.size r.bnds) := .inr (.inr ⟨_, rfl, _, _, rfl⟩)
    have tw : TL (waysD r.ways) := .inr (.inl ⟨_, rfl, fun x hx => by
      obtain ⟨y, _, rfl⟩ := List.mem_map.mp hx
      exact .inl ⟨_, rfl, _, rfl⟩⟩)
    have td : TL (intsT r.widths) := .inr (.inl ⟨_, rfl, fun x hx => by
      obtain ⟨y, _, rfl⟩ := List.mem_map.mp hx
      exact .inr rfl⟩)
    repeat' walk_at "evu"
    refine ⟨fun _ => .bl true, ?_, SETL.map fun _ => true, rfl, k⟩
    intro y hy
    obtain ⟨q, hq, rfl⟩ := List.mem_map.mp hy
    simp only [SETL, List.mem_cons, List.not_mem_nil, or_false] at hq
    refine tg_name (by decide) (ev_eqU ?_)
    rcases hq with rfl | rfl | rfl | rfl | rfl | rfl | rfl | rfl | rfl | rfl | rfl | rfl | rfl
    all_goals repeat' walk_at "evu"
    all_goals first | exact ⟨rfl, .inl ⟨_, rfl⟩, rfl⟩ | exact ⟨rfl, .inr (by assumption), rfl⟩ | exact ⟨.inl ⟨_, rfl⟩, rfl⟩ | exact ⟨.inr (by assumption), rfl⟩
end
end WK
end
section
set_option Elab.async false
set_option linter.all false
set_option maxRecDepth 100000
set_option maxHeartbeats 1000000
/-! The library's defs over data: a line changed. -/
local macro_rules | `(tactic| walk_at "ev") => `(tactic| first
  | (with_reducible refine WL.st_seq ?_) | (with_reducible refine WL.st_ret ?_) | (with_reducible refine WL.st_retN ?_) | (with_reducible refine WL.st_next ?_) | (with_reducible refine WL.st_if ?_)
  | (with_reducible refine WL.et_and ?_) | (with_reducible refine WL.et_or ?_) | (with_reducible refine WL.et_not ?_) | (with_reducible refine WL.et_test ?_) | (with_reducible refine WL.et_B ?_)
  | (with_reducible refine WL.ev_andV ?_) | (with_reducible refine WL.ev_orV ?_) | (with_reducible refine WL.ev_notV ?_) | (with_reducible refine WL.ev_if ?_)
  | (with_reducible refine WL.ev_v ?_) | (with_reducible refine WL.ev_int ?_) | (with_reducible refine WL.ev_str ?_) | (with_reducible refine WL.ev_non ?_) | (with_reducible refine WL.ev_bl ?_)
  | (with_reducible refine WL.ea_nil ?_) | (with_reducible refine WL.ea_cons ?_) | (with_reducible refine WL.ev_tup ?_)
  | (with_reducible refine WL.ev_make ?_) | (with_reducible refine WL.ev_makeN ?_) | (with_reducible refine WL.ev_call ?_) | (with_reducible refine WL.ev_callN ?_) | (with_reducible refine WL.ev_meth ?_) | (with_reducible refine WL.ev_methN ?_)
  | (with_reducible refine WL.ev_isi (.ty _) ?_) | (with_reducible refine WL.ev_isi (.own _) ?_) | (with_reducible refine WL.ev_isiT (.ty _) (.ty _) ?_)
  | (with_reducible refine WL.ev_len ?_) | (with_reducible refine WL.ev_all ?_) | (with_reducible refine WL.ev_any ?_) | (with_reducible refine WL.ev_tuple ?_) | (with_reducible refine WL.ev_listD ?_) | (with_reducible refine WL.ev_map ?_) | (with_reducible refine WL.ei_tup ?_) | (with_reducible refine WL.ei_list ?_) | (with_reducible refine WL.ei_str ?_) | (with_reducible refine WL.ei_zip ?_) | (with_reducible refine WL.ei_seqV ?_) | (with_reducible refine WL.ei_enumA ?_) | (with_reducible refine WL.ev_eqS ?_) | (with_reducible refine WL.ev_inS ?_)
  | (with_reducible refine WL.ev_chain ?_) | (with_reducible refine WL.ev_chain3 ?_) | (with_reducible refine WL.ev_opB ?_) | (with_reducible refine WL.ev_opI ?_) | (with_reducible refine WL.ev_eq ?_) | (with_reducible refine WL.ev_ne ?_) | (with_reducible refine WL.ev_isN ?_) | (with_reducible refine WL.ev_notN ?_)
  | (with_reducible refine WL.ev_ixL ?_) | (with_reducible refine WL.ev_ixT ?_) | (with_reducible refine WL.ev_ixD ?_) | (with_reducible refine WL.ev_kstr (by assumption) ?_) | (with_reducible refine WL.ev_eqG ?_) | (with_reducible refine WL.ev_in ?_) | (with_reducible refine WL.st_raise ?_) | (with_reducible refine WL.st_fl ?_) | (with_reducible refine WL.ev_fld ?_)
  | (with_reducible refine WK.ty_int (by assumption) ?_ ?_) | (with_reducible refine WK.ty_bool (by assumption) ?_ ?_) | (with_reducible refine WK.ty_str (by assumption) ?_ ?_) | (with_reducible refine WK.ty_tup (by assumption) ?_ ?_) | (with_reducible refine WK.ty_seq (by assumption) ?_ ?_) | (with_reducible refine WK.ty_own (by assumption) ?_ ?_ ?_ ?_; focus (simp [WK.CLS]; done))
  | (show WK.Kn _; first | assumption | trivial | (simp [WK.Kn, WK.CLS]; done)) | (show ∀ l, _ ≠ WL.D.dic l; intro _ h; cases h)
  | (with_reducible refine WL.st_asg ?_) | (with_reducible refine WL.st_asgT (js := List.range 64) ?_) | (with_reducible refine WL.tg_tu ?_) | (with_reducible refine WL.tg_cons ?_) | (with_reducible refine WL.tg_nil ?_) | (with_reducible refine WL.tg_name (by first | decide | simp) ?_)
  | refine WL.ift rfl ?_ | refine WL.iff' rfl ?_
  | refine And.intro (by first | assumption | trivial : WK.Kn _) ?_
  | refine ⟨_, _, _, rfl, (by assumption : L2.Cls _ _), (by assumption : L2.NoAttr _ _ _), (by first | rfl | exact Nat.le_of_ble_eq_true rfl), ?_⟩
  | refine ⟨_, rfl, ?_⟩ | refine ⟨_, _, rfl, rfl, ?_⟩ | refine ⟨_, _, rfl, (by assumption : _ ∨ _), ?_⟩ | refine ⟨_, _, rfl, ?_⟩ | refine ⟨_, _, _, rfl, ?_⟩ | refine ⟨_, _, _, _, rfl, ?_⟩ | refine ⟨_, _, _, rfl, rfl, (by first | assumption | rfl : WL.atD _ _ = some _), ?_⟩ | refine ⟨_, _, _, rfl, rfl, rfl, ?_⟩ | refine And.intro rfl ?_ | refine And.intro (by assumption) ?_ | refine And.intro (Nat.le_of_ble_eq_true rfl) ?_ | exact rfl)
local macro_rules | `(tactic| walk_at "evs") => `(tactic| first | walk_at "ev" | (with_reducible refine WL.ift ?_ ?_; focus (first | assumption | (simp [*]; done) | (simp; omega))) | (with_reducible refine WL.iff' ?_ ?_; focus (first | assumption | (simp [*]; done) | (simp; omega))))
local macro_rules | `(tactic| walk_at "evb") => `(tactic| first | walk_at "ev" | (with_reducible refine WL.ifb (fun _ => ?_) (fun _ => ?_)))
local macro_rules | `(tactic| walk_at "evt") => `(tactic| first | walk_at "evs" | refine ⟨_, Or.inl rfl, ?_⟩ | refine ⟨_, Or.inr rfl, ?_⟩ | fail)
local macro_rules | `(tactic| walk_at "evu") => `(tactic| first | (with_reducible refine WL.ev_ofl ?_; refine ⟨_, _, _, _, rfl, (by assumption : L2.Cls _ _), (by assumption : L2.NoAttr _ _ _), rfl, ?_⟩) | walk_at "evt" | (with_reducible refine WL.ev_opC ?_) | (with_reducible refine WL.ev_dget ?_) | (with_reducible refine WL.ev_ofl ?_) | (with_reducible refine WL.ev_makeK ?_) | fail)
namespace WK
open PySem PySem.Spec PyProof.Rows L2 WL
/-- how a line that is made anew ends -/
def Made (r : Rw) (R : D → Prop) (ex : Ex1) : Prop := BaseOk r ∧ (∀ z, outW r = some z → ex "BadPart" "part" (.str z)) ∧ (outW r = none → R (lineD r))
inductive CSpec (r : Rw) (R : D → Prop) (ex : Ex1) : D → Prop
  | bad {c : D} : IsCh r.ways.length c false → ex "BadChange" "change" c → CSpec r R ex c
  | plain {z : Str} (n : Int) {r' : Rw} : z ∈ (["turn", "numbers", "period", "head"] : List Str) → SetR r z (.int n) r' (waysD r.ways) (intsT r.widths) → Made r' R ex → CSpec r R ex (.tup [.str z, .int n])
  | room (n : Int) : (btw (.int n) 1 60 = true → Made { r with size := n } R ex) → (btw (.int n) 1 60 = false → ex "BadPart" "part" (.str "size")) → CSpec r R ex (.tup [.str "room", .int n])
  | bound (b : Int) : (1 ≤ r.bnds.length ∧ r.bnds.length ≤ 4) → btw (.int r.size) 1 60 = true → (okS (insB (r.bnds.drop 1) b) → Made { r with bnds := insB (r.bnds.drop 1) b } R ex) → (¬ okS (insB (r.bnds.drop 1) b) → ∀ i, ex "BadSteps" "index" (.int i)) → CSpec r R ex (.tup [.str "bound", .int b])
  | beg (i : Nat) (x : Wy) (b : Option Int) : r.ways[i]? = some x → ((goodB b = false ∧ ex "BadPart" "part" (.str "begin")) ∨ (goodW { x with b := b } = true ∧ Made { r with ways := r.ways.set i { x with b := b } } R ex)) → CSpec r R ex (.tup [.str "begin", .int i, begD b])
section
variable {K : PySem.W.Frag} {mg : Str → Option Value} {w : World} {base : Heap}
abbrev F_changed : Fn1 := fun _ ds R ex => ∃ r c, ds = [lineD r, c] ∧ CSpec r R ex c
theorem ok_Line_changed (T : Txt K mg w) : FnOk PG w K mg base (L2.CX PG w) 36 (He.ma K (He.ga K "Line") "changed") (fdOf K ("Line", some "changed")) ["self", "change"] (spD K F_changed) :=
  WL.fnD (k := 35) T.d_Line_changed sc_Line_changed (fun _ _ _ _ ⟨_, _, e, _⟩ => by rw [e] <;> rfl) fun cdv A outer s H E G ds R ex hr ⟨r, c, e, k⟩ => by
    subst e
    refine ⟨_, (pss_cons (ps_if (pt_not (pt_val (pe_call (ok_is_change T) (hr.mono (by decide)) rfl T.g_is_change T.d_is_change.kp (bi_is_change T) .nil passN (pa_cons (pv 0) (pa_cons (pv 1) pa_nil))))) (pss_one (WL.ps_raiseD rfl (takes_of rfl rfl rfl rfl) T.x_BadChange (WX.xinit_fn (k := 0) T.x_BadChange) (hr.mono (by decide)) T.xb_BadChange passN rfl (pv 1))) pss_nil)
    (pss_cons (ps_if (pt_cmpR op_eq (pe_ix ix_tup (pv 1) pe_int (fun _ _ => rfl)) pe_str (nomark _)) (pss_one (ps_ret (pe_meth (pv 0) T.c_Line T.m_Line_with_setting (ok_Line_with_setting T) (hr.mono (by decide)) (bi_Line_with_setting T) .nil (passR rfl rfl rfl rfl) (pa_cons pe_str (pa_cons (pe_make T.mk_Room (ok_Room__init__ T) (hr.mono (by decide)) rfl T.g_Room (bi_Room__init__ T) .nil (passR rfl rfl rfl rfl) (pa_cons (pe_ix ix_tup (pv 1) pe_int (fun _ _ => rfl)) (pa_cons (pe_fld (pe_fld (pv 0) rfl) rfl) pa_nil))) pa_nil))))) pss_nil)
    (pss_cons (ps_if (pt_cmpR op_eq (pe_ix ix_tup (pv 1) pe_int (fun _ _ => rfl)) pe_str (nomark _)) (pss_one (ps_ret (pe_meth (pv 0) T.c_Line T.m_Line_with_setting (ok_Line_with_setting T) (hr.mono (by decide)) (bi_Line_with_setting T) .nil (passR rfl rfl rfl rfl) (pa_cons pe_str (pa_cons (pe_call (ok_with_bound T) (hr.mono (by decide)) rfl T.g_with_bound T.d_with_bound.kp (bi_with_bound T) .nil (passR rfl rfl rfl rfl) (pa_cons (pe_fld (pv 0) rfl) (pa_cons (pe_ix ix_tup (pv 1) pe_int (fun _ _ => rfl)) pa_nil))) pa_nil))))) pss_nil)
    (pss_cons (ps_if (pt_cmpR op_eq (pe_ix ix_tup (pv 1) pe_int (fun _ _ => rfl)) pe_str (nomark _)) (pss_cons (ps_set (i := 2) sc_Line_changed.nd rfl (Or.inl rfl) (pe_callTy call_list_of (by rfl) T.f_list (by decide +kernel) (pa_cons (pe_fld (pv 0) rfl) pa_nil)))
    (pss_cons (ps_asg (pe_meth (pe_ix ix_list (pv 2) (pe_ix ix_tup (pv 1) pe_int (fun _ _ => rfl)) (fun _ _ => rfl)) T.c_Way T.m_Way_begun_at (ok_Way_begun_at T) (hr.mono (by decide)) (bi_Way_begun_at T) .nil (passR rfl rfl rfl rfl) (pa_cons (pe_ix ix_tup (pv 1) pe_int (fun _ _ => rfl)) pa_nil)) (pg_sub (pv 2) (pe_ix ix_tup (pv 1) pe_int (fun _ _ => rfl)) set_list))
    (pss_one (ps_ret (pe_meth (pv 0) T.c_Line T.m_Line_with_setting (ok_Line_with_setting T) (hr.mono (by decide)) (bi_Line_with_setting T) .nil (passR rfl rfl rfl rfl) (pa_cons pe_str (pa_cons (pv 2) pa_nil))))))) pss_nil)
    (pss_one (ps_ret (pe_meth (pv 0) T.c_Line T.m_Line_with_setting (ok_Line_with_setting T) (hr.mono (by decide)) (bi_Line_with_setting T) .nil (passR rfl rfl rfl rfl) (pa_cons (pe_ix ix_tup (pv 1) pe_int (fun _ _ => rfl)) (pa_cons (pe_ix ix_tup (pv 1) pe_int (fun _ _ => rfl)) pa_nil))))))))), ?_⟩
    dsimp only [cxOf]
    have c1 := T.c_Line
    have n1 := T.n_Line_ways
    have n2 := T.n_Line_room
    have c2 := T.c_Room
    have n3 := T.n_Room_steps
    cases k with
    | bad h k =>
      repeat' walk_at "evs"
      refine ⟨_, _, _, rfl, h, ?_⟩
      repeat' walk_at "evs"
      exact k
    | @plain z n r' hz sr m =>
      obtain ⟨ok, k1, k2⟩ := m
      have hc : IsCh r.ways.length (.tup [.str z, .int n]) true := by
        simp only [List.mem_cons, List.not_mem_nil, or_false] at hz
        rcases hz with rfl | rfl | rfl | rfl <;> exact .set n (by decide)
      have ne : z ≠ "room" ∧ z ≠ "bound" ∧ z ≠ "begin" := by
        simp only [List.mem_cons, List.not_mem_nil, or_false] at hz
        rcases hz with rfl | rfl | rfl | rfl <;> decide
      have d1 : decide (z = "room") = false := decide_eq_false ne.1
      have d2 : decide (z = "bound") = false := decide_eq_false ne.2.1
      have d3 : decide (z = "begin") = false := decide_eq_false ne.2.2
      repeat' walk_at "evs"
      refine ⟨_, _, _, rfl, hc, ?_⟩
      repeat' walk_at "evs"
      exact .inl ⟨_, _, _, sr, ok, k1, k2⟩
    | room n m k =>
      have hc : IsCh r.ways.length (.tup [.str "room", .int n]) true := .set n (by decide)
      repeat' walk_at "evs"
      refine ⟨_, _, _, rfl, hc, ?_⟩
      repeat' walk_at "evs"
      cases hb : btw (.int n) 1 60 with
      | true =>
        obtain ⟨ok, k1, k2⟩ := m hb
        refine .inl ⟨rfl, ?_⟩
        repeat' walk_at "evs"
        exact .inl ⟨_, _, _, .room n r.bnds, ok, k1, k2⟩
      | false => exact .inr ⟨rfl, k hb⟩
    | bound b h1 h2 m k =>
      have hc : IsCh r.ways.length (.tup [.str "bound", .int b]) true := .set b (by decide)
      repeat' walk_at "evs"
      refine ⟨_, _, _, rfl, hc, ?_⟩
      repeat' walk_at "evs"
      refine ⟨h1.2, h1.1, h2, fun os => ?_, k⟩
      obtain ⟨ok, k1, k2⟩ := m os
      repeat' walk_at "evs"
      exact .inl ⟨_, _, _, .room r.size _, ok, k1, k2⟩
    | beg i x b hx m =>
      have hi : i < r.ways.length := (List.getElem?_eq_some_iff.mp hx).1
      have hb : btw (.int i) 0 (r.ways.length - 1) = true := by simp [btw]; omega
      have hc : IsCh r.ways.length (.tup [.str "begin", .int i, begD b]) true := by
        have := IsCh.beg (n := r.ways.length) (i : Int) b
        rw [hb] at this
        exact this
      generalize hT : tAsg _ (gName 2) = TT
      repeat' walk_at "evs"
      refine ⟨_, _, _, rfl, hc, ?_⟩
      repeat' walk_at "evs"
      rw [← hT]
      refine st_asgO (eo_list ?_)
      repeat' walk_at "evs"
      refine ⟨_, .inr rfl, ?_⟩
      have hat : atD (r.ways.map wayD) (i : Int) = some (wayD x) := by
        unfold atD
        rw [ixN_natL (by rw [List.length_map]; exact hi)]
        show (r.ways.map wayD)[i]? = _
        rw [List.getElem?_map, hx] <;> rfl
      have hset : (r.ways.map wayD).set i (wayD { x with b := b }) = (r.ways.set i { x with b := b }).map wayD := by rw [List.map_set]
      refine st_seq (st_setI (j := 2) rfl ?_)
      refine ev_meth ?_
      refine ev_ixO (j := 2) rfl ?_
      repeat' walk_at "evs"
      refine ⟨_, _, rfl, hat, _, rfl, rfl, ?_⟩
      repeat' walk_at "evs"
      rcases m with ⟨gb, k⟩ | ⟨gw, ok, k1, k2⟩
      · exact .inr ⟨gb, k⟩
      · refine .inl ⟨gw, ?_⟩
        repeat' walk_at "evs"
        refine ⟨_, _, rfl, ixN_natL (by rw [List.length_map]; exact hi), ?_⟩
        rw [hset]
        refine st_freeze 2 rfl ?_
        repeat' walk_at "evs"
        exact .inl ⟨_, _, _, .ways _ _ (.inl rfl), ok, k1, k2⟩
theorem fe_Line : FnEq F_Line_eq (TIns "Line" fun d => ∃ r, goodM r.rows ∧ d = lineD r) := fun d R ex ⟨l, e, r, g, e2⟩ k => ⟨r, by rw [e2], g, k⟩
end
end WK
end
section
set_option Elab.async false
set_option linter.all false
set_option maxRecDepth 100000
set_option maxHeartbeats 400000
/-! The law's defs over data: all settings drawn. -/
local macro_rules | `(tactic| walk_at "ev") => `(tactic| first
  | (with_reducible refine WL.st_seq ?_) | (with_reducible refine WL.st_ret ?_) | (with_reducible refine WL.st_retN ?_) | (with_reducible refine WL.st_next ?_) | (with_reducible refine WL.st_if ?_)
  | (with_reducible refine WL.et_and ?_) | (with_reducible refine WL.et_or ?_) | (with_reducible refine WL.et_not ?_) | (with_reducible refine WL.et_test ?_) | (with_reducible refine WL.et_B ?_)
  | (with_reducible refine WL.ev_andV ?_) | (with_reducible refine WL.ev_orV ?_) | (with_reducible refine WL.ev_notV ?_) | (with_reducible refine WL.ev_if ?_)
  | (with_reducible refine WL.ev_v ?_) | (with_reducible refine WL.ev_int ?_) | (with_reducible refine WL.ev_str ?_) | (with_reducible refine WL.ev_non ?_) | (with_reducible refine WL.ev_bl ?_)
  | (with_reducible refine WL.ea_nil ?_) | (with_reducible refine WL.ea_cons ?_) | (with_reducible refine WL.ev_tup ?_)
  | (with_reducible refine WL.ev_make ?_) | (with_reducible refine WL.ev_makeN ?_) | (with_reducible refine WL.ev_call ?_) | (with_reducible refine WL.ev_callN ?_) | (with_reducible refine WL.ev_meth ?_) | (with_reducible refine WL.ev_methN ?_)
  | (with_reducible refine WL.ev_isi (.ty _) ?_) | (with_reducible refine WL.ev_isi (.own _) ?_) | (with_reducible refine WL.ev_isiT (.ty _) (.ty _) ?_)
  | (with_reducible refine WL.ev_len ?_) | (with_reducible refine WL.ev_all ?_) | (with_reducible refine WL.ev_any ?_) | (with_reducible refine WL.ev_tuple ?_) | (with_reducible refine WL.ev_listD ?_) | (with_reducible refine WL.ev_map ?_) | (with_reducible refine WL.ei_tup ?_) | (with_reducible refine WL.ei_list ?_) | (with_reducible refine WL.ei_str ?_) | (with_reducible refine WL.ei_zip ?_) | (with_reducible refine WL.ei_seqV ?_) | (with_reducible refine WL.ei_enumA ?_) | (with_reducible refine WL.ev_eqS ?_) | (with_reducible refine WL.ev_inS ?_)
  | (with_reducible refine WL.ev_chain ?_) | (with_reducible refine WL.ev_chain3 ?_) | (with_reducible refine WL.ev_opB ?_) | (with_reducible refine WL.ev_opI ?_) | (with_reducible refine WL.ev_eq ?_) | (with_reducible refine WL.ev_ne ?_) | (with_reducible refine WL.ev_isN ?_) | (with_reducible refine WL.ev_notN ?_)
  | (with_reducible refine WL.ev_ixL ?_) | (with_reducible refine WL.ev_ixT ?_) | (with_reducible refine WL.ev_ixD ?_) | (with_reducible refine WL.ev_kstr (by assumption) ?_) | (with_reducible refine WL.ev_eqG ?_) | (with_reducible refine WL.ev_in ?_) | (with_reducible refine WL.st_raise ?_) | (with_reducible refine WL.st_fl ?_) | (with_reducible refine WL.ev_fld ?_)
  | (with_reducible refine WK.ty_int (by assumption) ?_ ?_) | (with_reducible refine WK.ty_bool (by assumption) ?_ ?_) | (with_reducible refine WK.ty_str (by assumption) ?_ ?_) | (with_reducible refine WK.ty_tup (by assumption) ?_ ?_) | (with_reducible refine WK.ty_seq (by assumption) ?_ ?_) | (with_reducible refine WK.ty_own (by assumption) ?_ ?_ ?_ ?_; focus (simp [WK.CLS]; done))
  | (show WK.Kn _; first | assumption | trivial | (simp [WK.Kn, WK.CLS]; done)) | (show ∀ l, _ ≠ WL.D.dic l; intro _ h; cases h)
  | (with_reducible refine WL.st_asg ?_) | (with_reducible refine WL.st_asgT (js := List.range 64) ?_) | (with_reducible refine WL.tg_tu ?_) | (with_reducible refine WL.tg_cons ?_) | (with_reducible refine WL.tg_nil ?_) | (with_reducible refine WL.tg_name (by first | decide | simp) ?_)
  | refine WL.ift rfl ?_ | refine WL.iff' rfl ?_
  | refine And.intro (by first | assumption | trivial : WK.Kn _) ?_
  | refine ⟨_, _, _, rfl, (by assumption : L2.Cls _ _), (by assumption : L2.NoAttr _ _ _), (by first | rfl | exact Nat.le_of_ble_eq_true rfl), ?_⟩
  | refine ⟨_, rfl, ?_⟩ | refine ⟨_, _, rfl, rfl, ?_⟩ | refine ⟨_, _, rfl, (by assumption : _ ∨ _), ?_⟩ | refine ⟨_, _, rfl, ?_⟩ | refine ⟨_, _, _, rfl, ?_⟩ | refine ⟨_, _, _, _, rfl, ?_⟩ | refine ⟨_, _, _, rfl, rfl, (by first | assumption | rfl : WL.atD _ _ = some _), ?_⟩ | refine ⟨_, _, _, rfl, rfl, rfl, ?_⟩ | refine And.intro rfl ?_ | refine And.intro (by assumption) ?_ | refine And.intro (Nat.le_of_ble_eq_true rfl) ?_ | exact rfl)
local macro_rules | `(tactic| walk_at "evs") => `(tactic| first | walk_at "ev" | (with_reducible refine WL.ift ?_ ?_; focus (first | assumption | (simp [*]; done) | (simp; omega))) | (with_reducible refine WL.iff' ?_ ?_; focus (first | assumption | (simp [*]; done) | (simp; omega))))
local macro_rules | `(tactic| walk_at "evb") => `(tactic| first | walk_at "ev" | (with_reducible refine WL.ifb (fun _ => ?_) (fun _ => ?_)))
local macro_rules | `(tactic| walk_at "evt") => `(tactic| first | walk_at "evs" | refine ⟨_, Or.inl rfl, ?_⟩ | refine ⟨_, Or.inr rfl, ?_⟩ | fail)
local macro_rules | `(tactic| walk_at "evu") => `(tactic| first | (with_reducible refine WL.ev_ofl ?_; refine ⟨_, _, _, _, rfl, (by assumption : L2.Cls _ _), (by assumption : L2.NoAttr _ _ _), rfl, ?_⟩) | walk_at "evt" | (with_reducible refine WL.ev_opC ?_) | (with_reducible refine WL.ev_dget ?_) | (with_reducible refine WL.ev_ofl ?_) | (with_reducible refine WL.ev_makeK ?_) | fail)
local macro_rules | `(tactic| walk_at "evc") => `(tactic| first | assumption | omega | fail)
local macro_rules | `(tactic| walk_at "evd") => `(tactic| first
  | (with_reducible refine WL.ev_drixV ?_; refine ⟨_, _, rfl, (by assumption), ?_⟩) | (with_reducible refine WL.ev_scixV ?_; refine ⟨_, _, rfl, (by assumption), ?_⟩) | (with_reducible refine WL.st_drsetV ?_; refine ⟨_, _, rfl, (by assumption), by omega, by omega, ?_⟩) | (with_reducible refine WL.ev_sclenV ?_; refine ⟨_, _, rfl, (by assumption), ?_⟩)
  | refine ⟨_, rfl, Int.emod_nonneg _ (by omega), Int.emod_lt_of_pos _ (by omega), fun _ => ?_⟩ | refine ⟨_, rfl, (by omega : (0 : Int) ≤ _), (by omega), fun _ => ?_⟩
  | refine ⟨_, _, _, rfl, (by assumption), (by walk_at "evc"; done), (by walk_at "evc"; done), fun _ _ _ => ?_⟩ | refine ⟨_, rfl, (by walk_at "evc"; done : -(2 ^ 62) ≤ _), (by walk_at "evc"; done), ?_⟩
  | walk_at "ev" | (with_reducible refine WL.ev_opC ?_) | (with_reducible refine WL.ev_intI ?_) | (with_reducible refine WL.ev_max2 ?_) | (with_reducible refine WL.ei_range1 ?_) | (with_reducible refine WL.ev_catT ?_) | (with_reducible refine WL.ev_lst ?_)
  | refine And.intro (WL.pos_of (by walk_at "evc"; done)) ?_ | refine And.intro (WL.cdiv_of (by walk_at "evc"; done) (by walk_at "evc"; done)) ?_ | refine And.intro (WL.cmul_l (by walk_at "evc"; done) (by walk_at "evc"; done)) ?_ | refine And.intro (WL.cmul_r (by walk_at "evc"; done) (by walk_at "evc"; done)) ?_
  | (with_reducible refine WL.ifd (fun _ => ?_) (fun _ => ?_)) | (with_reducible refine WL.ifb (fun _ => ?_) (fun _ => ?_)) | fail)
namespace WK
open PySem PySem.Spec PyProof.Rows L2 WL
/-- the plain settings as the law keeps them -/
abbrev rawL (r : Rw) : List (Str × D) := [("rows", rowsD r.rows), ("ways", .lst (r.ways.map rawW)), ("widths", .lst (r.widths.map D.int)), ("turn", .int r.turn), ("numbers", .int r.numbers), ("size", .int r.size), ("bounds", .lst (r.bnds.map D.int)), ("head", .int r.head), ("places", .int r.places), ("cost", .int r.cost), ("period", .int r.period), ("quiet", .int r.quiet), ("silent", .int r.silent), ("losses", .int r.losses)]
def RG1 (r : Rw) : Prop := goodM r.rows
def RG2 (r : Rw) : Prop := RG1 r ∧ 1 ≤ r.ways.length ∧ r.ways.length ≤ 2 ∧ ∀ x ∈ r.ways, okW x
def RG3 (r : Rw) : Prop := RG2 r ∧ 1 ≤ r.widths.length ∧ r.widths.length ≤ 3 ∧ asc r.widths = true ∧ ∀ x ∈ r.widths, 1 ≤ x ∧ x ≤ 100
def RG3t (r : Rw) : Prop := RG3 r ∧ 1 ≤ r.turn ∧ r.turn ≤ 14
def RG4 (r : Rw) : Prop := RG3t r ∧ ∀ x ∈ r.ways, boxBad r.turn x = false
def RG5 (r : Rw) : Prop := RG4 r ∧ 2 ≤ r.numbers ∧ r.numbers ≤ 4
def RG6 (r : Rw) : Prop := RG5 r ∧ 1 ≤ r.size ∧ r.size ≤ 12
def RG7 (r : Rw) : Prop := RG6 r ∧ 1 ≤ r.bnds.length ∧ r.bnds.length ≤ 2 ∧ asc r.bnds = true ∧ ∀ x ∈ r.bnds, 1 ≤ x ∧ x ≤ 60
def RG8 (r : Rw) : Prop := RG7 r ∧ 1 ≤ r.head ∧ r.head ≤ 2
def RG9 (r : Rw) : Prop := RG8 r ∧ 0 ≤ r.places ∧ r.places ≤ 2
def RG10 (r : Rw) : Prop := RG9 r ∧ 2 ≤ r.cost ∧ r.cost ≤ 4
def RG11 (r : Rw) : Prop := RG10 r ∧ 1 ≤ r.period ∧ r.period ≤ 30
def RG12 (r : Rw) : Prop := RG11 r ∧ 1 ≤ r.quiet ∧ r.quiet ≤ 40
def RG13 (r : Rw) : Prop := RG12 r ∧ 0 ≤ r.silent ∧ r.silent ≤ 1
def RG14 (r : Rw) : Prop := RG13 r ∧ 1 ≤ r.losses ∧ r.losses ≤ 2
theorem boxBad_mono {t t' : Int} {y : Wy} (ht : t ≤ t') (h : boxBad t y = false) : boxBad t' y = false := by
  unfold boxBad at h ⊢
  simp only [Bool.and_eq_false_iff, decide_eq_false_iff_not] at h ⊢
  rcases h with h | h | h
  · exact .inl h
  · exact .inr (.inl h)
  · exact .inr (.inr (by omega))
theorem pl_raw (bx : List (Int × Int × Int × Int)) : Pl 64 (.lst (bx.map boxD)) ∧ Pn (.lst (bx.map boxD)) := by
  refine ⟨.lst fun y hy => ?_, .lst fun y hy => ?_⟩
  · obtain ⟨b, _, rfl⟩ := List.mem_map.mp hy
    exact Pl.mono (pl_box b) (by decide)
  · obtain ⟨b, _, rfl⟩ := List.mem_map.mp hy
    refine .tup fun z hz => ?_
    simp only [List.mem_cons, List.not_mem_nil, or_false] at hz
    rcases hz with rfl | rfl | rfl | rfl <;> exact .int _
theorem paired_ways : ∀ {l zs : List D}, Paired (fun _ z => ∃ x, okW x ∧ z = rawW x) l zs → ∃ ws : List Wy, zs = ws.map rawW ∧ ws.length = l.length ∧ ∀ x ∈ ws, okW x
  | _, _, .nil => ⟨[], rfl, rfl, (fun _ h => nomatch h)⟩
  | _, _, .cons h t => by
    obtain ⟨x, hx, rfl⟩ := h
    obtain ⟨ws, rfl, hl, ha⟩ := paired_ways t
    refine ⟨x :: ws, rfl, congrArg Nat.succ hl, fun y hy => ?_⟩
    rcases List.mem_cons.mp hy with rfl | hy
    · exact hx
    · exact ha y hy
section
variable {K : PySem.W.Frag} {mg : Str → Option Value} {w : World} {base : Heap}
abbrev F__law_raw : FnO := fun G ds RO _ => ∃ sc st, ds = [.raw sc, .raw st] ∧ G.dr = some (sc, st) ∧ ∀ r, RG14 r → RO (.odic (rawL r))
theorem ok__law_raw (T : Txt K mg w) : FnOk PG w K mg base (L2.CX PG w) 9 (He.ga K "_law_raw") (fdOf K ("_law_raw", none)) ["_law_script", "_law_state"] (spO K F__law_raw) :=
  WL.fnO (k := 8) T.d__law_raw sc__law_raw (fun _ _ _ _ ⟨_, _, e, _⟩ => by rw [e] <;> rfl) fun cdv A outer s H E G ds R ex hr ⟨sc, st, e, hG, k⟩ => by
    subst e
    refine ⟨_, (pss_cons (ps_set (i := 2) sc__law_raw.nd rfl (Or.inl rfl) (pe_disp (pps_cons pe_str (pe_call (ok__law_mail T) (hr.mono (by decide)) rfl T.g__law_mail T.d__law_mail.kp (bi__law_mail T) .nil passN (pa_cons (pv 0) (pa_cons (pv 1) pa_nil))) pps_nil) (by rfl) (by rfl) (fun z => by cases z) (by decide)))
    (pss_cons (ps_dput (hu_of hr) (pv 2) pe_str (pe_lc (own := [("_law_k", 7)]) rfl sc__law_raw.nd (pi_range1 rfl T.f_range (pa_cons (pe_op op_add pe_int (pe_call (ok__law_draw T) (hr.mono (by decide)) rfl T.g__law_draw T.d__law_draw.kp (bi__law_draw T) .nil passN (pa_cons (pv 0) (pa_cons (pv 1) (pa_cons pe_int pa_nil))))) pa_nil)) (blkOk_by (own := [("_law_k", 7)]) (N := ["_law_script", "_law_state", "_law_raw_here", "_law_begin", "_law_low", "_law_high", "_law_boxes", "_law_k"]) (sc := defScope s__law_raw) (by decide +kernel)) (fun _ _ _ _ _ => (pg_name (i := 7) sc__law_raw.nd rfl (Or.inl rfl))) (fun _ _ _ _ _ => pts_nil) (fun _ _ _ _ _ => (pe_call (ok__law_way T) (hr.mono (by decide)) rfl T.g__law_way T.d__law_way.kp (bi__law_way T) .nil passN (pa_cons (pv 0) (pa_cons (pv 1) pa_nil))))) rfl)
    (pss_cons (ps_dput (hu_of hr) (pv 2) pe_str (pe_call (ok__law_rising T) (hr.mono (by decide)) rfl T.g__law_rising T.d__law_rising.kp (bi__law_rising T) .nil passN (pa_cons (pv 0) (pa_cons (pv 1) (pa_cons pe_int (pa_cons pe_int pa_nil))))) rfl)
    (pss_cons (ps_dput (hu_of hr) (pv 2) pe_str (pe_op op_add pe_int (pe_call (ok__law_draw T) (hr.mono (by decide)) rfl T.g__law_draw T.d__law_draw.kp (bi__law_draw T) .nil passN (pa_cons (pv 0) (pa_cons (pv 1) (pa_cons pe_int pa_nil))))) rfl)
    (pss_cons (ps_for (passes_of rfl) rfl (pi_list (pe_dget (hu_of hr) (pv 2) pe_str (fun _ _ => rfl))) (pg_tup (n := 4) rfl (pgs_cons (pg_name (i := 3) sc__law_raw.nd rfl (Or.inl rfl)) (pgs_cons (pg_name (i := 4) sc__law_raw.nd rfl (Or.inl rfl)) (pgs_cons (pg_name (i := 5) sc__law_raw.nd rfl (Or.inl rfl)) (pgs_cons (pg_name (i := 6) sc__law_raw.nd rfl (Or.inl rfl)) pgs_nil))))) (pss_one (ps_if (PW.pt (pw_and (pt_cmpR (op_neD hr.units) (pv 6) (pe_lst pa_nil) (nomark _)) (pw_and1 (pt_cmpR op_notN (pv 3) pe_non (nomark _))))) (pss_one (ps_dput (hu_of hr) (pv 2) pe_str (pe_callB (call_max2 rfl) (by rfl) T.f_max (by decide +kernel) (pa_cons (pe_callTy call_int1 (by rfl) T.f_int (by decide +kernel) (pa_cons (pe_dget (hu_of hr) (pv 2) pe_str (fun _ _ => rfl)) pa_nil)) (pa_cons (pe_op op_mul pe_int (pe_callTy call_int1 (by rfl) T.f_int (by decide +kernel) (pa_cons (pv 5) pa_nil))) pa_nil))) rfl)) pss_nil)))
    (pss_cons (ps_dput (hu_of hr) (pv 2) pe_str (pe_op op_add pe_int (pe_call (ok__law_draw T) (hr.mono (by decide)) rfl T.g__law_draw T.d__law_draw.kp (bi__law_draw T) .nil passN (pa_cons (pv 0) (pa_cons (pv 1) (pa_cons pe_int pa_nil))))) rfl)
    (pss_cons (ps_dput (hu_of hr) (pv 2) pe_str (pe_op op_add pe_int (pe_call (ok__law_draw T) (hr.mono (by decide)) rfl T.g__law_draw T.d__law_draw.kp (bi__law_draw T) .nil passN (pa_cons (pv 0) (pa_cons (pv 1) (pa_cons pe_int pa_nil))))) rfl)
    (pss_cons (ps_dput (hu_of hr) (pv 2) pe_str (pe_call (ok__law_rising T) (hr.mono (by decide)) rfl T.g__law_rising T.d__law_rising.kp (bi__law_rising T) .nil passN (pa_cons (pv 0) (pa_cons (pv 1) (pa_cons pe_int (pa_cons pe_int pa_nil))))) rfl)
    (pss_cons (ps_dput (hu_of hr) (pv 2) pe_str (pe_op op_add pe_int (pe_call (ok__law_draw T) (hr.mono (by decide)) rfl T.g__law_draw T.d__law_draw.kp (bi__law_draw T) .nil passN (pa_cons (pv 0) (pa_cons (pv 1) (pa_cons pe_int pa_nil))))) rfl)
    (pss_cons (ps_dput (hu_of hr) (pv 2) pe_str (pe_call (ok__law_draw T) (hr.mono (by decide)) rfl T.g__law_draw T.d__law_draw.kp (bi__law_draw T) .nil passN (pa_cons (pv 0) (pa_cons (pv 1) (pa_cons pe_int pa_nil)))) rfl)
    (pss_cons (ps_dput (hu_of hr) (pv 2) pe_str (pe_op op_add pe_int (pe_call (ok__law_draw T) (hr.mono (by decide)) rfl T.g__law_draw T.d__law_draw.kp (bi__law_draw T) .nil passN (pa_cons (pv 0) (pa_cons (pv 1) (pa_cons pe_int pa_nil))))) rfl)
    (pss_cons (ps_dput (hu_of hr) (pv 2) pe_str (pe_op op_add pe_int (pe_call (ok__law_draw T) (hr.mono (by decide)) rfl T.g__law_draw T.d__law_draw.kp (bi__law_draw T) .nil passN (pa_cons (pv 0) (pa_cons (pv 1) (pa_cons pe_int pa_nil))))) rfl)
    (pss_cons (ps_dput (hu_of hr) (pv 2) pe_str (pe_op op_add pe_int (pe_call (ok__law_draw T) (hr.mono (by decide)) rfl T.g__law_draw T.d__law_draw.kp (bi__law_draw T) .nil passN (pa_cons (pv 0) (pa_cons (pv 1) (pa_cons pe_int pa_nil))))) rfl)
    (pss_cons (ps_dput (hu_of hr) (pv 2) pe_str (pe_callTy call_int1 (by rfl) T.f_int (by decide +kernel) (pa_cons (pe_cmpR op_eq (pe_call (ok__law_draw T) (hr.mono (by decide)) rfl T.g__law_draw T.d__law_draw.kp (bi__law_draw T) .nil passN (pa_cons (pv 0) (pa_cons (pv 1) (pa_cons pe_int pa_nil)))) pe_int (nomark _)) pa_nil)) rfl)
    (pss_cons (ps_dput (hu_of hr) (pv 2) pe_str (pe_op op_add pe_int (pe_call (ok__law_draw T) (hr.mono (by decide)) rfl T.g__law_draw T.d__law_draw.kp (bi__law_draw T) .nil passN (pa_cons (pv 0) (pa_cons (pv 1) (pa_cons pe_int pa_nil))))) rfl)
    (pss_one (ps_ret (pv 2)))))))))))))))))), ?_⟩
    dsimp only [cxOf]
    have e0 : (startD ["_law_script", "_law_state", "_law_raw_here", "_law_begin", "_law_low", "_law_high", "_law_boxes", "_law_k"] [D.raw sc, D.raw st]) = [Sl.d (.raw sc), .d (.raw st), .un, .un, .un, .un, .un, .un] := rfl
    rw [e0]
    refine so_mid (fun δ' => ∃ r : Rw, RG1 r ∧ δ' = [Sl.d (.raw sc), .d (.raw st), .odic ((rawL r).take 1), .un, .un, .un, .un, .un]) (st_asgO (eo_disp ?_)) ?_
    · refine ev_str (ev_callN (ea_cons (ev_v ⟨_, rfl, ea_cons (ev_v ⟨_, rfl, ea_nil ⟨_, _, rfl, hG, fun r gr => ⟨_, rfl, (show (["rows"] : List Str).Nodup by decide), (show 1 ≤ 15 by decide), ?_⟩⟩⟩)⟩)))
      exact ⟨⟨r, [], [], 0, 0, 0, [], 0, 0, 0, 0, 0, 0, 0⟩, gr, rfl⟩
    rintro δ' ⟨r, g, rfl⟩
    refine so_mid (fun δ' => ∃ r : Rw, RG2 r ∧ δ' = [Sl.d (.raw sc), .d (.raw st), .odic ((rawL r).take 2), .un, .un, .un, .un, .un]) ?_ ?_
    · refine st_dput (i := 2) rfl (show 1 < 100000 by decide) (show (["rows"] : List Str).Nodup by decide) (ev_new (eo_lc ?_))
      repeat' walk_at "evd"
      rename_i q hq0 hq1
      refine ⟨by rw [rangeD_len]; omega, fun _ => true, fun _ z => ∃ x, okW x ∧ z = rawW x, fun y hy => ?_, fun zs pz => ?_⟩
      · refine tg_name (by decide) (et_yes ⟨rfl, fun _ => ?_⟩)
        refine ev_callN (ea_cons (ev_v ⟨_, rfl, ea_cons (ev_v ⟨_, rfl, ea_nil ⟨_, _, rfl, hG, fun x hx => ⟨x, hx, rfl⟩⟩⟩)⟩))
      · obtain ⟨ws, rfl, hl, ha⟩ := paired_ways pz
        have e1 : (rangeD 0 (1 + q).toNat).filter (fun _ => true) = rangeD 0 (1 + q).toNat := List.filter_eq_self.mpr fun _ _ => rfl
        rw [e1, rangeD_len] at hl
        refine ⟨_, rfl, ?_⟩
        repeat' walk_at "evd"
        exact ⟨{ r with ways := ws }, ⟨g, by show 1 ≤ ws.length; omega, by show ws.length ≤ 2; omega, ha⟩, rfl⟩
    rintro δ' ⟨r, g, rfl⟩
    refine so_mid (fun δ' => ∃ r : Rw, RG3 r ∧ δ' = [Sl.d (.raw sc), .d (.raw st), .odic ((rawL r).take 3), .un, .un, .un, .un, .un]) ?_ ?_
    · refine st_dput (i := 2) rfl (show 2 < 100000 by decide) (show (["rows", "ways"] : List Str).Nodup by decide) ?_
      refine ev_callN (ea_cons (ev_v ⟨_, rfl, ea_cons (ev_v ⟨_, rfl, ea_cons (ev_int (ea_cons (ev_int (ea_nil ⟨_, _, _, _, rfl, hG, by omega, by omega, fun l l1 l2 l3 l4 => ?_⟩))))⟩)⟩))
      repeat' walk_at "evd"
      exact ⟨{ r with widths := l }, ⟨g, l1, by show l.length ≤ 3; omega, l3, fun x hx => ⟨(l4 x hx).1, by have := (l4 x hx).2; omega⟩⟩, rfl⟩
    rintro δ' ⟨r, g, rfl⟩
    refine so_mid (fun δ' => ∃ r : Rw, RG3t r ∧ δ' = [Sl.d (.raw sc), .d (.raw st), .odic ((rawL r).take 4), .un, .un, .un, .un, .un]) ?_ ?_
    · refine st_dput (i := 2) rfl (show 3 < 100000 by decide) (show (["rows", "ways", "widths"] : List Str).Nodup by decide) ?_
      repeat' walk_at "evd"
      rename_i q hq0 hq1
      exact ⟨{ r with turn := 1 + q }, ⟨g, by dsimp only; omega⟩, rfl⟩
    rintro δ' ⟨r, g, rfl⟩
    refine so_mid (fun δ' => ∃ (r : Rw) (s3 s4 s5 s6 : Sl), RG4 r ∧ δ' = [Sl.d (.raw sc), .d (.raw st), .odic ((rawL r).take 4), s3, s4, s5, s6, .un]) ?_ ?_
    · refine st_for (js := List.range 64) ?_
      refine ei_list (ev_dgetO (i := 2) rfl (ev_str ⟨_, _, rfl, rfl, _, rfl, ?_⟩))
      refine ⟨fun n δ' => ∃ (r' : Rw) (s3 s4 s5 s6 : Sl), RG3t r' ∧ (∀ x ∈ r.ways.take n, boxBad r'.turn x = false) ∧ r'.ways = r.ways ∧ δ' = [Sl.d (.raw sc), .d (.raw st), .odic ((rawL r').take 4), s3, s4, s5, s6, .un], ⟨r, _, _, _, _, g, (fun _ h => nomatch h), rfl, rfl⟩, ?_, ?_⟩
      · rintro n y δ' hy ⟨r', s3, s4, s5, s6, g', hb, hw, rfl⟩
        rw [List.getElem?_map] at hy
        obtain ⟨x, hx, rfl⟩ := Option.map_eq_some_iff.mp hy
        have okx := g.1.1.2.2.2 x (List.mem_of_getElem? hx)
        have tk : ∀ (t : Int), r'.turn ≤ t → boxBad t x = false → ∀ y ∈ r.ways.take (n + 1), boxBad t y = false := fun t ht hbx y hy => by
          rw [List.take_add_one, hx] at hy
          rcases List.mem_append.mp hy with h | h
          · exact boxBad_mono ht (hb y h)
          · rw [List.mem_singleton.mp h]; exact hbx
        refine tg_tu ⟨_, rfl, rfl, tg_cons (tg_name (by decide) (tg_cons (tg_name (by decide) (tg_cons (tg_name (by decide) (tg_cons (tg_name (by decide) (tg_nil ?_)))))))) ⟩
        refine st_if (et_and (et_test (ev_neN ?_)))
        repeat' walk_at "evd"
        have pr := pl_raw x.bx
        refine ⟨pr, ⟨.lst (fun _ h => nomatch h), .lst (fun _ h => nomatch h)⟩, fun e => ?_, fun e => ?_⟩
        · refine ⟨_, rfl, ?_⟩
          have hx0 : x.bx = [] := by
            cases hbx : x.bx with
            | nil => rfl
            | cons a b => rw [hbx] at e; cases e
          refine iff' rfl (iff' rfl (st_next ⟨r', _, _, _, _, g', tk _ (Int.le_refl _) ?_, hw, rfl⟩))
          unfold boxBad
          rw [hx0]
          cases x.b <;> rfl
        · refine ⟨_, rfl, ift rfl ?_⟩
          cases hb0 : x.b with
          | none =>
            refine et_test (ev_notN (ev_v ⟨_, rfl, _, rfl, ?_⟩))
            refine iff' rfl (st_next ⟨r', _, _, _, _, g', tk _ (Int.le_refl _) ?_, hw, rfl⟩)
            unfold boxBad
            rw [hb0]
            rfl
          | some b0 =>
            refine et_test (ev_notN (ev_v ⟨_, rfl, _, rfl, ?_⟩))
            refine ift rfl ?_
            refine st_dput (i := 2) rfl (show 4 < 100000 by decide) (show (["rows", "ways", "widths", "turn"] : List Str).Nodup by decide) ?_
            refine ev_max2 (ev_intI (ev_dgetO (i := 2) rfl (ev_str ⟨_, _, rfl, rfl, _, rfl, ?_⟩)))
            repeat' walk_at "evd"
            have h4 := okx.2
            have h5 := g'.2
            refine ⟨{ r' with turn := if 2 * x.hi > r'.turn then 2 * x.hi else r'.turn }, _, _, _, _, ⟨g'.1, ?_⟩, tk _ ?_ ?_, hw, rfl⟩
            · show _ ≤ (if 2 * x.hi > r'.turn then 2 * x.hi else r'.turn) ∧ (if 2 * x.hi > r'.turn then 2 * x.hi else r'.turn) ≤ _
              split <;> omega
            · show _ ≤ (if 2 * x.hi > r'.turn then 2 * x.hi else r'.turn)
              split <;> omega
            · unfold boxBad
              simp only [Bool.and_eq_false_iff, decide_eq_false_iff_not]
              right; right
              split <;> omega
      · rintro δ' ⟨r', s3, s4, s5, s6, g', hb, hw, rfl⟩
        refine ⟨r', s3, s4, s5, s6, ⟨g', fun x hx => hb x ?_⟩, rfl⟩
        rw [List.length_map, List.take_length, ← hw]
        exact hx
    rintro δ' ⟨r, s3, s4, s5, s6, g, rfl⟩
    refine so_mid (fun δ' => ∃ r : Rw, RG5 r ∧ δ' = [Sl.d (.raw sc), .d (.raw st), .odic ((rawL r).take 5), s3, s4, s5, s6, .un]) ?_ ?_
    · refine st_dput (i := 2) rfl (by rw [List.length_take]; show min 4 14 < 100000; decide) (show (["rows", "ways", "widths", "turn"] : List Str).Nodup by decide) ?_
      repeat' walk_at "evd"
      rename_i q hq0 hq1
      exact ⟨{ r with numbers := 2 + q }, ⟨g, by dsimp only; omega⟩, rfl⟩
    rintro δ' ⟨r, g, rfl⟩
    refine so_mid (fun δ' => ∃ r : Rw, RG6 r ∧ δ' = [Sl.d (.raw sc), .d (.raw st), .odic ((rawL r).take 6), s3, s4, s5, s6, .un]) ?_ ?_
    · refine st_dput (i := 2) rfl (by rw [List.length_take]; show min 5 14 < 100000; decide) (show (["rows", "ways", "widths", "turn", "numbers"] : List Str).Nodup by decide) ?_
      repeat' walk_at "evd"
      rename_i q hq0 hq1
      exact ⟨{ r with size := 1 + q }, ⟨g, by dsimp only; omega⟩, rfl⟩
    rintro δ' ⟨r, g, rfl⟩
    refine so_mid (fun δ' => ∃ r : Rw, RG7 r ∧ δ' = [Sl.d (.raw sc), .d (.raw st), .odic ((rawL r).take 7), s3, s4, s5, s6, .un]) ?_ ?_
    · refine st_dput (i := 2) rfl (by rw [List.length_take]; show min 6 14 < 100000; decide) (show (["rows", "ways", "widths", "turn", "numbers", "size"] : List Str).Nodup by decide) ?_
      refine ev_callN (ea_cons (ev_v ⟨_, rfl, ea_cons (ev_v ⟨_, rfl, ea_cons (ev_int (ea_cons (ev_int (ea_nil ⟨_, _, _, _, rfl, hG, by omega, by omega, fun l l1 l2 l3 l4 => ?_⟩))))⟩)⟩))
      repeat' walk_at "evd"
      exact ⟨{ r with bnds := l }, ⟨g, l1, by dsimp only; omega, l3, fun x hx => ⟨(l4 x hx).1, by have := (l4 x hx).2; omega⟩⟩, rfl⟩
    rintro δ' ⟨r, g, rfl⟩
    refine so_mid (fun δ' => ∃ r : Rw, RG8 r ∧ δ' = [Sl.d (.raw sc), .d (.raw st), .odic ((rawL r).take 8), s3, s4, s5, s6, .un]) ?_ ?_
    · refine st_dput (i := 2) rfl (by rw [List.length_take]; show min 7 14 < 100000; decide) (show (["rows", "ways", "widths", "turn", "numbers", "size", "bounds"] : List Str).Nodup by decide) ?_
      repeat' walk_at "evd"
      rename_i q hq0 hq1
      exact ⟨{ r with head := 1 + q }, ⟨g, by dsimp only; omega⟩, rfl⟩
    rintro δ' ⟨r, g, rfl⟩
    refine so_mid (fun δ' => ∃ r : Rw, RG9 r ∧ δ' = [Sl.d (.raw sc), .d (.raw st), .odic ((rawL r).take 9), s3, s4, s5, s6, .un]) ?_ ?_
    · refine st_dput (i := 2) rfl (by rw [List.length_take]; show min 8 14 < 100000; decide) (show (["rows", "ways", "widths", "turn", "numbers", "size", "bounds", "head"] : List Str).Nodup by decide) ?_
      repeat' walk_at "evd"
      rename_i q hq0 hq1
      exact ⟨{ r with places := q }, ⟨g, by dsimp only; omega⟩, rfl⟩
    rintro δ' ⟨r, g, rfl⟩
    refine so_mid (fun δ' => ∃ r : Rw, RG10 r ∧ δ' = [Sl.d (.raw sc), .d (.raw st), .odic ((rawL r).take 10), s3, s4, s5, s6, .un]) ?_ ?_
    · refine st_dput (i := 2) rfl (by rw [List.length_take]; show min 9 14 < 100000; decide) (show (["rows", "ways", "widths", "turn", "numbers", "size", "bounds", "head", "places"] : List Str).Nodup by decide) ?_
      repeat' walk_at "evd"
      rename_i q hq0 hq1
      exact ⟨{ r with cost := 2 + q }, ⟨g, by dsimp only; omega⟩, rfl⟩
    rintro δ' ⟨r, g, rfl⟩
    refine so_mid (fun δ' => ∃ r : Rw, RG11 r ∧ δ' = [Sl.d (.raw sc), .d (.raw st), .odic ((rawL r).take 11), s3, s4, s5, s6, .un]) ?_ ?_
    · refine st_dput (i := 2) rfl (by rw [List.length_take]; show min 10 14 < 100000; decide) (show (["rows", "ways", "widths", "turn", "numbers", "size", "bounds", "head", "places", "cost"] : List Str).Nodup by decide) ?_
      repeat' walk_at "evd"
      rename_i q hq0 hq1
      exact ⟨{ r with period := 1 + q }, ⟨g, by dsimp only; omega⟩, rfl⟩
    rintro δ' ⟨r, g, rfl⟩
    refine so_mid (fun δ' => ∃ r : Rw, RG12 r ∧ δ' = [Sl.d (.raw sc), .d (.raw st), .odic ((rawL r).take 12), s3, s4, s5, s6, .un]) ?_ ?_
    · refine st_dput (i := 2) rfl (by rw [List.length_take]; show min 11 14 < 100000; decide) (show (["rows", "ways", "widths", "turn", "numbers", "size", "bounds", "head", "places", "cost", "period"] : List Str).Nodup by decide) ?_
      repeat' walk_at "evd"
      rename_i q hq0 hq1
      exact ⟨{ r with quiet := 1 + q }, ⟨g, by dsimp only; omega⟩, rfl⟩
    rintro δ' ⟨r, g, rfl⟩
    refine so_mid (fun δ' => ∃ r : Rw, RG13 r ∧ δ' = [Sl.d (.raw sc), .d (.raw st), .odic ((rawL r).take 13), s3, s4, s5, s6, .un]) ?_ ?_
    · refine st_dput (i := 2) rfl (by rw [List.length_take]; show min 12 14 < 100000; decide) (show (["rows", "ways", "widths", "turn", "numbers", "size", "bounds", "head", "places", "cost", "period", "quiet"] : List Str).Nodup by decide) ?_
      refine ev_int1 ?_
      repeat' walk_at "evd"
      rename_i q hq0 hq1
      refine .inr ⟨_, rfl, ?_⟩
      repeat' walk_at "evd"
      refine ⟨{ r with silent := if decide (q = 0) = true then 1 else 0 }, ⟨g, ?_⟩, rfl⟩
      dsimp only
      split
      · exact ⟨by decide, by decide⟩
      · exact ⟨by decide, by decide⟩
    rintro δ' ⟨r, g, rfl⟩
    refine so_mid (fun δ' => ∃ r : Rw, RG14 r ∧ δ' = [Sl.d (.raw sc), .d (.raw st), .odic ((rawL r).take 14), s3, s4, s5, s6, .un]) ?_ ?_
    · refine st_dput (i := 2) rfl (by rw [List.length_take]; show min 13 14 < 100000; decide) (show (["rows", "ways", "widths", "turn", "numbers", "size", "bounds", "head", "places", "cost", "period", "quiet", "silent"] : List Str).Nodup by decide) ?_
      repeat' walk_at "evd"
      rename_i q hq0 hq1
      exact ⟨{ r with losses := 1 + q }, ⟨g, by dsimp only; omega⟩, rfl⟩
    rintro δ' ⟨r, g, rfl⟩
    exact so_ret (i := 2) rfl (.inr ⟨_, rfl⟩) (k r g)
end
end WK
end
section
set_option Elab.async false
set_option linter.all false
set_option maxRecDepth 100000
set_option maxHeartbeats 400000
/-! The law's defs over data: lines made, settings copied and changed. -/
local macro_rules | `(tactic| walk_at "ev") => `(tactic| first
  | (with_reducible refine WL.st_seq ?_) | (with_reducible refine WL.st_ret ?_) | (with_reducible refine WL.st_retN ?_) | (with_reducible refine WL.st_next ?_) | (with_reducible refine WL.st_if ?_)
  | (with_reducible refine WL.et_and ?_) | (with_reducible refine WL.et_or ?_) | (with_reducible refine WL.et_not ?_) | (with_reducible refine WL.et_test ?_) | (with_reducible refine WL.et_B ?_)
  | (with_reducible refine WL.ev_andV ?_) | (with_reducible refine WL.ev_orV ?_) | (with_reducible refine WL.ev_notV ?_) | (with_reducible refine WL.ev_if ?_)
  | (with_reducible refine WL.ev_v ?_) | (with_reducible refine WL.ev_int ?_) | (with_reducible refine WL.ev_str ?_) | (with_reducible refine WL.ev_non ?_) | (with_reducible refine WL.ev_bl ?_)
  | (with_reducible refine WL.ea_nil ?_) | (with_reducible refine WL.ea_cons ?_) | (with_reducible refine WL.ev_tup ?_)
  | (with_reducible refine WL.ev_make ?_) | (with_reducible refine WL.ev_makeN ?_) | (with_reducible refine WL.ev_call ?_) | (with_reducible refine WL.ev_callN ?_) | (with_reducible refine WL.ev_meth ?_) | (with_reducible refine WL.ev_methN ?_)
  | (with_reducible refine WL.ev_isi (.ty _) ?_) | (with_reducible refine WL.ev_isi (.own _) ?_) | (with_reducible refine WL.ev_isiT (.ty _) (.ty _) ?_)
  | (with_reducible refine WL.ev_len ?_) | (with_reducible refine WL.ev_all ?_) | (with_reducible refine WL.ev_any ?_) | (with_reducible refine WL.ev_tuple ?_) | (with_reducible refine WL.ev_listD ?_) | (with_reducible refine WL.ev_map ?_) | (with_reducible refine WL.ei_tup ?_) | (with_reducible refine WL.ei_list ?_) | (with_reducible refine WL.ei_str ?_) | (with_reducible refine WL.ei_zip ?_) | (with_reducible refine WL.ei_seqV ?_) | (with_reducible refine WL.ei_enumA ?_) | (with_reducible refine WL.ev_eqS ?_) | (with_reducible refine WL.ev_inS ?_)
  | (with_reducible refine WL.ev_chain ?_) | (with_reducible refine WL.ev_chain3 ?_) | (with_reducible refine WL.ev_opB ?_) | (with_reducible refine WL.ev_opI ?_) | (with_reducible refine WL.ev_eq ?_) | (with_reducible refine WL.ev_ne ?_) | (with_reducible refine WL.ev_isN ?_) | (with_reducible refine WL.ev_notN ?_)
  | (with_reducible refine WL.ev_ixL ?_) | (with_reducible refine WL.ev_ixT ?_) | (with_reducible refine WL.ev_ixD ?_) | (with_reducible refine WL.ev_kstr (by assumption) ?_) | (with_reducible refine WL.ev_eqG ?_) | (with_reducible refine WL.ev_in ?_) | (with_reducible refine WL.st_raise ?_) | (with_reducible refine WL.st_fl ?_) | (with_reducible refine WL.ev_fld ?_)
  | (with_reducible refine WK.ty_int (by assumption) ?_ ?_) | (with_reducible refine WK.ty_bool (by assumption) ?_ ?_) | (with_reducible refine WK.ty_str (by assumption) ?_ ?_) | (with_reducible refine WK.ty_tup (by assumption) ?_ ?_) | (with_reducible refine WK.ty_seq (by assumption) ?_ ?_) | (with_reducible refine WK.ty_own (by assumption) ?_ ?_ ?_ ?_; focus (simp [WK.CLS]; done))
  | (show WK.Kn _; first | assumption | trivial | (simp [WK.Kn, WK.CLS]; done)) | (show ∀ l, _ ≠ WL.D.dic l; intro _ h; cases h)
  | (with_reducible refine WL.st_asg ?_) | (with_reducible refine WL.st_asgT (js := List.range 64) ?_) | (with_reducible refine WL.tg_tu ?_) | (with_reducible refine WL.tg_cons ?_) | (with_reducible refine WL.tg_nil ?_) | (with_reducible refine WL.tg_name (by first | decide | simp) ?_)
  | refine WL.ift rfl ?_ | refine WL.iff' rfl ?_
  | refine And.intro (by first | assumption | trivial : WK.Kn _) ?_
  | refine ⟨_, _, _, rfl, (by assumption : L2.Cls _ _), (by assumption : L2.NoAttr _ _ _), (by first | rfl | exact Nat.le_of_ble_eq_true rfl), ?_⟩
  | refine ⟨_, rfl, ?_⟩ | refine ⟨_, _, rfl, rfl, ?_⟩ | refine ⟨_, _, rfl, (by assumption : _ ∨ _), ?_⟩ | refine ⟨_, _, rfl, ?_⟩ | refine ⟨_, _, _, rfl, ?_⟩ | refine ⟨_, _, _, _, rfl, ?_⟩ | refine ⟨_, _, _, rfl, rfl, (by first | assumption | rfl : WL.atD _ _ = some _), ?_⟩ | refine ⟨_, _, _, rfl, rfl, rfl, ?_⟩ | refine And.intro rfl ?_ | refine And.intro (by assumption) ?_ | refine And.intro (Nat.le_of_ble_eq_true rfl) ?_ | exact rfl)
local macro_rules | `(tactic| walk_at "evs") => `(tactic| first | walk_at "ev" | (with_reducible refine WL.ift ?_ ?_; focus (first | assumption | (simp [*]; done) | (simp; omega))) | (with_reducible refine WL.iff' ?_ ?_; focus (first | assumption | (simp [*]; done) | (simp; omega))))
local macro_rules | `(tactic| walk_at "evb") => `(tactic| first | walk_at "ev" | (with_reducible refine WL.ifb (fun _ => ?_) (fun _ => ?_)))
local macro_rules | `(tactic| walk_at "evt") => `(tactic| first | walk_at "evs" | refine ⟨_, Or.inl rfl, ?_⟩ | refine ⟨_, Or.inr rfl, ?_⟩ | fail)
local macro_rules | `(tactic| walk_at "evu") => `(tactic| first | (with_reducible refine WL.ev_ofl ?_; refine ⟨_, _, _, _, rfl, (by assumption : L2.Cls _ _), (by assumption : L2.NoAttr _ _ _), rfl, ?_⟩) | walk_at "evt" | (with_reducible refine WL.ev_opC ?_) | (with_reducible refine WL.ev_dget ?_) | (with_reducible refine WL.ev_ofl ?_) | (with_reducible refine WL.ev_makeK ?_) | fail)
local macro_rules | `(tactic| walk_at "evc") => `(tactic| first | assumption | omega | fail)
local macro_rules | `(tactic| walk_at "evd") => `(tactic| first
  | (with_reducible refine WL.ev_drixV ?_; refine ⟨_, _, rfl, (by assumption), ?_⟩) | (with_reducible refine WL.ev_scixV ?_; refine ⟨_, _, rfl, (by assumption), ?_⟩) | (with_reducible refine WL.st_drsetV ?_; refine ⟨_, _, rfl, (by assumption), by omega, by omega, ?_⟩) | (with_reducible refine WL.ev_sclenV ?_; refine ⟨_, _, rfl, (by assumption), ?_⟩)
  | refine ⟨_, rfl, Int.emod_nonneg _ (by omega), Int.emod_lt_of_pos _ (by omega), fun _ => ?_⟩ | refine ⟨_, rfl, (by omega : (0 : Int) ≤ _), (by omega), fun _ => ?_⟩
  | refine ⟨_, _, _, rfl, (by assumption), (by walk_at "evc"; done), (by walk_at "evc"; done), fun _ _ _ => ?_⟩ | refine ⟨_, rfl, (by walk_at "evc"; done : -(2 ^ 62) ≤ _), (by walk_at "evc"; done), ?_⟩
  | walk_at "ev" | (with_reducible refine WL.ev_opC ?_) | (with_reducible refine WL.ev_intI ?_) | (with_reducible refine WL.ev_max2 ?_) | (with_reducible refine WL.ei_range1 ?_) | (with_reducible refine WL.ev_catT ?_) | (with_reducible refine WL.ev_lst ?_)
  | refine And.intro (WL.pos_of (by walk_at "evc"; done)) ?_ | refine And.intro (WL.cdiv_of (by walk_at "evc"; done) (by walk_at "evc"; done)) ?_ | refine And.intro (WL.cmul_l (by walk_at "evc"; done) (by walk_at "evc"; done)) ?_ | refine And.intro (WL.cmul_r (by walk_at "evc"; done) (by walk_at "evc"; done)) ?_
  | (with_reducible refine WL.ifd (fun _ => ?_) (fun _ => ?_)) | (with_reducible refine WL.ifb (fun _ => ?_) (fun _ => ?_)) | fail)
namespace WK
open PySem PySem.Spec PyProof.Rows L2 WL
def RgOk (r : Rw) : Prop := (1 ≤ r.turn ∧ r.turn ≤ 200) ∧ (2 ≤ r.numbers ∧ r.numbers ≤ 8) ∧ (1 ≤ r.head ∧ r.head ≤ 8) ∧ (0 ≤ r.places ∧ r.places ≤ 4) ∧ (2 ≤ r.cost ∧ r.cost ≤ 9) ∧ (1 ≤ r.period ∧ r.period ≤ 200) ∧ (1 ≤ r.quiet ∧ r.quiet ≤ 500) ∧ (0 ≤ r.silent ∧ r.silent ≤ 3) ∧ (1 ≤ r.losses ∧ r.losses ≤ 3)
theorem btw_t {i a b : Int} (h : a ≤ i ∧ i ≤ b) : btw (.int i) a b = true := by simp [btw, h.1, h.2]
theorem outW_of {r : Rw} (h : RgOk r) : outW r = if r.ways.any (boxBad r.turn) = true then some ("turn" : Str) else none := by
  obtain ⟨h1, h2, h3, h4, h5, h6, h7, h8, h9⟩ := h
  unfold outW rsBs
  rw [btw_t h1, btw_t h2, btw_t h3, btw_t h4, btw_t h5, btw_t h6, btw_t h7, btw_t h8, btw_t h9]
  rfl
/-- settings of which a line can be made -/
structure LOk (r : Rw) : Prop where
  base : BaseOk r
  ws : ∀ x ∈ r.ways, okW x
  bl : 1 ≤ r.bnds.length ∧ r.bnds.length ≤ 4
  st : okS r.bnds
  ac : asc r.bnds = true
  sz : 1 ≤ r.size ∧ r.size ≤ 60
  rg : RgOk r
  bb : r.ways.any (boxBad r.turn) = false
theorem LOk.out {r : Rw} (h : LOk r) : outW r = none := by
  rw [outW_of h.rg, h.bb]
  rfl
section
variable {K : PySem.W.Frag} {mg : Str → Option Value} {w : World} {base : Heap}
def mkW : D → D
  | .tup [b, lo, hi, .lst bx] => .ins "Way" [("begin", b), ("least", lo), ("most", hi), ("boxes", .tup bx)]
  | d => d
abbrev F__law_made_ways : Fn1 := fun G ds R _ => ∃ r, ds = [.dic (rawL r)] ∧ r.ways.length ≤ 4 ∧ (∀ x ∈ r.ways, okW x) ∧ R (.lst (r.ways.map wayD))
theorem ok__law_made_ways (T : Txt K mg w) : FnOk PG w K mg base (L2.CX PG w) 34 (He.ga K "_law_made_ways") (fdOf K ("_law_made_ways", none)) ["_law_raw_here"] (spD K F__law_made_ways) :=
  WL.fnD (k := 33) T.d__law_made_ways sc__law_made_ways (fun _ _ _ _ ⟨_, e, _⟩ => by rw [e] <;> rfl) fun cdv A outer s H E G ds R ex hr ⟨r, e, hl, hw, k⟩ => by
    subst e
    refine ⟨_, (pss_one (ps_ret (pe_lc (own := [("_law_begin", 1), ("_law_low", 2), ("_law_high", 3), ("_law_boxes", 4)]) (g := gTup K 4 (gCons (gName 1) (gCons (gName 2) (gCons (gName 3) (gCons (gName 4) gNil))))) rfl sc__law_made_ways.nd (pi_list (pe_dget (hu_of hr) (pv 0) pe_str (fun _ _ => rfl))) (blkOk_by (own := [("_law_begin", 1), ("_law_low", 2), ("_law_high", 3), ("_law_boxes", 4)]) (N := ["_law_raw_here", "_law_begin", "_law_low", "_law_high", "_law_boxes"]) (sc := defScope s__law_made_ways) (by decide +kernel)) (fun _ _ _ _ _ => (pg_tup rfl (pgs_cons (pg_name (i := 1) sc__law_made_ways.nd rfl (Or.inl rfl)) (pgs_cons (pg_name (i := 2) sc__law_made_ways.nd rfl (Or.inl rfl)) (pgs_cons (pg_name (i := 3) sc__law_made_ways.nd rfl (Or.inl rfl)) (pgs_cons (pg_name (i := 4) sc__law_made_ways.nd rfl (Or.inl rfl)) pgs_nil)))))) (fun _ _ _ _ _ => pts_nil) (fun _ _ _ _ _ => (pe_make T.mk_Way (ok_Way__init__ T) (hr.mono (by decide)) rfl T.g_Way (bi_Way__init__ T) .nil passN (pa_cons (pv 1) (pa_cons (pv 2) (pa_cons (pv 3) (pa_cons (pv 4) pa_nil))))))))), ?_⟩
    dsimp only [cxOf]
    repeat' walk_at "evu"
    refine ⟨by rw [List.length_map]; omega, mkW, fun y hy => ?_, ?_⟩
    · obtain ⟨x, hx, rfl⟩ := List.mem_map.mp hy
      have g := (hw x hx).1
      repeat' walk_at "evu"
      exact ⟨.inl rfl, .inl ⟨g, rfl⟩⟩
    · rw [List.map_map]
      exact k
abbrev F__law_line : Fn1 := fun G ds R _ => ∃ r, ds = [.dic (rawL r)] ∧ LOk r ∧ R (lineD r)
theorem ok__law_line (T : Txt K mg w) : FnOk PG w K mg base (L2.CX PG w) 36 (He.ga K "_law_line") (fdOf K ("_law_line", none)) ["_law_raw_here"] (spD K F__law_line) :=
  WL.fnD (k := 35) T.d__law_line sc__law_line (fun _ _ _ _ ⟨_, e, _⟩ => by rw [e] <;> rfl) fun cdv A outer s H E G ds R ex hr ⟨r, e, ok, k⟩ => by
    subst e
    refine ⟨_, (pss_cons (ps_set (i := 1) sc__law_line.nd rfl (Or.inl rfl) (pe_make T.mk_Mail (ok_Mail__init__ T) (hr.mono (by decide)) rfl T.g_Mail (bi_Mail__init__ T) .nil passN (pa_cons (pe_dget (hu_of hr) (pv 0) pe_str (fun _ _ => rfl)) pa_nil)))
    (pss_cons (ps_set (i := 2) sc__law_line.nd rfl (Or.inl rfl) (pe_make T.mk_Room (ok_Room__init__ T) (hr.mono (by decide)) rfl T.g_Room (bi_Room__init__ T) .nil passN (pa_cons (pe_dget (hu_of hr) (pv 0) pe_str (fun _ _ => rfl)) (pa_cons (pe_make T.mk_Steps (ok_Steps__init__ T) (hr.mono (by decide)) rfl T.g_Steps (bi_Steps__init__ T) .nil passN (pa_cons (pe_dget (hu_of hr) (pv 0) pe_str (fun _ _ => rfl)) pa_nil)) pa_nil))))
    (pss_one (ps_ret (pe_makeK T.mk_Line (ok_Line__init__ T) (hr.mono (by decide)) rfl T.g_Line (kb_Line__init__ T) passN (pa_cons (pv 1) (pa_cons (pe_call (ok__law_made_ways T) (hr.mono (by decide)) rfl T.g__law_made_ways T.d__law_made_ways.kp (bi__law_made_ways T) .nil passN (pa_cons (pv 0) pa_nil)) (pa_cons (pe_dget (hu_of hr) (pv 0) pe_str (fun _ _ => rfl)) pa_nil))) (pk_cons (pe_dget (hu_of hr) (pv 0) pe_str (fun _ _ => rfl)) (pk_cons (pe_dget (hu_of hr) (pv 0) pe_str (fun _ _ => rfl)) (pk_cons (pv 2) (pk_cons (pe_dget (hu_of hr) (pv 0) pe_str (fun _ _ => rfl)) (pk_cons (pe_dget (hu_of hr) (pv 0) pe_str (fun _ _ => rfl)) (pk_cons (pe_dget (hu_of hr) (pv 0) pe_str (fun _ _ => rfl)) (pk_cons (pe_dget (hu_of hr) (pv 0) pe_str (fun _ _ => rfl)) (pk_cons (pe_dget (hu_of hr) (pv 0) pe_str (fun _ _ => rfl)) (pk_cons (pe_dget (hu_of hr) (pv 0) pe_str (fun _ _ => rfl)) (pk_cons (pe_dget (hu_of hr) (pv 0) pe_str (fun _ _ => rfl)) pk_nil))))))))))))))), ?_⟩
    dsimp only [cxOf]
    have g1 := ok.base.mail
    have g2 := ok.bl
    have g3 := ok.st
    have g4 := btw_t ok.sz
    repeat' walk_at "evu"
    refine ⟨fun _ => ?_, fun n => (n g3).elim⟩
    repeat' walk_at "evu"
    refine .inl ⟨g4, ?_⟩
    repeat' walk_at "evu"
    refine ev_makeKN ?_
    repeat' walk_at "evu"
    refine ⟨ok.base.ways.2, ok.ws, ?_⟩
    repeat' walk_at "evu"
    exact ⟨ok.base, .inl rfl, .inl rfl, (fun z e => by rw [ok.out] at e; cases e), fun _ => k⟩
abbrev F__law_copy : FnO := fun G ds RO _ => ∃ l, ds = [.dic l] ∧ (l.map (·.1)).Nodup ∧ l.length < 100000 ∧ RO (.odic l)
theorem ok__law_copy (T : Txt K mg w) : FnOk PG w K mg base (L2.CX PG w) 3 (He.ga K "_law_copy") (fdOf K ("_law_copy", none)) ["_law_raw_here"] (spO K F__law_copy) :=
  WL.fnO (k := 2) T.d__law_copy sc__law_copy (fun _ _ _ _ ⟨_, e, _⟩ => by rw [e] <;> rfl) fun cdv A outer s H E G ds RO ex hr ⟨l, e, nd, hl, k⟩ => by
    subst e
    refine ⟨_, (pss_cons (ps_set (i := 1) sc__law_copy.nd rfl (Or.inl rfl) pe_dnewK)
    (pss_cons (ps_lock (ps_for (passes_of rfl) rfl (pi_keys (pv 0)) (pg_name (i := 2) sc__law_copy.nd rfl (Or.inl rfl)) (pss_one (ps_dput (hu_of hr) (pv 1) (pv 2) (pe_dget (hu_of hr) (pv 0) (pv 2) (fun _ _ => rfl)) rfl))))
    (pss_one (ps_ret (pv 1))))), ?_⟩
    refine so_seq (st_asgO (eo_dict0 ?_))
    refine so_seq (st_copy (i := 0) (j := 1) (w := 2) (l := l) rfl rfl (by decide) (by decide) (show 2 < 3 by decide) nd hl ?_)
    exact so_ret (i := 1) rfl (.inr ⟨_, rfl⟩) k
/-- the greatest number of a change -/
def chMost (z : Str) : Int := if z = "turn" ∨ z = "period" then 191 else if z = "numbers" ∨ z = "head" then 8 else 51
inductive ChOk (n : Nat) : D → Prop
  | beg (i : Nat) (b : Option Int) : i < n → goodB b = true → ChOk n (.tup [.str "begin", .int (i : Nat), begD b])
  | set (z : Str) (v : Int) : z ∈ PLAL → 2 ≤ v → v ≤ chMost z → ChOk n (.tup [.str z, .int v])
abbrev F__law_change : Fn1 := fun G ds R _ => ∃ sc st r, ds = [.raw sc, .raw st, .dic (rawL r)] ∧ G.dr = some (sc, st) ∧ (1 ≤ r.ways.length ∧ r.ways.length ≤ 4) ∧ ∀ c, ChOk r.ways.length c → R c
theorem ok__law_change (T : Txt K mg w) : FnOk PG w K mg base (L2.CX PG w) 5 (He.ga K "_law_change") (fdOf K ("_law_change", none)) ["_law_script", "_law_state", "_law_raw_here"] (spD K F__law_change) :=
  WL.fnD (k := 4) T.d__law_change sc__law_change (fun _ _ _ _ ⟨_, _, _, e, _⟩ => by rw [e] <;> rfl) fun cdv A outer s H E G ds R ex hr ⟨sc, st, r, e, hG, ⟨w1, w2⟩, k⟩ => by
    subst e
    refine ⟨_, (pss_cons (ps_set (i := 3) sc__law_change.nd rfl (Or.inl rfl) (pe_call (ok__law_draw T) (hr.mono (by decide)) rfl T.g__law_draw T.d__law_draw.kp (bi__law_draw T) .nil passN (pa_cons (pv 0) (pa_cons (pv 1) (pa_cons pe_int pa_nil)))))
    (pss_cons (ps_if (pt_cmpR op_eq (pv 3) pe_int (nomark _)) (pss_cons (ps_set (i := 4) sc__law_change.nd rfl (Or.inl rfl) (pe_call (ok__law_draw T) (hr.mono (by decide)) rfl T.g__law_draw T.d__law_draw.kp (bi__law_draw T) .nil passN (pa_cons (pv 0) (pa_cons (pv 1) (pa_cons (pe_callB call_len (by rfl) T.f_len (by decide +kernel) (pa_cons (pe_dget (hu_of hr) (pv 2) pe_str (fun _ _ => rfl)) pa_nil)) pa_nil)))))
    (pss_one (ps_ret (pe_tup (pa_cons pe_str (pa_cons (pv 4) (pa_cons (pe_ix ix_list (pe_lst (pa_cons pe_non (pa_cons pe_int (pa_cons pe_int (pa_cons pe_int pa_nil))))) (pe_call (ok__law_draw T) (hr.mono (by decide)) rfl T.g__law_draw T.d__law_draw.kp (bi__law_draw T) .nil passN (pa_cons (pv 0) (pa_cons (pv 1) (pa_cons pe_int pa_nil)))) (fun _ _ => rfl)) pa_nil))))))) pss_nil)
    (pss_cons (ps_set (i := 5) sc__law_change.nd rfl (Or.inl rfl) (pe_ix ix_list (pe_lst (pa_cons pe_str (pa_cons pe_str (pa_cons pe_str (pa_cons pe_str (pa_cons pe_str (pa_cons pe_str pa_nil))))))) (pv 3) (fun _ _ => rfl)))
    (pss_cons (ps_set (i := 6) sc__law_change.nd rfl (Or.inl rfl) (pe_ix ix_list (pe_lst (pa_cons (pe_ix ix_list (pe_lst (pa_cons pe_int (pa_cons pe_int pa_nil))) (pe_call (ok__law_draw T) (hr.mono (by decide)) rfl T.g__law_draw T.d__law_draw.kp (bi__law_draw T) .nil passN (pa_cons (pv 0) (pa_cons (pv 1) (pa_cons pe_int pa_nil)))) (fun _ _ => rfl)) (pa_cons pe_int (pa_cons pe_int (pa_cons pe_int (pa_cons pe_int (pa_cons pe_int pa_nil))))))) (pv 3) (fun _ _ => rfl)))
    (pss_one (ps_ret (pe_tup (pa_cons (pv 5) (pa_cons (pe_op op_add pe_int (pe_call (ok__law_draw T) (hr.mono (by decide)) rfl T.g__law_draw T.d__law_draw.kp (bi__law_draw T) .nil passN (pa_cons (pv 0) (pa_cons (pv 1) (pa_cons (pv 6) pa_nil))))) pa_nil))))))))), ?_⟩
    dsimp only [cxOf]
    have e0 : (startD ["_law_script", "_law_state", "_law_raw_here", "_law_kind", "_law_way_here", "_law_word", "_law_most"] [D.raw sc, D.raw st, .dic (rawL r)]) = [Sl.d (.raw sc), .d (.raw st), .d (.dic (rawL r)), .un, .un, .un, .un] := rfl
    rw [e0]
    refine st_mid (fun δ' => ∃ q : Int, (0 ≤ q ∧ q < 7) ∧ δ' = [Sl.d (.raw sc), .d (.raw st), .d (.dic (rawL r)), .d (.int q), .un, .un, .un]) ?_ ?_
    · repeat' walk_at "evd"
      rename_i q hq0 hq1
      exact ⟨q, ⟨hq0, hq1⟩, rfl⟩
    rintro δ' ⟨q, ⟨q0, q1⟩, rfl⟩
    by_cases h6 : q = 6
    · have d6 : decide (q = 6) = true := decide_eq_true h6
      refine st_seq (st_if (et_test (ev_eq (ev_v ⟨_, rfl, ev_int ⟨_, rfl, _, rfl, ift d6 ?_⟩⟩))))
      refine st_mid (fun δ' => ∃ i : Nat, i < r.ways.length ∧ δ' = [Sl.d (.raw sc), .d (.raw st), .d (.dic (rawL r)), .d (.int q), .d (.int (i : Nat)), .un, .un]) ?_ ?_
      · refine st_asg (ev_callN (ea_cons (ev_v ⟨_, rfl, ea_cons (ev_v ⟨_, rfl, ea_cons (ev_len (ev_dget (ev_v ⟨_, rfl, ev_str ⟨_, _, _, rfl, rfl, rfl, _, rfl, ea_nil ⟨_, _, _, rfl, hG, ?_, ?_, fun i i0 i1 => ?_⟩⟩⟩)))⟩)⟩)))
        · rw [List.length_map]; omega
        · rw [List.length_map]; omega
        · rw [List.length_map] at i1
          refine ⟨i.toNat, by omega, ?_⟩
          have e : ((i.toNat : Nat) : Int) = i := by omega
          rw [e]
          rfl
      rintro δ' ⟨i, hi, rfl⟩
      repeat' walk_at "evd"
      rename_i j j0 j1
      obtain ⟨z, hz, hm⟩ := atD_lt (l := [D.non, D.int 0, D.int 5, D.int 1000]) j0 j1
      have hz2 : ∃ b : Option Int, z = begD b ∧ goodB b = true := by
        simp only [List.mem_cons, List.not_mem_nil, or_false] at hm
        rcases hm with rfl | rfl | rfl | rfl
        · exact ⟨none, rfl, rfl⟩
        · exact ⟨some 0, rfl, rfl⟩
        · exact ⟨some 5, rfl, rfl⟩
        · exact ⟨some 1000, rfl, rfl⟩
      obtain ⟨b, rfl, gb⟩ := hz2
      exact ⟨_, _, _, rfl, rfl, hz, ea_nil ⟨(by show 3 ≤ 100000; omega), k _ (.beg i b hi gb)⟩⟩
    · have d6 : decide (q = 6) = false := decide_eq_false h6
      refine st_seq (st_if (et_test (ev_eq (ev_v ⟨_, rfl, ev_int ⟨_, rfl, _, rfl, iff' d6 (st_next ?_)⟩⟩))))
      have hk : ∃ (z : Str) (m : Int), z ∈ PLAL ∧ atD [D.str "turn", D.str "numbers", D.str "bound", D.str "room", D.str "period", D.str "head"] q = some (.str z) ∧ 0 < m ∧ (∀ m0 : Int, (m0 = 190 ∨ m0 = 7) → ∃ m : Int, atD [D.int m0, D.int 7, D.int 50, D.int 50, D.int 190, D.int 7] q = some (.int m) ∧ 0 < m ∧ m < 200 ∧ ∀ v : Int, 0 ≤ v → v < m → 2 + v ≤ chMost z) := by
        have hq : q = 0 ∨ q = 1 ∨ q = 2 ∨ q = 3 ∨ q = 4 ∨ q = 5 := by omega
        rcases hq with rfl | rfl | rfl | rfl | rfl | rfl
        · exact ⟨"turn", 1, by decide, rfl, by decide, fun m0 h => ⟨m0, rfl, by omega, by omega, fun v h1 h2 => by show 2 + v ≤ 191; omega⟩⟩
        · exact ⟨"numbers", 1, by decide, rfl, by decide, fun m0 h => ⟨7, rfl, by omega, by omega, fun v h1 h2 => by show 2 + v ≤ 8; omega⟩⟩
        · exact ⟨"bound", 1, by decide, rfl, by decide, fun m0 h => ⟨50, rfl, by omega, by omega, fun v h1 h2 => by show 2 + v ≤ 51; omega⟩⟩
        · exact ⟨"room", 1, by decide, rfl, by decide, fun m0 h => ⟨50, rfl, by omega, by omega, fun v h1 h2 => by show 2 + v ≤ 51; omega⟩⟩
        · exact ⟨"period", 1, by decide, rfl, by decide, fun m0 h => ⟨190, rfl, by omega, by omega, fun v h1 h2 => by show 2 + v ≤ 191; omega⟩⟩
        · exact ⟨"head", 1, by decide, rfl, by decide, fun m0 h => ⟨7, rfl, by omega, by omega, fun v h1 h2 => by show 2 + v ≤ 8; omega⟩⟩
      obtain ⟨z, _, hz, hat, _, hmost⟩ := hk
      refine st_mid (fun δ' => δ' = [Sl.d (.raw sc), .d (.raw st), .d (.dic (rawL r)), .d (.int q), .un, .d (.str z), .un]) ?_ ?_
      · repeat' walk_at "evd"
      rintro δ' rfl
      refine st_mid (fun δ' => ∃ m : Int, (0 < m ∧ m < 200 ∧ ∀ v : Int, 0 ≤ v → v < m → 2 + v ≤ chMost z) ∧ δ' = [Sl.d (.raw sc), .d (.raw st), .d (.dic (rawL r)), .d (.int q), .un, .d (.str z), .d (.int m)]) ?_ ?_
      · repeat' walk_at "evd"
        rename_i j j0 j1
        obtain ⟨x, hx, hm⟩ := atD_lt (l := [D.int 190, D.int 7]) j0 j1
        have hx2 : ∃ m0 : Int, x = .int m0 ∧ (m0 = 190 ∨ m0 = 7) := by
          simp only [List.mem_cons, List.not_mem_nil, or_false] at hm
          rcases hm with rfl | rfl
          · exact ⟨_, rfl, .inl rfl⟩
          · exact ⟨_, rfl, .inr rfl⟩
        obtain ⟨m0, rfl, hm0⟩ := hx2
        obtain ⟨m, hm1, hm2⟩ := hmost m0 hm0
        refine ⟨_, _, _, rfl, rfl, hx, ?_⟩
        repeat' walk_at "evd"
        exact ⟨m, hm2, rfl⟩
      rintro δ' ⟨m, ⟨m0, m1, hm⟩, rfl⟩
      repeat' walk_at "evd"
      rename_i v v0 v1
      exact k _ (.set z _ hz (by omega) (hm v v0 v1))
/-- no way whose box is too near its turn -/
abbrev F__law_can_be : Fn1 := fun G ds R _ => ∃ r, ds = [.dic (rawL r)] ∧ R (.bl (!r.ways.any (boxBad r.turn)))
theorem ok__law_can_be (T : Txt K mg w) : FnOk PG w K mg base (L2.CX PG w) 3 (He.ga K "_law_can_be") (fdOf K ("_law_can_be", none)) ["_law_raw_here"] (spD K F__law_can_be) :=
  WL.fnD (k := 2) T.d__law_can_be sc__law_can_be (fun _ _ _ _ ⟨_, e, _⟩ => by rw [e] <;> rfl) fun cdv A outer s H E G ds R ex hr ⟨r, e, k⟩ => by
    subst e
    refine ⟨_, (pss_cons (ps_for (passes_of rfl) rfl (pi_list (pe_dget (hu_of hr) (pv 0) pe_str (fun _ _ => rfl))) (pg_tup (n := 4) rfl (pgs_cons (pg_name (i := 1) sc__law_can_be.nd rfl (Or.inl rfl)) (pgs_cons (pg_name (i := 2) sc__law_can_be.nd rfl (Or.inl rfl)) (pgs_cons (pg_name (i := 3) sc__law_can_be.nd rfl (Or.inl rfl)) (pgs_cons (pg_name (i := 4) sc__law_can_be.nd rfl (Or.inl rfl)) pgs_nil))))) (pss_one (ps_if (PW.pt (pw_and (pt_cmpR op_notN (pv 1) pe_non (nomark _)) (pw_and (pt_cmpR (op_neD hr.units) (pv 4) (pe_lst pa_nil) (nomark _)) (pw_and1 (pt_cmpR op_lt (pe_dget (hu_of hr) (pv 0) pe_str (fun _ _ => rfl)) (pe_op op_mul pe_int (pv 3)) (nomark _)))))) (pss_one (ps_ret pe_bl)) pss_nil)))
    (pss_one (ps_ret pe_bl))), ?_⟩
    dsimp only [cxOf]
    have e0 : (startD ["_law_raw_here", "_law_begin", "_law_low", "_law_high", "_law_boxes"] [D.dic (rawL r)]) = [.d (.dic (rawL r)), .un, .un, .un, .un] := rfl
    rw [e0]
    refine st_mid (fun δ' => ∃ s1 s2 s3 s4, r.ways.any (boxBad r.turn) = false ∧ δ' = [.d (.dic (rawL r)), s1, s2, s3, s4]) ?_ ?_
    · refine st_for (js := List.range 64) (ei_list (ev_dget (ev_v ⟨_, rfl, ev_str ⟨_, _, _, rfl, rfl, rfl, _, rfl, ?_⟩⟩)))
      refine ⟨fun n δ' => ∃ s1 s2 s3 s4, (r.ways.take n).any (boxBad r.turn) = false ∧ δ' = [.d (.dic (rawL r)), s1, s2, s3, s4], ⟨_, _, _, _, rfl, rfl⟩, ?_, ?_⟩
      · rintro n y δ' hy ⟨s1, s2, s3, s4, hb, rfl⟩
        rw [List.getElem?_map] at hy
        obtain ⟨x, hx, rfl⟩ := Option.map_eq_some_iff.mp hy
        have tk : ∀ b, boxBad r.turn x = b → (r.ways.take (n + 1)).any (boxBad r.turn) = b := fun b hb0 => by
          rw [List.take_add_one, hx, List.any_append, hb]
          show (false || (boxBad r.turn x || false)) = b
          rw [hb0]
          cases b <;> rfl
        refine tg_tu ⟨_, rfl, rfl, tg_cons (tg_name (by decide) (tg_cons (tg_name (by decide) (tg_cons (tg_name (by decide) (tg_cons (tg_name (by decide) (tg_nil ?_)))))))) ⟩
        cases hb0 : x.b with
        | none =>
          refine st_if (et_and (et_test (ev_notN (ev_v ⟨_, rfl, _, rfl, ?_⟩))))
          refine iff' rfl (iff' rfl (st_next ⟨_, _, _, _, tk _ ?_, rfl⟩))
          unfold boxBad
          rw [hb0] <;> rfl
        | some b0 =>
          refine st_if (et_and (et_test (ev_notN (ev_v ⟨_, rfl, _, rfl, ift rfl (et_and (et_test (ev_neN ?_)))⟩))))
          repeat' walk_at "evd"
          refine ⟨pl_raw x.bx, ⟨.lst (fun _ h => nomatch h), .lst (fun _ h => nomatch h)⟩, fun e => ?_, fun e => ?_⟩
          · refine ⟨_, rfl, ?_⟩
            have hx0 : x.bx = [] := by
              cases hbx : x.bx with
              | nil => rfl
              | cons a b => rw [hbx] at e; cases e
            refine iff' rfl (iff' rfl (st_next ⟨_, _, _, _, tk _ ?_, rfl⟩))
            unfold boxBad
            rw [hx0, hb0] <;> rfl
          · refine ⟨_, rfl, ift rfl ?_⟩
            have hpos : decide (0 < x.bx.length) = true := by
              cases hbx : x.bx with
              | nil => rw [hbx] at e; exact absurd rfl e
              | cons a b => rfl
            have hbb : boxBad r.turn x = decide (r.turn < 2 * x.hi) := by
              unfold boxBad
              rw [hb0, hpos]
              rfl
            refine et_test (ev_opB (ev_dget (ev_v ⟨_, rfl, ev_str ⟨_, _, _, rfl, rfl, rfl, ?_⟩⟩)))
            refine ev_opC (ev_int (ev_v ⟨_, rfl, _, _, rfl, rfl, cmul_l (by omega) (by omega), _, _, rfl, rfl, _, rfl, ?_⟩))
            cases hd : decide (r.turn < 2 * x.hi) with
            | true =>
              refine ift rfl (st_ret (ev_bl ?_))
              have h1 : r.ways.any (boxBad r.turn) = true := List.any_eq_true.mpr ⟨x, List.mem_of_getElem? hx, by rw [hbb, hd]⟩
              rw [h1] at k
              exact k
            | false => exact iff' rfl (st_next ⟨_, _, _, _, tk _ (by rw [hbb, hd]), rfl⟩)
      · rintro δ' ⟨s1, s2, s3, s4, hb, rfl⟩
        rw [List.length_map, List.take_length] at hb
        exact ⟨_, _, _, _, hb, rfl⟩
    · rintro δ' ⟨s1, s2, s3, s4, hb, rfl⟩
      rw [hb] at k
      exact st_ret (ev_bl k)
abbrev F__law_same : Fn1 := fun G ds R _ => ∃ r, ds = [lineD r, .dic (rawL r)] ∧ LOk r ∧ R (.bl true)
theorem ok__law_same (T : Txt K mg w) : FnOk PG w K mg base (L2.CX PG w) 86 (He.ga K "_law_same") (fdOf K ("_law_same", none)) ["_law_line_here", "_law_raw_here"] (spD K F__law_same) :=
  WL.fnD (k := 85) T.d__law_same sc__law_same (fun _ _ _ _ ⟨_, e, _⟩ => by rw [e] <;> rfl) fun cdv A outer s H E G ds R ex hr ⟨r, e, ok, k⟩ => by
    subst e
    refine ⟨_, (pss_one (ps_ret (pe_and (pe_cmpR (op_eqG (rcT_ins (ok_Line__eq__ T) fe_Line (T.feq "Line" (by decide)).1 (T.feq "Line" (by decide)).2 (bi_Line__eq__ T) passN) (hr.mono (by decide))) (pv 0) (pe_call (ok__law_line T) (hr.mono (by decide)) rfl T.g__law_line T.d__law_line.kp (bi__law_line T) .nil passN (pa_cons (pv 1) pa_nil)) (nomark _)) (pe_and (pe_cmpR op_eq (pe_fld (pv 0) rfl) (pe_dget (hu_of hr) (pv 1) pe_str (fun _ _ => rfl)) (nomark _)) (pe_one (pe_cmpR op_eq (pe_fld (pe_fld (pv 0) rfl) rfl) (pe_dget (hu_of hr) (pv 1) pe_str (fun _ _ => rfl)) (nomark _))))))), ?_⟩
    dsimp only [cxOf]
    have c1 := T.c_Line
    have n1 := T.n_Line_turn
    have n2 := T.n_Line_room
    have c2 := T.c_Room
    have n3 := T.n_Room_size
    repeat' walk_at "evu"
    refine ⟨⟨_, rfl, r, ok.base.mail, rfl⟩, ?_⟩
    repeat' walk_at "evu"
    rw [decide_eq_true rfl]
    exact k
end
end WK
end
section
set_option Elab.async false
set_option linter.all false
set_option maxRecDepth 100000
set_option maxHeartbeats 400000
/-! The law's defs over data: settings behind a change. -/
local macro_rules | `(tactic| walk_at "ev") => `(tactic| first
  | (with_reducible refine WL.st_seq ?_) | (with_reducible refine WL.st_ret ?_) | (with_reducible refine WL.st_retN ?_) | (with_reducible refine WL.st_next ?_) | (with_reducible refine WL.st_if ?_)
  | (with_reducible refine WL.et_and ?_) | (with_reducible refine WL.et_or ?_) | (with_reducible refine WL.et_not ?_) | (with_reducible refine WL.et_test ?_) | (with_reducible refine WL.et_B ?_)
  | (with_reducible refine WL.ev_andV ?_) | (with_reducible refine WL.ev_orV ?_) | (with_reducible refine WL.ev_notV ?_) | (with_reducible refine WL.ev_if ?_)
  | (with_reducible refine WL.ev_v ?_) | (with_reducible refine WL.ev_int ?_) | (with_reducible refine WL.ev_str ?_) | (with_reducible refine WL.ev_non ?_) | (with_reducible refine WL.ev_bl ?_)
  | (with_reducible refine WL.ea_nil ?_) | (with_reducible refine WL.ea_cons ?_) | (with_reducible refine WL.ev_tup ?_)
  | (with_reducible refine WL.ev_make ?_) | (with_reducible refine WL.ev_makeN ?_) | (with_reducible refine WL.ev_call ?_) | (with_reducible refine WL.ev_callN ?_) | (with_reducible refine WL.ev_meth ?_) | (with_reducible refine WL.ev_methN ?_)
  | (with_reducible refine WL.ev_isi (.ty _) ?_) | (with_reducible refine WL.ev_isi (.own _) ?_) | (with_reducible refine WL.ev_isiT (.ty _) (.ty _) ?_)
  | (with_reducible refine WL.ev_len ?_) | (with_reducible refine WL.ev_all ?_) | (with_reducible refine WL.ev_any ?_) | (with_reducible refine WL.ev_tuple ?_) | (with_reducible refine WL.ev_listD ?_) | (with_reducible refine WL.ev_map ?_) | (with_reducible refine WL.ei_tup ?_) | (with_reducible refine WL.ei_list ?_) | (with_reducible refine WL.ei_str ?_) | (with_reducible refine WL.ei_zip ?_) | (with_reducible refine WL.ei_seqV ?_) | (with_reducible refine WL.ei_enumA ?_) | (with_reducible refine WL.ev_eqS ?_) | (with_reducible refine WL.ev_inS ?_)
  | (with_reducible refine WL.ev_chain ?_) | (with_reducible refine WL.ev_chain3 ?_) | (with_reducible refine WL.ev_opB ?_) | (with_reducible refine WL.ev_opI ?_) | (with_reducible refine WL.ev_eq ?_) | (with_reducible refine WL.ev_ne ?_) | (with_reducible refine WL.ev_isN ?_) | (with_reducible refine WL.ev_notN ?_)
  | (with_reducible refine WL.ev_ixL ?_) | (with_reducible refine WL.ev_ixT ?_) | (with_reducible refine WL.ev_ixD ?_) | (with_reducible refine WL.ev_kstr (by assumption) ?_) | (with_reducible refine WL.ev_eqG ?_) | (with_reducible refine WL.ev_in ?_) | (with_reducible refine WL.st_raise ?_) | (with_reducible refine WL.st_fl ?_) | (with_reducible refine WL.ev_fld ?_)
  | (with_reducible refine WK.ty_int (by assumption) ?_ ?_) | (with_reducible refine WK.ty_bool (by assumption) ?_ ?_) | (with_reducible refine WK.ty_str (by assumption) ?_ ?_) | (with_reducible refine WK.ty_tup (by assumption) ?_ ?_) | (with_reducible refine WK.ty_seq (by assumption) ?_ ?_) | (with_reducible refine WK.ty_own (by assumption) ?_ ?_ ?_ ?_; focus (simp [WK.CLS]; done))
  | (show WK.Kn _; first | assumption | trivial | (simp [WK.Kn, WK.CLS]; done)) | (show ∀ l, _ ≠ WL.D.dic l; intro _ h; cases h)
  | (with_reducible refine WL.st_asg ?_) | (with_reducible refine WL.st_asgT (js := List.range 64) ?_) | (with_reducible refine WL.tg_tu ?_) | (with_reducible refine WL.tg_cons ?_) | (with_reducible refine WL.tg_nil ?_) | (with_reducible refine WL.tg_name (by first | decide | simp) ?_)
  | refine WL.ift rfl ?_ | refine WL.iff' rfl ?_
  | refine And.intro (by first | assumption | trivial : WK.Kn _) ?_
  | refine ⟨_, _, _, rfl, (by assumption : L2.Cls _ _), (by assumption : L2.NoAttr _ _ _), (by first | rfl | exact Nat.le_of_ble_eq_true rfl), ?_⟩
  | refine ⟨_, rfl, ?_⟩ | refine ⟨_, _, rfl, rfl, ?_⟩ | refine ⟨_, _, rfl, (by assumption : _ ∨ _), ?_⟩ | refine ⟨_, _, rfl, ?_⟩ | refine ⟨_, _, _, rfl, ?_⟩ | refine ⟨_, _, _, _, rfl, ?_⟩ | refine ⟨_, _, _, rfl, rfl, (by first | assumption | rfl : WL.atD _ _ = some _), ?_⟩ | refine ⟨_, _, _, rfl, rfl, rfl, ?_⟩ | refine And.intro rfl ?_ | refine And.intro (by assumption) ?_ | refine And.intro (Nat.le_of_ble_eq_true rfl) ?_ | exact rfl)
local macro_rules | `(tactic| walk_at "evs") => `(tactic| first | walk_at "ev" | (with_reducible refine WL.ift ?_ ?_; focus (first | assumption | (simp [*]; done) | (simp; omega))) | (with_reducible refine WL.iff' ?_ ?_; focus (first | assumption | (simp [*]; done) | (simp; omega))))
local macro_rules | `(tactic| walk_at "evb") => `(tactic| first | walk_at "ev" | (with_reducible refine WL.ifb (fun _ => ?_) (fun _ => ?_)))
local macro_rules | `(tactic| walk_at "evt") => `(tactic| first | walk_at "evs" | refine ⟨_, Or.inl rfl, ?_⟩ | refine ⟨_, Or.inr rfl, ?_⟩ | fail)
local macro_rules | `(tactic| walk_at "evu") => `(tactic| first | (with_reducible refine WL.ev_ofl ?_; refine ⟨_, _, _, _, rfl, (by assumption : L2.Cls _ _), (by assumption : L2.NoAttr _ _ _), rfl, ?_⟩) | walk_at "evt" | (with_reducible refine WL.ev_opC ?_) | (with_reducible refine WL.ev_dget ?_) | (with_reducible refine WL.ev_ofl ?_) | (with_reducible refine WL.ev_makeK ?_) | fail)
local macro_rules | `(tactic| walk_at "evc") => `(tactic| first | assumption | omega | fail)
local macro_rules | `(tactic| walk_at "evd") => `(tactic| first
  | (with_reducible refine WL.ev_drixV ?_; refine ⟨_, _, rfl, (by assumption), ?_⟩) | (with_reducible refine WL.ev_scixV ?_; refine ⟨_, _, rfl, (by assumption), ?_⟩) | (with_reducible refine WL.st_drsetV ?_; refine ⟨_, _, rfl, (by assumption), by omega, by omega, ?_⟩) | (with_reducible refine WL.ev_sclenV ?_; refine ⟨_, _, rfl, (by assumption), ?_⟩)
  | refine ⟨_, rfl, Int.emod_nonneg _ (by omega), Int.emod_lt_of_pos _ (by omega), fun _ => ?_⟩ | refine ⟨_, rfl, (by omega : (0 : Int) ≤ _), (by omega), fun _ => ?_⟩
  | refine ⟨_, _, _, rfl, (by assumption), (by walk_at "evc"; done), (by walk_at "evc"; done), fun _ _ _ => ?_⟩ | refine ⟨_, rfl, (by walk_at "evc"; done : -(2 ^ 62) ≤ _), (by walk_at "evc"; done), ?_⟩
  | walk_at "ev" | (with_reducible refine WL.ev_opC ?_) | (with_reducible refine WL.ev_intI ?_) | (with_reducible refine WL.ev_max2 ?_) | (with_reducible refine WL.ei_range1 ?_) | (with_reducible refine WL.ev_catT ?_) | (with_reducible refine WL.ev_lst ?_)
  | refine And.intro (WL.pos_of (by walk_at "evc"; done)) ?_ | refine And.intro (WL.cdiv_of (by walk_at "evc"; done) (by walk_at "evc"; done)) ?_ | refine And.intro (WL.cmul_l (by walk_at "evc"; done) (by walk_at "evc"; done)) ?_ | refine And.intro (WL.cmul_r (by walk_at "evc"; done) (by walk_at "evc"; done)) ?_
  | (with_reducible refine WL.ifd (fun _ => ?_) (fun _ => ?_)) | (with_reducible refine WL.ifb (fun _ => ?_) (fun _ => ?_)) | fail)
namespace WK
open PySem PySem.Spec PyProof.Rows L2 WL
theorem asc_pair : ∀ {l : List Int}, asc l = true → l.Pairwise (· < ·)
  | [], _ => .nil
  | [a], _ => .cons (fun _ h => nomatch h) .nil
  | a :: b :: r, h => by
    have h2 : (decide (a < b) && asc (b :: r)) = true := h
    rw [Bool.and_eq_true_iff, decide_eq_true_eq] at h2
    have h3 := asc_pair (l := b :: r) h2.2
    refine .cons (fun x hx => ?_) h3
    rcases List.mem_cons.mp hx with rfl | hx
    · exact h2.1
    · have := (List.pairwise_cons.mp h3).1 x hx
      omega
theorem pair_asc : ∀ {l : List Int}, l.Pairwise (· < ·) → asc l = true
  | [], _ => rfl
  | [a], _ => rfl
  | a :: b :: r, h => by
    have h2 := List.pairwise_cons.mp h
    show (decide (a < b) && asc (b :: r)) = true
    rw [pair_asc h2.2, decide_eq_true (h2.1 b (List.mem_cons_self ..))] <;> rfl
/-- put into an ascending list -/
theorem insB_pair {l : List Int} {b : Int} (h : l.Pairwise (· < ·)) : (insB l b).Pairwise (· < ·) ∧ (insB l b).Perm (l.filter (fun x => x ≠ b) ++ [b]) := by
  unfold insB
  by_cases hb : b ∈ l
  · rw [if_pos hb]
    refine ⟨h, ?_⟩
    induction l with
    | nil => cases hb
    | cons a r ih =>
      have h2 := List.pairwise_cons.mp h
      by_cases e : a = b
      · subst e
        have hr : r.filter (fun x => x ≠ a) = r := List.filter_eq_self.mpr fun x hx => by
          have := h2.1 x hx
          exact decide_eq_true (by omega)
        rw [List.filter_cons_of_neg (by simp), hr]
        exact (List.perm_append_comm (l₁ := [a]) (l₂ := r))
      · rw [List.filter_cons_of_pos (by simpa using e)]
        have hb2 : b ∈ r := (List.mem_cons.mp hb).resolve_left (fun z => e z.symm)
        exact .cons _ (ih h2.2 hb2)
  · rw [if_neg hb]
    have hf : l.filter (fun x => x ≠ b) = l := List.filter_eq_self.mpr fun x hx => decide_eq_true fun z => hb (z ▸ hx)
    rw [hf]
    refine ⟨?_, ?_⟩
    · induction l with
      | nil => simp
      | cons a r ih =>
        have h2 := List.pairwise_cons.mp h
        have hb2 : b ∉ r := fun z => hb (List.mem_cons_of_mem _ z)
        have hr : r.filter (fun x => x ≠ b) = r := List.filter_eq_self.mpr fun x hx => decide_eq_true fun z => hb2 (z ▸ hx)
        by_cases e : a < b
        · rw [List.filter_cons_of_pos (by simpa using e), List.length_cons, List.take_succ_cons, List.drop_succ_cons, List.cons_append, List.cons_append]
          refine .cons (fun x hx => ?_) (ih h2.2 hb2 hr)
          rw [List.append_assoc, List.mem_append, List.cons_append, List.mem_cons, List.nil_append] at hx
          rcases hx with hx | rfl | hx
          · exact h2.1 x (List.mem_of_mem_take hx)
          · exact e
          · exact h2.1 x (List.mem_of_mem_drop hx)
        · have hz : (a :: r).filter (fun x => decide (x < b)) = [] := List.filter_eq_nil_iff.mpr fun x hx => by
            rw [decide_eq_true_eq]
            rcases List.mem_cons.mp hx with rfl | hx
            · exact e
            · have := h2.1 x hx
              omega
          rw [hz]
          refine .cons (fun x hx => ?_) h
          rcases List.mem_cons.mp hx with rfl | hx
          · have : x ≠ b := fun z => hb (z ▸ List.mem_cons_self ..)
            omega
          · have := h2.1 x hx
            omega
    · rw [List.append_assoc]
      generalize (l.filter fun x => decide (x < b)).length = c
      refine (List.perm_middle (l₁ := l.take c) (l₂ := l.drop c)).trans ?_
      rw [List.take_append_drop]
      exact List.perm_append_comm (l₁ := [b]) (l₂ := l)
theorem sort_uniq {l ns : List Int} {b : Int} (h : l.Pairwise (· < ·)) (hp : ns.Perm (l.filter (fun x => x ≠ b) ++ [b])) (hs : ns.Pairwise (· ≤ ·)) : ns = insB l b := by
  obtain ⟨h1, h2⟩ := insB_pair (b := b) h
  refine List.Perm.eq_of_pairwise (le := (· ≤ ·)) (fun a b _ _ h1 h2 => Int.le_antisymm h1 h2) hs (h1.imp fun h => Int.le_of_lt h) (hp.trans h2.symm)
/-- settings behind a change -/
inductive Aft (r : Rw) : D → Rw → Prop
  | beg (i : Nat) (x : Wy) (b : Option Int) : r.ways[i]? = some x → Aft r (.tup [.str "begin", .int (i : Nat), begD b]) { r with ways := r.ways.set i { x with b := b } }
  | bound (v : Int) : Aft r (.tup [.str "bound", .int v]) { r with bnds := insB (r.bnds.drop 1) v }
  | room (v : Int) : Aft r (.tup [.str "room", .int v]) { r with size := v }
  | turn (v : Int) : Aft r (.tup [.str "turn", .int v]) { r with turn := v }
  | numbers (v : Int) : Aft r (.tup [.str "numbers", .int v]) { r with numbers := v }
  | period (v : Int) : Aft r (.tup [.str "period", .int v]) { r with period := v }
  | head (v : Int) : Aft r (.tup [.str "head", .int v]) { r with head := v }
theorem nd14 (r : Rw) : ((rawL r).map (·.1)).Nodup := show (["rows", "ways", "widths", "turn", "numbers", "size", "bounds", "head", "places", "cost", "period", "quiet", "silent", "losses"] : List Str).Nodup by decide
section
variable {K : PySem.W.Frag} {mg : Str → Option Value} {w : World} {base : Heap}
abbrev F__law_after : FnO := fun G ds RO _ => ∃ r c r', ds = [.dic (rawL r), c] ∧ asc r.bnds = true ∧ r.bnds.length ≤ 4 ∧ Aft r c r' ∧ RO (.odic (rawL r'))
theorem ok__law_after (T : Txt K mg w) : FnOk PG w K mg base (L2.CX PG w) 5 (He.ga K "_law_after") (fdOf K ("_law_after", none)) ["_law_raw_here", "_law_change_here"] (spO K F__law_after) :=
  WL.fnO (k := 4) T.d__law_after sc__law_after (fun _ _ _ _ ⟨_, _, _, e, _⟩ => by rw [e] <;> rfl) fun cdv A outer s H E G ds RO ex hr ⟨r, c, r', e, ha, hl, af, k⟩ => by
    subst e
    refine ⟨_, (pss_cons (ps_set (i := 2) sc__law_after.nd rfl (Or.inl rfl) (pe_call (ok__law_copy T) (hr.mono (by decide)) rfl T.g__law_copy T.d__law_copy.kp (bi__law_copy T) .nil passN (pa_cons (pv 0) pa_nil)))
    (pss_cons (ps_if (pt_cmpR op_eq (pe_ix ix_tup (pv 1) pe_int (fun _ _ => rfl)) pe_str (nomark _)) (pss_cons (ps_set (i := 3) sc__law_after.nd rfl (Or.inl rfl) (pe_ix ix_list (pe_dget (hu_of hr) (pv 0) pe_str (fun _ _ => rfl)) (pe_ix ix_tup (pv 1) pe_int (fun _ _ => rfl)) (fun _ _ => rfl)))
    (pss_cons (ps_dput (hu_of hr) (pv 2) pe_str (pe_callTy call_list_of (by rfl) T.f_list (by decide +kernel) (pa_cons (pe_dget (hu_of hr) (pv 0) pe_str (fun _ _ => rfl)) pa_nil)) rfl)
    (pss_one (ps_asg (pe_op op_catA (pe_tup (pa_cons (pe_ix ix_tup (pv 1) pe_int (fun _ _ => rfl)) pa_nil)) (pe_slice sl_tupA (pv 3) (po_some pe_int) po_none)) (pg_sub (pe_dget (hu_of hr) (pv 2) pe_str (fun _ _ => rfl)) (pe_ix ix_tup (pv 1) pe_int (fun _ _ => rfl)) set_list))))) (pss_one (ps_if (pt_cmpR op_eq (pe_ix ix_tup (pv 1) pe_int (fun _ _ => rfl)) pe_str (nomark _)) (pss_cons (ps_set (i := 4) sc__law_after.nd rfl (Or.inl rfl) (pe_op op_cat (pe_lc (own := [("_law_one", 5)]) rfl sc__law_after.nd (pi_list (pe_slice sl_list (pe_dget (hu_of hr) (pv 0) pe_str (fun _ _ => rfl)) (po_some pe_int) po_none)) (blkOk_by (own := [("_law_one", 5)]) (N := ["_law_raw_here", "_law_change_here", "_law_found", "_law_way_here", "_law_bounds", "_law_one"]) (sc := defScope s__law_after) (by decide +kernel)) (fun _ _ _ _ _ => (pg_name (i := 5) sc__law_after.nd rfl (Or.inl rfl))) (fun _ _ _ _ _ => (pts_one (pt_cmpR op_ne (pv 5) (pe_ix (WX.iK rIxT (K := K) (by rfl) ix_tup) (pv 1) pe_int (fun _ _ => rfl)) (nomark _)))) (fun _ _ _ _ _ => (pv 5))) (pe_lst (pa_cons (pe_ix ix_tup (pv 1) pe_int (fun _ _ => rfl)) pa_nil))))
    (pss_one (ps_dput (hu_of hr) (pv 2) pe_str (pe_callB cr_sortedI (by rfl) T.f_sorted (by decide +kernel) (pa_cons (pe_lc (own := [("_law_one", 5)]) rfl sc__law_after.nd (pi_list (pv 4)) (blkOk_by (own := [("_law_one", 5)]) (N := ["_law_raw_here", "_law_change_here", "_law_found", "_law_way_here", "_law_bounds", "_law_one"]) (sc := defScope s__law_after) (by decide +kernel)) (fun _ _ _ _ _ => (pg_name (i := 5) sc__law_after.nd rfl (Or.inl rfl))) (fun _ _ _ _ _ => pts_nil) (fun _ _ _ _ _ => (pe_callTy call_int1 (by rfl) T.f_int (by decide +kernel) (pa_cons (pv 5) pa_nil)))) pa_nil)) rfl))) (pss_one (ps_if (pt_cmpR op_eq (pe_ix ix_tup (pv 1) pe_int (fun _ _ => rfl)) pe_str (nomark _)) (pss_one (ps_dput (hu_of hr) (pv 2) pe_str (pe_ix ix_tup (pv 1) pe_int (fun _ _ => rfl)) rfl)) (pss_one (ps_dput (hu_of hr) (pv 2) (pe_ix ix_tup (pv 1) pe_int (fun _ _ => rfl)) (pe_ix ix_tup (pv 1) pe_int (fun _ _ => rfl)) rfl)))))))
    (pss_one (ps_ret (pv 2))))), ?_⟩
    dsimp only [cxOf]
    have e0 : (startD ["_law_raw_here", "_law_change_here", "_law_found", "_law_way_here", "_law_bounds", "_law_one"] [.dic (rawL r), c]) = [Sl.d (.dic (rawL r)), .d c, .un, .un, .un, .un] := rfl
    rw [e0]
    refine so_seq (st_asgO (eo_callN (ea_cons (ev_v ⟨_, rfl, ea_nil ⟨_, rfl, nd14 r, (show 14 < 100000 by decide), ?_⟩⟩))))
    refine so_mid (fun δ' => ∃ s3 s4 s5, δ' = [Sl.d (.dic (rawL r)), .d c, .odic (rawL r'), s3, s4, s5]) ?_ ?_
    · cases af with
      | beg i x b hx =>
        have hi : i < r.ways.length := (List.getElem?_eq_some_iff.mp hx).1
        have hat : atD (r.ways.map rawW) (i : Int) = some (rawW x) := by
          unfold atD
          rw [ixN_natL (by rw [List.length_map]; exact hi)]
          show (r.ways.map rawW)[i]? = _
          rw [List.getElem?_map, hx] <;> rfl
        refine st_if (et_test (ev_eq (ev_ixT (ev_v ⟨_, rfl, ev_int ⟨_, _, _, rfl, rfl, rfl, ev_str ⟨_, rfl, _, rfl, ift rfl ?_⟩⟩⟩))))
        refine st_mid (fun δ' => δ' = [Sl.d (.dic (rawL r)), .d (.tup [.str "begin", .int (i : Nat), begD b]), .odic (rawL r), .d (rawW x), .un, .un]) ?_ ?_
        · repeat' walk_at "evu"
        rintro δ' rfl
        refine st_dset (j := 2) (L := rawL r) rfl (show 14 < 100000 by decide) (nd14 r) ?_
        repeat' walk_at "evu"
        refine ev_catT (ev_tup (ea_cons (ev_ixT (ev_v ⟨_, rfl, ev_int ⟨_, _, _, rfl, rfl, rfl, ea_nil ⟨(by show 1 ≤ 100000; omega), ev_slT (ev_v ⟨_, rfl, es_some (ev_int ⟨_, rfl, es_none ⟨_, rfl, _, _, rfl, rfl, ?_, ?_⟩⟩)⟩)⟩⟩⟩))))
        · rw [cut_tail]
          show 1 + 3 ≤ 100000
          omega
        · rw [cut_tail]
          repeat' walk_at "evu"
          refine ⟨_, _, rfl, ixN_natL (by rw [List.length_map]; exact hi), .d (rawW x), .un, .un, ?_⟩
          have hset : (r.ways.map rawW).set i (rawW { x with b := b }) = (r.ways.set i { x with b := b }).map rawW := by rw [List.map_set]
          show _ = [Sl.d (.dic (rawL r)), .d (.tup [.str "begin", .int (i : Nat), begD b]), .odic (rawL { r with ways := r.ways.set i { x with b := b } }), _, _, _]
          show _ = [_, _, Sl.odic (putA "ways" (.lst ((r.ways.set i { x with b := b }).map rawW)) (rawL r)), _, _, _]
          rw [← hset]
          rfl
      | bound v =>
        refine st_if (et_test (ev_eq (ev_ixT (ev_v ⟨_, rfl, ev_int ⟨_, _, _, rfl, rfl, rfl, ev_str ⟨_, rfl, _, rfl, iff' rfl ?_⟩⟩⟩))))
        refine st_if (et_test (ev_eq (ev_ixT (ev_v ⟨_, rfl, ev_int ⟨_, _, _, rfl, rfl, rfl, ev_str ⟨_, rfl, _, rfl, ift rfl ?_⟩⟩⟩))))
        refine st_mid (fun δ' => ∃ s5, δ' = [Sl.d (.dic (rawL r)), .d (.tup [.str "bound", .int v]), .odic (rawL r), .un, .d (.lst (((r.bnds.drop 1).filter (fun x => x ≠ v) ++ [v]).map D.int)), s5]) ?_ ?_
        · refine st_asg (ev_new (eo_cat (ev_mapF (ei_list (ev_new (eo_slL (ev_dget (ev_v ⟨_, rfl, ev_str ⟨_, _, _, rfl, rfl, rfl, es_some (ev_int ⟨_, rfl, es_none ⟨_, rfl, _, rfl, _, rfl, ?_⟩⟩)⟩⟩))))))))
          rw [cut_tail, ← List.map_drop]
          refine ⟨by rw [List.length_map, List.length_drop]; omega, fun y => match y with
            | .int i => decide (i ≠ v)
            | _ => false, id, fun y hy => ?_, ?_⟩
          · obtain ⟨z, _, rfl⟩ := List.mem_map.mp hy
            refine tg_name (by decide) (et_test (ev_ne (ev_v ⟨_, rfl, ev_ixT (ev_v ⟨_, rfl, ev_int ⟨_, _, _, rfl, rfl, rfl, _, rfl, _, rfl, ?_, fun _ => ev_v ⟨_, rfl, rfl⟩⟩⟩)⟩)))
            by_cases e : z = v
            · rw [decide_eq_true e]
              exact (decide_eq_false (fun h => h e)).symm
            · rw [decide_eq_false e]
              exact (decide_eq_true e).symm
          · have hc : ((((r.bnds.drop 1).map D.int).filter (fun y => match y with
              | .int i => decide (i ≠ v)
              | _ => false)).map id) = ((r.bnds.drop 1).filter (fun x => x ≠ v)).map D.int := by
              rw [List.map_id, List.filter_map]
              rfl
            refine ev_lst (ea_cons (ev_ixT (ev_v ⟨_, rfl, ev_int ⟨_, _, _, rfl, rfl, rfl, ea_nil ⟨(by show 1 ≤ 100000; omega), _, _, rfl, rfl, ?_, _, rfl, .un, ?_⟩⟩⟩)))
            · rw [hc, List.length_map]
              have := List.length_filter_le (fun x => decide (x ≠ v)) (r.bnds.drop 1)
              rw [List.length_drop] at this
              show _ + 1 ≤ 100000
              omega
            · rw [hc, List.map_append]
              rfl
        rintro δ' ⟨s5, rfl⟩
        refine st_dput (i := 2) rfl (show 14 < 100000 by decide) (nd14 r) (ev_sorted (ev_map (ei_list (ev_v ⟨_, rfl, _, rfl, ?_⟩))))
        have hlen : ((r.bnds.drop 1).filter (fun x => x ≠ v) ++ [v]).length ≤ 5 := by
          have := List.length_filter_le (fun x => decide (x ≠ v)) (r.bnds.drop 1)
          rw [List.length_append]
          rw [List.length_drop] at this
          show _ + 1 ≤ 5
          omega
        refine ⟨by rw [List.length_map]; omega, id, fun y hy => ?_, (r.bnds.drop 1).filter (fun x => x ≠ v) ++ [v], by rw [List.map_id], fun ns hp hs => ?_⟩
        · obtain ⟨z, _, rfl⟩ := List.mem_map.mp hy
          exact tg_name (by decide) (ev_intI (ev_v ⟨_, rfl, _, rfl, rfl⟩))
        · have hd : (r.bnds.drop 1).Pairwise (· < ·) := List.Pairwise.sublist (List.drop_sublist 1 _) (asc_pair ha)
          rw [sort_uniq hd hp hs]
          exact ev_str ⟨_, rfl, _, _, _, rfl⟩
      | room v =>
        refine st_if (et_test (ev_eq (ev_ixT (ev_v ⟨_, rfl, ev_int ⟨_, _, _, rfl, rfl, rfl, ev_str ⟨_, rfl, _, rfl, iff' rfl ?_⟩⟩⟩))))
        refine st_if (et_test (ev_eq (ev_ixT (ev_v ⟨_, rfl, ev_int ⟨_, _, _, rfl, rfl, rfl, ev_str ⟨_, rfl, _, rfl, iff' rfl ?_⟩⟩⟩))))
        refine st_if (et_test (ev_eq (ev_ixT (ev_v ⟨_, rfl, ev_int ⟨_, _, _, rfl, rfl, rfl, ev_str ⟨_, rfl, _, rfl, ift rfl ?_⟩⟩⟩))))
        exact st_dput (i := 2) rfl (show 14 < 100000 by decide) (nd14 r) (ev_ixT (ev_v ⟨_, rfl, ev_int ⟨_, _, _, rfl, rfl, rfl, ev_str ⟨_, rfl, _, _, _, rfl⟩⟩⟩))
      | turn v =>
        refine st_if (et_test (ev_eq (ev_ixT (ev_v ⟨_, rfl, ev_int ⟨_, _, _, rfl, rfl, rfl, ev_str ⟨_, rfl, _, rfl, iff' rfl ?_⟩⟩⟩))))
        refine st_if (et_test (ev_eq (ev_ixT (ev_v ⟨_, rfl, ev_int ⟨_, _, _, rfl, rfl, rfl, ev_str ⟨_, rfl, _, rfl, iff' rfl ?_⟩⟩⟩))))
        refine st_if (et_test (ev_eq (ev_ixT (ev_v ⟨_, rfl, ev_int ⟨_, _, _, rfl, rfl, rfl, ev_str ⟨_, rfl, _, rfl, iff' rfl ?_⟩⟩⟩))))
        exact st_dput (i := 2) rfl (show 14 < 100000 by decide) (nd14 r) (ev_ixT (ev_v ⟨_, rfl, ev_int ⟨_, _, _, rfl, rfl, rfl, ev_ixT (ev_v ⟨_, rfl, ev_int ⟨_, _, _, rfl, rfl, rfl, _, rfl, _, _, _, rfl⟩⟩)⟩⟩))
      | numbers v =>
        refine st_if (et_test (ev_eq (ev_ixT (ev_v ⟨_, rfl, ev_int ⟨_, _, _, rfl, rfl, rfl, ev_str ⟨_, rfl, _, rfl, iff' rfl ?_⟩⟩⟩))))
        refine st_if (et_test (ev_eq (ev_ixT (ev_v ⟨_, rfl, ev_int ⟨_, _, _, rfl, rfl, rfl, ev_str ⟨_, rfl, _, rfl, iff' rfl ?_⟩⟩⟩))))
        refine st_if (et_test (ev_eq (ev_ixT (ev_v ⟨_, rfl, ev_int ⟨_, _, _, rfl, rfl, rfl, ev_str ⟨_, rfl, _, rfl, iff' rfl ?_⟩⟩⟩))))
        exact st_dput (i := 2) rfl (show 14 < 100000 by decide) (nd14 r) (ev_ixT (ev_v ⟨_, rfl, ev_int ⟨_, _, _, rfl, rfl, rfl, ev_ixT (ev_v ⟨_, rfl, ev_int ⟨_, _, _, rfl, rfl, rfl, _, rfl, _, _, _, rfl⟩⟩)⟩⟩))
      | period v =>
        refine st_if (et_test (ev_eq (ev_ixT (ev_v ⟨_, rfl, ev_int ⟨_, _, _, rfl, rfl, rfl, ev_str ⟨_, rfl, _, rfl, iff' rfl ?_⟩⟩⟩))))
        refine st_if (et_test (ev_eq (ev_ixT (ev_v ⟨_, rfl, ev_int ⟨_, _, _, rfl, rfl, rfl, ev_str ⟨_, rfl, _, rfl, iff' rfl ?_⟩⟩⟩))))
        refine st_if (et_test (ev_eq (ev_ixT (ev_v ⟨_, rfl, ev_int ⟨_, _, _, rfl, rfl, rfl, ev_str ⟨_, rfl, _, rfl, iff' rfl ?_⟩⟩⟩))))
        exact st_dput (i := 2) rfl (show 14 < 100000 by decide) (nd14 r) (ev_ixT (ev_v ⟨_, rfl, ev_int ⟨_, _, _, rfl, rfl, rfl, ev_ixT (ev_v ⟨_, rfl, ev_int ⟨_, _, _, rfl, rfl, rfl, _, rfl, _, _, _, rfl⟩⟩)⟩⟩))
      | head v =>
        refine st_if (et_test (ev_eq (ev_ixT (ev_v ⟨_, rfl, ev_int ⟨_, _, _, rfl, rfl, rfl, ev_str ⟨_, rfl, _, rfl, iff' rfl ?_⟩⟩⟩))))
        refine st_if (et_test (ev_eq (ev_ixT (ev_v ⟨_, rfl, ev_int ⟨_, _, _, rfl, rfl, rfl, ev_str ⟨_, rfl, _, rfl, iff' rfl ?_⟩⟩⟩))))
        refine st_if (et_test (ev_eq (ev_ixT (ev_v ⟨_, rfl, ev_int ⟨_, _, _, rfl, rfl, rfl, ev_str ⟨_, rfl, _, rfl, iff' rfl ?_⟩⟩⟩))))
        exact st_dput (i := 2) rfl (show 14 < 100000 by decide) (nd14 r) (ev_ixT (ev_v ⟨_, rfl, ev_int ⟨_, _, _, rfl, rfl, rfl, ev_ixT (ev_v ⟨_, rfl, ev_int ⟨_, _, _, rfl, rfl, rfl, _, rfl, _, _, _, rfl⟩⟩)⟩⟩))
    · rintro δ' ⟨s3, s4, s5, rfl⟩
      exact so_ret (i := 2) rfl (.inr ⟨_, rfl⟩) k
end
end WK
end
section
set_option Elab.async false
set_option linter.all false
set_option maxRecDepth 100000
set_option maxHeartbeats 400000
/-! What an action is told to end in. -/
local macro_rules | `(tactic| walk_at "ev") => `(tactic| first
  | (with_reducible refine WL.st_seq ?_) | (with_reducible refine WL.st_ret ?_) | (with_reducible refine WL.st_retN ?_) | (with_reducible refine WL.st_next ?_) | (with_reducible refine WL.st_if ?_)
  | (with_reducible refine WL.et_and ?_) | (with_reducible refine WL.et_or ?_) | (with_reducible refine WL.et_not ?_) | (with_reducible refine WL.et_test ?_) | (with_reducible refine WL.et_B ?_)
  | (with_reducible refine WL.ev_andV ?_) | (with_reducible refine WL.ev_orV ?_) | (with_reducible refine WL.ev_notV ?_) | (with_reducible refine WL.ev_if ?_)
  | (with_reducible refine WL.ev_v ?_) | (with_reducible refine WL.ev_int ?_) | (with_reducible refine WL.ev_str ?_) | (with_reducible refine WL.ev_non ?_) | (with_reducible refine WL.ev_bl ?_)
  | (with_reducible refine WL.ea_nil ?_) | (with_reducible refine WL.ea_cons ?_) | (with_reducible refine WL.ev_tup ?_)
  | (with_reducible refine WL.ev_make ?_) | (with_reducible refine WL.ev_makeN ?_) | (with_reducible refine WL.ev_call ?_) | (with_reducible refine WL.ev_callN ?_) | (with_reducible refine WL.ev_meth ?_) | (with_reducible refine WL.ev_methN ?_)
  | (with_reducible refine WL.ev_isi (.ty _) ?_) | (with_reducible refine WL.ev_isi (.own _) ?_) | (with_reducible refine WL.ev_isiT (.ty _) (.ty _) ?_)
  | (with_reducible refine WL.ev_len ?_) | (with_reducible refine WL.ev_all ?_) | (with_reducible refine WL.ev_any ?_) | (with_reducible refine WL.ev_tuple ?_) | (with_reducible refine WL.ev_listD ?_) | (with_reducible refine WL.ev_map ?_) | (with_reducible refine WL.ei_tup ?_) | (with_reducible refine WL.ei_list ?_) | (with_reducible refine WL.ei_str ?_) | (with_reducible refine WL.ei_zip ?_) | (with_reducible refine WL.ei_seqV ?_) | (with_reducible refine WL.ei_enumA ?_) | (with_reducible refine WL.ev_eqS ?_) | (with_reducible refine WL.ev_inS ?_)
  | (with_reducible refine WL.ev_chain ?_) | (with_reducible refine WL.ev_chain3 ?_) | (with_reducible refine WL.ev_opB ?_) | (with_reducible refine WL.ev_opI ?_) | (with_reducible refine WL.ev_eq ?_) | (with_reducible refine WL.ev_ne ?_) | (with_reducible refine WL.ev_isN ?_) | (with_reducible refine WL.ev_notN ?_)
  | (with_reducible refine WL.ev_ixL ?_) | (with_reducible refine WL.ev_ixT ?_) | (with_reducible refine WL.ev_ixD ?_) | (with_reducible refine WL.ev_kstr (by assumption) ?_) | (with_reducible refine WL.ev_eqG ?_) | (with_reducible refine WL.ev_in ?_) | (with_reducible refine WL.st_raise ?_) | (with_reducible refine WL.st_fl ?_) | (with_reducible refine WL.ev_fld ?_)
  | (with_reducible refine WK.ty_int (by assumption) ?_ ?_) | (with_reducible refine WK.ty_bool (by assumption) ?_ ?_) | (with_reducible refine WK.ty_str (by assumption) ?_ ?_) | (with_reducible refine WK.ty_tup (by assumption) ?_ ?_) | (with_reducible refine WK.ty_seq (by assumption) ?_ ?_) | (with_reducible refine WK.ty_own (by assumption) ?_ ?_ ?_ ?_; focus (simp [WK.CLS]; done))
  | (show WK.Kn _; first | assumption | trivial | (simp [WK.Kn, WK.CLS]; done)) | (show ∀ l, _ ≠ WL.D.dic l; intro _ h; cases h)
  | (with_reducible refine WL.st_asg ?_) | (with_reducible refine WL.st_asgT (js := List.range 64) ?_) | (with_reducible refine WL.tg_tu ?_) | (with_reducible refine WL.tg_cons ?_) | (with_reducible refine WL.tg_nil ?_) | (with_reducible refine WL.tg_name (by first | decide | simp) ?_)
  | refine WL.ift rfl ?_ | refine WL.iff' rfl ?_
  | refine And.intro (by first | assumption | trivial : WK.Kn _) ?_
  | refine ⟨_, _, _, rfl, (by assumption : L2.Cls _ _), (by assumption : L2.NoAttr _ _ _), (by first | rfl | exact Nat.le_of_ble_eq_true rfl), ?_⟩
  | refine ⟨_, rfl, ?_⟩ | refine ⟨_, _, rfl, rfl, ?_⟩ | refine ⟨_, _, rfl, (by assumption : _ ∨ _), ?_⟩ | refine ⟨_, _, rfl, ?_⟩ | refine ⟨_, _, _, rfl, ?_⟩ | refine ⟨_, _, _, _, rfl, ?_⟩ | refine ⟨_, _, _, rfl, rfl, (by first | assumption | rfl : WL.atD _ _ = some _), ?_⟩ | refine ⟨_, _, _, rfl, rfl, rfl, ?_⟩ | refine And.intro rfl ?_ | refine And.intro (by assumption) ?_ | refine And.intro (Nat.le_of_ble_eq_true rfl) ?_ | exact rfl)
local macro_rules | `(tactic| walk_at "evs") => `(tactic| first | walk_at "ev" | (with_reducible refine WL.ift ?_ ?_; focus (first | assumption | (simp [*]; done) | (simp; omega))) | (with_reducible refine WL.iff' ?_ ?_; focus (first | assumption | (simp [*]; done) | (simp; omega))))
local macro_rules | `(tactic| walk_at "evb") => `(tactic| first | walk_at "ev" | (with_reducible refine WL.ifb (fun _ => ?_) (fun _ => ?_)))
local macro_rules | `(tactic| walk_at "evt") => `(tactic| first | walk_at "evs" | refine ⟨_, Or.inl rfl, ?_⟩ | refine ⟨_, Or.inr rfl, ?_⟩ | fail)
local macro_rules | `(tactic| walk_at "evu") => `(tactic| first | (with_reducible refine WL.ev_ofl ?_; refine ⟨_, _, _, _, rfl, (by assumption : L2.Cls _ _), (by assumption : L2.NoAttr _ _ _), rfl, ?_⟩) | walk_at "evt" | (with_reducible refine WL.ev_opC ?_) | (with_reducible refine WL.ev_dget ?_) | (with_reducible refine WL.ev_ofl ?_) | (with_reducible refine WL.ev_makeK ?_) | fail)
local macro_rules | `(tactic| walk_at "evc") => `(tactic| first | assumption | omega | fail)
local macro_rules | `(tactic| walk_at "evd") => `(tactic| first
  | (with_reducible refine WL.ev_drixV ?_; refine ⟨_, _, rfl, (by assumption), ?_⟩) | (with_reducible refine WL.ev_scixV ?_; refine ⟨_, _, rfl, (by assumption), ?_⟩) | (with_reducible refine WL.st_drsetV ?_; refine ⟨_, _, rfl, (by assumption), by omega, by omega, ?_⟩) | (with_reducible refine WL.ev_sclenV ?_; refine ⟨_, _, rfl, (by assumption), ?_⟩)
  | refine ⟨_, rfl, Int.emod_nonneg _ (by omega), Int.emod_lt_of_pos _ (by omega), fun _ => ?_⟩ | refine ⟨_, rfl, (by omega : (0 : Int) ≤ _), (by omega), fun _ => ?_⟩
  | refine ⟨_, _, _, rfl, (by assumption), (by walk_at "evc"; done), (by walk_at "evc"; done), fun _ _ _ => ?_⟩ | refine ⟨_, rfl, (by walk_at "evc"; done : -(2 ^ 62) ≤ _), (by walk_at "evc"; done), ?_⟩
  | walk_at "ev" | (with_reducible refine WL.ev_opC ?_) | (with_reducible refine WL.ev_intI ?_) | (with_reducible refine WL.ev_max2 ?_) | (with_reducible refine WL.ei_range1 ?_) | (with_reducible refine WL.ev_catT ?_) | (with_reducible refine WL.ev_lst ?_)
  | refine And.intro (WL.pos_of (by walk_at "evc"; done)) ?_ | refine And.intro (WL.cdiv_of (by walk_at "evc"; done) (by walk_at "evc"; done)) ?_ | refine And.intro (WL.cmul_l (by walk_at "evc"; done) (by walk_at "evc"; done)) ?_ | refine And.intro (WL.cmul_r (by walk_at "evc"; done) (by walk_at "evc"; done)) ?_
  | (with_reducible refine WL.ifd (fun _ => ?_) (fun _ => ?_)) | (with_reducible refine WL.ifb (fun _ => ?_) (fun _ => ?_)) | fail)
namespace WL
open PySem PySem.Spec PyProof.Rows L2
section
variable {P : Program} {w : World} {K : PySem.W.Frag} {mg : Str → Option Value} {base : Heap} {x qual : Str} {params : Arguments} {body : List Stmt} {scope : Scope} {dvs : List V} {kws : List (Str × V)} {f : Addr} {fd : FuncData} {CX : CXT} {N ps : List Str} {k : Nat}
/-- a def's promise, its code told -/
theorem fnC {sp : Sp} (F : FunD K x qual params body scope dvs kws f fd) (S : FnScope N ps scope) (len : ∀ vs H Q E, sp vs H Q E → vs.length = ps.length)
    (hb : ∀ (A : Around) (outer : List Env) (s : Shared) (H : Hp) (vs : List V) (Q : VK) (E : XK), Room k (A.deeper (envOfC qual scope s.heap.objs.size f fd.code)) → sp vs H Q E →
      ∃ t, PSs (cxOf CX P w K mg base N qual scope f fd.code A outer s H E) body t ∧ t { nx := fun _ H' => Q .non H', rt := Q } (L2.start N vs) H) : FnOk P w K mg base CX (k + 1) f fd ps sp := by
  obtain ⟨oc, od, dV, kV, doc, pm, an, cdv, ct, osl, rfl, lk, hcd, _, _⟩ := F.ex
  exact fn_of lk hcd S len fun A outer s H vs Q E hr hsp => hb A outer s H vs Q E hr hsp
theorem fnDC {Fm : Fn1} (F : FunD K x qual params body scope dvs kws f fd) (S : FnScope N ps scope) (hl : ∀ G ds R ex, Fm G ds R ex → ds.length = ps.length)
    (hb : ∀ (A : Around) (outer : List Env) (s : Shared) (H : Hp) (E : XK) (G : Env1) (ds : List D) (R : D → Prop) (ex : Ex1), Room k (A.deeper (envOfC qual scope s.heap.objs.size f fd.code)) → Fm G ds R ex →
      ∃ t, PSs (cxOf CX P w K mg base N qual scope f fd.code A outer s H E) body t ∧ StP ⟨K, G, E, ex⟩ t (startD N ds) { nx := fun _ => R .non, rt := R }) : FnOk P w K mg base CX (k + 1) f fd ps (spD K Fm) := by
  refine fnC F S (fun vs H Q E h => ?_) (fun A outer s H vs Q E hr h => ?_)
  · obtain ⟨G, Z, ds, R, ex, env, r, hf, _⟩ := h
    exact r.length.trans (hl _ _ _ _ hf)
  · obtain ⟨G, Z, ds, R, ex, env, r, hf, q, e⟩ := h
    obtain ⟨t, ht, hs⟩ := hb A outer s H E G ds R ex hr hf
    exact ⟨t, ht, hs Z H Z (L2.start N vs) H _ (start_ok env r) e (fun Z' σ' δ' H' g s' kn => q .non .non H' s'.le0 .non kn) (fun v d H' l rr kk => q v d H' l rr kk) (fun _ _ _ _ _ _ z => z.elim) fun _ _ _ _ _ _ z => z.elim⟩
end
end WL
namespace WK
open PySem PySem.Spec PyProof.Rows L2 WL WX LamX
theorem takes_len {X : Cx} {W : WX} (t : Takes X W) : Takes X (fun c d σ H => σ.length = X.N.length → W c d σ H) := fun u s' ⟨a, B, sI, pins, σ, H, cls, d, e, I, nb, up, sky, na, os, ag, w⟩ =>
  t u s' ⟨a, B, sI, pins, σ, H, cls, d, e, I, nb, up, sky, na, os, ag, w I.len⟩
/-- what the top has left of the classes caught -/
structure TxtX (K : PySem.W.Frag) : Prop where
  kx : ∀ c ∈ XSL, ∀ c' ∈ XSL, PySem.W.exmOne K (.ref (He.ga K c)) (.ref (He.ga K c')) = some (decide (c = c'))
/-- the outcomes told -/
def TTold (K : PySem.W.Frag) : (XK → Hp → VK → Prop) → Hp → VK → Prop := fun tl H Q => ∀ a0, H a0 = none → ∃ E : XK, tl E (upd H a0 (.lst [.str "none"])) (fun _ H' => ∃ v, (some (some (V.ref a0)) : Option (Option V)) = some (some v) ∧ Q v H') ∧
  ∀ cls d H', E cls d H' → ∃ c f dd v, cls = .ref (He.ga K c) ∧ d = some dd ∧ H' dd = some (.xd [(f, v)]) ∧
    ((c = "BadChange" ∧ f = "change" ∧ ∀ a1, H' a1 = none → Q (.ref a1) (upd H' a1 (.lst [.str "change", v]))) ∨ (c = "BadPart" ∧ f = "part" ∧ ∀ a1, H' a1 = none → Q (.ref a1) (upd H' a1 (.lst [.str "part", v]))) ∨ (c = "BadSteps" ∧ ∀ a1, H' a1 = none → Q (.ref a1) (upd H' a1 (.lst [.str "steps"]))))
theorem told_gives {X : Cx} (T : Txt X.K X.mg X.w) (TX : TxtX X.K) {g : Addr} {cdg : Value} {q : Str} : GivesTo X ["_law_action", "_law_told_here", "e"] "_law_told" (defScope s__law_told) g cdg (defBody s__law_told) "_law_action" q (TTold X.K) := by
  intro f c' s H Q tl act hc h
  refine ⟨_, pss_cons (ps_set (i := 1) sc__law_told.nd rfl (Or.inl rfl) (pe_lst (pa_cons pe_str pa_nil)))
    (pss_cons (WX.ps_try_cls (X := (cxOf C8.CX0 X.prog X.w X.K X.mg X.base ["_law_action", "_law_told_here", "e"] "_law_told" (defScope s__law_told) g cdg X.A X.stack s H C8.E0).nox) (tb := fun W D σ H => ∃ Ech : XK, (∀ cls d σ' H', Ech cls d H' → σ'.length = 3 → W cls d σ' H') ∧ σ[0]? = some (some (.ref f)) ∧ H c' = some (CodeO c' q) ∧ tl Ech H fun _ H' => D.nx σ H')
      rfl rfl sc__law_told.nd LamX.takes0 (fun W pn xe tk _ => ?_)
      (.as (i := 2) (c := .ref (He.ga X.K "BadChange")) rfl rfl ⟨rfl, rfl, .inl T.x_BadChange.gC⟩ (fun a oe cls d pn hz hf => pss_one (ps_set (i := 1) sc__law_told.nd rfl (Or.inl rfl) (pe_lst (pa_cons pe_str (pa_cons (pe_xf T.x_BadChange.xf T.x_BadChange.noN hz hf (pv 2)) pa_nil)))))
      (.as (i := 2) (c := .ref (He.ga X.K "BadPart")) rfl rfl ⟨rfl, rfl, .inl T.x_BadPart.gC⟩ (fun a oe cls d pn hz hf => pss_one (ps_set (i := 1) sc__law_told.nd rfl (Or.inl rfl) (pe_lst (pa_cons pe_str (pa_cons (pe_xf T.x_BadPart.xf T.x_BadPart.noN hz hf (pv 2)) pa_nil)))))
      (.as (i := 2) (c := .ref (He.ga X.K "BadSteps")) rfl rfl ⟨rfl, rfl, .inl T.x_BadSteps.gC⟩ (fun a oe cls d pn hz hf => pss_one (ps_set (i := 1) sc__law_told.nd rfl (Or.inl rfl) (pe_lst (pa_cons pe_str pa_nil)))) .nil))))
    (pss_one (ps_ret (pv 1)))), ?_⟩
  · refine ⟨fun pins s' σ H' D I h' => ?_⟩
    obtain ⟨Ech, hW, h1, h2, h3⟩ := h'
    exact (pss_one (ps_expr (act _ pn xe Ech _ _ (takes_len tk) hW))).run pins s' σ H' D I ⟨h1, h2, h3⟩
  · have e0 : L2.start ["_law_action", "_law_told_here", "e"] [V.ref f] = [some (.ref f), none, none] := rfl
    rw [e0]
    refine ⟨show 1 ≤ sizeLine by decide, fun a0 ha0 => ?_⟩
    obtain ⟨E, hE, hX⟩ := h a0 ha0
    have nc : c' ≠ a0 := fun z => by rw [z, ha0] at hc; cases hc
    refine ⟨E, fun cls d σ' H' he hl => ?_, rfl, by rw [upd_ne nc]; exact hc, ?_⟩
    · obtain ⟨c, fl, dd, v, rfl, rfl, hd, hcase⟩ := hX cls d H' he
      obtain ⟨u0, t0, rfl, l0⟩ := len_succ hl
      obtain ⟨u1, t1, rfl, l1⟩ := len_succ l0
      obtain ⟨u2, t2, rfl, l2⟩ := len_succ l1
      obtain rfl := List.eq_nil_of_length_eq_zero l2
      have kx : ∀ c' ∈ XSL, c ∈ XSL → PySem.W.exmOne X.K (.ref (He.ga X.K c)) (.ref (He.ga X.K c')) = some (decide (c = c')) := fun c' h1 h2 => TX.kx c h2 c' h1
      rcases hcase with ⟨rfl, rfl, k⟩ | ⟨rfl, rfl, k⟩ | ⟨rfl, k⟩
      · refine ⟨_, kx _ (by decide) (by decide), fun _ a ha => ?_, (fun z => by cases z)⟩
        exact ⟨_, rfl, rfl, rfl, dd, _, v, rfl, hd, rfl, show 2 ≤ sizeLine by decide, fun a1 ha1 => ⟨_, rfl, k a1 ha1⟩⟩
      · refine ⟨_, kx _ (by decide) (by decide), (fun z => by cases z), fun _ => ?_⟩
        refine ⟨_, kx _ (by decide) (by decide), fun _ a ha => ?_, (fun z => by cases z)⟩
        exact ⟨_, rfl, rfl, rfl, dd, _, v, rfl, hd, rfl, show 2 ≤ sizeLine by decide, fun a1 ha1 => ⟨_, rfl, k a1 ha1⟩⟩
      · refine ⟨_, kx _ (by decide) (by decide), (fun z => by cases z), fun _ => ?_⟩
        refine ⟨_, kx _ (by decide) (by decide), (fun z => by cases z), fun _ => ?_⟩
        refine ⟨_, kx _ (by decide) (by decide), fun _ a ha => ?_, (fun z => by cases z)⟩
        exact ⟨show 1 ≤ sizeLine by decide, fun a1 ha1 => ⟨_, rfl, k a1 ha1⟩⟩
    · exact hE
end WK
namespace WL
open PySem PySem.Spec PyProof.Rows L2 WX LamX WK
section
variable {p : Pr} {δ : List Sl} {R : D → Prop}
/-- told(lambda: e): e read over this very frame, which owns nothing -/
theorem ev_told {P : Addr} {q : Str} {t : XK → TE} {R1 : D → Prop} {ex1 : Ex1} (hm : (P, q) ∈ p.G.T) (hu : ∀ r ∈ p.G.T, r.1 = P → r.2 = q) (no : ∀ (i : Nat) (t : Sl), δ[i]? = some t → t.owns = false)
    (h : ∀ E, EvP ⟨p.K, p.G, E, ex1⟩ (t E) δ R1) (h1 : ∀ d, R1 d → R (.lst [.str "none"]))
    (h2 : ∀ c f d, ex1 c f d → (c = "BadChange" ∧ f = "change" ∧ R (.lst [.str "change", d])) ∨ (c = "BadPart" ∧ f = "part" ∧ R (.lst [.str "part", d])) ∨ (c = "BadSteps" ∧ R (.lst [.str "steps"]))) :
    EvP p (tLam1 P q (TTold p.K) t) δ R := fun Z0 H0 Z σ H Q s e qk => ⟨s.env.tb _ hm, fun H1 kb tb1 a0 ha0 => by
  have le01 : Le p.G H H1 := Le.but s.env hm hu kb tb1
  have le02 : Le p.G H (upd H1 a0 (.lst [.str "none"])) := le01.trans (Le.new ha0)
  have s1 := s.le le01
  have s2 : RepS p.K p.G Z (upd H1 a0 (.lst [.str "none"])) Z (upd H1 a0 (.lst [.str "none"])) σ δ := (s.le le02).rebase no
  have nZ : ¬ Z a0 := fun z => s1.env.live a0 z ha0
  have nS : ¬ p.G.sp a0 := s1.env.sp ha0
  refine ⟨fun cls dd H' => ∃ c f d dd' v, cls = .ref (He.ga p.K c) ∧ dd = some dd' ∧ Le p.G (upd H1 a0 (.lst [.str "none"])) H' ∧ H' dd' = some (.xd [(f, v)]) ∧ Rep p.K Z H' v d ∧ ex1 c f d, ?_, ?_⟩
  · refine h _ Z _ Z σ _ _ s2 (fun c f d dd v H' l hx r k => ⟨c, f, d, dd, v, rfl, rfl, l, hx, r, k⟩) fun v d H3 l3 r3 k => ?_
    exact ⟨_, rfl, qk (.ref a0) (.lst [.str "none"]) H3 (le02.trans l3) (.lst nZ (l3.keep _ _ nS upd_same) (.cons (.str _) .nil)) (h1 d k)⟩
  · rintro cls d H' ⟨c, f, dat, dd, v, rfl, rfl, l, hx, r, k⟩
    have e2 : EnvOk p.K p.G Z H' := s2.env.le l
    refine ⟨c, f, dd, v, rfl, rfl, hx, ?_⟩
    rcases h2 c f dat k with ⟨rfl, rfl, kk⟩ | ⟨rfl, rfl, kk⟩ | ⟨rfl, kk⟩
    · exact .inl ⟨rfl, rfl, fun a1 ha1 => qk _ _ _ ((le02.trans l).trans (Le.new ha1)) (.lst (fun z => e2.live a1 z ha1) upd_same (.cons (.str _) (.cons (r.new ha1) .nil))) kk⟩
    · exact .inr (.inl ⟨rfl, rfl, fun a1 ha1 => qk _ _ _ ((le02.trans l).trans (Le.new ha1)) (.lst (fun z => e2.live a1 z ha1) upd_same (.cons (.str _) (.cons (r.new ha1) .nil))) kk⟩)
    · exact .inr (.inr ⟨rfl, fun a1 ha1 => qk _ _ _ ((le02.trans l).trans (Le.new ha1)) (.lst (fun z => e2.live a1 z ha1) upd_same (.cons (.str _) .nil)) kk⟩)⟩
end
end WL
end
section
set_option Elab.async false
set_option linter.all false
set_option maxRecDepth 100000
set_option maxHeartbeats 400000
/-! The law's defs over data: changes refused. -/
local macro_rules | `(tactic| walk_at "ev") => `(tactic| first
  | (with_reducible refine WL.st_seq ?_) | (with_reducible refine WL.st_ret ?_) | (with_reducible refine WL.st_retN ?_) | (with_reducible refine WL.st_next ?_) | (with_reducible refine WL.st_if ?_)
  | (with_reducible refine WL.et_and ?_) | (with_reducible refine WL.et_or ?_) | (with_reducible refine WL.et_not ?_) | (with_reducible refine WL.et_test ?_) | (with_reducible refine WL.et_B ?_)
  | (with_reducible refine WL.ev_andV ?_) | (with_reducible refine WL.ev_orV ?_) | (with_reducible refine WL.ev_notV ?_) | (with_reducible refine WL.ev_if ?_)
  | (with_reducible refine WL.ev_v ?_) | (with_reducible refine WL.ev_int ?_) | (with_reducible refine WL.ev_str ?_) | (with_reducible refine WL.ev_non ?_) | (with_reducible refine WL.ev_bl ?_)
  | (with_reducible refine WL.ea_nil ?_) | (with_reducible refine WL.ea_cons ?_) | (with_reducible refine WL.ev_tup ?_)
  | (with_reducible refine WL.ev_make ?_) | (with_reducible refine WL.ev_makeN ?_) | (with_reducible refine WL.ev_call ?_) | (with_reducible refine WL.ev_callN ?_) | (with_reducible refine WL.ev_meth ?_) | (with_reducible refine WL.ev_methN ?_)
  | (with_reducible refine WL.ev_isi (.ty _) ?_) | (with_reducible refine WL.ev_isi (.own _) ?_) | (with_reducible refine WL.ev_isiT (.ty _) (.ty _) ?_)
  | (with_reducible refine WL.ev_len ?_) | (with_reducible refine WL.ev_all ?_) | (with_reducible refine WL.ev_any ?_) | (with_reducible refine WL.ev_tuple ?_) | (with_reducible refine WL.ev_listD ?_) | (with_reducible refine WL.ev_map ?_) | (with_reducible refine WL.ei_tup ?_) | (with_reducible refine WL.ei_list ?_) | (with_reducible refine WL.ei_str ?_) | (with_reducible refine WL.ei_zip ?_) | (with_reducible refine WL.ei_seqV ?_) | (with_reducible refine WL.ei_enumA ?_) | (with_reducible refine WL.ev_eqS ?_) | (with_reducible refine WL.ev_inS ?_)
  | (with_reducible refine WL.ev_chain ?_) | (with_reducible refine WL.ev_chain3 ?_) | (with_reducible refine WL.ev_opB ?_) | (with_reducible refine WL.ev_opI ?_) | (with_reducible refine WL.ev_eq ?_) | (with_reducible refine WL.ev_ne ?_) | (with_reducible refine WL.ev_isN ?_) | (with_reducible refine WL.ev_notN ?_)
  | (with_reducible refine WL.ev_ixL ?_) | (with_reducible refine WL.ev_ixT ?_) | (with_reducible refine WL.ev_ixD ?_) | (with_reducible refine WL.ev_kstr (by assumption) ?_) | (with_reducible refine WL.ev_eqG ?_) | (with_reducible refine WL.ev_in ?_) | (with_reducible refine WL.st_raise ?_) | (with_reducible refine WL.st_fl ?_) | (with_reducible refine WL.ev_fld ?_)
  | (with_reducible refine WK.ty_int (by assumption) ?_ ?_) | (with_reducible refine WK.ty_bool (by assumption) ?_ ?_) | (with_reducible refine WK.ty_str (by assumption) ?_ ?_) | (with_reducible refine WK.ty_tup (by assumption) ?_ ?_) | (with_reducible refine WK.ty_seq (by assumption) ?_ ?_) | (with_reducible refine WK.ty_own (by assumption) ?_ ?_ ?_ ?_; focus (simp [WK.CLS]; done))
  | (show WK.Kn _; first | assumption | trivial | (simp [WK.Kn, WK.CLS]; done)) | (show ∀ l, _ ≠ WL.D.dic l; intro _ h; cases h)
  | (with_reducible refine WL.st_asg ?_) | (with_reducible refine WL.st_asgT (js := List.range 64) ?_) | (with_reducible refine WL.tg_tu ?_) | (with_reducible refine WL.tg_cons ?_) | (with_reducible refine WL.tg_nil ?_) | (with_reducible refine WL.tg_name (by first | decide | simp) ?_)
  | refine WL.ift rfl ?_ | refine WL.iff' rfl ?_
  | refine And.intro (by first | assumption | trivial : WK.Kn _) ?_
  | refine ⟨_, _, _, rfl, (by assumption : L2.Cls _ _), (by assumption : L2.NoAttr _ _ _), (by first | rfl | exact Nat.le_of_ble_eq_true rfl), ?_⟩
  | refine ⟨_, rfl, ?_⟩ | refine ⟨_, _, rfl, rfl, ?_⟩ | refine ⟨_, _, rfl, (by assumption : _ ∨ _), ?_⟩ | refine ⟨_, _, rfl, ?_⟩ | refine ⟨_, _, _, rfl, ?_⟩ | refine ⟨_, _, _, _, rfl, ?_⟩ | refine ⟨_, _, _, rfl, rfl, (by first | assumption | rfl : WL.atD _ _ = some _), ?_⟩ | refine ⟨_, _, _, rfl, rfl, rfl, ?_⟩ | refine And.intro rfl ?_ | refine And.intro (by assumption) ?_ | refine And.intro (Nat.le_of_ble_eq_true rfl) ?_ | exact rfl)
local macro_rules | `(tactic| walk_at "evs") => `(tactic| first | walk_at "ev" | (with_reducible refine WL.ift ?_ ?_; focus (first | assumption | (simp [*]; done) | (simp; omega))) | (with_reducible refine WL.iff' ?_ ?_; focus (first | assumption | (simp [*]; done) | (simp; omega))))
local macro_rules | `(tactic| walk_at "evb") => `(tactic| first | walk_at "ev" | (with_reducible refine WL.ifb (fun _ => ?_) (fun _ => ?_)))
local macro_rules | `(tactic| walk_at "evt") => `(tactic| first | walk_at "evs" | refine ⟨_, Or.inl rfl, ?_⟩ | refine ⟨_, Or.inr rfl, ?_⟩ | fail)
local macro_rules | `(tactic| walk_at "evu") => `(tactic| first | (with_reducible refine WL.ev_ofl ?_; refine ⟨_, _, _, _, rfl, (by assumption : L2.Cls _ _), (by assumption : L2.NoAttr _ _ _), rfl, ?_⟩) | walk_at "evt" | (with_reducible refine WL.ev_opC ?_) | (with_reducible refine WL.ev_dget ?_) | (with_reducible refine WL.ev_ofl ?_) | (with_reducible refine WL.ev_makeK ?_) | fail)
local macro_rules | `(tactic| walk_at "evc") => `(tactic| first | assumption | omega | fail)
local macro_rules | `(tactic| walk_at "evd") => `(tactic| first
  | (with_reducible refine WL.ev_drixV ?_; refine ⟨_, _, rfl, (by assumption), ?_⟩) | (with_reducible refine WL.ev_scixV ?_; refine ⟨_, _, rfl, (by assumption), ?_⟩) | (with_reducible refine WL.st_drsetV ?_; refine ⟨_, _, rfl, (by assumption), by omega, by omega, ?_⟩) | (with_reducible refine WL.ev_sclenV ?_; refine ⟨_, _, rfl, (by assumption), ?_⟩)
  | refine ⟨_, rfl, Int.emod_nonneg _ (by omega), Int.emod_lt_of_pos _ (by omega), fun _ => ?_⟩ | refine ⟨_, rfl, (by omega : (0 : Int) ≤ _), (by omega), fun _ => ?_⟩
  | refine ⟨_, _, _, rfl, (by assumption), (by walk_at "evc"; done), (by walk_at "evc"; done), fun _ _ _ => ?_⟩ | refine ⟨_, rfl, (by walk_at "evc"; done : -(2 ^ 62) ≤ _), (by walk_at "evc"; done), ?_⟩
  | walk_at "ev" | (with_reducible refine WL.ev_opC ?_) | (with_reducible refine WL.ev_intI ?_) | (with_reducible refine WL.ev_max2 ?_) | (with_reducible refine WL.ei_range1 ?_) | (with_reducible refine WL.ev_catT ?_) | (with_reducible refine WL.ev_lst ?_)
  | refine And.intro (WL.pos_of (by walk_at "evc"; done)) ?_ | refine And.intro (WL.cdiv_of (by walk_at "evc"; done) (by walk_at "evc"; done)) ?_ | refine And.intro (WL.cmul_l (by walk_at "evc"; done) (by walk_at "evc"; done)) ?_ | refine And.intro (WL.cmul_r (by walk_at "evc"; done) (by walk_at "evc"; done)) ?_
  | (with_reducible refine WL.ifd (fun _ => ?_) (fun _ => ?_)) | (with_reducible refine WL.ifb (fun _ => ?_) (fun _ => ?_)) | fail)
namespace WK
open PySem PySem.Spec PyProof.Rows L2 WL WX LamX
theorem okS_le {bs : List Int} (h : okS bs) : ∀ b ∈ bs, 1 ≤ b ∧ b ≤ 60 := fun b hb => by
  obtain ⟨i, hi, e⟩ := List.getElem_of_mem hb
  have e2 := List.getElem?_eq_getElem hi
  rw [e] at e2
  have h2 := h i
  rw [bndAt_some e2, Bool.and_eq_true_iff] at h2
  have h3 := h2.1
  simp only [btw, Bool.and_eq_true_iff, decide_eq_true_eq] at h3
  exact h3
theorem insB_mem {l : List Int} {b : Int} : b ∈ insB l b := by
  unfold insB
  split
  · assumption
  · simp
theorem base_turn {r : Rw} (h : BaseOk r) (v : Int) : BaseOk { r with turn := v } := ⟨h.mail, h.ways, h.wys, h.widths, h.wds, h.asc⟩
theorem base_numbers {r : Rw} (h : BaseOk r) (v : Int) : BaseOk { r with numbers := v } := ⟨h.mail, h.ways, h.wys, h.widths, h.wds, h.asc⟩
theorem base_head {r : Rw} (h : BaseOk r) (v : Int) : BaseOk { r with head := v } := ⟨h.mail, h.ways, h.wys, h.widths, h.wds, h.asc⟩
theorem base_period {r : Rw} (h : BaseOk r) (v : Int) : BaseOk { r with period := v } := ⟨h.mail, h.ways, h.wys, h.widths, h.wds, h.asc⟩
theorem base_quiet {r : Rw} (h : BaseOk r) (v : Int) : BaseOk { r with quiet := v } := ⟨h.mail, h.ways, h.wys, h.widths, h.wds, h.asc⟩
theorem base_losses {r : Rw} (h : BaseOk r) (v : Int) : BaseOk { r with losses := v } := ⟨h.mail, h.ways, h.wys, h.widths, h.wds, h.asc⟩
theorem base_size {r : Rw} (h : BaseOk r) (v : Int) : BaseOk { r with size := v } := ⟨h.mail, h.ways, h.wys, h.widths, h.wds, h.asc⟩
theorem base_bnds {r : Rw} (h : BaseOk r) (v : List Int) : BaseOk { r with bnds := v } := ⟨h.mail, h.ways, h.wys, h.widths, h.wds, h.asc⟩
/-- the one way to raise -/
def exOne (c f : Str) (d : D) : Ex1 := fun c' f' d' => c' = c ∧ f' = f ∧ d' = d
/-- a change that the line refuses, and what is told of it -/
def Refd (r : Rw) (c due : D) : Prop := ∃ ex1 : Ex1, CSpec r (fun _ => False) ex1 c ∧ Pl 64 due ∧ ∀ c' f d, ex1 c' f d → (c' = "BadChange" ∧ f = "change" ∧ due = .lst [.str "change", d]) ∨ (c' = "BadPart" ∧ f = "part" ∧ due = .lst [.str "part", d]) ∨ (c' = "BadSteps" ∧ due = .lst [.str "steps"])
theorem refd_part {r : Rw} {c : D} {z : Str} (hz : PySem.PyData.strOk z = true) (h : CSpec r (fun _ => False) (exOne "BadPart" "part" (.str z)) c) : Refd r c (.lst [.str "part", .str z]) :=
  ⟨_, h, .lst fun x hx => by
    simp only [List.mem_cons, List.not_mem_nil, or_false] at hx
    rcases hx with rfl | rfl
    · exact .str (by decide +kernel)
    · exact .str hz, fun c' f d ⟨e1, e2, e3⟩ => .inr (.inl ⟨e1, e2, by rw [e3]⟩)⟩
theorem refd_change {r : Rw} {c : D} (hp : Pl 63 c) (h : IsCh r.ways.length c false) : Refd r c (.lst [.str "change", c]) :=
  ⟨exOne "BadChange" "change" c, .bad h ⟨rfl, rfl, rfl⟩, .lst fun x hx => by
    simp only [List.mem_cons, List.not_mem_nil, or_false] at hx
    rcases hx with rfl | rfl
    · exact .str (by decide +kernel)
    · exact hp, fun c' f d ⟨e1, e2, e3⟩ => .inl ⟨e1, e2, by rw [e3]⟩⟩
/-- made anew, but for a wrong number -/
theorem made_bad {r' : Rw} {z : Str} (b : BaseOk r') (h : outW r' = some z) : Made r' (fun _ => False) (exOne "BadPart" "part" (.str z)) :=
  ⟨b, fun z' e => ⟨rfl, rfl, by rw [h] at e; cases e; rfl⟩, fun e => by rw [h] at e; cases e⟩
abbrev casesD : List D := [.tup [.tup [.str "turn", .bl true], .lst [.str "change", .tup [.str "turn", .bl true]]], .tup [.tup [.str "begin", .int 9, .int 0], .lst [.str "change", .tup [.str "begin", .int 9, .int 0]]],
  .tup [.non, .lst [.str "change", .non]], .tup [.tup [.str "turn", .int 201], .lst [.str "part", .str "turn"]], .tup [.tup [.str "numbers", .int 9], .lst [.str "part", .str "numbers"]],
  .tup [.tup [.str "bound", .int 61], .lst [.str "steps"]], .tup [.tup [.str "room", .int 0], .lst [.str "part", .str "size"]], .tup [.tup [.str "head", .int 9], .lst [.str "part", .str "head"]],
  .tup [.tup [.str "begin", .int 0, .int (-1)], .lst [.str "part", .str "begin"]]]
theorem cases_refd {r : Rw} (ok : LOk r) : ∀ y ∈ casesD, ∃ c due, y = .tup [c, due] ∧ Refd r c due := by
  obtain ⟨g1, g2, g3, g4, g5, g6, g7, g8, g9⟩ := ok.rg
  intro y hy
  simp only [casesD, List.mem_cons, List.not_mem_nil, or_false] at hy
  rcases hy with rfl | rfl | rfl | rfl | rfl | rfl | rfl | rfl | rfl
  · refine ⟨_, _, rfl, refd_change (.tup fun x hx => ?_) .tru⟩
    simp only [List.mem_cons, List.not_mem_nil, or_false] at hx
    rcases hx with rfl | rfl
    · exact .str (by decide +kernel)
    · exact .bl true
  · refine ⟨_, _, rfl, refd_change (.tup fun x hx => ?_) ?_⟩
    · simp only [List.mem_cons, List.not_mem_nil, or_false] at hx
      rcases hx with rfl | rfl | rfl
      · exact .str (by decide +kernel)
      · exact .int _
      · exact .int _
    · have h := IsCh.beg (n := r.ways.length) 9 (some 0)
      have e : btw (.int 9) 0 ((r.ways.length : Int) - 1) = false := by
        have := ok.base.ways.2
        simp [btw]
        omega
      rw [e] at h
      exact h
  · exact ⟨_, _, rfl, refd_change .non .non⟩
  · refine ⟨_, _, rfl, refd_part (by decide +kernel) (.plain 201 (by decide) (.turn 201) (made_bad (base_turn ok.base _) rfl))⟩
  · refine ⟨_, _, rfl, refd_part (by decide +kernel) (.plain 9 (by decide) (.numbers 9) (made_bad (base_numbers ok.base _) ?_))⟩
    unfold outW rsBs
    rw [btw_t g1]
    rfl
  · refine ⟨_, _, rfl, fun c _ _ => c = "BadSteps", .bound 61 ok.bl (btw_t ok.sz) (fun h => ?_) (fun _ _ => rfl), .lst fun x hx => ?_, fun c' f d e => .inr (.inr ⟨e, rfl⟩)⟩
    · have := okS_le h 61 insB_mem
      omega
    · rw [List.mem_singleton.mp hx]
      exact .str (by decide +kernel)
  · exact ⟨_, _, rfl, refd_part (by decide +kernel) (.room 0 (fun h => by cases h) fun _ => ⟨rfl, rfl, rfl⟩)⟩
  · refine ⟨_, _, rfl, refd_part (by decide +kernel) (.plain 9 (by decide) (.head 9) (made_bad (base_head ok.base _) ?_))⟩
    unfold outW rsBs
    rw [btw_t g1, btw_t g2]
    rfl
  · have hw := ok.base.ways.1
    cases hl : r.ways with
    | nil => rw [hl] at hw; cases hw
    | cons x xs =>
      refine ⟨_, _, rfl, refd_part (by decide +kernel) ?_⟩
      exact CSpec.beg 0 x (some (-1)) (by rw [hl] <;> rfl) (.inl ⟨rfl, rfl, rfl, rfl⟩)
section
variable {K : PySem.W.Frag} {mg : Str → Option Value} {w : World} {base : Heap}
abbrev qRH : Str := "_law_refused_hold.<locals>.<lambda>"
abbrev F__law_refused_hold (P : Addr) : Fn1 := fun G ds R _ => ∃ r, ds = [lineD r] ∧ LOk r ∧ ((P, qRH) ∈ G.T ∧ ∀ q ∈ G.T, q.1 = P → q.2 = qRH) ∧ R (.bl true)
theorem ok__law_refused_hold (T : Txt K mg w) (TX : TxtX K) {c P : Addr} (hc : (fdOf K ("_law_refused_hold", none)).code = .ref c) (TB : TabB base mg c P) :
    FnOk PG w K mg base (L2.CX PG w) 90 (He.ga K "_law_refused_hold") (fdOf K ("_law_refused_hold", none)) ["_law_line_here"] (spD K (F__law_refused_hold P)) :=
  WL.fnDC (k := 89) T.d__law_refused_hold sc__law_refused_hold (fun _ _ _ _ ⟨_, e, _⟩ => by rw [e] <;> rfl) fun A outer s H E G ds R ex hr ⟨r, e, ok, ⟨hm, hu⟩, k⟩ => by
    subst e
    refine ⟨_, (pss_cons (ps_set (i := 1) sc__law_refused_hold.nd rfl (Or.inl rfl) (pe_lst (pa_cons (pe_tup (pa_cons (pe_tup (pa_cons pe_str (pa_cons pe_bl pa_nil))) (pa_cons (pe_lst (pa_cons pe_str (pa_cons (pe_tup (pa_cons pe_str (pa_cons pe_bl pa_nil))) pa_nil))) pa_nil))) (pa_cons (pe_tup (pa_cons (pe_tup (pa_cons pe_str (pa_cons pe_int (pa_cons pe_int pa_nil)))) (pa_cons (pe_lst (pa_cons pe_str (pa_cons (pe_tup (pa_cons pe_str (pa_cons pe_int (pa_cons pe_int pa_nil)))) pa_nil))) pa_nil))) pa_nil))))
    (pss_cons (ps_set (i := 1) sc__law_refused_hold.nd rfl (Or.inl rfl) (pe_op op_cat (pv 1) (pe_lst (pa_cons (pe_tup (pa_cons pe_non (pa_cons (pe_lst (pa_cons pe_str (pa_cons pe_non pa_nil))) pa_nil))) (pa_cons (pe_tup (pa_cons (pe_tup (pa_cons pe_str (pa_cons pe_int pa_nil))) (pa_cons (pe_lst (pa_cons pe_str (pa_cons pe_str pa_nil))) pa_nil))) (pa_cons (pe_tup (pa_cons (pe_tup (pa_cons pe_str (pa_cons pe_int pa_nil))) (pa_cons (pe_lst (pa_cons pe_str (pa_cons pe_str pa_nil))) pa_nil))) pa_nil))))))
    (pss_cons (ps_set (i := 1) sc__law_refused_hold.nd rfl (Or.inl rfl) (pe_op op_cat (pv 1) (pe_lst (pa_cons (pe_tup (pa_cons (pe_tup (pa_cons pe_str (pa_cons pe_int pa_nil))) (pa_cons (pe_lst (pa_cons pe_str pa_nil)) pa_nil))) (pa_cons (pe_tup (pa_cons (pe_tup (pa_cons pe_str (pa_cons pe_int pa_nil))) (pa_cons (pe_lst (pa_cons pe_str (pa_cons pe_str pa_nil))) pa_nil))) (pa_cons (pe_tup (pa_cons (pe_tup (pa_cons pe_str (pa_cons pe_int pa_nil))) (pa_cons (pe_lst (pa_cons pe_str (pa_cons pe_str pa_nil))) pa_nil))) pa_nil))))))
    (pss_cons (ps_expr (pe_bm PySem.F.plainAttrs_list PySem.F.slot_list_append PySem.F.type_list_append mt_append (pv 1) (pa_cons (pe_tup (pa_cons (pe_tup (pa_cons pe_str (pa_cons pe_int (pa_cons (pe_un un_neg pe_int) pa_nil)))) (pa_cons (pe_lst (pa_cons pe_str (pa_cons pe_str pa_nil))) pa_nil))) pa_nil)))
    (pss_cons (ps_for (passes_of rfl) rfl (pi_list (pv 1)) (pg_tup (n := 2) rfl (pgs_cons (pg_name (i := 2) sc__law_refused_hold.nd rfl (Or.inr rfl)) (pgs_cons (pg_name (i := 3) sc__law_refused_hold.nd rfl (Or.inl rfl)) pgs_nil))) (pss_one (ps_if (pt_cmpR (op_neD hr.units) (WX.pe_lamcall1 (k := 60) (c := c) (P := P) rfl T.g__law_told T.d__law_told (bi__law_told T) sc__law_told rfl (Or.inl rfl) (fun cdv => told_gives T TX) TB hc (hr.mono (by decide)) (LamX.lamS_by (by show LamX.lamSB (defScope s__law_refused_hold) _ = true; decide +kernel)) rfl (fun _ _ _ _ _ => rfl) (fun A outer s H E f c2 hr2 => (pe_meth (pv 0) T.c_Line T.m_Line_changed (ok_Line_changed T) (hr2.mono (by decide)) (bi_Line_changed T) .nil (passR rfl rfl rfl rfl) (pa_cons (pv 2) pa_nil)))) (pv 3) (nomark _)) (pss_one (ps_ret pe_bl)) pss_nil)))
    (pss_one (ps_ret (pe_cmpR (op_eqD hr.units) (WX.pe_lamcall1 (k := 60) (c := c) (P := P) rfl T.g__law_told T.d__law_told (bi__law_told T) sc__law_told rfl (Or.inl rfl) (fun cdv => told_gives T TX) TB hc (hr.mono (by decide)) (LamX.lamS_by (by show LamX.lamSB (defScope s__law_refused_hold) _ = true; decide +kernel)) rfl (fun _ _ _ _ _ => rfl) (fun A outer s H E f c2 hr2 => (pe_meth (pv 0) T.c_Line T.m_Line_with_setting (ok_Line_with_setting T) (hr2.mono (by decide)) (bi_Line_with_setting T) .nil (passR rfl rfl rfl rfl) (pa_cons pe_str (pa_cons pe_int pa_nil))))) (pe_lst (pa_cons pe_str (pa_cons pe_str pa_nil))) (nomark _))))))))), ?_⟩
    dsimp only [cxOf]
    have e0 : (startD ["_law_line_here", "_law_cases", "_law_change_here", "_law_due"] [lineD r]) = [Sl.d (lineD r), .un, .un, .un] := rfl
    rw [e0]
    refine st_mid (fun δ' => δ' = [Sl.d (lineD r), .d (.lst (casesD.take 2)), .un, .un]) (by repeat' walk_at "evd") ?_
    rintro δ' rfl
    refine st_mid (fun δ' => δ' = [Sl.d (lineD r), .d (.lst (casesD.take 5)), .un, .un]) (st_asg (ev_new (eo_cat ?_))) ?_
    · repeat' walk_at "evd"
    rintro δ' rfl
    refine st_mid (fun δ' => δ' = [Sl.d (lineD r), .own (casesD.take 8), .un, .un]) (st_asgO (eo_cat ?_)) ?_
    · repeat' walk_at "evd"
    rintro δ' rfl
    refine st_mid (fun δ' => δ' = [Sl.d (lineD r), .own casesD, .un, .un]) (st_app (i := 1) rfl (show 8 < 100000 by decide) ?_) ?_
    · refine ev_tup (ea_cons (ev_tup (ea_cons (ev_str (ea_cons (ev_int (ea_cons (ev_neg (ev_int ⟨_, rfl, ea_nil ⟨(by show 3 ≤ 100000; omega), ?_⟩⟩)))))))))
      repeat' walk_at "evd"
    rintro δ' rfl
    refine st_freeze 1 rfl ?_
    refine st_mid (fun δ' => ∃ s2 s3, s2.owns = false ∧ s3.owns = false ∧ δ' = [Sl.d (lineD r), .d (.lst casesD), s2, s3]) ?_ ?_
    · refine st_for (js := List.range 64) (ei_list (ev_v ⟨_, rfl, _, rfl, ?_⟩))
      refine ⟨fun _ δ' => ∃ s2 s3, s2.owns = false ∧ s3.owns = false ∧ δ' = [Sl.d (lineD r), .d (.lst casesD), s2, s3], ⟨_, _, rfl, rfl, rfl⟩, ?_, fun δ' h => h⟩
      rintro n y δ' hy ⟨s2, s3, o2, o3, rfl⟩
      obtain ⟨c0, due, rfl, ex1, cs, pl, out⟩ := cases_refd ok y (List.mem_of_getElem? hy)
      refine tg_tu ⟨_, rfl, rfl, tg_cons (tg_name (by decide) (tg_cons (tg_name (by decide) (tg_nil ?_))))⟩
      refine st_if (et_test (ev_neS ?_))
      refine ev_told (R1 := fun _ => False) (ex1 := ex1) hm hu (fun i t h => ?_) (fun E => ?_) (fun _ h => h.elim) (fun c' f d hx => ?_)
      · match i, h with
        | 0, h => cases h; rfl
        | 1, h => cases h; rfl
        | 2, h => cases h; rfl
        | 3, h => cases h; rfl
      · exact ev_meth (ev_v ⟨_, rfl, _, rfl, rfl, ea_cons (ev_v ⟨_, rfl, ea_nil ⟨r, c0, rfl, cs⟩⟩)⟩)
      · rcases out c' f d hx with ⟨e1, e2, rfl⟩ | ⟨e1, e2, rfl⟩ | ⟨e1, rfl⟩
        · exact .inl ⟨e1, e2, ev_v ⟨_, rfl, rfl, pl, _, rfl, iff' rfl (st_next ⟨_, _, rfl, rfl, rfl⟩)⟩⟩
        · exact .inr (.inl ⟨e1, e2, ev_v ⟨_, rfl, rfl, pl, _, rfl, iff' rfl (st_next ⟨_, _, rfl, rfl, rfl⟩)⟩⟩)
        · exact .inr (.inr ⟨e1, ev_v ⟨_, rfl, rfl, pl, _, rfl, iff' rfl (st_next ⟨_, _, rfl, rfl, rfl⟩)⟩⟩)
    rintro δ' ⟨s2, s3, o2, o3, rfl⟩
    refine st_ret (ev_eqS ?_)
    refine ev_told (R1 := fun _ => False) (ex1 := exOne "BadPart" "part" (.str "word")) hm hu (fun i t h => ?_) (fun E => ?_) (fun _ h => h.elim) (fun c' f d hx => ?_)
    · match i, h with
      | 0, h => cases h; rfl
      | 1, h => cases h; rfl
      | 2, h => cases h; exact o2
      | 3, h => cases h; exact o3
    · exact ev_meth (ev_v ⟨_, rfl, _, rfl, rfl, ea_cons (ev_str (ea_cons (ev_int (ea_nil ⟨r, "word", .int 5, rfl, .inr ⟨rfl, rfl, rfl, rfl⟩⟩))))⟩)
    · obtain ⟨e1, e2, rfl⟩ := hx
      refine .inr (.inl ⟨e1, e2, ?_⟩)
      repeat' walk_at "evd"
      refine ⟨.lst fun x hx => ?_, k⟩
      simp only [List.mem_cons, List.not_mem_nil, or_false] at hx
      rcases hx with rfl | rfl
      · exact .str (by decide +kernel)
      · exact .str (by decide +kernel)
end
end WK
end
section
set_option Elab.async false
set_option linter.all false
set_option maxRecDepth 100000
set_option maxHeartbeats 400000
/-! Plain laws of settings behind changes. -/
namespace WK
open PySem PySem.Spec PyProof.Rows L2 WL WX LamX
/-- settings of which a line can be made, but for boxes too near the turn -/
structure LPre (r : Rw) : Prop where
  base : BaseOk r
  ws : ∀ x ∈ r.ways, okW x
  bl : 1 ≤ r.bnds.length ∧ r.bnds.length ≤ 4
  st : okS r.bnds
  ac : asc r.bnds = true
  sz : 1 ≤ r.size ∧ r.size ≤ 60
  rg : RgOk r
theorem LPre.ok {r : Rw} (h : LPre r) (b : r.ways.any (boxBad r.turn) = false) : LOk r := ⟨h.base, h.ws, h.bl, h.st, h.ac, h.sz, h.rg, b⟩
theorem LOk.pre {r : Rw} (h : LOk r) : LPre r := ⟨h.base, h.ws, h.bl, h.st, h.ac, h.sz, h.rg⟩
/-- what no change touches -/
def Kpt (r r' : Rw) : Prop := r'.rows = r.rows ∧ r'.widths = r.widths ∧ r'.places = r.places ∧ r'.cost = r.cost ∧ r'.quiet = r.quiet ∧ r'.silent = r.silent ∧ r'.losses = r.losses
theorem Kpt.refl (r : Rw) : Kpt r r := ⟨rfl, rfl, rfl, rfl, rfl, rfl, rfl⟩
theorem Kpt.trans {a b c : Rw} (h : Kpt a b) (g : Kpt b c) : Kpt a c := by
  obtain ⟨h1, h2, h3, h4, h5, h6, h7⟩ := h
  obtain ⟨g1, g2, g3, g4, g5, g6, g7⟩ := g
  exact ⟨g1.trans h1, g2.trans h2, g3.trans h3, g4.trans h4, g5.trans h5, g6.trans h6, g7.trans h7⟩
theorem aft_of {r : Rw} {c : D} (h : ChOk r.ways.length c) : ∃ r', Aft r c r' := by
  cases h with
  | beg i b hi gb => exact ⟨_, .beg i _ b (List.getElem?_eq_getElem hi)⟩
  | set z v hz _ _ =>
    simp only [PLAL, List.mem_cons, List.not_mem_nil, or_false] at hz
    rcases hz with rfl | rfl | rfl | rfl | rfl | rfl
    · exact ⟨_, .turn v⟩
    · exact ⟨_, .numbers v⟩
    · exact ⟨_, .room v⟩
    · exact ⟨_, .period v⟩
    · exact ⟨_, .head v⟩
    · exact ⟨_, .bound v⟩
theorem okS_of {l : List Int} (h : l.Pairwise (· < ·)) (hb : ∀ x ∈ l, 1 ≤ x ∧ x ≤ 60) : okS l := fun i => by
  cases hi : l[i]? with
  | none => unfold bndAt; rw [hi]
  | some b =>
    rw [bndAt_some hi]
    have h1 := hb b (List.mem_of_getElem? hi)
    have e1 : btw (.int b) 1 60 = true := btw_t h1
    rw [e1, Bool.true_and]
    cases i with
    | zero => rfl
    | succ j =>
      show (match l[j]? with | some a => decide (a < b) | none => true) = true
      cases hj : l[j]? with
      | none => rfl
      | some a =>
        obtain ⟨h2, e2⟩ := List.getElem?_eq_some_iff.mp hj
        obtain ⟨h3, e3⟩ := List.getElem?_eq_some_iff.mp hi
        have := (List.pairwise_iff_getElem.mp h) j (j + 1) h2 h3 (Nat.lt_succ_self j)
        rw [e2, e3] at this
        exact decide_eq_true this
theorem insB_sub {l : List Int} {b x : Int} (h : x ∈ insB l b) : x ∈ l ∨ x = b := by
  unfold insB at h
  split at h
  · exact .inl h
  · rw [List.append_assoc, List.mem_append, List.mem_append] at h
    rcases h with h | h | h
    · exact .inl (List.mem_of_mem_take h)
    · exact .inr (List.mem_singleton.mp h)
    · exact .inl (List.mem_of_mem_drop h)
theorem set_all {l : List Wy} {i : Nat} {y : Wy} {P : Wy → Prop} (h : ∀ x ∈ l, P x) (hy : P y) : ∀ x ∈ l.set i y, P x := fun x hx => by
  rcases List.mem_or_eq_of_mem_set hx with h1 | rfl
  · exact h x h1
  · exact hy
theorem begD_inj {a b : Option Int} (h : begD a = begD b) : a = b := by
  cases a <;> cases b <;> first | rfl | (cases h; done) | (cases h; rfl)
theorem ch_beg {n i : Nat} {b : Option Int} (h : ChOk n (.tup [.str "begin", .int (i : Nat), begD b])) : goodB b = true := by
  generalize e : D.tup [D.str "begin", D.int (i : Nat), begD b] = c at h
  cases h with
  | beg i' b' hi gb =>
    simp only [D.tup.injEq, List.cons.injEq] at e
    rw [begD_inj e.2.2.1]
    exact gb
  | set z v => simp at e
theorem ch_set {n : Nat} {z : Str} {v : Int} (h : ChOk n (.tup [.str z, .int v])) : 2 ≤ v ∧ v ≤ chMost z := by
  generalize e : D.tup [D.str z, D.int v] = c at h
  cases h with
  | beg i' b' hi gb => simp at e
  | set z' v' hz h1 h2 =>
    simp only [D.tup.injEq, List.cons.injEq, D.str.injEq, D.int.injEq] at e
    obtain ⟨rfl, rfl, _⟩ := e
    exact ⟨h1, h2⟩
theorem aft_made {r r' : Rw} {c : D} (ok : LOk r) (ch : ChOk r.ways.length c) (af : Aft r c r') : LPre r' ∧ Kpt r r' ∧ r'.ways.length = r.ways.length ∧ ∀ R ex, Made r' R ex → CSpec r R ex c := by
  have pre := ok.pre
  obtain ⟨g1, g2, g3, g4, g5, g6, g7, g8, g9⟩ := ok.rg
  cases af with
  | beg i x b hx =>
    have gb := ch_beg ch
    have okx := ok.ws x (List.mem_of_getElem? hx)
    have gw : goodW { x with b := b } = true := by
      have h := okx.1
      simp only [goodW, Bool.and_eq_true_iff] at h ⊢
      exact ⟨⟨⟨gb, h.1.1.2⟩, h.1.2⟩, h.2⟩
    have ws : ∀ y ∈ r.ways.set i { x with b := b }, okW y := set_all ok.ws ⟨gw, okx.2⟩
    have hl : (r.ways.set i { x with b := b }).length = r.ways.length := List.length_set
    refine ⟨⟨⟨ok.base.mail, by dsimp only; rw [hl]; exact ok.base.ways, fun y hy => by have := (ws y hy).2; omega, ok.base.widths, ok.base.wds, ok.base.asc⟩, ws, ok.bl, ok.st, ok.ac, ok.sz, ok.rg⟩, Kpt.refl r, hl, fun R ex m => .beg i x b hx (.inr ⟨gw, m⟩)⟩
  | bound v =>
    obtain ⟨v1, v2⟩ := ch_set ch
    have v3 : v ≤ 51 := v2
    have hd : (r.bnds.drop 1).Pairwise (· < ·) := List.Pairwise.sublist (List.drop_sublist 1 _) (asc_pair ok.ac)
    obtain ⟨p1, _⟩ := insB_pair (b := v) hd
    obtain ⟨l1, l2⟩ := insB_len (l := r.bnds.drop 1) v
    have hl := ok.bl
    rw [List.length_drop] at l1
    have os : okS (insB (r.bnds.drop 1) v) := okS_of p1 fun x hx => by
      rcases insB_sub hx with h | rfl
      · exact okS_le ok.st x (List.mem_of_mem_drop h)
      · omega
    exact ⟨⟨base_bnds ok.base _, ok.ws, ⟨l2, by dsimp only; omega⟩, os, pair_asc p1, ok.sz, ok.rg⟩, Kpt.refl r, rfl, fun R ex m => .bound v ok.bl (btw_t ok.sz) (fun _ => m) fun n => (n os).elim⟩
  | room v =>
    obtain ⟨v1, v2⟩ := ch_set ch
    have v3 : v ≤ 51 := v2
    have hs : 1 ≤ v ∧ v ≤ 60 := by omega
    exact ⟨⟨base_size ok.base _, ok.ws, ok.bl, ok.st, ok.ac, hs, ok.rg⟩, Kpt.refl r, rfl, fun R ex m => .room v (fun _ => m) fun h => by rw [btw_t hs] at h; cases h⟩
  | turn v =>
    obtain ⟨v1, v2⟩ := ch_set ch
    have v3 : v ≤ 191 := v2
    exact ⟨⟨base_turn ok.base _, ok.ws, ok.bl, ok.st, ok.ac, ok.sz, ⟨by dsimp only; omega, g2, g3, g4, g5, g6, g7, g8, g9⟩⟩, Kpt.refl r, rfl, fun R ex m => .plain v (by decide) (.turn v) m⟩
  | numbers v =>
    obtain ⟨v1, v2⟩ := ch_set ch
    have v3 : v ≤ 8 := v2
    exact ⟨⟨base_numbers ok.base _, ok.ws, ok.bl, ok.st, ok.ac, ok.sz, ⟨g1, by dsimp only; omega, g3, g4, g5, g6, g7, g8, g9⟩⟩, Kpt.refl r, rfl, fun R ex m => .plain v (by decide) (.numbers v) m⟩
  | period v =>
    obtain ⟨v1, v2⟩ := ch_set ch
    have v3 : v ≤ 191 := v2
    exact ⟨⟨base_period ok.base _, ok.ws, ok.bl, ok.st, ok.ac, ok.sz, ⟨g1, g2, g3, g4, g5, by dsimp only; omega, g7, g8, g9⟩⟩, Kpt.refl r, rfl, fun R ex m => .plain v (by decide) (.period v) m⟩
  | head v =>
    obtain ⟨v1, v2⟩ := ch_set ch
    have v3 : v ≤ 8 := v2
    exact ⟨⟨base_head ok.base _, ok.ws, ok.bl, ok.st, ok.ac, ok.sz, ⟨g1, g2, by dsimp only; omega, g4, g5, g6, g7, g8, g9⟩⟩, Kpt.refl r, rfl, fun R ex m => .plain v (by decide) (.head v) m⟩
theorem outW_pre {r : Rw} (h : LPre r) : (r.ways.any (boxBad r.turn) = true → outW r = some ("turn" : Str)) ∧ (r.ways.any (boxBad r.turn) = false → outW r = none) := by
  rw [outW_of h.rg]
  exact ⟨fun e => by rw [e] <;> rfl, fun e => by rw [e] <;> rfl⟩
/-- the first settings -/
theorem raw_ok {r : Rw} (g : RG14 r) : LOk r := by
  obtain ⟨⟨⟨⟨⟨⟨⟨⟨⟨⟨⟨⟨⟨⟨h1, w1, w2, w3⟩, d1, d2, d3, d4⟩, t1, t2⟩, hb⟩, n1, n2⟩, s1, s2⟩, b1, b2, b3, b4⟩, e1, e2⟩, p1, p2⟩, c1, c2⟩, q1, q2⟩, u1, u2⟩, i1, i2⟩, l1, l2⟩ := g
  refine ⟨⟨h1, ⟨w1, by omega⟩, fun x hx => by have := (w3 x hx).2; omega, ⟨d1, by omega⟩, d4, d3⟩, w3, ⟨b1, by omega⟩, okS_of (asc_pair b3) b4, b3, ⟨s1, by omega⟩, ?_, ?_⟩
  · exact ⟨by omega, by omega, by omega, by omega, by omega, by omega, by omega, by omega, by omega⟩
  · rw [List.any_eq_false]
    intro x hx h
    rw [hb x hx] at h
    cases h
/-- a box on every way, the turn eight -/
theorem raw_boxed {r : Rw} (ok : LOk r) : LOk { r with ways := r.ways.map fun x => { x with bx := [(0, 1, 5, 9)] }, turn := 8 } := by
  have ws : ∀ y ∈ r.ways.map (fun x : Wy => { x with bx := [((0 : Int), (1 : Int), (5 : Int), (9 : Int))] }), okW y := fun y hy => by
    obtain ⟨x, hx, rfl⟩ := List.mem_map.mp hy
    obtain ⟨g, h⟩ := ok.ws x hx
    refine ⟨?_, h⟩
    simp only [goodW, Bool.and_eq_true_iff, decide_eq_true_eq] at g ⊢
    refine ⟨⟨g.1.1, by show 1 ≤ 3; omega⟩, ?_⟩
    simp only [List.all_cons, List.all_nil, Bool.and_true, goodX, Bool.and_eq_true_iff, decide_eq_true_eq]
    have := g.1.1.2
    omega
  obtain ⟨g1, g2, g3, g4, g5, g6, g7, g8, g9⟩ := ok.rg
  refine ⟨⟨ok.base.mail, by dsimp only; rw [List.length_map]; exact ok.base.ways, fun y hy => by have := (ws y hy).2; omega, ok.base.widths, ok.base.wds, ok.base.asc⟩, ws, ok.bl, ok.st, ok.ac, ok.sz, ⟨by dsimp only; omega, g2, g3, g4, g5, g6, g7, g8, g9⟩, ?_⟩
  rw [List.any_eq_false]
  intro y hy h
  have := (ws y hy).2
  unfold boxBad at h
  simp only [Bool.and_eq_true_iff, decide_eq_true_eq] at h
  omega
theorem rw_eq {a b : Rw} (h : Kpt a b) (h1 : b.ways = a.ways) (h2 : b.turn = a.turn) (h3 : b.numbers = a.numbers) (h4 : b.size = a.size) (h5 : b.bnds = a.bnds) (h6 : b.head = a.head) (h7 : b.period = a.period) : b = a := by
  obtain ⟨k1, k2, k3, k4, k5, k6, k7⟩ := h
  cases a
  cases b
  simp_all
end WK
end
section
set_option Elab.async false
set_option linter.all false
set_option maxRecDepth 100000
set_option maxHeartbeats 400000
/-! The law. -/
local macro_rules | `(tactic| walk_at "ev") => `(tactic| first
  | (with_reducible refine WL.st_seq ?_) | (with_reducible refine WL.st_ret ?_) | (with_reducible refine WL.st_retN ?_) | (with_reducible refine WL.st_next ?_) | (with_reducible refine WL.st_if ?_)
  | (with_reducible refine WL.et_and ?_) | (with_reducible refine WL.et_or ?_) | (with_reducible refine WL.et_not ?_) | (with_reducible refine WL.et_test ?_) | (with_reducible refine WL.et_B ?_)
  | (with_reducible refine WL.ev_andV ?_) | (with_reducible refine WL.ev_orV ?_) | (with_reducible refine WL.ev_notV ?_) | (with_reducible refine WL.ev_if ?_)
  | (with_reducible refine WL.ev_v ?_) | (with_reducible refine WL.ev_int ?_) | (with_reducible refine WL.ev_str ?_) | (with_reducible refine WL.ev_non ?_) | (with_reducible refine WL.ev_bl ?_)
  | (with_reducible refine WL.ea_nil ?_) | (with_reducible refine WL.ea_cons ?_) | (with_reducible refine WL.ev_tup ?_)
  | (with_reducible refine WL.ev_make ?_) | (with_reducible refine WL.ev_makeN ?_) | (with_reducible refine WL.ev_call ?_) | (with_reducible refine WL.ev_callN ?_) | (with_reducible refine WL.ev_meth ?_) | (with_reducible refine WL.ev_methN ?_)
  | (with_reducible refine WL.ev_isi (.ty _) ?_) | (with_reducible refine WL.ev_isi (.own _) ?_) | (with_reducible refine WL.ev_isiT (.ty _) (.ty _) ?_)
  | (with_reducible refine WL.ev_len ?_) | (with_reducible refine WL.ev_all ?_) | (with_reducible refine WL.ev_any ?_) | (with_reducible refine WL.ev_tuple ?_) | (with_reducible refine WL.ev_listD ?_) | (with_reducible refine WL.ev_map ?_) | (with_reducible refine WL.ei_tup ?_) | (with_reducible refine WL.ei_list ?_) | (with_reducible refine WL.ei_str ?_) | (with_reducible refine WL.ei_zip ?_) | (with_reducible refine WL.ei_seqV ?_) | (with_reducible refine WL.ei_enumA ?_) | (with_reducible refine WL.ev_eqS ?_) | (with_reducible refine WL.ev_inS ?_)
  | (with_reducible refine WL.ev_chain ?_) | (with_reducible refine WL.ev_chain3 ?_) | (with_reducible refine WL.ev_opB ?_) | (with_reducible refine WL.ev_opI ?_) | (with_reducible refine WL.ev_eq ?_) | (with_reducible refine WL.ev_ne ?_) | (with_reducible refine WL.ev_isN ?_) | (with_reducible refine WL.ev_notN ?_)
  | (with_reducible refine WL.ev_ixL ?_) | (with_reducible refine WL.ev_ixT ?_) | (with_reducible refine WL.ev_ixD ?_) | (with_reducible refine WL.ev_kstr (by assumption) ?_) | (with_reducible refine WL.ev_eqG ?_) | (with_reducible refine WL.ev_in ?_) | (with_reducible refine WL.st_raise ?_) | (with_reducible refine WL.st_fl ?_) | (with_reducible refine WL.ev_fld ?_)
  | (with_reducible refine WK.ty_int (by assumption) ?_ ?_) | (with_reducible refine WK.ty_bool (by assumption) ?_ ?_) | (with_reducible refine WK.ty_str (by assumption) ?_ ?_) | (with_reducible refine WK.ty_tup (by assumption) ?_ ?_) | (with_reducible refine WK.ty_seq (by assumption) ?_ ?_) | (with_reducible refine WK.ty_own (by assumption) ?_ ?_ ?_ ?_; focus (simp [WK.CLS]; done))
  | (show WK.Kn _; first | assumption | trivial | (simp [WK.Kn, WK.CLS]; done)) | (show ∀ l, _ ≠ WL.D.dic l; intro _ h; cases h)
  | (with_reducible refine WL.st_asg ?_) | (with_reducible refine WL.st_asgT (js := List.range 64) ?_) | (with_reducible refine WL.tg_tu ?_) | (with_reducible refine WL.tg_cons ?_) | (with_reducible refine WL.tg_nil ?_) | (with_reducible refine WL.tg_name (by first | decide | simp) ?_)
  | refine WL.ift rfl ?_ | refine WL.iff' rfl ?_
  | refine And.intro (by first | assumption | trivial : WK.Kn _) ?_
  | refine ⟨_, _, _, rfl, (by assumption : L2.Cls _ _), (by assumption : L2.NoAttr _ _ _), (by first | rfl | exact Nat.le_of_ble_eq_true rfl), ?_⟩
  | refine ⟨_, rfl, ?_⟩ | refine ⟨_, _, rfl, rfl, ?_⟩ | refine ⟨_, _, rfl, (by assumption : _ ∨ _), ?_⟩ | refine ⟨_, _, rfl, ?_⟩ | refine ⟨_, _, _, rfl, ?_⟩ | refine ⟨_, _, _, _, rfl, ?_⟩ | refine ⟨_, _, _, rfl, rfl, (by first | assumption | rfl : WL.atD _ _ = some _), ?_⟩ | refine ⟨_, _, _, rfl, rfl, rfl, ?_⟩ | refine And.intro rfl ?_ | refine And.intro (by assumption) ?_ | refine And.intro (Nat.le_of_ble_eq_true rfl) ?_ | exact rfl)
local macro_rules | `(tactic| walk_at "evs") => `(tactic| first | walk_at "ev" | (with_reducible refine WL.ift ?_ ?_; focus (first | assumption | (simp [*]; done) | (simp; omega))) | (with_reducible refine WL.iff' ?_ ?_; focus (first | assumption | (simp [*]; done) | (simp; omega))))
local macro_rules | `(tactic| walk_at "evb") => `(tactic| first | walk_at "ev" | (with_reducible refine WL.ifb (fun _ => ?_) (fun _ => ?_)))
local macro_rules | `(tactic| walk_at "evt") => `(tactic| first | walk_at "evs" | refine ⟨_, Or.inl rfl, ?_⟩ | refine ⟨_, Or.inr rfl, ?_⟩ | fail)
local macro_rules | `(tactic| walk_at "evu") => `(tactic| first | (with_reducible refine WL.ev_ofl ?_; refine ⟨_, _, _, _, rfl, (by assumption : L2.Cls _ _), (by assumption : L2.NoAttr _ _ _), rfl, ?_⟩) | walk_at "evt" | (with_reducible refine WL.ev_opC ?_) | (with_reducible refine WL.ev_dget ?_) | (with_reducible refine WL.ev_ofl ?_) | (with_reducible refine WL.ev_makeK ?_) | fail)
local macro_rules | `(tactic| walk_at "evc") => `(tactic| first | assumption | omega | fail)
local macro_rules | `(tactic| walk_at "evd") => `(tactic| first
  | (with_reducible refine WL.ev_drixV ?_; refine ⟨_, _, rfl, (by assumption), ?_⟩) | (with_reducible refine WL.ev_scixV ?_; refine ⟨_, _, rfl, (by assumption), ?_⟩) | (with_reducible refine WL.st_drsetV ?_; refine ⟨_, _, rfl, (by assumption), by omega, by omega, ?_⟩) | (with_reducible refine WL.ev_sclenV ?_; refine ⟨_, _, rfl, (by assumption), ?_⟩)
  | refine ⟨_, rfl, Int.emod_nonneg _ (by omega), Int.emod_lt_of_pos _ (by omega), fun _ => ?_⟩ | refine ⟨_, rfl, (by omega : (0 : Int) ≤ _), (by omega), fun _ => ?_⟩
  | refine ⟨_, _, _, rfl, (by assumption), (by walk_at "evc"; done), (by walk_at "evc"; done), fun _ _ _ => ?_⟩ | refine ⟨_, rfl, (by walk_at "evc"; done : -(2 ^ 62) ≤ _), (by walk_at "evc"; done), ?_⟩
  | walk_at "ev" | (with_reducible refine WL.ev_opC ?_) | (with_reducible refine WL.ev_intI ?_) | (with_reducible refine WL.ev_max2 ?_) | (with_reducible refine WL.ei_range1 ?_) | (with_reducible refine WL.ev_catT ?_) | (with_reducible refine WL.ev_lst ?_)
  | refine And.intro (WL.pos_of (by walk_at "evc"; done)) ?_ | refine And.intro (WL.cdiv_of (by walk_at "evc"; done) (by walk_at "evc"; done)) ?_ | refine And.intro (WL.cmul_l (by walk_at "evc"; done) (by walk_at "evc"; done)) ?_ | refine And.intro (WL.cmul_r (by walk_at "evc"; done) (by walk_at "evc"; done)) ?_
  | (with_reducible refine WL.ifd (fun _ => ?_) (fun _ => ?_)) | (with_reducible refine WL.ifb (fun _ => ?_) (fun _ => ?_)) | fail)
namespace WK
open PySem PySem.Spec PyProof.Rows L2 WL WX LamX
section
variable {K : PySem.W.Frag} {mg : Str → Option Value} {w : World} {base : Heap}
/-- the draws' first state: new, four ints -/
def spStart (K : PySem.W.Frag) : Sp := fun vs H Q _ => ∃ (a : Addr) (ns : List Int), vs = [.ref a] ∧ SqL K H a (ns.map V.int) ∧ ∀ p H', (∀ b o, H b = some o → H' b = some o) → H p = none → StOk (H' p) → Q (.ref p) H'
theorem ok__law_start (T : Txt K mg w) : FnOk PG w K mg base (L2.CX PG w) 3 (He.ga K "_law_start") (fdOf K ("_law_start", none)) ["_law_script"] (spStart K) :=
  T.d__law_start.ok (k := 2) sc__law_start (fun vs H Q E ⟨_, _, e, _⟩ => by rw [e] <;> rfl) fun cdv A outer s H vs Q E hr ⟨a, ns, ev, hs, q⟩ => by
    subst ev
    refine ⟨_, (pss_cons (ps_set (i := 1) sc__law_start.nd rfl (Or.inl rfl) pe_int)
    (pss_cons (ps_if (pt_cmpR op_gt (pe_callB call_len (by rfl) T.f_len (by decide +kernel) (pa_cons (pv 0) pa_nil)) pe_int (nomark _)) (pss_one (ps_set (i := 1) sc__law_start.nd rfl (Or.inl rfl) (pe_ix ix_list (pv 0) pe_int (fun _ _ => rfl)))) pss_nil)
    (pss_one (ps_ret (pe_lst (pa_cons (pe_callB call_abs (by rfl) T.f_abs (by decide +kernel) (pa_cons (pe_callTy call_int1 (by rfl) T.f_int (by decide +kernel) (pa_cons (pv 1) pa_nil)) pa_nil)) (pa_cons (pe_callTy call_int1 (by rfl) T.f_int (by decide +kernel) (pa_cons (pe_cmpR op_ge (pe_callB call_abs (by rfl) T.f_abs (by decide +kernel) (pa_cons (pe_callTy call_int1 (by rfl) T.f_int (by decide +kernel) (pa_cons (pv 1) pa_nil)) pa_nil)) (pe_op op_pow pe_int pe_int) (nomark _)) pa_nil)) (pa_cons pe_int (pa_cons pe_int pa_nil))))))))), ?_⟩
    generalize hT : tRet _ = TT
    have fin : ∀ i : Int, TT { nx := fun _ H' => Q .non H', rt := Q } [some (.ref a), some (.int i)] H := fun i => by
      rw [← hT]
      refine ⟨_, rfl, .inl ⟨_, rfl, _, rfl, _, rfl, .inl ⟨_, rfl, _, rfl, _, _, rfl, rfl, ⟨by decide, by decide, by decide⟩, _, _, rfl, rfl, .inr ⟨_, rfl, show 4 ≤ sizeLine by decide, fun l hl => ?_⟩⟩⟩⟩
      exact q l _ (fun b o e => by rw [upd_ne (ne_of_none e hl)]; exact e) hl ⟨_, _, _, _, upd_same⟩
    have e0 : L2.start ["_law_script", "_law_first"] [V.ref a] = [some (.ref a), none] := rfl
    rw [e0]
    refine ⟨_, rfl, _, _, rfl, .inl ⟨_, hs, rfl⟩, _, _, rfl, rfl, _, rfl, ?_⟩
    cases hd : decide ((0 : Int) < ((ns.map V.int).length : Int)) with
    | false => exact fin 0
    | true =>
      have hp : 0 < ns.length := by
        have := of_decide_eq_true hd
        rw [List.length_map] at this
        omega
      refine ⟨_, rfl, a, ns.map V.int, 0, .int (ns[0]), rfl, rfl, hs, ?_, fin _⟩
      refine atI_nat (j := 0) ?_
      rw [List.getElem?_map, List.getElem?_eq_getElem hp] <;> rfl
/-- the law's promise: P1, P2 are the tables of its lambdas and of the refused changes' -/
abbrev qLW : Str := "law.<locals>.<lambda>"
def spLaw (K : PySem.W.Frag) (P1 P2 : Addr) : Sp := fun vs H Q _ => ∃ (a : Addr) (ns : List Int), vs = [.ref a] ∧ ns.length ≤ 63 ∧ SqL K H a (ns.map V.int) ∧ H P1 = some (.tbl #[]) ∧ H P2 = some (.tbl #[]) ∧ ∀ H', Q (.bl true) H'
/-- the settings in the loop over the five words -/
def stp (r r' : Rw) : Nat → Rw
  | 0 => r'
  | 1 => { r' with period := r.period }
  | 2 => { r' with period := r.period, head := r.head }
  | 3 => { r' with period := r.period, head := r.head, numbers := r.numbers }
  | 4 => { r' with period := r.period, head := r.head, numbers := r.numbers, quiet := r.quiet }
  | _ => { r' with period := r.period, head := r.head, numbers := r.numbers, quiet := r.quiet, losses := r.losses }
abbrev wordL : List D := [.str "period", .str "head", .str "numbers", .str "quiet", .str "losses"]
theorem pl_ways (l : List Wy) : Pl 64 (.lst (l.map rawW)) ∧ Pn (.lst (l.map rawW)) := by
  refine ⟨.lst fun y hy => ?_, .lst fun y hy => ?_⟩
  · obtain ⟨x, _, rfl⟩ := List.mem_map.mp hy
    refine .tup fun z hz => ?_
    simp only [List.mem_cons, List.not_mem_nil, or_false] at hz
    rcases hz with rfl | rfl | rfl | rfl
    · exact pl_beg _
    · exact .int _
    · exact .int _
    · refine .lst fun u hu => ?_
      obtain ⟨b, _, rfl⟩ := List.mem_map.mp hu
      exact Pl.mono (pl_box b) (by decide)
  · obtain ⟨x, _, rfl⟩ := List.mem_map.mp hy
    refine .tup fun z hz => ?_
    simp only [List.mem_cons, List.not_mem_nil, or_false] at hz
    rcases hz with rfl | rfl | rfl | rfl
    · cases x.b <;> first | exact .non | exact .int _
    · exact .int _
    · exact .int _
    · exact (pl_raw x.bx).2
theorem pl_intl (l : List Int) : Pl 64 (.lst (l.map D.int)) ∧ Pn (.lst (l.map D.int)) := by
  refine ⟨.lst fun y hy => ?_, .lst fun y hy => ?_⟩
  · obtain ⟨i, _, rfl⟩ := List.mem_map.mp hy
    exact .int i
  · obtain ⟨i, _, rfl⟩ := List.mem_map.mp hy
    exact .int i
theorem map_inj {α : Type} {f : α → D} (hf : ∀ a b, f a = f b → a = b) : ∀ {l m : List α}, l.map f = m.map f → l = m
  | [], [], _ => rfl
  | [], _ :: _, h => by simp at h
  | _ :: _, [], h => by simp at h
  | a :: l, b :: m, h => by
    simp only [List.map_cons, List.cons.injEq] at h
    rw [hf a b h.1, map_inj hf h.2]
theorem boxD_inj (a b : Int × Int × Int × Int) (h : boxD a = boxD b) : a = b := by
  obtain ⟨a1, a2, a3, a4⟩ := a
  obtain ⟨b1, b2, b3, b4⟩ := b
  simp only [boxD, D.tup.injEq, List.cons.injEq, D.int.injEq] at h
  obtain ⟨rfl, rfl, rfl, rfl, _⟩ := h
  rfl
theorem rawW_inj (a b : Wy) (h : rawW a = rawW b) : a = b := by
  obtain ⟨a1, a2, a3, a4⟩ := a
  obtain ⟨b1, b2, b3, b4⟩ := b
  simp only [rawW, D.tup.injEq, List.cons.injEq, D.int.injEq, D.lst.injEq] at h
  obtain ⟨h1, rfl, rfl, h4, _⟩ := h
  rw [begD_inj h1, map_inj boxD_inj h4]
theorem stp_ok {r r' : Rw} (ok : LOk r) (ok' : LOk r') (n : Nat) : LOk (stp r r' n) := by
  obtain ⟨b, ws, bl, st, ac, sz, ⟨g1, g2, g3, g4, g5, g6, g7, g8, g9⟩, bb⟩ := ok'
  obtain ⟨f1, f2, f3, f4, f5, f6, f7, f8, f9⟩ := ok.rg
  match n with
  | 0 => exact ⟨b, ws, bl, st, ac, sz, ⟨g1, g2, g3, g4, g5, g6, g7, g8, g9⟩, bb⟩
  | 1 => exact ⟨⟨b.mail, b.ways, b.wys, b.widths, b.wds, b.asc⟩, ws, bl, st, ac, sz, ⟨g1, g2, g3, g4, g5, f6, g7, g8, g9⟩, bb⟩
  | 2 => exact ⟨⟨b.mail, b.ways, b.wys, b.widths, b.wds, b.asc⟩, ws, bl, st, ac, sz, ⟨g1, g2, f3, g4, g5, f6, g7, g8, g9⟩, bb⟩
  | 3 => exact ⟨⟨b.mail, b.ways, b.wys, b.widths, b.wds, b.asc⟩, ws, bl, st, ac, sz, ⟨g1, f2, f3, g4, g5, f6, g7, g8, g9⟩, bb⟩
  | 4 => exact ⟨⟨b.mail, b.ways, b.wys, b.widths, b.wds, b.asc⟩, ws, bl, st, ac, sz, ⟨g1, f2, f3, g4, g5, f6, f7, g8, g9⟩, bb⟩
  | n + 5 => exact ⟨⟨b.mail, b.ways, b.wys, b.widths, b.wds, b.asc⟩, ws, bl, st, ac, sz, ⟨g1, f2, f3, g4, g5, f6, f7, g8, f9⟩, bb⟩
theorem size_ok {r r' : Rw} (ok : LOk r) (ok' : LOk r') : LOk { r' with size := r.size } := ⟨base_size ok'.base _, ok'.ws, ok'.bl, ok'.st, ok'.ac, ok.sz, ok'.rg, ok'.bb⟩
theorem turn_ok {r r' : Rw} (ok : LOk r) (ok' : LOk r') (e : r'.ways = r.ways) : LOk { r' with turn := r.turn } := by
  obtain ⟨g1, g2, g3, g4, g5, g6, g7, g8, g9⟩ := ok'.rg
  exact ⟨base_turn ok'.base _, ok'.ws, ok'.bl, ok'.st, ok'.ac, ok'.sz, ⟨ok.rg.1, g2, g3, g4, g5, g6, g7, g8, g9⟩, by dsimp only; rw [e]; exact ok.bb⟩
theorem made_ok {r : Rw} {R : D → Prop} {ex : Ex1} (ok : LOk r) (k : R (lineD r)) : Made r R ex := ⟨ok.base, (fun z e => by rw [ok.out] at e; cases e), fun _ => k⟩
theorem made_and {r : Rw} {R : D → Prop} {ex : Ex1} (ok : LOk r) (k : R (lineD r)) : BaseOk r ∧ (∀ z, outW r = some z → ex "BadPart" "part" (.str z)) ∧ (outW r = none → R (lineD r)) := made_ok ok k
theorem cut3 (a b c d : D) : WL.cutD [a, b, c, d] none (some 3) = [a, b, c] := by rfl
theorem start_law {K : PySem.W.Frag} {E : XK} {su : TS} {D : Ends} {σ : L2.St} {H : Hp} {a : Addr} {ns : List Int} (h0 : σ[0]? = some (some (.ref a))) (hs : SqL K H a (ns.map V.int))
    (h : ∀ st H1, (∀ b o, H b = some o → H1 b = some o) → H st = none → StOk (H1 st) → su D (σ.set 1 (some (.ref st))) H1) : tSeq (tAsg (tCall (spStart K) [] E (tCons (tVar 0) tNil)) (gName 1)) su D σ H :=
  ⟨_, h0, a, ns, rfl, hs, h⟩
theorem st_enter {K : PySem.W.Frag} {G : Env1} {E : XK} {t : TS} {σ : L2.St} {δ : List Sl} {H : Hp} {Q : VK} (s0 : RepS K G G.sp H G.sp H σ δ) (q : ∀ H', Q (.bl true) H') (h : StP ⟨K, G, E, ex0⟩ t δ { nx := fun _ => False, rt := fun d => d = .bl true }) :
    t { nx := fun _ H' => Q .non H', rt := Q } σ H := h G.sp H G.sp σ H _ s0 Exo.zero (fun _ _ _ _ _ _ z => z.elim) (fun v d H' l r e => by subst e; cases r; exact q H') (fun _ _ _ _ _ _ z => z.elim) (fun _ _ _ _ _ _ z => z.elim)
def boxIt : D → D
  | .tup [b, lo, hi, _] => .tup [b, lo, hi, .lst [boxD (0, 1, 5, 9)]]
  | d => d
theorem ok_law (T : Txt K mg w) (TX : TxtX K) {c P c2 P2 : Addr} (hc : (fdOf K ("law", none)).code = .ref c) (TB : TabB base mg c P) (hc2 : (fdOf K ("_law_refused_hold", none)).code = .ref c2) (TB2 : TabB base mg c2 P2) (hne : P ≠ P2) :
    FnOk PG w K mg base (L2.CX PG w) 100 (He.ga K "law") (fdOf K ("law", none)) ["_law_script"] (spLaw K P P2) :=
  WL.fnC (k := 99) T.d_law sc_law (fun vs H Q E ⟨_, _, e, _⟩ => by rw [e] <;> rfl) fun A outer s H vs Q E hr ⟨a, ns, ev, hlen, hs, t1, t2, qk⟩ => by
    subst ev
    refine ⟨_, (pss_cons (ps_set (i := 1) sc_law.nd rfl (Or.inl rfl) (pe_call (ok__law_start T) (hr.mono (by decide)) rfl T.g__law_start T.d__law_start.kp (bi__law_start T) .nil passN (pa_cons (pv 0) pa_nil)))
    (pss_cons (ps_set (i := 2) sc_law.nd rfl (Or.inl rfl) (pe_call (ok__law_raw T) (hr.mono (by decide)) rfl T.g__law_raw T.d__law_raw.kp (bi__law_raw T) .nil passN (pa_cons (pv 0) (pa_cons (pv 1) pa_nil))))
    (pss_cons (ps_if (pt_cmpR op_eq (pe_call (ok__law_draw T) (hr.mono (by decide)) rfl T.g__law_draw T.d__law_draw.kp (bi__law_draw T) .nil passN (pa_cons (pv 0) (pa_cons (pv 1) (pa_cons pe_int pa_nil)))) pe_int (nomark _)) (pss_cons (ps_dput (hu_of hr) (pv 2) pe_str (pe_lc (own := [("_law_way_here", 11)]) rfl sc_law.nd (pi_list (pe_dget (hu_of hr) (pv 2) pe_str (fun _ _ => rfl))) (blkOk_by (own := [("_law_way_here", 11)]) (N := ["_law_script", "_law_state", "_law_raw_here", "_law_first", "_law_line_here", "_law_now", "_law_k", "_law_change_here", "_law_after_here", "_law_back", "_law_word", "_law_way_here"]) (sc := defScope s_law) (by decide +kernel)) (fun _ _ _ _ _ => (pg_name (i := 11) sc_law.nd rfl (Or.inl rfl))) (fun _ _ _ _ _ => pts_nil) (fun _ _ _ _ _ => (pe_op (WX.oK rCatA (K := K) (by rfl) op_catA) (pe_slice (WX.sK rSlA (K := K) (by rfl) sl_tupA) (pv 11) po_none (po_some pe_int)) (pe_tup (pa_cons (pe_lst (pa_cons (pe_tup (pa_cons pe_int (pa_cons pe_int (pa_cons pe_int (pa_cons pe_int pa_nil))))) pa_nil)) pa_nil))))) rfl)
    (pss_one (ps_dput (hu_of hr) (pv 2) pe_str pe_int rfl))) pss_nil)
    (pss_cons (ps_set (i := 3) sc_law.nd rfl (Or.inl rfl) (pe_call (ok__law_line T) (hr.mono (by decide)) rfl T.g__law_line T.d__law_line.kp (bi__law_line T) .nil passN (pa_cons (pv 2) pa_nil)))
    (pss_cons (ps_set (i := 4) sc_law.nd rfl (Or.inr rfl) (pv 3))
    (pss_cons (ps_set (i := 5) sc_law.nd rfl (Or.inl rfl) (pv 2))
    (pss_cons (ps_for (passes_of rfl) rfl (pi_range1 rfl T.f_range (pa_cons (pe_call (ok__law_draw T) (hr.mono (by decide)) rfl T.g__law_draw T.d__law_draw.kp (bi__law_draw T) .nil passN (pa_cons (pv 0) (pa_cons (pv 1) (pa_cons pe_int pa_nil)))) pa_nil)) (pg_name (i := 6) sc_law.nd rfl (Or.inl rfl)) (pss_cons (ps_set (i := 7) sc_law.nd rfl (Or.inr rfl) (pe_call (ok__law_change T) (hr.mono (by decide)) rfl T.g__law_change T.d__law_change.kp (bi__law_change T) .nil passN (pa_cons (pv 0) (pa_cons (pv 1) (pa_cons (pv 5) pa_nil)))))
    (pss_cons (ps_set (i := 8) sc_law.nd rfl (Or.inl rfl) (pe_call (ok__law_after T) (hr.mono (by decide)) rfl T.g__law_after T.d__law_after.kp (bi__law_after T) .nil passN (pa_cons (pv 5) (pa_cons (pv 7) pa_nil))))
    (pss_cons (ps_if (pt_val (pe_call (ok__law_can_be T) (hr.mono (by decide)) rfl T.g__law_can_be T.d__law_can_be.kp (bi__law_can_be T) .nil passN (pa_cons (pv 8) pa_nil))) (pss_cons (ps_set (i := 4) sc_law.nd rfl (Or.inr rfl) (pe_meth (pv 4) T.c_Line T.m_Line_changed (ok_Line_changed T) (hr.mono (by decide)) (bi_Line_changed T) .nil passN (pa_cons (pv 7) pa_nil)))
    (pss_one (ps_set (i := 5) sc_law.nd rfl (Or.inl rfl) (pv 8)))) (pss_one (ps_if (pt_cmpR (op_neD hr.units) (WX.pe_lamcall1 (k := 60) (c := c) (P := P) rfl T.g__law_told T.d__law_told (bi__law_told T) sc__law_told rfl (Or.inl rfl) (fun cdv => told_gives T TX) TB hc (hr.mono (by decide)) (LamX.lamS_by (by show LamX.lamSB (defScope s_law) _ = true; decide +kernel)) rfl (fun _ _ _ _ _ => rfl) (fun A outer s H E f c2 hr2 => (pe_meth (pv 4) T.c_Line T.m_Line_changed (ok_Line_changed T) (hr2.mono (by decide)) (bi_Line_changed T) .nil (passR rfl rfl rfl rfl) (pa_cons (pv 7) pa_nil)))) (pe_lst (pa_cons pe_str (pa_cons pe_str pa_nil))) (nomark _)) (pss_one (ps_ret pe_bl)) pss_nil)))
    (pss_one (ps_if (PW.pt (pw_or (pt_not (pt_val (pe_call (ok__law_same T) (hr.mono (by decide)) rfl T.g__law_same T.d__law_same.kp (bi__law_same T) .nil passN (pa_cons (pv 4) (pa_cons (pv 5) pa_nil))))) (pw_or1 (pt_cmpR (op_neG (neT_ins (ok_Line__eq__ T) fe_Line (T.feq "Line" (by decide)).1 (T.feq "Line" (by decide)).2 (T.neq "Line" (by decide)).1 (T.neq "Line" (by decide)).2 (bi_Line__eq__ T) passN) (hr.mono (by decide))) (pv 3) (pe_call (ok__law_line T) (hr.mono (by decide)) rfl T.g__law_line T.d__law_line.kp (bi__law_line T) .nil passN (pa_cons (pv 2) pa_nil)) (nomark _))))) (pss_one (ps_ret pe_bl)) pss_nil))))))
    (pss_cons (ps_if (PW.pt (pw_or (pt_not (pt_val (pe_call (ok__law_refused_hold T TX hc2 TB2) (hr.mono (by decide)) rfl T.g__law_refused_hold T.d__law_refused_hold.kp (bi__law_refused_hold T) .nil passN (pa_cons (pv 4) pa_nil)))) (pw_or1 (pt_not (pt_val (pe_call (ok__law_same T) (hr.mono (by decide)) rfl T.g__law_same T.d__law_same.kp (bi__law_same T) .nil passN (pa_cons (pv 4) (pa_cons (pv 5) pa_nil)))))))) (pss_one (ps_ret pe_bl)) pss_nil)
    (pss_cons (ps_set (i := 9) sc_law.nd rfl (Or.inl rfl) (pv 4))
    (pss_cons (ps_for (passes_of rfl) rfl (pi_list (pe_lst (pa_cons pe_str (pa_cons pe_str (pa_cons pe_str (pa_cons pe_str (pa_cons pe_str pa_nil))))))) (pg_name (i := 10) sc_law.nd rfl (Or.inl rfl)) (pss_one (ps_set (i := 9) sc_law.nd rfl (Or.inl rfl) (pe_meth (pv 9) T.c_Line T.m_Line_with_setting (ok_Line_with_setting T) (hr.mono (by decide)) (bi_Line_with_setting T) .nil passN (pa_cons (pv 10) (pa_cons (pe_dget (hu_of hr) (pv 2) (pv 10) (fun _ _ => rfl)) pa_nil))))))
    (pss_cons (ps_if (PW.pt (pw_or (pt_cmpR (op_neD hr.units) (pe_dget (hu_of hr) (pv 5) pe_str (fun _ _ => rfl)) (pe_dget (hu_of hr) (pv 2) pe_str (fun _ _ => rfl)) (nomark _)) (pw_or1 (pt_cmpR (op_neD hr.units) (pe_dget (hu_of hr) (pv 5) pe_str (fun _ _ => rfl)) (pe_dget (hu_of hr) (pv 2) pe_str (fun _ _ => rfl)) (nomark _))))) (pss_one (ps_ret pe_bl)) pss_nil)
    (pss_cons (ps_set (i := 9) sc_law.nd rfl (Or.inl rfl) (pe_meth (pe_meth (pv 9) T.c_Line T.m_Line_changed (ok_Line_changed T) (hr.mono (by decide)) (bi_Line_changed T) .nil passN (pa_cons (pe_tup (pa_cons pe_str (pa_cons (pe_dget (hu_of hr) (pv 2) pe_str (fun _ _ => rfl)) pa_nil))) pa_nil)) T.c_Line T.m_Line_with_setting (ok_Line_with_setting T) (hr.mono (by decide)) (bi_Line_with_setting T) .nil passN (pa_cons pe_str (pa_cons (pe_dget (hu_of hr) (pv 2) pe_str (fun _ _ => rfl)) pa_nil))))
    (pss_one (ps_ret (pe_cmpR (op_eqG (rcT_ins (ok_Line__eq__ T) fe_Line (T.feq "Line" (by decide)).1 (T.feq "Line" (by decide)).2 (bi_Line__eq__ T) passN) (hr.mono (by decide))) (pv 9) (pv 3) (nomark _)))))))))))))))), ?_⟩
    dsimp only [cxOf]
    have e0 : L2.start ["_law_script", "_law_state", "_law_raw_here", "_law_first", "_law_line_here", "_law_now", "_law_k", "_law_change_here", "_law_after_here", "_law_back", "_law_word", "_law_way_here"] [V.ref a] = [some (.ref a), none, none, none, none, none, none, none, none, none, none, none] := rfl
    rw [e0]
    refine start_law rfl hs fun st H1 ext hst hok => ?_
    let G : Env1 := { dr := some (a, st), ns := ns, T := [(P, qLW), (P2, qRH)] }
    have hG : G.dr = some (a, st) := rfl
    have m1 : (P, qLW) ∈ G.T := List.mem_cons_self ..
    have m2 : (P2, qRH) ∈ G.T := List.mem_cons_of_mem _ (List.mem_cons_self ..)
    have u1 : ∀ q ∈ G.T, q.1 = P → q.2 = qLW := fun q hq e => by
      rcases List.mem_cons.mp hq with rfl | hq
      · rfl
      · rw [List.mem_singleton.mp hq] at e
        exact absurd e.symm hne
    have u2 : ∀ q ∈ G.T, q.1 = P2 → q.2 = qRH := fun q hq e => by
      rcases List.mem_cons.mp hq with rfl | hq
      · exact absurd e hne
      · rw [List.mem_singleton.mp hq]
    have env : EnvOk K G G.sp H1 := by
      refine ⟨fun p hp => ?_, fun q hq => ?_, fun _ h => h, fun b hb => ?_⟩
      · cases hp
        refine ⟨⟨⟨?_, hlen⟩, hok⟩, fun sp => ?_⟩
        · rcases hs with (h | ⟨o, h⟩) | h
          · exact .inl (.inl (ext _ _ h))
          · exact .inl (.inr ⟨o, ext _ _ h⟩)
          · exact .inr h
        · have bad : ∀ o : HO, H a = some o → (∀ x, o ≠ .tbl x) → False := fun o ho hn => by
            rcases sp with ⟨p, hp, e⟩ | ⟨q, hq, e⟩
            · cases hp
              rw [show a = st from e, hst] at ho
              cases ho
            · rcases List.mem_cons.mp hq with rfl | hq
              · rw [show a = P from e, t1] at ho
                exact hn _ (Option.some.inj ho).symm
              · rw [List.mem_singleton.mp hq] at e
                rw [show a = P2 from e, t2] at ho
                exact hn _ (Option.some.inj ho).symm
          rcases hs with (h | ⟨o, h⟩) | h
          · exact (bad _ h fun x z => by cases z).elim
          · exact (bad _ h fun x z => by cases z).elim
          · exact fun H' => .inr h
      · rcases List.mem_cons.mp hq with rfl | hq
        · exact TabS.nil (ext _ _ t1)
        · rw [List.mem_singleton.mp hq]
          exact TabS.nil (ext _ _ t2)
      · rcases hb with ⟨p, hp, rfl⟩ | ⟨q, hq, rfl⟩
        · cases hp
          obtain ⟨_, _, _, _, e⟩ := hok
          intro z
          rw [e] at z
          cases z
        · intro z
          rcases List.mem_cons.mp hq with rfl | hq
          · rw [ext _ _ t1] at z
            cases z
          · rw [List.mem_singleton.mp hq, ext _ _ t2] at z
            cases z
    have s0 : RepS K G G.sp H1 G.sp H1 [some (.ref a), some (.ref st), none, none, none, none, none, none, none, none, none, none] [.d (.raw a), .d (.raw st), .un, .un, .un, .un, .un, .un, .un, .un, .un, .un] := by
      refine ⟨env, env, Le.refl _ _, fun _ h => h, rfl, fun i o t h1 h2 => ?_, fun i j b t t' e1 e2 f1 f2 o1 o2 => ?_⟩
      · match i with
        | 0 => cases h1; cases h2; exact ⟨_, rfl, .raw _⟩
        | 1 => cases h1; cases h2; exact ⟨_, rfl, .raw _⟩
        | 2 => cases h2; trivial
        | 3 => cases h2; trivial
        | 4 => cases h2; trivial
        | 5 => cases h2; trivial
        | 6 => cases h2; trivial
        | 7 => cases h2; trivial
        | 8 => cases h2; trivial
        | 9 => cases h2; trivial
        | 10 => cases h2; trivial
        | 11 => cases h2; trivial
        | n + 12 => cases h2
      · match i with
        | 0 => cases f1; cases o1
        | 1 => cases f1; cases o1
        | 2 => cases f1; cases o1
        | 3 => cases f1; cases o1
        | 4 => cases f1; cases o1
        | 5 => cases f1; cases o1
        | 6 => cases f1; cases o1
        | 7 => cases f1; cases o1
        | 8 => cases f1; cases o1
        | 9 => cases f1; cases o1
        | 10 => cases f1; cases o1
        | 11 => cases f1; cases o1
        | n + 12 => cases f1
    refine st_enter (G := G) (E := E) s0 qk ?_
    refine st_seq (st_asgO (eo_callN (ea_cons (ev_v ⟨_, rfl, ea_cons (ev_v ⟨_, rfl, ea_nil ⟨_, _, rfl, hG, fun r0 g0 => ?_⟩⟩)⟩))))
    refine st_mid (fun δ' => ∃ r, LOk r ∧ δ' = [Sl.d (.raw a), .d (.raw st), .odic (rawL r), .un, .un, .un, .un, .un, .un, .un, .un, .un]) (st_ifA ?_ ?_ ?_) ?_
    · repeat' walk_at "evd"
      all_goals trivial
    · refine st_seq (st_dput (i := 2) rfl (show 14 < 100000 by decide) (nd14 r0) (ev_map (ei_list (ev_dgetO (i := 2) rfl (ev_str ⟨_, _, rfl, rfl, _, rfl, ?_⟩)))))
      have hl := (raw_ok g0).base.ways.2
      refine ⟨by rw [List.length_map]; omega, boxIt, fun y hy => ?_, ?_⟩
      · obtain ⟨x, _, rfl⟩ := List.mem_map.mp hy
        refine tg_name (by decide) (ev_catT (ev_slT (ev_v ⟨_, rfl, es_none (es_some (ev_int ⟨_, rfl, _, rfl, ?_⟩))⟩)))
        rw [cut3]
        refine ev_tup (ea_cons (ev_lst (ea_cons (ev_tup (ea_cons (ev_int (ea_cons (ev_int (ea_cons (ev_int (ea_cons (ev_int (ea_nil ⟨(by show 4 ≤ 100000; omega), ea_nil ⟨(by show 1 ≤ 100000; omega), ea_nil ⟨(by show 1 ≤ 100000; omega), _, _, rfl, rfl, (by show 3 + 1 ≤ 100000; omega), rfl⟩⟩⟩)))))))))))))
      · refine ev_str ⟨_, rfl, ?_⟩
        rw [List.map_map]
        refine st_dput (i := 2) rfl (show 14 < 100000 by decide) (nd14 { r0 with ways := r0.ways.map fun x => { x with bx := [(0, 1, 5, 9)] } }) (ev_int (ev_str ⟨_, rfl, _, raw_boxed (raw_ok g0), ?_⟩))
        show _ = [_, _, Sl.odic (putA "turn" (.int 8) (putA "ways" (.lst ((r0.ways.map fun x : Wy => { x with bx := [((0 : Int), (1 : Int), (5 : Int), (9 : Int))] }).map rawW)) (rawL r0))), _, _, _, _, _, _, _, _, _]
        rw [List.map_map]
        rfl
    · exact st_next ⟨r0, raw_ok g0, rfl⟩
    rintro δ' ⟨r, ok, rfl⟩
    refine st_freezeD 2 rfl ?_
    refine st_seq (st_asg (ev_callN (ea_cons (ev_v ⟨_, rfl, ea_nil ⟨r, rfl, ok, ?_⟩⟩))))
    refine st_seq (st_asg (ev_v ⟨_, rfl, ?_⟩))
    refine st_seq (st_asg (ev_v ⟨_, rfl, ?_⟩))
    refine st_mid (fun δ' => ∃ (r' : Rw) (s6 s7 s8 : Sl), LOk r' ∧ Kpt r r' ∧ δ' = [Sl.d (.raw a), .d (.raw st), .d (.dic (rawL r)), .d (lineD r), .d (lineD r'), .d (.dic (rawL r')), s6, s7, s8, .un, .un, .un]) ?_ ?_
    · refine st_for (js := List.range 64) ?_
      refine ei_range1 (ea_cons (ev_callN (ea_cons (ev_v ⟨_, rfl, ea_cons (ev_v ⟨_, rfl, ea_cons (ev_int (ea_nil ⟨_, _, _, rfl, hG, by omega, by omega, fun q q0 q1 => ea_nil ⟨_, rfl, by omega, by omega, ?_⟩⟩))⟩)⟩))))
      refine ⟨fun _ δ' => ∃ (r' : Rw) (s6 s7 s8 : Sl), LOk r' ∧ Kpt r r' ∧ δ' = [Sl.d (.raw a), .d (.raw st), .d (.dic (rawL r)), .d (lineD r), .d (lineD r'), .d (.dic (rawL r')), s6, s7, s8, .un, .un, .un], ⟨r, _, _, _, ok, Kpt.refl r, rfl⟩, ?_, fun δ' h => h⟩
      rintro n y δ' hy ⟨r', s6, s7, s8, ok', kp, rfl⟩
      obtain ⟨hn, rfl⟩ := rangeD_get hy
      refine tg_name (by decide) ?_
      refine st_mid (fun δ' => ∃ c, ChOk r'.ways.length c ∧ δ' = [Sl.d (.raw a), .d (.raw st), .d (.dic (rawL r)), .d (lineD r), .d (lineD r'), .d (.dic (rawL r')), .d (.int (0 + (n : Nat))), .d c, s8, .un, .un, .un]) ?_ ?_
      · exact st_asg (ev_callN (ea_cons (ev_v ⟨_, rfl, ea_cons (ev_v ⟨_, rfl, ea_cons (ev_v ⟨_, rfl, ea_nil ⟨_, _, r', rfl, hG, ok'.base.ways, fun c hc => ⟨c, hc, rfl⟩⟩⟩)⟩)⟩)))
      rintro δ' ⟨ch, hch, rfl⟩
      obtain ⟨r2, af⟩ := aft_of hch
      obtain ⟨pre, kp2, hl2, made⟩ := aft_made ok' hch af
      obtain ⟨ow1, ow2⟩ := outW_pre pre
      refine st_seq (st_asgO (eo_callN (ea_cons (ev_v ⟨_, rfl, ea_cons (ev_v ⟨_, rfl, ea_nil ⟨r', ch, r2, rfl, ok'.ac, ok'.bl.2, af, ?_⟩⟩)⟩))))
      refine st_freezeD 8 rfl ?_
      refine st_mid (fun δ' => ∃ r3 : Rw, LOk r3 ∧ Kpt r r3 ∧ δ' = [Sl.d (.raw a), .d (.raw st), .d (.dic (rawL r)), .d (lineD r), .d (lineD r3), .d (.dic (rawL r3)), .d (.int (0 + (n : Nat))), .d ch, .d (.dic (rawL r2)), .un, .un, .un]) (st_if (et_test (ev_callN (ea_cons (ev_v ⟨_, rfl, ea_nil ⟨r2, rfl, _, rfl, ?_⟩⟩))))) ?_
      · cases hb : r2.ways.any (boxBad r2.turn) with
        | false =>
          refine ift rfl ?_
          refine st_seq (st_asg (ev_methN (ev_v ⟨_, rfl, _, rfl, rfl, ea_cons (ev_v ⟨_, rfl, ea_nil ⟨r', ch, rfl, made _ _ (made_ok (pre.ok hb) ?_)⟩⟩)⟩)))
          exact st_asg (ev_v ⟨_, rfl, r2, pre.ok hb, kp.trans kp2, rfl⟩)
        | true =>
          refine iff' rfl ?_
          refine st_if (et_test (ev_neS ?_))
          refine ev_told (R1 := fun _ => False) (ex1 := exOne "BadPart" "part" (.str "turn")) m1 u1 (fun i t h => ?_) (fun E => ?_) (fun _ h => h.elim) (fun c' f d hx => ?_)
          · match i, h with
            | 0, h => cases h; rfl
            | 1, h => cases h; rfl
            | 2, h => cases h; rfl
            | 3, h => cases h; rfl
            | 4, h => cases h; rfl
            | 5, h => cases h; rfl
            | 6, h => cases h; rfl
            | 7, h => cases h; rfl
            | 8, h => cases h; rfl
            | 9, h => cases h; rfl
            | 10, h => cases h; rfl
            | 11, h => cases h; rfl
          · exact ev_meth (ev_v ⟨_, rfl, _, rfl, rfl, ea_cons (ev_v ⟨_, rfl, ea_nil ⟨r', ch, rfl, made _ _ (made_bad pre.base (ow1 hb))⟩⟩)⟩)
          · obtain ⟨e1, e2, rfl⟩ := hx
            refine .inr (.inl ⟨e1, e2, ev_lst (ea_cons (ev_str (ea_cons (ev_str (ea_nil ⟨(by show 2 ≤ 100000; omega), rfl, .lst fun x hx => ?_, _, rfl, iff' rfl (st_next ⟨r', ok', kp, rfl⟩)⟩)))))⟩)
            simp only [List.mem_cons, List.not_mem_nil, or_false] at hx
            rcases hx with rfl | rfl
            · exact .str (by decide +kernel)
            · exact .str (by decide +kernel)
      rintro δ' ⟨r3, ok3, kp3, rfl⟩
      refine st_if (et_or (et_not (et_test (ev_callN (ea_cons (ev_v ⟨_, rfl, ea_cons (ev_v ⟨_, rfl, ea_nil ⟨r3, rfl, ok3, _, rfl, iff' rfl ?_⟩⟩)⟩))))))
      refine et_test (ev_neG (ev_v ⟨_, rfl, ev_callN (ea_cons (ev_v ⟨_, rfl, ea_nil ⟨r, rfl, ok, rfl, ⟨_, rfl, r, ok.base.mail, rfl⟩, _, rfl, iff' rfl (st_next ?_)⟩⟩))⟩))
      exact ⟨r3, _, _, _, ok3, kp3, rfl⟩
    rintro δ' ⟨r', s6, s7, s8, ok', kp, rfl⟩
    refine st_seq (st_if (et_or (et_not (et_test (ev_callN (ea_cons (ev_v ⟨_, rfl, ea_nil ⟨r', rfl, ok', ⟨m2, u2⟩, _, rfl, iff' rfl ?_⟩⟩)))))))
    refine et_not (et_test (ev_callN (ea_cons (ev_v ⟨_, rfl, ea_cons (ev_v ⟨_, rfl, ea_nil ⟨r', rfl, ok', _, rfl, iff' rfl (st_next ?_)⟩⟩)⟩))))
    refine st_seq (st_asg (ev_v ⟨_, rfl, ?_⟩))
    refine st_mid (fun δ' => ∃ s10, δ' = [Sl.d (.raw a), .d (.raw st), .d (.dic (rawL r)), .d (lineD r), .d (lineD r'), .d (.dic (rawL r')), s6, s7, s8, .d (lineD (stp r r' 5)), s10, .un]) ?_ ?_
    · refine st_for (js := List.range 64) (ei_list (ev_lst (ea_cons (ev_str (ea_cons (ev_str (ea_cons (ev_str (ea_cons (ev_str (ea_cons (ev_str (ea_nil ⟨(by show 5 ≤ 100000; omega), _, rfl, ?_⟩)))))))))))))
      refine ⟨fun n δ' => ∃ s10, δ' = [Sl.d (.raw a), .d (.raw st), .d (.dic (rawL r)), .d (lineD r), .d (lineD r'), .d (.dic (rawL r')), s6, s7, s8, .d (lineD (stp r r' n)), s10, .un], ⟨_, rfl⟩, ?_, fun δ' h => h⟩
      rintro n y δ' hy ⟨s10, rfl⟩
      have hk := stp_ok ok ok' (n + 1)
      match n, hy with
      | 0, hy =>
        cases hy
        refine tg_name (by decide) (st_asg (ev_methN (ev_v ⟨_, rfl, _, rfl, rfl, ea_cons (ev_v ⟨_, rfl, ea_cons (ev_dget (ev_v ⟨_, rfl, ev_v ⟨_, rfl, _, _, _, rfl, rfl, rfl, ea_nil ⟨stp r r' 0, "period", _, rfl, .inl ⟨stp r r' 1, _, _, .period r.period, hk.base, (fun z e => by cases hk.out.symm.trans e), fun _ => ?_⟩⟩⟩⟩))⟩)⟩)))
        exact ⟨_, rfl⟩
      | 1, hy =>
        cases hy
        refine tg_name (by decide) (st_asg (ev_methN (ev_v ⟨_, rfl, _, rfl, rfl, ea_cons (ev_v ⟨_, rfl, ea_cons (ev_dget (ev_v ⟨_, rfl, ev_v ⟨_, rfl, _, _, _, rfl, rfl, rfl, ea_nil ⟨stp r r' 1, "head", _, rfl, .inl ⟨stp r r' 2, _, _, .head r.head, hk.base, (fun z e => by cases hk.out.symm.trans e), fun _ => ?_⟩⟩⟩⟩))⟩)⟩)))
        exact ⟨_, rfl⟩
      | 2, hy =>
        cases hy
        refine tg_name (by decide) (st_asg (ev_methN (ev_v ⟨_, rfl, _, rfl, rfl, ea_cons (ev_v ⟨_, rfl, ea_cons (ev_dget (ev_v ⟨_, rfl, ev_v ⟨_, rfl, _, _, _, rfl, rfl, rfl, ea_nil ⟨stp r r' 2, "numbers", _, rfl, .inl ⟨stp r r' 3, _, _, .numbers r.numbers, hk.base, (fun z e => by cases hk.out.symm.trans e), fun _ => ?_⟩⟩⟩⟩))⟩)⟩)))
        exact ⟨_, rfl⟩
      | 3, hy =>
        cases hy
        refine tg_name (by decide) (st_asg (ev_methN (ev_v ⟨_, rfl, _, rfl, rfl, ea_cons (ev_v ⟨_, rfl, ea_cons (ev_dget (ev_v ⟨_, rfl, ev_v ⟨_, rfl, _, _, _, rfl, rfl, rfl, ea_nil ⟨stp r r' 3, "quiet", _, rfl, .inl ⟨stp r r' 4, _, _, .quiet r.quiet, hk.base, (fun z e => by cases hk.out.symm.trans e), fun _ => ?_⟩⟩⟩⟩))⟩)⟩)))
        exact ⟨_, rfl⟩
      | 4, hy =>
        cases hy
        refine tg_name (by decide) (st_asg (ev_methN (ev_v ⟨_, rfl, _, rfl, rfl, ea_cons (ev_v ⟨_, rfl, ea_cons (ev_dget (ev_v ⟨_, rfl, ev_v ⟨_, rfl, _, _, _, rfl, rfl, rfl, ea_nil ⟨stp r r' 4, "losses", _, rfl, .inl ⟨stp r r' 5, _, _, .losses r.losses, hk.base, (fun z e => by cases hk.out.symm.trans e), fun _ => ?_⟩⟩⟩⟩))⟩)⟩)))
        exact ⟨_, rfl⟩
      | n + 5, hy => cases hy
    rintro δ' ⟨s10, rfl⟩
    refine st_seq (st_if (et_or (et_test (ev_neN (ev_dget (ev_v ⟨_, rfl, ev_str ⟨_, _, _, rfl, rfl, rfl, ev_dget (ev_v ⟨_, rfl, ev_str ⟨_, _, _, rfl, rfl, rfl, pl_ways _, pl_ways _, fun e => ?_, fun _ => ⟨_, rfl, ift rfl (ift rfl (st_ret (ev_bl rfl)))⟩⟩⟩)⟩⟩))))))
    refine ⟨_, rfl, iff' rfl (et_test (ev_neN (ev_dget (ev_v ⟨_, rfl, ev_str ⟨_, _, _, rfl, rfl, rfl, ev_dget (ev_v ⟨_, rfl, ev_str ⟨_, _, _, rfl, rfl, rfl, pl_intl _, pl_intl _, fun e2 => ?_, fun _ => ⟨_, rfl, ift rfl (st_ret (ev_bl rfl))⟩⟩⟩)⟩⟩))))⟩
    refine ⟨_, rfl, iff' rfl (st_next ?_)⟩
    have ew : r'.ways = r.ways := map_inj rawW_inj (D.lst.inj e)
    have eb : r'.bnds = r.bnds := map_inj (fun _ _ => D.int.inj) (D.lst.inj e2)
    have k5 := stp_ok ok ok' 5
    have k6 := size_ok ok k5
    have k7 := turn_ok ok k6 ew
    refine st_seq (st_asg (ev_methN (ev_methN (ev_v ⟨_, rfl, _, rfl, rfl, ea_cons (ev_tup (ea_cons (ev_str (ea_cons (ev_dget (ev_v ⟨_, rfl, ev_str ⟨_, _, _, rfl, rfl, rfl, ea_nil ⟨(by show 2 ≤ 100000; omega), ea_nil ⟨stp r r' 5, _, rfl, .room r.size (fun _ => made_ok k6 ?_) fun h => ?_⟩⟩⟩⟩))))))⟩))))
    · refine ⟨_, rfl, rfl, ea_cons (ev_str (ea_cons (ev_dget (ev_v ⟨_, rfl, ev_str ⟨_, _, _, rfl, rfl, rfl, ea_nil ⟨_, "turn", _, rfl,   .inl ⟨{ { stp r r' 5 with size := r.size } with turn := r.turn }, _, _, .turn r.turn, k7.base, (fun z e => by cases k7.out.symm.trans e), fun _ => ?_⟩⟩⟩⟩))))⟩
      have efin : ({ { stp r r' 5 with size := r.size } with turn := r.turn } : Rw) = r := rw_eq (by
        obtain ⟨h1, h2, h3, h4, h5, h6, h7⟩ := kp
        exact ⟨h1, h2, h3, h4, rfl, h6, rfl⟩) ew rfl rfl rfl eb rfl rfl
      rw [efin]
      exact st_ret (ev_eqG (ev_v ⟨_, rfl, ev_v ⟨_, rfl, rfl, ⟨_, rfl, r, ok.base.mail, rfl⟩, rfl⟩⟩))
    · rw [btw_t ok.sz] at h
      cases h
end
end WK
end
set_option Elab.async false
set_option linter.all false
set_option maxRecDepth 100000
set_option maxHeartbeats 0
namespace WK
open PySem PySem.Spec PyProof.Rows L2 WL He
theorem txtX_of {w : World} {K : PySem.W.Frag} (b : BitsOk w K) : TxtX K := ⟨fun c hc c' hc' => of_decide_eq_true (HX.all_of (HX.all_of b.kx c hc) c' hc')⟩
theorem law_at {K : PySem.W.Frag} {mg : Str → Option Value} {w : World} {h : Heap} {fa : Addr} (X : K.In h) (G : h.Ns mainGlobals mg) (hfa : mg ("law" : Str) = some (.ref fa)) (c : HX.SaysX HK w K h) :
    LamX.LawAtS PySem.Challenge.rw_wholeline_k80_whole_lines_changed w K (L2.CX PG w) 100 63 "_law_script" mg fa h := by
  have b : BitsOk w K := bits_ok c.bits
  have T : Txt K mg w := txt_of X G c b
  have TX := txtX_of b
  have e := hfa.symm.trans T.g_law
  cases e
  obtain ⟨⟨oc, od, fd, osl, c1, e1, e2, e3⟩, e4, e5⟩ := c.lam ("law", none) (by decide)
  obtain ⟨⟨oc2, od2, fd2, osl2, c2, g1, g2, g3⟩, g4, g5⟩ := c.lam ("_law_refused_hold", none) (by decide)
  have f1 : fdOf K ("law", none) = fd := by
    unfold fdOf
    rw [e1]
  have f2 : fdOf K ("_law_refused_hold", none) = fd2 := by
    unfold fdOf
    rw [g1]
  have hne : HX.lamP K ("law", none) ≠ HX.lamP K ("_law_refused_hold", none) := of_decide_eq_true b.lam
  have bnd := FunD.bindsA (ps := ["_law_script"]) T.d_law fun _ _ _ _ _ _ us hl => match us, hl with | [_], _ => rfl
  refine ⟨fdOf K ("law", none), [(c1, HX.lamP K ("law", none)), (c2, HX.lamP K ("_law_refused_hold", none))], spLaw K (HX.lamP K ("law", none)) (HX.lamP K ("_law_refused_hold", none)), ?_, ?_, ?_, fun s u => bnd s [u] rfl, ?_, ?_⟩
  · intro p hp
    rcases List.mem_cons.mp hp with rfl | hp
    · exact e4
    · rw [List.mem_singleton.mp hp]; exact g4
  · intro p hp
    rcases List.mem_cons.mp hp with rfl | hp
    · exact e5
    · rw [List.mem_singleton.mp hp]; exact g5
  · intro p hp
    rcases List.mem_cons.mp hp with rfl | hp
    · exact e3
    · rw [List.mem_singleton.mp hp]; exact g3
  · intro H a ns hl _ hT hS
    exact ⟨a, ns, rfl, hl, hS, hT _ (List.mem_cons_self ..), hT _ (List.mem_cons_of_mem _ (List.mem_cons_self ..)), fun _ => rfl⟩
  · intro base _ _ hB
    exact ok_law T TX (by rw [f1]; exact e2) (hB (c1, _) (List.mem_cons_self ..)) (by rw [f2]; exact g2) (hB (c2, _) (List.mem_cons_of_mem _ (List.mem_cons_self ..))) hne
end WK
theorem PySem.Challenge.cw_wholeline_k80_whole_lines_changed_holds : PySem.Challenge.rw_wholeline_k80_whole_lines_changed.Holds := by
  exact KH.fin fun X G hfa c => WK.law_at X G hfa c
