import PyProof.Rows.All
import Wide.All
import OpenK.AllK
import Wide.FinOn
import HandS.ForMost
import HandS.ForExc
import HandS.ExcOwn
import HandS.TryOnly
import HandS.TryMany
import HandS.TupLe
import HandS.Wide
import HandS.IsInst
import HandS.Strs
import HandS.Zip
import HandS.Walk
import HandS.TupAny
import PyProof.StrOps2
import HandS.SetFor
import HandS.StrMore
import KE.GoesEnum
import KE.KDictZip
import HandS.RevTup
import HandS.Style
import HandS.SortInts
import HandS.Dict
import HandS.HotCalls
import HandS.ExcIs
import HandS.Exc
import HandS.Conv
import HandS.Text
import PyProof.InstSpecial
import KE.GoesMore
import PySem.Challenge.RW_sizewords_k11_whole_formats
set_option Elab.async false
set_option linter.all false
set_option maxRecDepth 100000
set_option maxHeartbeats 4000000
namespace Sz
open PySem PySem.Spec PyProof.Rows L2

/-! ## data, owned objects, outcomes -/
inductive D where
  | non | bl (b : Bool) | int (i : Int) | str (s : List Nat) | tup (l : List D) | lst (l : List D) | ref (i : Nat) | scr (ns : List Int) | val (v : V)
inductive Ob where
  | lst (l : List D) | ins (fs : List (Str × D)) | dct (kvs : List (List Nat × D)) | gone
abbrev Mem := List Ob
abbrev Ev := List (Option D)
/-- where the owned objects stand, by number; others that may not be told of -/
structure Rh where
  ix : List (Option Addr)
  bl : List Addr
def Rh.Own (r : Rh) (a : Addr) : Prop := some a ∈ r.ix ∨ a ∈ r.bl
def Rh.push (r : Rh) (a : Addr) : Rh := ⟨r.ix ++ [some a], r.bl⟩
def Rh.blk (r : Rh) (a : Addr) : Rh := ⟨r.ix, a :: r.bl⟩
inductive Out (α : Type) where
  | ok (a : α) (m : Mem) | er (x : Nat) (m : Mem) | bad
inductive SO where
  | nx (e : Ev) (m : Mem) | rt (d : D) (m : Mem) | bk (e : Ev) (m : Mem) | ct (e : Ev) (m : Mem) | er (x : Nat) (e : Ev) (m : Mem) | bad

def Out.bind {α β : Type} (o : Out α) (f : α → Mem → Out β) : Out β := match o with
  | .ok a m => f a m
  | .er x m => .er x m
  | .bad => .bad
@[simp] theorem bind_ok {α β : Type} {a : α} {m : Mem} {f : α → Mem → Out β} : (Out.ok a m).bind f = f a m := rfl
@[simp] theorem bind_er {α β : Type} {x : Nat} {m : Mem} {f : α → Mem → Out β} : (Out.er x m).bind f = .er x m := rfl
@[simp] theorem bind_bad {α β : Type} {f : α → Mem → Out β} : (Out.bad).bind f = .bad := rfl
/-- an expression's outcome, then a statement's -/
def Out.thn {α : Type} (o : Out α) (e : Ev) (f : α → Mem → SO) : SO := match o with
  | .ok a m => f a m
  | .er x m => .er x e m
  | .bad => .bad
@[simp] theorem thn_ok {α : Type} {a : α} {m : Mem} {e : Ev} {f : α → Mem → SO} : (Out.ok a m).thn e f = f a m := rfl
@[simp] theorem thn_er {α : Type} {x : Nat} {m : Mem} {e : Ev} {f : α → Mem → SO} : (Out.er x m).thn e f = .er x e m := rfl
@[simp] theorem thn_bad {α : Type} {e : Ev} {f : α → Mem → SO} : (Out.bad).thn e f = .bad := rfl

/-! ## how data stand for values -/
/-- the written part, the class of tallies, the own error classes -/
structure Cn where
  K : PySem.W.Frag
  tc : Addr
  ec : Nat → Value
mutual
inductive Rep (c : Cn) (r : Rh) (H : Hp) : D → V → Prop
  | non : Rep c r H .non .non
  | bl (b : Bool) : Rep c r H (.bl b) (.bl b)
  | int (i : Int) : Rep c r H (.int i) (.int i)
  | str (s : List Nat) : Rep c r H (.str s) (.str ⟨s.toArray⟩)
  | tup {a : Addr} {vs : List V} {ds : List D} : H a = some (.tup vs) → ¬ r.Own a → Reps c r H ds vs → Rep c r H (.tup ds) (.ref a)
  | lst {a : Addr} {vs : List V} {ds : List D} : H a = some (.lst vs) → ¬ r.Own a → Reps c r H ds vs → Rep c r H (.lst ds) (.ref a)
  | scr {a : Addr} {o : Obj} {ns : List Int} : H a = some (.frz o (.lst (ns.map V.int))) → ¬ r.Own a → Rep c r H (.scr ns) (.ref a)
  | scrK {a : Addr} {ns : List Int} : (∀ H0, SqL c.K H0 a (ns.map V.int)) → Rep c r H (.scr ns) (.ref a)
  | ref {i : Nat} {a : Addr} : r.ix[i]? = some (some a) → Rep c r H (.ref i) (.ref a)
  | gone {i : Nat} {v : V} : r.ix[i]? = some none → Rep c r H (.ref i) v
  | val (v : V) : Rep c r H (.val v) v
inductive Reps (c : Cn) (r : Rh) (H : Hp) : List D → List V → Prop
  | nil : Reps c r H [] []
  | cons {d : D} {v : V} {ds : List D} {vs : List V} : Rep c r H d v → Reps c r H ds vs → Reps c r H (d :: ds) (v :: vs)
end
/-- later: objects that are not owned stay; owned ones may be given up; new owned ones are new -/
structure Le (r : Rh) (H : Hp) (r' : Rh) (H' : Hp) : Prop where
  ix : ∀ (i : Nat) (x : Option Addr), r.ix[i]? = some x → r'.ix[i]? = some x ∨ r'.ix[i]? = some none
  own : ∀ a, r'.Own a → r.Own a ∨ H a = none
  keep : ∀ b o, ¬ r.Own b → H b = some o → H' b = some o
  dom : ∀ b, H' b = none → H b = none
structure Ext (r : Rh) (H : Hp) (r' : Rh) (H' : Hp) : Prop extends Le r H r' H' where
  bl : r'.bl = r.bl
  keepB : ∀ b ∈ r.bl, ∀ o, H b = some o → H' b = some o
theorem Ext.refl (r : Rh) (H : Hp) : Ext r H r H := ⟨⟨fun _ _ h => .inl h, fun _ h => .inl h, fun _ _ _ h => h, fun _ h => h⟩, rfl, fun _ _ _ h => h⟩
section
variable {c : Cn} {r r1 r2 : Rh} {H H1 H2 : Hp}
theorem Le.off (x : Le r H r1 H1) {b : Addr} {o : HO} (n : ¬ r.Own b) (h : H b = some o) : ¬ r1.Own b := fun q => by
  rcases x.own b q with z | z
  · exact n z
  · rw [h] at z; cases z
theorem Le.trans (x : Le r H r1 H1) (y : Le r1 H1 r2 H2) : Le r H r2 H2 where
  ix := fun i z h => by
    rcases x.ix i z h with q | q
    · exact y.ix i z q
    · rcases y.ix i _ q with w | w
      · exact .inr w
      · exact .inr w
  own := fun a h => by
    rcases y.own a h with q | q
    · exact x.own a q
    · exact .inr (x.dom a q)
  keep := fun b o n h => y.keep b o (x.off n h) (x.keep b o n h)
  dom := fun b h => x.dom b (y.dom b h)
theorem Ext.off (x : Ext r H r1 H1) {b : Addr} {o : HO} (n : ¬ r.Own b) (h : H b = some o) : ¬ r1.Own b := x.toLe.off n h
theorem Ext.trans (x : Ext r H r1 H1) (y : Ext r1 H1 r2 H2) : Ext r H r2 H2 := ⟨x.toLe.trans y.toLe, y.bl.trans x.bl, fun b hb o h => y.keepB b (by rw [x.bl]; exact hb) o (x.keepB b hb o h)⟩
mutual
theorem Rep.le (x : Le r H r1 H1) : ∀ {d : D} {v : V}, Rep c r H d v → Rep c r1 H1 d v
  | _, _, .non => .non
  | _, _, .bl b => .bl b
  | _, _, .int i => .int i
  | _, _, .str s => .str s
  | _, _, .tup h n q => .tup (x.keep _ _ n h) (x.off n h) (Reps.le x q)
  | _, _, .lst h n q => .lst (x.keep _ _ n h) (x.off n h) (Reps.le x q)
  | _, _, .scr h n => .scr (x.keep _ _ n h) (x.off n h)
  | _, _, .scrK h => .scrK h
  | _, _, .ref h => by
    rcases x.ix _ _ h with q | q
    · exact .ref q
    · exact .gone q
  | _, _, .gone h => by
    rcases x.ix _ _ h with q | q
    · exact .gone q
    · exact .gone q
  | _, _, .val v => .val v
theorem Reps.le (x : Le r H r1 H1) : ∀ {ds : List D} {vs : List V}, Reps c r H ds vs → Reps c r1 H1 ds vs
  | _, _, .nil => .nil
  | _, _, .cons h t => .cons (Rep.le x h) (Reps.le x t)
end
theorem Rep.ext (x : Ext r H r1 H1) {d : D} {v : V} (h : Rep c r H d v) : Rep c r1 H1 d v := h.le x.toLe
theorem Reps.ext (x : Ext r H r1 H1) {ds : List D} {vs : List V} (h : Reps c r H ds vs) : Reps c r1 H1 ds vs := h.le x.toLe
theorem Reps.length : ∀ {ds : List D} {vs : List V}, Reps c r H ds vs → ds.length = vs.length
  | _, _, .nil => rfl
  | _, _, .cons _ t => by rw [List.length_cons, List.length_cons, Reps.length t]
theorem Reps.get : ∀ {ds : List D} {vs : List V} {i : Nat} {d : D}, Reps c r H ds vs → ds[i]? = some d → ∃ v, vs[i]? = some v ∧ Rep c r H d v
  | _, _, _, _, .nil, e => by simp at e
  | _, _, 0, _, .cons h _, e => by simp at e; subst e; exact ⟨_, rfl, h⟩
  | _, _, i + 1, d, .cons _ t, e => by
    obtain ⟨v, h1, h2⟩ := Reps.get (i := i) (d := d) t (by simpa using e)
    exact ⟨v, by simpa using h1, h2⟩
theorem Reps.back : ∀ {ds : List D} {vs : List V} {i : Nat} {v : V}, Reps c r H ds vs → vs[i]? = some v → ∃ d, ds[i]? = some d ∧ Rep c r H d v
  | _, _, _, _, .nil, e => by simp at e
  | _, _, 0, _, .cons h _, e => by simp at e; subst e; exact ⟨_, rfl, h⟩
  | _, _, i + 1, d, .cons _ t, e => by
    obtain ⟨v, h1, h2⟩ := Reps.back (i := i) t (by simpa using e)
    exact ⟨v, by simpa using h1, h2⟩
theorem Reps.append : ∀ {ds es : List D} {vs us : List V}, Reps c r H ds vs → Reps c r H es us → Reps c r H (ds ++ es) (vs ++ us)
  | _, _, _, _, .nil, s => s
  | _, _, _, _, .cons h t, s => .cons h (Reps.append t s)
theorem Reps.take : ∀ {ds : List D} {vs : List V} (n : Nat), Reps c r H ds vs → Reps c r H (ds.take n) (vs.take n)
  | _, _, 0, _ => .nil
  | _, _, _ + 1, .nil => .nil
  | _, _, n + 1, .cons h t => .cons h (Reps.take n t)
theorem Reps.drop : ∀ {ds : List D} {vs : List V} (n : Nat), Reps c r H ds vs → Reps c r H (ds.drop n) (vs.drop n)
  | _, _, 0, h => h
  | _, _, _ + 1, .nil => .nil
  | _, _, n + 1, .cons _ t => Reps.drop n t
theorem Reps.set {d : D} {v : V} (h : Rep c r H d v) : ∀ {ds : List D} {vs : List V} (i : Nat), Reps c r H ds vs → Reps c r H (ds.set i d) (vs.set i v)
  | _, _, _, .nil => .nil
  | _, _, 0, .cons _ t => .cons h t
  | _, _, i + 1, .cons q t => .cons q (Reps.set h i t)
theorem Reps.ints : ∀ ns : List Int, Reps c r H (ns.map D.int) (ns.map V.int)
  | [] => .nil
  | n :: ns => .cons (.int n) (Reps.ints ns)
end

def FRep (c : Cn) (r : Rh) (H : Hp) : List (Str × D) → List (Str × V) → Prop
  | [], [] => True
  | (x, d) :: fs, (y, v) :: gs => x = y ∧ Rep c r H d v ∧ FRep c r H fs gs
  | _, _ => False
theorem FRep.le {c : Cn} {r r1 : Rh} {H H1 : Hp} (x : Le r H r1 H1) : ∀ {fs : List (Str × D)} {gs : List (Str × V)}, FRep c r H fs gs → FRep c r1 H1 fs gs
  | [], [], _ => True.intro
  | (_, _) :: _, (_, _) :: _, ⟨h1, h2, h3⟩ => ⟨h1, h2.le x, FRep.le x h3⟩
  | [], _ :: _, h => h.elim
  | _ :: _, [], h => h.elim
/-- a dict with texts as keys -/
def kvR (c : Cn) (r : Rh) (H : Hp) : List (List Nat × D) → List (Key × V) → Prop
  | [], [] => True
  | (x, d) :: fs, (y, v) :: gs => y = .inr ⟨x.toArray⟩ ∧ Rep c r H d v ∧ kvR c r H fs gs
  | _, _ => False
theorem kvR.le {c : Cn} {r r1 : Rh} {H H1 : Hp} (x : Le r H r1 H1) : ∀ {fs : List (List Nat × D)} {gs : List (Key × V)}, kvR c r H fs gs → kvR c r1 H1 fs gs
  | [], [], _ => True.intro
  | (_, _) :: _, (_, _) :: _, ⟨h1, h2, h3⟩ => ⟨h1, h2.le x, kvR.le x h3⟩
  | [], _ :: _, h => h.elim
  | _ :: _, [], h => h.elim
def ObAt (c : Cn) (r : Rh) (H : Hp) : Option Addr → Ob → Prop
  | some a, .lst l => ∃ vs, H a = some (.lst vs) ∧ Reps c r H l vs
  | some a, .ins fs => ∃ dx gs, H a = some (.ins c.tc dx gs) ∧ FRep c r H fs gs
  | some a, .dct fs => ∃ gs, H a = some (.dK gs) ∧ kvR c r H fs gs
  | none, .gone => True
  | _, _ => False
theorem ObAt.le {c : Cn} {r r1 : Rh} {H H1 : Hp} (x : Le r H r1 H1) {oa : Option Addr} {o : Ob} (h : ObAt c r H oa o) (e : ∀ a, oa = some a → H1 a = H a) : ObAt c r1 H1 oa o := by
  cases oa with
  | none => cases o <;> exact h
  | some a =>
    cases o with
    | lst l =>
      obtain ⟨vs, h1, h2⟩ := h
      exact ⟨vs, (e a rfl).trans h1, h2.le x⟩
    | ins fs =>
      obtain ⟨dx, gs, h1, h2⟩ := h
      exact ⟨dx, gs, (e a rfl).trans h1, h2.le x⟩
    | dct fs =>
      obtain ⟨gs, h1, h2⟩ := h
      exact ⟨gs, (e a rfl).trans h1, h2.le x⟩
    | gone => exact h.elim
structure MemOk (c : Cn) (r : Rh) (H : Hp) (m : Mem) : Prop where
  len : r.ix.length = m.length
  at' : ∀ (i : Nat) (oa : Option Addr) (o : Ob), r.ix[i]? = some oa → m[i]? = some o → ObAt c r H oa o
  nd : ∀ (i j : Nat) (a : Addr), r.ix[i]? = some (some a) → r.ix[j]? = some (some a) → i = j
  dj : ∀ a ∈ r.bl, some a ∉ r.ix ∧ ∃ o, H a = some o
section
variable {c : Cn} {r r1 : Rh} {H H1 : Hp} {m : Mem}
theorem MemOk.get (h : MemOk c r H m) {i : Nat} {o : Ob} (e : m[i]? = some o) : ∃ oa, r.ix[i]? = some oa ∧ ObAt c r H oa o := by
  obtain ⟨hi, _⟩ := List.getElem?_eq_some_iff.mp e
  have hi' : i < r.ix.length := by rw [h.len]; exact hi
  exact ⟨r.ix[i], List.getElem?_eq_getElem hi', h.at' i _ o (List.getElem?_eq_getElem hi') e⟩
theorem MemOk.lst (h : MemOk c r H m) {i : Nat} {l : List D} (e : m[i]? = some (.lst l)) : ∃ a vs, r.ix[i]? = some (some a) ∧ H a = some (.lst vs) ∧ Reps c r H l vs := by
  obtain ⟨oa, h1, h2⟩ := h.get e
  cases oa with
  | none => exact h2.elim
  | some a =>
    obtain ⟨vs, h3, h4⟩ := h2
    exact ⟨a, vs, h1, h3, h4⟩
theorem MemOk.ins (h : MemOk c r H m) {i : Nat} {fs : List (Str × D)} (e : m[i]? = some (.ins fs)) : ∃ a dx gs, r.ix[i]? = some (some a) ∧ H a = some (.ins c.tc dx gs) ∧ FRep c r H fs gs := by
  obtain ⟨oa, h1, h2⟩ := h.get e
  cases oa with
  | none => exact h2.elim
  | some a =>
    obtain ⟨dx, gs, h3, h4⟩ := h2
    exact ⟨a, dx, gs, h1, h3, h4⟩
theorem MemOk.dct (h : MemOk c r H m) {i : Nat} {fs : List (List Nat × D)} (e : m[i]? = some (.dct fs)) : ∃ a gs, r.ix[i]? = some (some a) ∧ H a = some (.dK gs) ∧ kvR c r H fs gs := by
  obtain ⟨oa, h1, h2⟩ := h.get e
  cases oa with
  | none => exact h2.elim
  | some a =>
    obtain ⟨gs, h3, h4⟩ := h2
    exact ⟨a, gs, h1, h3, h4⟩
/-- an owned address stands in the heap -/
theorem MemOk.there0 (h : MemOk c r H m) {a : Addr} (q : some a ∈ r.ix) : ∃ o, H a = some o := by
  obtain ⟨i, hi, e⟩ := List.mem_iff_getElem.mp q
  have hi' : i < m.length := by rw [← h.len]; exact hi
  have z := h.at' i (some a) m[i] (by rw [List.getElem?_eq_getElem hi, e]) (List.getElem?_eq_getElem hi')
  cases k : m[i] with
  | lst l => rw [k] at z; obtain ⟨vs, h1, _⟩ := z; exact ⟨_, h1⟩
  | ins fs => rw [k] at z; obtain ⟨dx, gs, h1, _⟩ := z; exact ⟨_, h1⟩
  | dct fs => rw [k] at z; obtain ⟨gs, h1, _⟩ := z; exact ⟨_, h1⟩
  | gone => rw [k] at z; exact z.elim
theorem MemOk.there (h : MemOk c r H m) {a : Addr} (q : r.Own a) : ∃ o, H a = some o := by
  rcases q with q | q
  · exact h.there0 q
  · exact (h.dj a q).2
/-- a new object that is not owned -/
theorem Ext.new {p : Addr} {o : HO} (hp : H p = none) : Ext r H r (upd H p o) :=
  ⟨⟨fun _ _ h => .inl h, fun _ h => .inl h, fun b u _ h => by rw [upd_ne (ne_of_none h hp)]; exact h, fun b h => by
    by_cases e : b = p
    · rw [e, upd_same] at h; cases h
    · rw [upd_ne e] at h; exact h⟩, rfl, fun b _ u h => by rw [upd_ne (ne_of_none h hp)]; exact h⟩
theorem MemOk.off (h : MemOk c r H m) {p : Addr} (hp : H p = none) : ¬ r.Own p := fun q => by
  obtain ⟨o, e⟩ := h.there q
  rw [hp] at e; cases e
theorem upd_there {p a : Addr} {o : HO} (h : ∃ u, H a = some u) : ∃ u, (upd H p o) a = some u := by
  by_cases e : a = p
  · exact ⟨o, by rw [e, upd_same]⟩
  · rw [upd_ne e]; exact h
theorem MemOk.new {p : Addr} {o : HO} (h : MemOk c r H m) (hp : H p = none) : MemOk c r (upd H p o) m :=
  ⟨h.len, fun i oa ob e1 e2 => (h.at' i oa ob e1 e2).le (Ext.new hp (r := r)).toLe fun a ea => by
    subst ea
    obtain ⟨u, hu⟩ := h.there0 (List.mem_of_getElem? e1)
    rw [upd_ne (ne_of_none hu hp)], h.nd, fun a ha => ⟨(h.dj a ha).1, upd_there (h.dj a ha).2⟩⟩
/-- a new object that is owned -/
theorem Ext.push {p : Addr} {o : HO} (hp : H p = none) : Ext r H (r.push p) (upd H p o) := by
  refine ⟨⟨fun i x h => .inl ?_, fun a h => ?_, (Ext.new hp (r := r)).keep, (Ext.new hp (r := r)).dom⟩, rfl, (Ext.new hp (r := r)).keepB⟩
  · obtain ⟨hi, e⟩ := List.getElem?_eq_some_iff.mp h
    show (r.ix ++ [some p])[i]? = _
    rw [List.getElem?_append_left hi]; exact h
  · rcases h with h | h
    · rcases List.mem_append.mp h with q | q
      · exact .inl (.inl q)
      · have e : a = p := by simpa using q
        exact .inr (by rw [e]; exact hp)
    · exact .inl (.inr h)
theorem MemOk.pushO {p : Addr} {o : HO} {ob : Ob} (h : MemOk c r H m) (hp : H p = none) (q : ObAt c (r.push p) (upd H p o) (some p) ob) : MemOk c (r.push p) (upd H p o) (m ++ [ob]) := by
  have x : Ext r H (r.push p) (upd H p o) := Ext.push hp
  refine ⟨by show (r.ix ++ [some p]).length = _; rw [List.length_append, List.length_append, h.len]; rfl, fun i oa ob e1 e2 => ?_, fun i j a e1 e2 => ?_, fun a ha => ⟨fun z => ?_, upd_there (h.dj a ha).2⟩⟩
  · replace e1 : (r.ix ++ [some p])[i]? = some oa := e1
    by_cases hi : i < r.ix.length
    · rw [List.getElem?_append_left hi] at e1
      rw [List.getElem?_append_left (by rw [← h.len]; exact hi)] at e2
      refine (h.at' i oa ob e1 e2).le x.toLe fun a ea => ?_
      subst ea
      obtain ⟨u, hu⟩ := h.there0 (List.mem_of_getElem? e1)
      rw [upd_ne (ne_of_none hu hp)]
    · have hl : i = r.ix.length := by
        obtain ⟨z, _⟩ := List.getElem?_eq_some_iff.mp e1
        rw [List.length_append, List.length_singleton] at z
        omega
      subst hl
      rw [List.getElem?_append_right (Nat.le_refl _)] at e1
      rw [h.len, List.getElem?_append_right (Nat.le_refl _)] at e2
      simp at e1 e2
      subst e1; subst e2
      exact q
  · have out : ∀ k, (r.ix ++ [some p])[k]? = some (some a) → (k < r.ix.length ∧ r.ix[k]? = some (some a)) ∨ (k = r.ix.length ∧ a = p) := fun k e => by
      by_cases hk : k < r.ix.length
      · rw [List.getElem?_append_left hk] at e; exact .inl ⟨hk, e⟩
      · obtain ⟨z, _⟩ := List.getElem?_eq_some_iff.mp e
        rw [List.length_append, List.length_singleton] at z
        have hl : k = r.ix.length := by omega
        subst hl
        rw [List.getElem?_append_right (Nat.le_refl _)] at e
        simp at e
        exact .inr ⟨rfl, e.symm⟩
    rcases out i e1 with ⟨h1, q1⟩ | ⟨h1, q1⟩ <;> rcases out j e2 with ⟨h2, q2⟩ | ⟨h2, q2⟩
    · exact h.nd i j a q1 q2
    · subst q2; exact absurd (.inl (List.mem_of_getElem? q1)) (h.off hp)
    · subst q1; exact absurd (.inl (List.mem_of_getElem? q2)) (h.off hp)
    · rw [h1, h2]
  · rcases List.mem_append.mp z with k | k
    · exact (h.dj a ha).1 k
    · have e : a = p := by simpa using k
      exact h.off hp (e ▸ .inr ha)
theorem MemOk.push {p : Addr} {l : List D} {vs : List V} (h : MemOk c r H m) (hp : H p = none) (q : Reps c r H l vs) : MemOk c (r.push p) (upd H p (.lst vs)) (m ++ [.lst l]) :=
  h.pushO hp ⟨vs, upd_same, q.ext (Ext.push hp)⟩
theorem push_get {p : Addr} : (r.push p).ix[r.ix.length]? = some (some p) := by
  show (r.ix ++ [some p])[r.ix.length]? = _
  rw [List.getElem?_append_right (Nat.le_refl _)]
  simp
/-- an owned list is written -/
theorem Le.putO {a : Addr} {o : HO} (e : r.Own a) : Le r H r (upd H a o) :=
  ⟨fun _ _ h => .inl h, fun _ h => .inl h, fun b u n h => by
    rw [upd_ne (fun z => n (by rw [z]; exact e))]; exact h, fun b h => by
    by_cases q : b = a
    · rw [q, upd_same] at h; cases h
    · rw [upd_ne q] at h; exact h⟩
theorem Ext.put {i : Nat} {a : Addr} {o : HO} (h : MemOk c r H m) (e : r.ix[i]? = some (some a)) : Ext r H r (upd H a o) :=
  ⟨Le.putO (.inl (List.mem_of_getElem? e)), rfl, fun b hb u q => by
    rw [upd_ne (fun z : b = a => (h.dj b hb).1 (by rw [z]; exact List.mem_of_getElem? e))]; exact q⟩
theorem MemOk.putO {i : Nat} {a : Addr} {o : HO} {ob : Ob} (h : MemOk c r H m) (e : r.ix[i]? = some (some a)) (q : ObAt c r (upd H a o) (some a) ob) : MemOk c r (upd H a o) (m.set i ob) := by
  have x : Le r H r (upd H a o) := Le.putO (.inl (List.mem_of_getElem? e))
  refine ⟨by rw [List.length_set]; exact h.len, fun j oa ob e1 e2 => ?_, h.nd, fun a ha => ⟨(h.dj a ha).1, upd_there (h.dj a ha).2⟩⟩
  by_cases hj : j = i
  · subst hj
    rw [e] at e1
    cases e1
    obtain ⟨z, _⟩ := List.getElem?_eq_some_iff.mp e
    rw [List.getElem?_set_self (by rw [← h.len]; exact z)] at e2
    cases e2
    exact q
  · rw [List.getElem?_set_ne (Ne.symm hj)] at e2
    refine (h.at' j oa ob e1 e2).le x fun b eb => ?_
    subst eb
    rw [upd_ne (fun z : b = a => hj (h.nd j i a (by rw [← z]; exact e1) e))]
theorem MemOk.put {i : Nat} {a : Addr} {l : List D} {vs : List V} (h : MemOk c r H m) (e : r.ix[i]? = some (some a)) (q : Reps c r H l vs) : MemOk c r (upd H a (.lst vs)) (m.set i (.lst l)) :=
  h.putO e ⟨vs, upd_same, q.le (Le.putO (.inl (List.mem_of_getElem? e)))⟩
/-- a new object that may not be told of -/
theorem Le.blk {p : Addr} {o : HO} (hp : H p = none) : Le r H (r.blk p) (upd H p o) := by
  refine ⟨fun i x h => .inl h, fun a h => ?_, (Ext.new hp (r := r)).keep, (Ext.new hp (r := r)).dom⟩
  rcases h with h | h
  · exact .inl (.inl h)
  · rcases List.mem_cons.mp h with q | q
    · exact .inr (by rw [q]; exact hp)
    · exact .inl (.inr q)
theorem MemOk.blk {p : Addr} {o : HO} (h : MemOk c r H m) (hp : H p = none) : MemOk c (r.blk p) (upd H p o) m :=
  ⟨h.len, fun i oa ob e1 e2 => (h.at' i oa ob e1 e2).le (Le.blk hp) fun a ea => by
    subst ea
    obtain ⟨u, hu⟩ := h.there0 (List.mem_of_getElem? e1)
    rw [upd_ne (ne_of_none hu hp)], h.nd, fun a ha => by
      rcases List.mem_cons.mp ha with q | q
      · subst q; exact ⟨fun z => h.off hp (.inl z), o, upd_same⟩
      · exact ⟨(h.dj a q).1, upd_there (h.dj a q).2⟩⟩
/-- it is written -/
theorem MemOk.putB {a : Addr} {o : HO} (h : MemOk c r H m) (e : a ∈ r.bl) : MemOk c r (upd H a o) m :=
  ⟨h.len, fun i oa ob e1 e2 => (h.at' i oa ob e1 e2).le (Le.putO (.inr e)) fun b eb => by
    subst eb
    rw [upd_ne (fun z : b = a => (h.dj a e).1 (by rw [← z]; exact List.mem_of_getElem? e1))], h.nd, fun b hb => ⟨(h.dj b hb).1, upd_there (h.dj b hb).2⟩⟩
/-- it may be told of again -/
def Rh.unblk (r : Rh) : Rh := ⟨r.ix, r.bl.tail⟩
theorem unblk_own {a : Addr} (h : r.unblk.Own a) : r.Own a := by
  rcases h with h | h
  · exact .inl h
  · exact .inr (List.mem_of_mem_tail h)
mutual
theorem Rep.unblk : ∀ {d : D} {v : V}, Rep c r H d v → Rep c r.unblk H d v
  | _, _, .non => .non
  | _, _, .bl b => .bl b
  | _, _, .int i => .int i
  | _, _, .str s => .str s
  | _, _, .tup h n q => .tup h (fun z => n (unblk_own z)) (Reps.unblk q)
  | _, _, .lst h n q => .lst h (fun z => n (unblk_own z)) (Reps.unblk q)
  | _, _, .scr h n => .scr h (fun z => n (unblk_own z))
  | _, _, .scrK h => .scrK h
  | _, _, .ref h => .ref h
  | _, _, .gone h => .gone h
  | _, _, .val v => .val v
theorem Reps.unblk : ∀ {ds : List D} {vs : List V}, Reps c r H ds vs → Reps c r.unblk H ds vs
  | _, _, .nil => .nil
  | _, _, .cons h t => .cons (Rep.unblk h) (Reps.unblk t)
end
theorem FRep.unblk : ∀ {fs : List (Str × D)} {gs : List (Str × V)}, FRep c r H fs gs → FRep c r.unblk H fs gs
  | [], [], _ => True.intro
  | (_, _) :: _, (_, _) :: _, ⟨h1, h2, h3⟩ => ⟨h1, h2.unblk, FRep.unblk h3⟩
  | [], _ :: _, h => h.elim
  | _ :: _, [], h => h.elim
theorem kvR.unblk : ∀ {fs : List (List Nat × D)} {gs : List (Key × V)}, kvR c r H fs gs → kvR c r.unblk H fs gs
  | [], [], _ => True.intro
  | (_, _) :: _, (_, _) :: _, ⟨h1, h2, h3⟩ => ⟨h1, h2.unblk, kvR.unblk h3⟩
  | [], _ :: _, h => h.elim
  | _ :: _, [], h => h.elim
theorem MemOk.unblk (h : MemOk c r H m) : MemOk c r.unblk H m :=
  ⟨h.len, fun i oa ob e1 e2 => by
    have q := h.at' i oa ob e1 e2
    cases oa with
    | none => cases ob <;> exact q
    | some a =>
      cases ob with
      | lst l =>
        obtain ⟨vs, h1, h2⟩ := q
        exact ⟨vs, h1, h2.unblk⟩
      | ins fs =>
        obtain ⟨dx, gs, h1, h2⟩ := q
        exact ⟨dx, gs, h1, h2.unblk⟩
      | dct fs =>
        obtain ⟨gs, h1, h2⟩ := q
        exact ⟨gs, h1, h2.unblk⟩
      | gone => exact q.elim, h.nd, fun a ha => h.dj a (List.mem_of_mem_tail ha)⟩
end

/-! ## the slots -/
structure EnvOk (c : Cn) (r : Rh) (H : Hp) (e : Ev) (s : L2.St) : Prop where
  len : e.length = s.length
  at' : ∀ (i : Nat) (d : D), e[i]? = some (some d) → ∃ v, s[i]? = some (some v) ∧ Rep c r H d v
theorem EnvOk.le {c : Cn} {r r1 : Rh} {H H1 : Hp} {e : Ev} {s : L2.St} (h : EnvOk c r H e s) (x : Le r H r1 H1) : EnvOk c r1 H1 e s :=
  ⟨h.len, fun i d q => let ⟨v, h1, h2⟩ := h.at' i d q; ⟨v, h1, h2.le x⟩⟩
theorem EnvOk.ext {c : Cn} {r r1 : Rh} {H H1 : Hp} {e : Ev} {s : L2.St} (h : EnvOk c r H e s) (x : Ext r H r1 H1) : EnvOk c r1 H1 e s := h.le x.toLe
theorem EnvOk.set {c : Cn} {r : Rh} {H : Hp} {e : Ev} {s : L2.St} {d : D} {v : V} (h : EnvOk c r H e s) (i : Nat) (q : Rep c r H d v) : EnvOk c r H (e.set i (some d)) (s.set i (some v)) := by
  refine ⟨by rw [List.length_set, List.length_set, h.len], fun j u hj => ?_⟩
  by_cases e1 : j = i
  · subst e1
    obtain ⟨z, _⟩ := List.getElem?_eq_some_iff.mp hj
    rw [List.length_set] at z
    rw [List.getElem?_set_self z] at hj
    cases hj
    exact ⟨v, by rw [List.getElem?_set_self (by rw [← h.len]; exact z)], q⟩
  · rw [List.getElem?_set_ne (Ne.symm e1)] at hj ⊢
    exact h.at' j u hj

/-! ## what is wanted of an outcome -/
section
variable (c : Cn) (W : WX)
def G {α β : Type} (R : Rh → Hp → α → β → Prop) (s : L2.St) (r : Rh) (H : Hp) (o : Out α) (Q : β → Hp → Prop) : Prop := match o with
  | .ok a m => ∀ r' H' b, Ext r H r' H' → MemOk c r' H' m → R r' H' a b → Q b H'
  | .er x m => ∀ r' H', Ext r H r' H' → MemOk c r' H' m → W (c.ec x) none s H'
  | .bad => False
def RB : Rh → Hp → Bool → Bool → Prop := fun _ _ a b => a = b
def GS (r : Rh) (H : Hp) (o : SO) (Dn : Ends) : Prop := match o with
  | .nx e m => ∀ r' H' s', Ext r H r' H' → MemOk c r' H' m → EnvOk c r' H' e s' → Dn.nx s' H'
  | .bk e m => ∀ r' H' s', Ext r H r' H' → MemOk c r' H' m → EnvOk c r' H' e s' → Dn.bk s' H'
  | .ct e m => ∀ r' H' s', Ext r H r' H' → MemOk c r' H' m → EnvOk c r' H' e s' → Dn.ct s' H'
  | .rt d m => ∀ r' H' v, Ext r H r' H' → MemOk c r' H' m → Rep c r' H' d v → Dn.rt v H'
  | .er x e m => ∀ r' H' s', Ext r H r' H' → MemOk c r' H' m → EnvOk c r' H' e s' → W (c.ec x) none s' H'
  | .bad => False
end
section
variable {c : Cn} {W : WX} {s : L2.St} {r r1 : Rh} {H H1 : Hp}
theorem G.mono {α β : Type} {R : Rh → Hp → α → β → Prop} {o : Out α} {Q : β → Hp → Prop} (x : Ext r H r1 H1) (h : G c W R s r H o Q) : G c W R s r1 H1 o Q := by
  cases o with
  | ok a m => exact fun r' H' b y => h r' H' b (x.trans y)
  | er e m => exact fun r' H' y => h r' H' (x.trans y)
  | bad => exact h
theorem GS.mono {o : SO} {Dn : Ends} (x : Ext r H r1 H1) (h : GS c W r H o Dn) : GS c W r1 H1 o Dn := by
  cases o with
  | nx a m => exact fun r' H' b y => h r' H' b (x.trans y)
  | bk a m => exact fun r' H' b y => h r' H' b (x.trans y)
  | ct a m => exact fun r' H' b y => h r' H' b (x.trans y)
  | rt a m => exact fun r' H' b y => h r' H' b (x.trans y)
  | er e a m => exact fun r' H' b y => h r' H' b (x.trans y)
  | bad => exact h
theorem G.bind {α β γ δ : Type} {R : Rh → Hp → α → β → Prop} {R2 : Rh → Hp → γ → δ → Prop} {o : Out α} {f : α → Mem → Out γ} {Q : δ → Hp → Prop} {S : β → Hp → Prop} (h : G c W R2 s r H (o.bind f) Q)
    (k : ∀ a m r' H' b, Ext r H r' H' → MemOk c r' H' m → R r' H' a b → G c W R2 s r' H' (f a m) Q → S b H') : G c W R s r H o S := by
  cases o with
  | ok a m => exact fun r' H' b x y z => k a m r' H' b x y z (G.mono x h)
  | er e m => exact h
  | bad => exact h
theorem G.thn {α β : Type} {R : Rh → Hp → α → β → Prop} {o : Out α} {e : Ev} {f : α → Mem → SO} {Dn : Ends} {S : β → Hp → Prop} (he : EnvOk c r H e s) (h : GS c W r H (o.thn e f) Dn)
    (k : ∀ a m r' H' b, Ext r H r' H' → MemOk c r' H' m → R r' H' a b → GS c W r' H' (f a m) Dn → S b H') : G c W R s r H o S := by
  cases o with
  | ok a m => exact fun r' H' b x y z => k a m r' H' b x y z (GS.mono x h)
  | er e m => exact fun r' H' x y => h r' H' s x y (he.ext x)
  | bad => exact h
/-- an end without a change of the heap -/
theorem G.here {α β : Type} {R : Rh → Hp → α → β → Prop} {a : α} {b : β} {m : Mem} {Q : β → Hp → Prop} (h : G c W R s r H (.ok a m) Q) (k : MemOk c r H m) (q : R r H a b) : Q b H := h r H b (Ext.refl r H) k q
end

/-! ## the judgements -/
def EX (c : Cn) (X : Cx) (W : WX) (e : Expr) (f : Ev → Mem → Out D) : Prop :=
  ∃ t : TE, PE X e t ∧ ∀ r H m env s Q, MemOk c r H m → EnvOk c r H env s → G c W (Rep c) s r H (f env m) Q → t s H Q
def TX (c : Cn) (X : Cx) (W : WX) (e : Expr) (f : Ev → Mem → Out Bool) : Prop :=
  ∃ t : TT, PT X e t ∧ ∀ r H m env s Q, MemOk c r H m → EnvOk c r H env s → G c W RB s r H (f env m) Q → t s H Q
def WXX (c : Cn) (X : Cx) (W : WX) (e : Expr) (f : Ev → Mem → Out Bool) : Prop :=
  ∃ t : TT, PW X e t ∧ ∀ r H m env s Q, MemOk c r H m → EnvOk c r H env s → G c W RB s r H (f env m) Q → t s H Q
def AX (c : Cn) (X : Cx) (W : WX) (es : List Expr) (f : Ev → Mem → Out (List D)) : Prop :=
  ∃ t : TA, PA X es t ∧ ∀ r H m env s Q, MemOk c r H m → EnvOk c r H env s → G c W (Reps c) s r H (f env m) Q → t s H Q
def SX (c : Cn) (X : Cx) (W : WX) (st : Stmt) (f : Ev → Mem → SO) : Prop :=
  ∃ t : TS, PS X st t ∧ ∀ r H m env s Dn, MemOk c r H m → EnvOk c r H env s → GS c W r H (f env m) Dn → t Dn s H
def BX (c : Cn) (X : Cx) (W : WX) (st : List Stmt) (f : Ev → Mem → SO) : Prop :=
  ∃ t : TS, PSs X st t ∧ ∀ r H m env s Dn, MemOk c r H m → EnvOk c r H env s → GS c W r H (f env m) Dn → t Dn s H
end Sz

namespace Sz
open PySem PySem.Spec PyProof.Rows L2

/-! ## semantics of expressions -/
def sVar (i : Nat) : Ev → Mem → Out D := fun e m => match e[i]? with
  | some (some d) => .ok d m
  | _ => .bad
def sC (d : D) : Ev → Mem → Out D := fun _ m => .ok d m
def sBin (g : D → D → Mem → Out D) (fa fb : Ev → Mem → Out D) : Ev → Mem → Out D := fun e m =>
  (fa e m).bind fun a m1 => (fb e m1).bind fun b m2 => g a b m2
def sUn (g : D → Mem → Out D) (fa : Ev → Mem → Out D) : Ev → Mem → Out D := fun e m => (fa e m).bind g
def asB : D → Mem → Out Bool := fun d m => match d with
  | .bl b => .ok b m
  | _ => .bad
def sTest (f : Ev → Mem → Out D) : Ev → Mem → Out Bool := fun e m => (f e m).bind asB
def sAndT (f g : Ev → Mem → Out Bool) : Ev → Mem → Out Bool := fun e m => (f e m).bind fun b m1 => if b then g e m1 else .ok false m1
def sOrT (f g : Ev → Mem → Out Bool) : Ev → Mem → Out Bool := fun e m => (f e m).bind fun b m1 => if b then .ok true m1 else g e m1
def sNotT (f : Ev → Mem → Out Bool) : Ev → Mem → Out Bool := fun e m => (f e m).bind fun b m1 => .ok (!b) m1
def sAnd (f g : Ev → Mem → Out D) : Ev → Mem → Out D := fun e m => (f e m).bind fun d m1 => (asB d m1).bind fun b m2 => if b then g e m2 else .ok (.bl false) m2
def sOr (f g : Ev → Mem → Out D) : Ev → Mem → Out D := fun e m => (f e m).bind fun d m1 => (asB d m1).bind fun b m2 => if b then .ok (.bl true) m2 else g e m2
def sNot (f : Ev → Mem → Out D) : Ev → Mem → Out D := fun e m => (f e m).bind fun d m1 => (asB d m1).bind fun b m2 => .ok (.bl (!b)) m2
def sIfE (t : Ev → Mem → Out Bool) (f g : Ev → Mem → Out D) : Ev → Mem → Out D := fun e m => (t e m).bind fun b m1 => if b then f e m1 else g e m1
/-- two comparisons in a row -/
def sChain (g h : D → D → Mem → Out D) (fa fb fc : Ev → Mem → Out D) : Ev → Mem → Out D := fun e m =>
  (fa e m).bind fun a m1 => (fb e m1).bind fun b m2 => (g a b m2).bind fun d m3 => (asB d m3).bind fun k m4 => if k then (fc e m4).bind fun x m5 => h b x m5 else .ok (.bl false) m4
def sNil : Ev → Mem → Out (List D) := fun _ m => .ok [] m
def sCons (f : Ev → Mem → Out D) (g : Ev → Mem → Out (List D)) : Ev → Mem → Out (List D) := fun e m => (f e m).bind fun a m1 => (g e m1).bind fun l m2 => .ok (a :: l) m2
def sTup (f : Ev → Mem → Out (List D)) : Ev → Mem → Out D := fun e m => (f e m).bind fun l m1 => if l.length ≤ 1000 then .ok (.tup l) m1 else .bad
def sLst (f : Ev → Mem → Out (List D)) : Ev → Mem → Out D := fun e m => (f e m).bind fun l m1 => if l.length ≤ 1000 then .ok (.lst l) m1 else .bad
/-- a list that will be changed: owned -/
def sLstO (f : Ev → Mem → Out (List D)) : Ev → Mem → Out D := fun e m => (f e m).bind fun l m1 => if l.length ≤ 1000 then .ok (.ref m1.length) (m1 ++ [.lst l]) else .bad
/-- a call of a builtin, by values -/
def sCB (g : List D → Mem → Out D) (f : Ev → Mem → Out (List D)) : Ev → Mem → Out D := fun e m => (f e m).bind g

/-- the items of a list that may be read -/
def rdL (m : Mem) : D → Option (List D)
  | .lst l => some l
  | .ref i => match m[i]? with
    | some (.lst l) => some l
    | _ => none
  | .scr ns => some (ns.map D.int)
  | _ => none
/-- .. tracked itself -/
def rdO (m : Mem) : D → Option (List D)
  | .lst l => some l
  | .ref i => match m[i]? with
    | some (.lst l) => some l
    | _ => none
  | _ => none

def sI2 (C : Int → Int → Bool) (g : Int → Int → D) : D → D → Mem → Out D := fun a b m => match a, b with
  | .int i, .int j => if C i j then .ok (g i j) m else .bad
  | _, _ => .bad
abbrev gSub := sI2 (fun _ _ => true) fun i j => .int (i - j)
def mulC (i j : Int) : Bool := decide (-18446744073709551616 < i ∧ i < 18446744073709551616) || decide (-18446744073709551616 < j ∧ j < 18446744073709551616) || (decide (i.natAbs < 2 ^ 400) && decide (j.natAbs < 2 ^ 400))
def divC (_ j : Int) : Bool := decide (0 < j) && decide (j < 18446744073709551616)
def modC (_ j : Int) : Bool := decide (0 < j)
def powC (i j : Int) : Bool := decide (0 ≤ j) && decide (j ≤ 1000) && decide (-18446744073709551616 < i ∧ i < 18446744073709551616)
abbrev gDiv := sI2 divC fun i j => .int (i / j)
abbrev gMod := sI2 modC fun i j => .int (i % j)
abbrev gPow := sI2 powC fun i j => .int (i ^ j.toNat)
abbrev gLtI := sI2 (fun _ _ => true) fun i j => .bl (decide (i < j))
abbrev gLe := sI2 (fun _ _ => true) fun i j => .bl (decide (i ≤ j))
abbrev gGt := sI2 (fun _ _ => true) fun i j => .bl (decide (j < i))
abbrev gGe := sI2 (fun _ _ => true) fun i j => .bl (decide (j ≤ i))
def gNeg : D → Mem → Out D := fun a m => match a with
  | .int i => .ok (.int (-i)) m
  | _ => .bad

/-! ## the rules -/
section
variable {c : Cn} {X : Cx} {W : WX} {a b d e : Expr} {es : List Expr} {pos : Pos} {fa fb fc : Ev → Mem → Out D}

theorem ex_var (i : Nat) {x : Str} {pos : Pos} (h : PE X (.Name x pos) (tVar i)) : EX c X W (.Name x pos) (sVar i) := by
  refine ⟨_, h, fun r H m env s Q hm he hg => ?_⟩
  unfold sVar at hg
  split at hg
  · rename_i d e
    obtain ⟨v, h1, h2⟩ := he.at' i d e
    exact ⟨v, h1, hg.here hm h2⟩
  · exact hg.elim
theorem ex_c {d : D} {v : V} (h : PE X e (tC v)) (q : ∀ r H, Rep c r H d v) : EX c X W e (sC d) := by
  refine ⟨_, h, fun r H m env s Q hm he hg => ?_⟩
  exact G.here (b := v) hg hm (q r H)
theorem ex_int {i : Int} {j : Nat} : EX c X W (.Constant (.int i) j pos) (sC (.int i)) := ex_c pe_int fun _ _ => .int i
theorem ex_bl {i : Bool} {j : Nat} : EX c X W (.Constant (.bool i) j pos) (sC (.bl i)) := ex_c pe_bl fun _ _ => .bl i
theorem ex_non {j : Nat} : EX c X W (.Constant .none j pos) (sC .non) := ex_c pe_non fun _ _ => .non
theorem ex_str {x : Str} {j : Nat} (l : List Nat) (h : x = ⟨l.toArray⟩) : EX c X W (.Constant (.str x) j pos) (sC (.str l)) := by
  subst h
  exact ex_c pe_str fun _ _ => .str l
theorem ex_globI {x : Str} {i : Int} {t : Tok} (hg : Gl X x) (hm : X.mg x = some (.int i t)) (hd : (x == ("__debug__" : Str)) = false := by decide) : EX c X W (.Name x pos) (sC (.int i)) :=
  ex_c (pe_glob (v := .int i) hg hm ⟨_, rfl⟩ hd) fun _ _ => .int i
theorem ex_globS {x : Str} {z : Str} {t : Tok} (l : List Nat) (h : z = ⟨l.toArray⟩) (hg : Gl X x) (hm : X.mg x = some (.str z t)) (hd : (x == ("__debug__" : Str)) = false := by decide) : EX c X W (.Name x pos) (sC (.str l)) := by
  subst h
  exact ex_c (pe_glob (v := .str ⟨l.toArray⟩) hg hm ⟨_, rfl⟩ hd) fun _ _ => .str l

/-- an operator by values -/
def OpS (c : Cn) (W : WX) (g : D → D → Mem → Out D) (rr : R2) : Prop :=
  ∀ s r H m da db x y Q, MemOk c r H m → Rep c r H da x → Rep c r H db y → G c W (Rep c) s r H (g da db m) Q → rr x y H Q
theorem bin_sound {ta tb : TE} {g : D → D → Mem → Out D} {rr : R2} (hs : OpS c W g rr)
    (ha : ∀ r H m env s Q, MemOk c r H m → EnvOk c r H env s → G c W (Rep c) s r H (fa env m) Q → ta s H Q) (hb : ∀ r H m env s Q, MemOk c r H m → EnvOk c r H env s → G c W (Rep c) s r H (fb env m) Q → tb s H Q) :
    ∀ r H m env s Q, MemOk c r H m → EnvOk c r H env s → G c W (Rep c) s r H (sBin g fa fb env m) Q → tOp rr ta tb s H Q := by
  intro r H m env s Q hm he hg
  refine ha r H m env s _ hm he (G.bind hg fun a1 m1 r1 H1 x x1 hm1 q1 hg1 => ?_)
  refine hb r1 H1 m1 env s _ hm1 (he.ext x1) (G.bind hg1 fun b1 m2 r2 H2 y x2 hm2 q2 hg2 => ?_)
  exact hs s r2 H2 m2 a1 b1 x y Q hm2 (q1.ext x2) q2 hg2
theorem ex_op {op : Operator} {g : D → D → Mem → Out D} {rr : R2} (ho : OpR X (binaryOp op) rr) (hs : OpS c W g rr) (ha : EX c X W a fa) (hb : EX c X W b fb) : EX c X W (.BinOp a op b pos) (sBin g fa fb) := by
  obtain ⟨ta, pa, qa⟩ := ha
  obtain ⟨tb, pb, qb⟩ := hb
  exact ⟨_, pe_op ho pa pb, bin_sound hs qa qb⟩
theorem ex_cmp {op : CmpOp} {g : D → D → Mem → Out D} {rr : R2} (ho : OpR X (compareOp op) rr) (hs : OpS c W g rr) (ha : EX c X W a fa) (hb : EX c X W b fb) (hm : behindInMarks op b = false) : EX c X W (.Compare a [op] [b] pos) (sBin g fa fb) := by
  obtain ⟨ta, pa, qa⟩ := ha
  obtain ⟨tb, pb, qb⟩ := hb
  exact ⟨_, pe_cmpR ho pa pb hm, bin_sound hs qa qb⟩
theorem test_sound {t : TE} {f : Ev → Mem → Out D} (hf : ∀ r H m env s Q, MemOk c r H m → EnvOk c r H env s → G c W (Rep c) s r H (f env m) Q → t s H Q) :
    ∀ r H m env s Q, MemOk c r H m → EnvOk c r H env s → G c W RB s r H (sTest f env m) Q → tTest t s H Q := by
  intro r H m env s Q hm he hg
  refine hf r H m env s _ hm he (G.bind hg fun a1 m1 r1 H1 x x1 hm1 q1 hg1 => ?_)
  unfold asB at hg1
  split at hg1
  · cases q1
    exact ⟨_, rfl, G.here hg1 hm1 rfl⟩
  · exact hg1.elim
theorem tx_cmp {op : CmpOp} {g : D → D → Mem → Out D} {rr : R2} (ho : OpR X (compareOp op) rr) (hs : OpS c W g rr) (ha : EX c X W a fa) (hb : EX c X W b fb) (hm : behindInMarks op b = false) : TX c X W (.Compare a [op] [b] pos) (sTest (sBin g fa fb)) := by
  obtain ⟨ta, pa, qa⟩ := ha
  obtain ⟨tb, pb, qb⟩ := hb
  exact ⟨_, pt_cmpR ho pa pb hm, test_sound (bin_sound hs qa qb)⟩
/-- an expression whose value is a bool, as a test -/
theorem tx_val (h : EX c X W e fa) (he : ∀ whole, isTrue e X.env whole = (do let v ← whole; standAt e.pos; holding [v] (truthy v)) := by intro _; rfl) : TX c X W e (sTest fa) := by
  obtain ⟨ta, pa, qa⟩ := h
  exact ⟨_, pt_val pa he, test_sound qa⟩
theorem chain_sound {ta tb tc : TE} {g h : D → D → Mem → Out D} {rr rs : R2} (hs : OpS c W g rr) (hs' : OpS c W h rs)
    (ha : ∀ r H m env s Q, MemOk c r H m → EnvOk c r H env s → G c W (Rep c) s r H (fa env m) Q → ta s H Q) (hb : ∀ r H m env s Q, MemOk c r H m → EnvOk c r H env s → G c W (Rep c) s r H (fb env m) Q → tb s H Q)
    (hc : ∀ r H m env s Q, MemOk c r H m → EnvOk c r H env s → G c W (Rep c) s r H (fc env m) Q → tc s H Q) :
    ∀ r H m env s Q, MemOk c r H m → EnvOk c r H env s → G c W (Rep c) s r H (sChain g h fa fb fc env m) Q → tChain rr rs ta tb tc s H Q := by
  intro r H m env s Q hm he hg
  refine ha r H m env s _ hm he (G.bind hg fun a1 m1 r1 H1 x x1 hm1 q1 hg1 => ?_)
  refine hb r1 H1 m1 env s _ hm1 (he.ext x1) (G.bind hg1 fun b1 m2 r2 H2 y x2 hm2 q2 hg2 => ?_)
  refine hs s r2 H2 m2 a1 b1 x y _ hm2 (q1.ext x2) q2 (G.bind hg2 fun d1 m3 r3 H3 z x3 hm3 q3 hg3 => ?_)
  unfold asB at hg3
  split at hg3
  · rename_i k
    cases q3
    refine ⟨k, rfl, ?_⟩
    cases k with
    | true =>
      refine iteT ?_
      have he3 := ((he.ext x1).ext x2).ext x3
      refine hc r3 H3 m3 env s _ hm3 he3 (G.bind hg3 fun c1 m4 r4 H4 w x4 hm4 q4 hg4 => ?_)
      exact hs' s r4 H4 m4 b1 c1 y w Q hm4 ((q2.ext x3).ext x4) q4 hg4
    | false =>
      refine iteF ?_
      exact G.here (b := V.bl false) hg3 hm3 (.bl false)
  · exact hg3.elim
theorem ex_chain {op op' : CmpOp} {g h : D → D → Mem → Out D} {rr rs : R2} (ho : OpR X (compareOp op) rr) (hs : OpS c W g rr) (ho' : OpR X (compareOp op') rs) (hs' : OpS c W h rs) (ha : EX c X W a fa) (hb : EX c X W b fb) (hc : EX c X W d fc)
    (hm : lastMarks [op, op'] [b, d] = false := by with_unfolding_all rfl) : EX c X W (.Compare a [op, op'] [b, d] pos) (sChain g h fa fb fc) := by
  obtain ⟨ta, pa, qa⟩ := ha
  obtain ⟨tb, pb, qb⟩ := hb
  obtain ⟨tc, pc, qc⟩ := hc
  exact ⟨_, pe_chain ho ho' pa pb pc hm, chain_sound hs hs' qa qb qc⟩
theorem tx_chain {op op' : CmpOp} {g h : D → D → Mem → Out D} {rr rs : R2} (ho : OpR X (compareOp op) rr) (hs : OpS c W g rr) (ho' : OpR X (compareOp op') rs) (hs' : OpS c W h rs) (ha : EX c X W a fa) (hb : EX c X W b fb) (hc : EX c X W d fc)
    (hm : lastMarks [op, op'] [b, d] = false := by with_unfolding_all rfl) : TX c X W (.Compare a [op, op'] [b, d] pos) (sTest (sChain g h fa fb fc)) := by
  obtain ⟨ta, pa, qa⟩ := ha
  obtain ⟨tb, pb, qb⟩ := hb
  obtain ⟨tc, pc, qc⟩ := hc
  exact ⟨_, pt_chain ho ho' pa pb pc hm, test_sound (chain_sound hs hs' qa qb qc)⟩

/-! ### and, or, not, if -/
variable {f g : Ev → Mem → Out Bool} {rest : List Expr}
theorem wx_and1 (h : TX c X W a f) : WXX c X W (.BoolOp .And [a] pos) f := by
  obtain ⟨t, p, q⟩ := h
  exact ⟨t, pw_and1 p, q⟩
theorem wx_or1 (h : TX c X W a f) : WXX c X W (.BoolOp .Or [a] pos) f := by
  obtain ⟨t, p, q⟩ := h
  exact ⟨t, pw_or1 p, q⟩
theorem wx_and (ha : TX c X W a f) (hb : WXX c X W (.BoolOp .And (b :: rest) pos) g) : WXX c X W (.BoolOp .And (a :: b :: rest) pos) (sAndT f g) := by
  obtain ⟨ta, pa, qa⟩ := ha
  obtain ⟨tb, pb, qb⟩ := hb
  refine ⟨_, pw_and pa pb, fun r H m env s Q hm he hg => ?_⟩
  refine qa r H m env s _ hm he (G.bind hg fun k m1 r1 H1 k' x1 hm1 q1 hg1 => ?_)
  cases q1
  cases k with
  | true => exact iteT (qb r1 H1 m1 env s _ hm1 (he.ext x1) hg1)
  | false => exact iteF (G.here (b := false) hg1 hm1 rfl)
theorem wx_or (ha : TX c X W a f) (hb : WXX c X W (.BoolOp .Or (b :: rest) pos) g) : WXX c X W (.BoolOp .Or (a :: b :: rest) pos) (sOrT f g) := by
  obtain ⟨ta, pa, qa⟩ := ha
  obtain ⟨tb, pb, qb⟩ := hb
  refine ⟨_, pw_or pa pb, fun r H m env s Q hm he hg => ?_⟩
  refine qa r H m env s _ hm he (G.bind hg fun k m1 r1 H1 k' x1 hm1 q1 hg1 => ?_)
  cases q1
  cases k with
  | false => exact iteF (qb r1 H1 m1 env s _ hm1 (he.ext x1) hg1)
  | true => exact iteT (G.here (b := true) hg1 hm1 rfl)
theorem wx_t (h : WXX c X W e f) : TX c X W e f := by
  obtain ⟨t, p, q⟩ := h
  exact ⟨t, p.pt, q⟩
theorem tx_not (h : TX c X W a f) : TX c X W (.UnaryOp .Not a pos) (sNotT f) := by
  obtain ⟨t, p, q⟩ := h
  refine ⟨_, pt_not p, fun r H m env s Q hm he hg => ?_⟩
  refine q r H m env s _ hm he (G.bind hg fun k m1 r1 H1 k' x1 hm1 q1 hg1 => ?_)
  cases q1
  exact G.here (b := !k) hg1 hm1 rfl
theorem ex_one {op : BoolOp} (h : EX c X W a fa) : EX c X W (.BoolOp op [a] pos) fa := by
  obtain ⟨t, p, q⟩ := h
  exact ⟨t, pe_one p, q⟩
theorem ex_and (ha : EX c X W a fa) (hb : EX c X W (.BoolOp .And (b :: rest) pos) fb) : EX c X W (.BoolOp .And (a :: b :: rest) pos) (sAnd fa fb) := by
  obtain ⟨ta, pa, qa⟩ := ha
  obtain ⟨tb, pb, qb⟩ := hb
  refine ⟨_, pe_and pa pb, fun r H m env s Q hm he hg => ?_⟩
  refine qa r H m env s _ hm he (G.bind hg fun k m1 r1 H1 k' x1 hm1 q1 hg1 => ?_)
  unfold asB at hg1
  split at hg1
  · rename_i k
    cases q1
    refine ⟨k, rfl, ?_⟩
    cases k with
    | true => exact iteT (qb r1 H1 m1 env s _ hm1 (he.ext x1) hg1)
    | false => exact iteF (G.here (b := V.bl false) hg1 hm1 (.bl false))
  · exact hg1.elim
theorem ex_or (ha : EX c X W a fa) (hb : EX c X W (.BoolOp .Or (b :: rest) pos) fb) : EX c X W (.BoolOp .Or (a :: b :: rest) pos) (sOr fa fb) := by
  obtain ⟨ta, pa, qa⟩ := ha
  obtain ⟨tb, pb, qb⟩ := hb
  refine ⟨_, pe_or pa pb, fun r H m env s Q hm he hg => ?_⟩
  refine qa r H m env s _ hm he (G.bind hg fun k m1 r1 H1 k' x1 hm1 q1 hg1 => ?_)
  unfold asB at hg1
  split at hg1
  · rename_i k
    cases q1
    refine ⟨k, rfl, ?_⟩
    cases k with
    | false => exact iteF (qb r1 H1 m1 env s _ hm1 (he.ext x1) hg1)
    | true => exact iteT (G.here (b := V.bl true) hg1 hm1 (.bl true))
  · exact hg1.elim
theorem ex_not (h : EX c X W a fa) : EX c X W (.UnaryOp .Not a pos) (sNot fa) := by
  obtain ⟨t, p, q⟩ := h
  refine ⟨_, pe_not p, fun r H m env s Q hm he hg => ?_⟩
  refine q r H m env s _ hm he (G.bind hg fun k m1 r1 H1 k' x1 hm1 q1 hg1 => ?_)
  unfold asB at hg1
  split at hg1
  · rename_i k
    cases q1
    exact ⟨k, rfl, G.here (b := V.bl (!k)) hg1 hm1 (.bl _)⟩
  · exact hg1.elim
theorem ex_if {t : Expr} (ht : TX c X W t f) (ha : EX c X W a fa) (hb : EX c X W b fb) : EX c X W (.IfExp t a b pos) (sIfE f fa fb) := by
  obtain ⟨tt, pt, qt⟩ := ht
  obtain ⟨ta, pa, qa⟩ := ha
  obtain ⟨tb, pb, qb⟩ := hb
  refine ⟨_, pe_ifExp pt pa pb, fun r H m env s Q hm he hg => ?_⟩
  refine qt r H m env s _ hm he (G.bind hg fun k m1 r1 H1 k' x1 hm1 q1 hg1 => ?_)
  cases q1
  cases k with
  | true => exact iteT (qa r1 H1 m1 env s _ hm1 (he.ext x1) hg1)
  | false => exact iteF (qb r1 H1 m1 env s _ hm1 (he.ext x1) hg1)
theorem ex_un {op : UnaryOp} {g : D → Mem → Out D} {rr : V → Hp → VK → Prop} (ho : UnR X (unaryOp op) rr) (hs : ∀ s r H m da x Q, MemOk c r H m → Rep c r H da x → G c W (Rep c) s r H (g da m) Q → rr x H Q) (ha : EX c X W a fa) : EX c X W (.UnaryOp op a pos) (sUn g fa) := by
  obtain ⟨t, p, q⟩ := ha
  refine ⟨_, pe_un ho p, fun r H m env s Q hm he hg => ?_⟩
  refine q r H m env s _ hm he (G.bind hg fun k m1 r1 H1 k' x1 hm1 q1 hg1 => ?_)
  exact hs s r1 H1 m1 k k' Q hm1 q1 hg1
theorem ex_neg (ha : EX c X W a fa) : EX c X W (.UnaryOp .USub a pos) (sUn gNeg fa) := by
  refine ex_un un_neg (fun s r H m da x Q hm h hg => ?_) ha
  cases h with
  | int i => exact ⟨i, rfl, G.here (b := V.int (-i)) hg hm (.int _)⟩
  | _ => exact hg.elim

/-! ### arguments, displays -/
variable {fl : Ev → Mem → Out (List D)}
theorem ax_nil : AX c X W [] sNil := ⟨_, pa_nil, fun r H m env s Q hm he hg => G.here (b := []) hg hm .nil⟩
theorem ax_cons (ha : EX c X W a fa) (hb : AX c X W es fl) (hs : starEach (a :: es) X.env = (false, eval a X.env) :: starEach es X.env := by rfl) : AX c X W (a :: es) (sCons fa fl) := by
  obtain ⟨ta, pa, qa⟩ := ha
  obtain ⟨tb, pb, qb⟩ := hb
  refine ⟨_, pa_cons pa pb hs, fun r H m env s Q hm he hg => ?_⟩
  refine qa r H m env s _ hm he (G.bind hg fun k m1 r1 H1 k' x1 hm1 q1 hg1 => ?_)
  refine qb r1 H1 m1 env s _ hm1 (he.ext x1) (G.bind hg1 fun l m2 r2 H2 l' x2 hm2 q2 hg2 => ?_)
  exact G.here (b := k' :: l') hg2 hm2 (.cons (q1.ext x2) q2)
theorem ex_tup {k : Nat} (h : AX c X W es fl) : EX c X W (.Tuple es k pos) (sTup fl) := by
  obtain ⟨t, p, q⟩ := h
  refine ⟨_, pe_tup p, fun r H m env s Q hm he hg => ?_⟩
  refine q r H m env s _ hm he (G.bind hg fun l m1 r1 H1 l' x1 hm1 q1 hg1 => ?_)
  split at hg1
  · rename_i hl
    refine ⟨by rw [← q1.length]; exact Nat.le_of_lt (small1000 hl), fun p' np => ?_⟩
    exact hg1 r1 (upd H1 p' (.tup l')) (.ref p') (Ext.new np) (hm1.new np) (.tup upd_same (hm1.off np) (q1.ext (Ext.new np)))
  · exact hg1.elim
theorem ex_lst (h : AX c X W es fl) : EX c X W (.List es pos) (sLst fl) := by
  obtain ⟨t, p, q⟩ := h
  refine ⟨_, pe_lst p, fun r H m env s Q hm he hg => ?_⟩
  refine q r H m env s _ hm he (G.bind hg fun l m1 r1 H1 l' x1 hm1 q1 hg1 => ?_)
  split at hg1
  · rename_i hl
    refine ⟨by rw [← q1.length]; exact Nat.le_of_lt (small1000 hl), fun p' np => ?_⟩
    exact hg1 r1 (upd H1 p' (.lst l')) (.ref p') (Ext.new np) (hm1.new np) (.lst upd_same (hm1.off np) (q1.ext (Ext.new np)))
  · exact hg1.elim
theorem ex_lstO (h : AX c X W es fl) : EX c X W (.List es pos) (sLstO fl) := by
  obtain ⟨t, p, q⟩ := h
  refine ⟨_, pe_lst p, fun r H m env s Q hm he hg => ?_⟩
  refine q r H m env s _ hm he (G.bind hg fun l m1 r1 H1 l' x1 hm1 q1 hg1 => ?_)
  split at hg1
  · rename_i hl
    refine ⟨by rw [← q1.length]; exact Nat.le_of_lt (small1000 hl), fun p' np => ?_⟩
    refine hg1 (r1.push p') (upd H1 p' (.lst l')) (.ref p') (Ext.push np) (hm1.push np q1) (.ref ?_)
    rw [← hm1.len]
    exact push_get
  · exact hg1.elim
/-- a builtin by values -/
def CbS (c : Cn) (W : WX) (g : List D → Mem → Out D) (rr : List V → Hp → VK → Prop) : Prop :=
  ∀ s r H m ds vs Q, MemOk c r H m → Reps c r H ds vs → G c W (Rep c) s r H (g ds m) Q → rr vs H Q
theorem ex_cb {x : Str} {p : Pos} {id : String} {g : List D → Mem → Out D} {rr : List V → Hp → VK → Prop} (hc : CallR X (.builtin id) rr) (hs : CbS c W g rr) (hg : Gl X x) (hm : X.mg x = none) (hv : bootBuiltins x = some (.builtin id)) (ha : AX c X W (e :: es) fl)
    (hn : x ≠ "__name__" := by decide) (hdb : (x == ("__debug__" : Str)) = false := by decide)
    (he : starEach (e :: es) X.env = (false, eval e X.env) :: starEach es X.env := by rfl) (hpl : (backTo pos (starEach es X.env)).any (·.1) = false := by rfl) : EX c X W (.Call (.Name x p) (e :: es) [] pos) (sCB g fl) := by
  obtain ⟨t, p, q⟩ := ha
  refine ⟨_, pe_callB hc hg hm hv p hn hdb he hpl, fun r H m env s Q hm he hg => ?_⟩
  exact q r H m env s _ hm he (G.bind hg fun l m1 r1 H1 l' x1 hm1 q1 hg1 => hs s r1 H1 m1 l l' Q hm1 q1 hg1)
theorem ex_cty {x : Str} {p : Pos} {id : String} {g : List D → Mem → Out D} {rr : List V → Hp → VK → Prop} (hc : CallR X (.type id) rr) (hs : CbS c W g rr) (hg : Gl X x) (hm : X.mg x = none) (hv : bootBuiltins x = some (.type id)) (ha : AX c X W (e :: es) fl)
    (hn : x ≠ "__name__" := by decide) (hdb : (x == ("__debug__" : Str)) = false := by decide)
    (he : starEach (e :: es) X.env = (false, eval e X.env) :: starEach es X.env := by rfl) (hpl : (backTo pos (starEach es X.env)).any (·.1) = false := by rfl) : EX c X W (.Call (.Name x p) (e :: es) [] pos) (sCB g fl) := by
  obtain ⟨t, p, q⟩ := ha
  refine ⟨_, pe_callTy hc hg hm hv p hn hdb he hpl, fun r H m env s Q hm he hg => ?_⟩
  exact q r H m env s _ hm he (G.bind hg fun l m1 r1 H1 l' x1 hm1 q1 hg1 => hs s r1 H1 m1 l l' Q hm1 q1 hg1)

/-! ### ints -/
theorem os_int {C : Int → Int → Prop} {C' : Int → Int → Bool} {g : Int → Int → V} {g' : Int → Int → D} (hC : ∀ i j, C' i j = true → C i j) (hg : ∀ r H i j, Rep c r H (g' i j) (g i j)) : OpS c W (sI2 C' g') (rI C g) := by
  intro s r H m da db x y Q hm h1 h2 h
  unfold sI2 at h
  split at h
  · rename_i i j
    cases h1
    cases h2
    split at h
    · rename_i hc
      exact ⟨i, j, rfl, rfl, hC i j hc, G.here (b := g i j) h hm (hg r H i j)⟩
    · exact h.elim
  · exact h.elim
theorem os_int0 {g : Int → Int → V} {g' : Int → Int → D} (hg : ∀ r H i j, Rep c r H (g' i j) (g i j)) : OpS c W (sI2 (fun _ _ => true) g') (rI0 g) := by
  intro s r H m da db x y Q hm h1 h2 h
  unfold sI2 at h
  split at h
  · rename_i i j
    cases h1
    cases h2
    exact ⟨i, j, rfl, rfl, G.here (b := g i j) h hm (hg r H i j)⟩
  · exact h.elim
theorem os_sub : OpS c W gSub (rI0 fun i j => .int (i - j)) := os_int0 fun _ _ i j => .int _
theorem os_ltI : OpS c W gLtI (rI0 fun i j => .bl (decide (i < j))) := os_int0 fun _ _ i j => .bl _
theorem os_le : OpS c W gLe (rI0 fun i j => .bl (decide (i ≤ j))) := os_int0 fun _ _ i j => .bl _
theorem os_gt : OpS c W gGt (rI0 fun i j => .bl (decide (j < i))) := os_int0 fun _ _ i j => .bl _
theorem os_ge : OpS c W gGe (rI0 fun i j => .bl (decide (j ≤ i))) := os_int0 fun _ _ i j => .bl _
theorem nat2_64 : (2 : Nat) ^ 64 = 18446744073709551616 := by decide +kernel
theorem os_div : OpS c W gDiv (rI CDivW fun i j => .int (i / j)) := os_int (fun i j h => by
  unfold divC at h
  rw [Bool.and_eq_true, decide_eq_true_eq, decide_eq_true_eq] at h
  exact wide_div (b := 64) h.1 (by rw [nat2_64]; omega) (by decide) (by decide)) fun _ _ i j => .int _
theorem os_mod : OpS c W gMod (rI (fun _ j => 0 < j) fun i j => .int (i % j)) := os_int (fun i j h => of_decide_eq_true h) fun _ _ i j => .int _
theorem os_pow : OpS c W gPow (rI CPow fun i j => .int (i ^ j.toNat)) := os_int (fun i j h => by
  unfold powC at h
  rw [Bool.and_eq_true, Bool.and_eq_true, decide_eq_true_eq, decide_eq_true_eq, decide_eq_true_eq] at h
  exact ⟨h.1.1, by omega, by rw [nat2_64]; omega⟩) fun _ _ i j => .int _
end
end Sz

namespace Sz
open PySem PySem.Spec PyProof.Rows L2

/-! ## statements -/
def SO.seq (o : SO) (g : Ev → Mem → SO) : SO := match o with
  | .nx e m => g e m
  | .rt d m => .rt d m
  | .bk e m => .bk e m
  | .ct e m => .ct e m
  | .er x e m => .er x e m
  | .bad => .bad
@[simp] theorem seq_nx {e : Ev} {m : Mem} {g : Ev → Mem → SO} : (SO.nx e m).seq g = g e m := rfl
@[simp] theorem seq_rt {d : D} {m : Mem} {g : Ev → Mem → SO} : (SO.rt d m).seq g = .rt d m := rfl
@[simp] theorem seq_bk {e : Ev} {m : Mem} {g : Ev → Mem → SO} : (SO.bk e m).seq g = .bk e m := rfl
@[simp] theorem seq_ct {e : Ev} {m : Mem} {g : Ev → Mem → SO} : (SO.ct e m).seq g = .ct e m := rfl
@[simp] theorem seq_er {x : Nat} {e : Ev} {m : Mem} {g : Ev → Mem → SO} : (SO.er x e m).seq g = .er x e m := rfl
@[simp] theorem seq_bad {g : Ev → Mem → SO} : (SO.bad).seq g = .bad := rfl
def bNil : Ev → Mem → SO := fun e m => .nx e m
def bCons (f g : Ev → Mem → SO) : Ev → Mem → SO := fun e m => (f e m).seq g
def kRet (f : Ev → Mem → Out D) : Ev → Mem → SO := fun e m => (f e m).thn e .rt
def kExpr (f : Ev → Mem → Out D) : Ev → Mem → SO := fun e m => (f e m).thn e fun _ m1 => .nx e m1
def kSet (i : Nat) (f : Ev → Mem → Out D) : Ev → Mem → SO := fun e m => (f e m).thn e fun d m1 => .nx (e.set i (some d)) m1
def kIf (t : Ev → Mem → Out Bool) (f g : Ev → Mem → SO) : Ev → Mem → SO := fun e m => (t e m).thn e fun b m1 => if b then f e m1 else g e m1
def kRaise (x : Nat) : Ev → Mem → SO := fun e m => .er x e m
def kPass : Ev → Mem → SO := fun e m => .nx e m
def kBreak : Ev → Mem → SO := fun e m => .bk e m
def kCont : Ev → Mem → SO := fun e m => .ct e m
/-- several names from the items of a tuple or a list -/
def setAll (e : Ev) : List Nat → List D → Option Ev
  | [], [] => some e
  | i :: is, d :: ds => setAll (e.set i (some d)) is ds
  | _, _ => none
def kUnT (is : List Nat) (f : Ev → Mem → Out D) : Ev → Mem → SO := fun e m => (f e m).thn e fun d m1 => match d with
  | .tup l => match setAll e is l with
    | some e1 => .nx e1 m1
    | none => .bad
  | _ => .bad
def kUnL (is : List Nat) (f : Ev → Mem → Out D) : Ev → Mem → SO := fun e m => (f e m).thn e fun d m1 => match rdL m1 d with
  | some l => match setAll e is l with
    | some e1 => .nx e1 m1
    | none => .bad
  | _ => .bad
/-- a, b = x, y -/
def kPar (i j : Nat) (f g : Ev → Mem → Out D) : Ev → Mem → SO := fun e m => (f e m).thn e fun d m1 => (g e m1).thn e fun d2 m2 => .nx ((e.set i (some d)).set j (some d2)) m2
def kPar3 (i j k : Nat) (f g h : Ev → Mem → Out D) : Ev → Mem → SO := fun e m => (f e m).thn e fun d m1 => (g e m1).thn e fun d2 m2 => (h e m2).thn e fun d3 m3 => .nx (((e.set i (some d)).set j (some d2)).set k (some d3)) m3

/-- while: so many turns at most -/
def whileN (t : Ev → Mem → Out Bool) (f : Ev → Mem → SO) : Nat → Ev → Mem → SO
  | 0, _, _ => .bad
  | n + 1, e, m => (t e m).thn e fun b m1 => if b then (match f e m1 with
      | .nx e2 m2 => whileN t f n e2 m2
      | .ct e2 m2 => whileN t f n e2 m2
      | .bk e2 m2 => .nx e2 m2
      | o => o) else .nx e m1
/-- for over items that are known -/
def forL (g : Ev → D → Option Ev) (f : Ev → Mem → SO) : List D → Ev → Mem → SO
  | [], e, m => .nx e m
  | d :: ds, e, m => match g e d with
    | none => .bad
    | some e1 => match f e1 m with
      | .nx e2 m2 => forL g f ds e2 m2
      | .ct e2 m2 => forL g f ds e2 m2
      | .bk e2 m2 => .nx e2 m2
      | o => o

section
variable {c : Cn} {X : Cx} {W : WX} {a b d e : Expr} {es : List Expr} {pos : Pos} {fa fb fc : Ev → Mem → Out D} {st : Stmt} {rest : List Stmt} {f g : Ev → Mem → SO} {ft : Ev → Mem → Out Bool}

theorem GS.seq {s : L2.St} {r : Rh} {H : Hp} {o : SO} {Dn : Ends} {u : TS} (h : GS c W r H (o.seq g) Dn) (hu : ∀ r H m env s Dn, MemOk c r H m → EnvOk c r H env s → GS c W r H (g env m) Dn → u Dn s H) :
    GS c W r H o { Dn with nx := u Dn } := by
  cases o with
  | nx e m => exact fun r' H' s' x y z => hu r' H' m e s' Dn y z (GS.mono x h)
  | rt d m => exact h
  | bk e m => exact h
  | ct e m => exact h
  | er x e m => exact h
  | bad => exact h
theorem bx_nil : BX c X W [] bNil := ⟨_, pss_nil, fun r H m env s Dn hm he hg => hg r H s (Ext.refl r H) hm he⟩
theorem bx_cons (h1 : SX c X W st f) (h2 : BX c X W rest g) : BX c X W (st :: rest) (bCons f g) := by
  obtain ⟨t, p, q⟩ := h1
  obtain ⟨u, p2, q2⟩ := h2
  exact ⟨_, pss_cons p p2, fun r H m env s Dn hm he hg => q r H m env s _ hm he (GS.seq (s := s) hg q2)⟩
theorem bx_one (h1 : SX c X W st f) : BX c X W [st] f := by
  obtain ⟨t, p, q⟩ := h1
  exact ⟨_, pss_one p, q⟩
theorem sx_ret (h : EX c X W e fa) : SX c X W (.Return (some e) pos) (kRet fa) := by
  obtain ⟨t, p, q⟩ := h
  refine ⟨_, ps_ret p, fun r H m env s Dn hm he hg => ?_⟩
  exact q r H m env s _ hm he (G.thn he hg fun a m1 r1 H1 v x1 hm1 q1 hg1 => hg1 r1 H1 v (Ext.refl _ _) hm1 q1)
theorem sx_retN : SX c X W (.Return none pos) (fun e m => .rt .non m) := ⟨_, ps_retN, fun r H m env s Dn hm he hg => hg r H .non (Ext.refl _ _) hm .non⟩
theorem sx_expr (h : EX c X W e fa) (hs : swapsWith e none pos.line X.env = pure false := by rfl) : SX c X W (.Expr e pos) (kExpr fa) := by
  obtain ⟨t, p, q⟩ := h
  refine ⟨_, ps_expr p hs, fun r H m env s Dn hm he hg => ?_⟩
  exact q r H m env s _ hm he (G.thn he hg fun a m1 r1 H1 v x1 hm1 q1 hg1 => hg1 r1 H1 s (Ext.refl _ _) hm1 (he.ext x1))
theorem sx_set (i : Nat) {x : Str} {pos' : Pos} (hN : X.N.Nodup) (hx : Loc X.env.scope x) (h : EX c X W e fa) (hi : X.N[i]? = some x := by rfl) (hs : swapsWith e (some (.Name x pos')) pos.line X.env = pure false := by rfl) (hf : X.fn x = true ∨ X.env.scope.names.lookup x = some .local := by first | exact .inl rfl | exact .inr rfl | assumption) :
    SX c X W (.Assign [.Name x pos'] e pos) (kSet i fa) := by
  obtain ⟨t, p, q⟩ := h
  refine ⟨_, ps_set hN hi hx p hs hf, fun r H m env s Dn hm he hg => ?_⟩
  exact q r H m env s _ hm he (G.thn he hg fun a m1 r1 H1 v x1 hm1 q1 hg1 => hg1 r1 H1 _ (Ext.refl _ _) hm1 ((he.ext x1).set i q1))
theorem sx_if {t : Expr} {la lb : List Stmt} (ht : TX c X W t ft) (ha : BX c X W la f) (hb : BX c X W lb g) : SX c X W (.If t la lb pos) (kIf ft f g) := by
  obtain ⟨tt, pt, qt⟩ := ht
  obtain ⟨ta, pa, qa⟩ := ha
  obtain ⟨tb, pb, qb⟩ := hb
  refine ⟨_, ps_if pt pa pb, fun r H m env s Dn hm he hg => ?_⟩
  refine qt r H m env s _ hm he (G.thn he hg fun k m1 r1 H1 k' x1 hm1 q1 hg1 => ?_)
  cases q1
  cases k with
  | true => exact iteT (qa r1 H1 m1 env s _ hm1 (he.ext x1) hg1)
  | false => exact iteF (qb r1 H1 m1 env s _ hm1 (he.ext x1) hg1)
theorem sx_pass : SX c X W (.Pass pos) kPass := ⟨_, ps_pass, fun r H m env s Dn hm he hg => hg r H s (Ext.refl _ _) hm he⟩
theorem sx_break : SX c X W (.Break pos) kBreak := ⟨_, ps_break, fun r H m env s Dn hm he hg => hg r H s (Ext.refl _ _) hm he⟩
theorem sx_cont : SX c X W (.Continue pos) kCont := ⟨_, ps_continue, fun r H m env s Dn hm he hg => hg r H s (Ext.refl _ _) hm he⟩

/-! ### several names -/
theorem wipe_get (s : L2.St) : ∀ (vs : List Nat) (j : Nat), (wipe s vs)[j]? = if j ∈ vs ∧ j < s.length then some none else s[j]?
  | [], j => by simp [wipe]
  | v :: vs, j => by
    show ((wipe s vs).set v none)[j]? = _
    rw [List.getElem?_set, wipe_get s vs j, wipe_length]
    by_cases h : v = j
    · subst h
      by_cases hl : v < s.length
      · simp [hl]
      · rw [if_pos rfl, if_neg hl, if_neg (fun z => hl z.2)]
        exact (List.getElem?_eq_none (by omega)).symm
    · rw [if_neg h]
      have e : (j ∈ v :: vs ∧ j < s.length) ↔ (j ∈ vs ∧ j < s.length) := by
        rw [List.mem_cons]
        exact ⟨fun q => ⟨q.1.resolve_left (fun z => h z.symm), q.2⟩, fun q => ⟨.inr q.1, q.2⟩⟩
      by_cases q : j ∈ vs ∧ j < s.length
      · rw [if_pos q, if_pos (e.mpr q)]
      · rw [if_neg q, if_neg (fun z => q (e.mp z))]
theorem wipe_set (s : L2.St) {i : Nat} {x : Option V} {vs : List Nat} (h : i ∈ vs) : wipe (s.set i x) vs = wipe s vs := by
  refine List.ext_getElem? fun j => ?_
  rw [wipe_get, wipe_get, List.length_set]
  by_cases q : j ∈ vs ∧ j < s.length
  · rw [if_pos q, if_pos q]
  · rw [if_neg q, if_neg q]
    by_cases hj : i = j
    · subst hj
      have hl : ¬ i < s.length := fun z => q ⟨h, z⟩
      rw [List.getElem?_eq_none (by rw [List.length_set]; omega), List.getElem?_eq_none (by omega)]
    · rw [List.getElem?_set_ne hj]
theorem setAll_len {is : List Nat} : ∀ {l : List D} {e0 e1 : Ev}, setAll e0 is l = some e1 → l.length = is.length := by
  induction is with
  | nil => intro l e0 e1 h; cases l with
    | nil => rfl
    | cons _ _ => cases h
  | cons i is ih => intro l e0 e1 h; cases l with
    | nil => cases h
    | cons d ds => rw [List.length_cons, List.length_cons, ih h]
/-- targets that are names, by their slots -/
def GX (c : Cn) (X : Cx) (es : List Expr) (is : List Nat) : Prop := ∃ t : TGs, PGs X es t ∧ ∀ (r : Rh) (H : Hp) (env e1 : Ev) (s : L2.St) (ds : List D) (vs : List V) (Q : L2.St → Hp → Prop), EnvOk c r H env s → Reps c r H ds vs → setAll env is ds = some e1 →
  (∀ s', EnvOk c r H e1 s' → (∀ vs : List Nat, (∀ i ∈ is, i ∈ vs) → wipe s' vs = wipe s vs) → Q s' H) → t vs s H Q
theorem gx_nil : GX c X [] [] := by
  refine ⟨_, pgs_nil, fun r H env e1 s ds vs Q he q h k => ?_⟩
  cases q with
  | nil => exact ⟨rfl, k s (by cases h; exact he) fun _ _ => rfl⟩
  | cons _ _ => cases h
theorem gx_cons (i : Nat) {x : Str} {is : List Nat} (hN : X.N.Nodup) (hx : Loc X.env.scope x) (h : GX c X es is) (hi : X.N[i]? = some x := by rfl) (hf : X.fn x = true ∨ X.env.scope.names.lookup x = some .local := by first | exact .inl rfl | exact .inr rfl | assumption)
    (hs : (assignEach (.Name x pos :: es) X.env).map (·.2) = assign (.Name x pos) X.env :: (assignEach es X.env).map (·.2) := by rfl) : GX c X (.Name x pos :: es) (i :: is) := by
  obtain ⟨t, p, q⟩ := h
  refine ⟨_, pgs_cons (pg_name hN hi hx hf) p hs, fun r H env e1 s ds vs Q he qr h k => ?_⟩
  cases qr with
  | nil => cases h
  | cons h1 h2 => exact ⟨_, _, rfl, q r H _ e1 _ _ _ Q (he.set i h1) h2 h fun s' h' hw => k s' h' fun vs hv => (hw vs fun j hj => hv j (List.mem_cons_of_mem _ hj)).trans (wipe_set s (hv i (by simp)))⟩
theorem sx_unT {is : List Nat} {k : Nat} {tpos : Pos} {n : Nat} (hc : X.calm = true) (h : EX c X W e fa) (hg : GX c X es is) (hn : (assignEach es X.env).length = n := by rfl) (hst : (assignEach es X.env).findIdx? (·.1) = none := by rfl)
    (hs : swapsWithSole [.Tuple es k tpos] e pos.line X.env = pure false := by rfl) (hw : swappedStores [.Tuple es k tpos] e X.env = pure none := by rfl)
    (h1 : (assignEach [.Tuple es k tpos] X.env).map (·.2) = [assign (.Tuple es k tpos) X.env] := by rfl) (hl : is.length = n := by rfl) : SX c X W (.Assign [.Tuple es k tpos] e pos) (kUnT is fa) := by
  obtain ⟨t, p, q⟩ := h
  obtain ⟨tg, pg, qg⟩ := hg
  refine ⟨_, ps_asg p (pg_tup hc pg hn hst) hs hw h1, fun r H m env s Dn hm he hg => ?_⟩
  refine q r H m env s _ hm he (G.thn he hg fun a m1 r1 H1 v x1 hm1 q1 hg1 => ?_)
  split at hg1
  · rename_i l
    split at hg1
    · rename_i e1 he1
      cases q1 with
      | tup hT hoff hr =>
        refine ⟨_, _, rfl, SqT.of hT, ?_, qg r1 H1 env e1 s l _ _ (he.ext x1) hr he1 fun s' hs' _ => hg1 r1 H1 s' (Ext.refl _ _) hm1 hs'⟩
        rw [← hr.length, setAll_len he1, hl]
    · exact hg1.elim
  · exact hg1.elim
theorem sx_par (i j : Nat) {x y : Str} {px py pt : Pos} {kt k2 : Nat} {pt2 : Pos} (hc : X.calm = true) (hN : X.N.Nodup) (hx : X.env.scope.names.lookup x = some .local) (hy : X.env.scope.names.lookup y = some .local) (ha : EX c X W a fa) (hb : EX c X W b fb)
    (hi : X.N[i]? = some x := by rfl) (hj : X.N[j]? = some y := by rfl) (hij : i ≠ j := by decide)
    (hw : swappedStores [.Tuple [.Name x px, .Name y py] kt pt] (.Tuple [a, b] k2 pt2) X.env = pure (some [x, y]) := by rfl)
    (hs : swapsWithSole [.Tuple [.Name x px, .Name y py] kt pt] (.Tuple [a, b] k2 pt2) pos.line X.env = pure false := by rfl)
    (hs1 : starEach [a, b] X.env = (false, eval a X.env) :: starEach [b] X.env := by rfl) (hs2 : starEach [b] X.env = (false, eval b X.env) :: starEach [] X.env := by rfl) :
    SX c X W (.Assign [.Tuple [.Name x px, .Name y py] kt pt] (.Tuple [a, b] k2 pt2) pos) (kPar i j fa fb) := by
  obtain ⟨ta, pa, qa⟩ := ha
  obtain ⟨tb, pb, qb⟩ := hb
  refine ⟨_, ps_par hc hN hi hj hij hx hy (pa_cons pa (pa_cons pb pa_nil hs2) hs1) hw hs, fun r H m env s Dn hm he hg => ?_⟩
  refine qa r H m env s _ hm he (G.thn he hg fun a1 m1 r1 H1 v x1 hm1 q1 hg1 => ?_)
  refine qb r1 H1 m1 env s _ hm1 (he.ext x1) (G.thn (he.ext x1) hg1 fun b1 m2 r2 H2 w x2 hm2 q2 hg2 => ?_)
  exact ⟨v, w, rfl, hg2 r2 H2 _ (Ext.refl _ _) hm2 ((((he.ext x1).ext x2).set i (q1.ext x2)).set j q2)⟩

/-! ### while -/
theorem sx_while (n : Nat) {t : Expr} {body : List Stmt} (hp : PassesOwn (model X.prog X.w) X.A X.env X.xe) (ht : TX c X W t ft) (hb : BX c X W body f) : SX c X W (.While t body [] pos) (whileN ft f n) := by
  obtain ⟨tt, pt, qt⟩ := ht
  obtain ⟨tb, pb, qb⟩ := hb
  refine ⟨_, ps_while hp pt pb, fun r H m env s Dn hm he hg => ?_⟩
  refine ⟨fun k s1 H1 => ∃ r1 m1 e1, MemOk c r1 H1 m1 ∧ EnvOk c r1 H1 e1 s1 ∧ GS c W r1 H1 (whileN ft f k e1 m1) Dn, ⟨n, r, m, env, hm, he, hg⟩, ?_⟩
  rintro k s1 H1 ⟨r1, m1, e1, hm1, he1, hg1⟩
  cases k with
  | zero => exact hg1.elim
  | succ k =>
    refine qt r1 H1 m1 e1 s1 _ hm1 he1 (G.thn he1 hg1 fun b m2 r2 H2 b' x2 hm2 q2 hg2 => ?_)
    cases q2
    have he2 := he1.ext x2
    cases b with
    | false => exact iteF (hg2 r2 H2 s1 (Ext.refl _ _) hm2 he2)
    | true =>
      refine iteT ⟨fun s' H' => ∃ r1 m1 e1, MemOk c r1 H' m1 ∧ EnvOk c r1 H' e1 s' ∧ GS c W r1 H' (whileN ft f k e1 m1) Dn, fun s' H' h => ⟨k, Nat.lt_succ_self k, h⟩, ?_⟩
      refine qb r2 H2 m2 e1 s1 _ hm2 he2 ?_
      replace hg2 : GS c W r2 H2 (match f e1 m2 with
        | .nx e2 m2 => whileN ft f k e2 m2
        | .ct e2 m2 => whileN ft f k e2 m2
        | .bk e2 m2 => .nx e2 m2
        | o => o) Dn := hg2
      cases q : f e1 m2 with
      | nx e3 m3 => rw [q] at hg2; exact fun r' H' s' x y z => ⟨r', m3, e3, y, z, GS.mono x hg2⟩
      | ct e3 m3 => rw [q] at hg2; exact fun r' H' s' x y z => ⟨r', m3, e3, y, z, GS.mono x hg2⟩
      | bk e3 m3 => rw [q] at hg2; exact hg2
      | rt d3 m3 => rw [q] at hg2; exact hg2
      | er x3 e3 m3 => rw [q] at hg2; exact hg2
      | bad => rw [q] at hg2; exact hg2

/-! ### for -/
/-- what a for walks: the items ds (their making: fi); at the turn the item's value, maybe in a heap that has grown -/
def IX (c : Cn) (X : Cx) (W : WX) (tg iter : Expr) (fi : Ev → Mem → Out (List D)) : Prop := ∃ wi : TI, PI X tg iter wi ∧
  ∀ r H m env s (R : It → Hp → Prop), MemOk c r H m → EnvOk c r H env s →
    G c W (fun r' H' (ds : List D) (J : It) => ∃ Gd : Rh → Hp → Prop, Gd r' H' ∧ (∀ r1 H1 r2 H2, Gd r1 H1 → Le r1 H1 r2 H2 → Gd r2 H2) ∧
      (∀ r1 H1 i, Gd r1 H1 → i < ds.length → J.go i H1) ∧ (∀ r1 H1, Gd r1 H1 → J.stop ds.length H1) ∧
      (∀ r1 H1 m1 i x H2, Gd r1 H1 → MemOk c r1 H1 m1 → J.yld i H1 x H2 → i < ds.length → Ext r1 H1 r1 H2 ∧ MemOk c r1 H2 m1 ∧ ∃ d, ds[i]? = some d ∧ Rep c r1 H2 d x)) s r H (fi env m) R → wi s H R
/-- a for's target: the slots that it sets -/
def TgX (c : Cn) (X : Cx) (tg : Expr) (is : List Nat) (g : Ev → D → Option Ev) : Prop := ∃ t : TG, PG X tg t ∧ ∀ (r : Rh) (H : Hp) (env e1 : Ev) (s : L2.St) (d : D) (v : V) (Q : L2.St → Hp → Prop), EnvOk c r H env s → Rep c r H d v → g env d = some e1 →
  (∀ s', EnvOk c r H e1 s' → (∀ vs : List Nat, (∀ i ∈ is, i ∈ vs) → wipe s' vs = wipe s vs) → Q s' H) → t v s H Q
def gN (i : Nat) : Ev → D → Option Ev := fun e d => some (e.set i (some d))
def gT (is : List Nat) : Ev → D → Option Ev := fun e d => match d with
  | .tup l => setAll e is l
  | _ => none
theorem tg_name (i : Nat) {x : Str} (hN : X.N.Nodup) (hx : Loc X.env.scope x) (hi : X.N[i]? = some x := by rfl) (hf : X.fn x = true ∨ X.env.scope.names.lookup x = some .local := by first | exact .inl rfl | exact .inr rfl | assumption) : TgX c X (.Name x pos) [i] (gN i) :=
  ⟨_, pg_name hN hi hx hf, fun r H env e1 s d v Q he q h k => k _ (by cases h; exact he.set i q) fun vs hv => wipe_set s (hv i (by simp))⟩
theorem tg_tup {is : List Nat} {k : Nat} {n : Nat} (hc : X.calm = true) (hg : GX c X es is) (hn : (assignEach es X.env).length = n := by rfl) (hst : (assignEach es X.env).findIdx? (·.1) = none := by rfl) (hl : is.length = n := by rfl) : TgX c X (.Tuple es k pos) is (gT is) := by
  obtain ⟨tg, pg, qg⟩ := hg
  refine ⟨_, pg_tup hc pg hn hst, fun r H env e1 s d v Q he q h k => ?_⟩
  cases q with
  | tup hT hoff hr =>
    refine ⟨_, _, rfl, SqT.of hT, ?_, qg r H env e1 s _ _ _ he hr h k⟩
    rw [← hr.length, setAll_len (show setAll env is _ = some e1 from h), hl]
  | _ => cases h
/-- the items, then the loop -/
def kFor (fi : Ev → Mem → Out (List D)) (g : Ev → D → Option Ev) (f : Ev → Mem → SO) : Ev → Mem → SO := fun e m => (fi e m).thn e fun ds m1 => forL g f ds e m1
theorem sx_for {tg iter : Expr} {body : List Stmt} {fi : Ev → Mem → Out (List D)} {gg : Ev → D → Option Ev} {isg : List Nat} (hp : PassesOwn (model X.prog X.w) X.A X.env X.xe) (hc : X.calm = true) (hi : IX c X W tg iter fi) (hg : TgX c X tg isg gg) (hb : BX c X W body f)
    (hs : ∀ x, foldedSetIterable iter X.env x = pure x := by intro _; rfl) : SX c X W (.For tg iter body [] pos) (kFor fi gg f) := by
  obtain ⟨wi, pi, qi⟩ := hi
  obtain ⟨tg', pg, qg⟩ := hg
  obtain ⟨tb, pb, qb⟩ := hb
  refine ⟨_, ps_for hp hc pi pg pb hs, fun r H m env s Dn hm he hg => ?_⟩
  refine qi r H m env s _ hm he (G.thn he hg fun ds m1 r1 H1 J x1 hm1 q1 hg1 => ?_)
  obtain ⟨Gd, g0, gext, ggo, gstop, gyld⟩ := q1
  refine ⟨fun i k s1 H2 => i ≤ ds.length ∧ k = ds.length - i ∧ ∃ r2 m2 e2, Gd r2 H2 ∧ MemOk c r2 H2 m2 ∧ EnvOk c r2 H2 e2 s1 ∧ GS c W r2 H2 (forL gg f (ds.drop i) e2 m2) Dn, ⟨ds.length, Nat.zero_le _, by simp, r1, m1, env, g0, hm1, he.ext x1, hg1⟩, ?_⟩
  rintro i k s1 H2 ⟨hi, hk, r2, m2, e2, gd, hm2, he2, hg2⟩
  by_cases hlt : i < ds.length
  · refine .inr ⟨ggo r2 H2 i gd hlt, fun s' H' => ∃ r3 m3 e3, Gd r3 H' ∧ MemOk c r3 H' m3 ∧ EnvOk c r3 H' e3 s' ∧ GS c W r3 H' (forL gg f (ds.drop (i + 1)) e3 m3) Dn, fun s' H' h => ⟨ds.length - (i + 1), by omega, hlt, rfl, h⟩, fun x H3 hy => ?_⟩
    obtain ⟨x3, hm3, d, hd, qd⟩ := gyld r2 H2 m2 i x H3 gd hm2 hy hlt
    have ed : ds.drop i = d :: ds.drop (i + 1) := by
      obtain ⟨_, e⟩ := List.getElem?_eq_some_iff.mp hd
      rw [← e, List.drop_eq_getElem_cons hlt]
    rw [ed] at hg2
    replace hg2 : GS c W r2 H2 (match gg e2 d with
      | none => .bad
      | some e1 => match f e1 m2 with
        | .nx e3 m3 => forL gg f (ds.drop (i + 1)) e3 m3
        | .ct e3 m3 => forL gg f (ds.drop (i + 1)) e3 m3
        | .bk e3 m3 => .nx e3 m3
        | o => o) Dn := hg2
    cases qe : gg e2 d with
    | none => rw [qe] at hg2; exact hg2.elim
    | some e3 =>
      rw [qe] at hg2
      refine qg r2 H3 e2 e3 s1 d x _ (he2.ext x3) qd qe fun s3 he3 _ => ?_
      refine qb r2 H3 m2 e3 s3 _ hm3 he3 ?_
      have hg3 : GS c W r2 H3 (match f e3 m2 with
        | .nx e3 m3 => forL gg f (ds.drop (i + 1)) e3 m3
        | .ct e3 m3 => forL gg f (ds.drop (i + 1)) e3 m3
        | .bk e3 m3 => .nx e3 m3
        | o => o) Dn := GS.mono x3 hg2
      cases q : f e3 m2 with
      | nx e4 m4 => rw [q] at hg3; exact fun r' H' s' x y z => ⟨r', m4, e4, gext _ _ _ _ gd (x3.trans x).toLe, y, z, GS.mono x hg3⟩
      | ct e4 m4 => rw [q] at hg3; exact fun r' H' s' x y z => ⟨r', m4, e4, gext _ _ _ _ gd (x3.trans x).toLe, y, z, GS.mono x hg3⟩
      | bk e4 m4 => rw [q] at hg3; exact hg3
      | rt d4 m4 => rw [q] at hg3; exact hg3
      | er x4 e4 m4 => rw [q] at hg3; exact hg3
      | bad => rw [q] at hg3; exact hg3
  · have e : i = ds.length := by omega
    subst e
    rw [List.drop_length] at hg2
    exact .inl ⟨gstop r2 H2 gd, hg2 r2 H2 s1 (Ext.refl _ _) hm2 he2⟩
end

/-! ## a def -/
mutual
def below (n : Nat) : D → Bool
  | .ref i => decide (i < n)
  | .tup l => belowL n l
  | .lst l => belowL n l
  | _ => true
def belowL (n : Nat) : List D → Bool
  | [] => true
  | d :: ds => below n d && belowL n ds
end
def belowO (n : Nat) : Ob → Bool
  | .lst l => belowL n l
  | .ins fs => fs.all fun p => below n p.2
  | .dct fs => fs.all fun p => below n p.2
  | .gone => true
/-- behind a call: what the call has made for itself is forgotten; a list of its own that it hands back is from then on a plain one -/
def pack (n : Nat) (d : D) (m : Mem) : Out D :=
  if m.length ≤ n then .ok d m
  else if (m.take n).all (belowO n) then
    (if below n d then .ok d (m.take n) else match d with
      | .ref i => match m[i]? with
        | some (.lst l) => if belowL n l then .ok (.lst l) (m.take n) else .ok d m
        | _ => .ok d m
      | _ => .ok d m)
  else .ok d m
def finD (n : Nat) (o : SO) : Out D := match o with
  | .rt d m => pack n d m
  | .nx _ m => pack n .non m
  | .er x _ m => if m.length ≤ n then .er x m else if (m.take n).all (belowO n) then .er x (m.take n) else .er x m
  | _ => .bad
def defSem (np nn : Nat) (f : Ev → Mem → SO) : List D → Mem → Out D := fun ds m => if ds.length = np then finD m.length (f (ds.map some ++ List.replicate (nn - np) none) m) else .bad

section
variable {c : Cn} {r : Rh} {H : Hp} {n : Nat}
theorem get_take {α : Type} {l : List α} {i n : Nat} (h : i < n) : (l.take n)[i]? = l[i]? := by
  rw [List.getElem?_take, if_pos h]
def Rh.cut (r : Rh) (n : Nat) : Rh := ⟨r.ix.take n, r.bl⟩
theorem cut_own {a : Addr} (h : (r.cut n).Own a) : r.Own a := by
  rcases h with h | h
  · exact .inl (List.mem_of_mem_take h)
  · exact .inr h
mutual
theorem Rep.cut : ∀ {d : D} {v : V}, Rep c r H d v → below n d = true → Rep c (r.cut n) H d v
  | _, _, .non, _ => .non
  | _, _, .bl b, _ => .bl b
  | _, _, .int i, _ => .int i
  | _, _, .str s, _ => .str s
  | _, _, .tup h k q, b => .tup h (fun z => k (cut_own z)) (Reps.cut q (by simpa [below] using b))
  | _, _, .lst h k q, b => .lst h (fun z => k (cut_own z)) (Reps.cut q (by simpa [below] using b))
  | _, _, .scr h k, _ => .scr h (fun z => k (cut_own z))
  | _, _, .scrK h, _ => .scrK h
  | _, _, .ref h, b => .ref ((get_take (by simpa [below] using b)).trans h)
  | _, _, .gone h, b => .gone ((get_take (by simpa [below] using b)).trans h)
  | _, _, .val v, _ => .val v
theorem Reps.cut : ∀ {ds : List D} {vs : List V}, Reps c r H ds vs → belowL n ds = true → Reps c (r.cut n) H ds vs
  | _, _, .nil, _ => .nil
  | _, _, .cons h t, b => by
    rw [belowL, Bool.and_eq_true] at b
    exact .cons (Rep.cut h b.1) (Reps.cut t b.2)
end
theorem FRep.cut : ∀ {fs : List (Str × D)} {gs : List (Str × V)}, FRep c r H fs gs → (fs.all fun p => below n p.2) = true → FRep c (r.cut n) H fs gs
  | [], [], _, _ => True.intro
  | (_, _) :: _, (_, _) :: _, ⟨h1, h2, h3⟩, b => by
    rw [List.all_cons, Bool.and_eq_true] at b
    exact ⟨h1, h2.cut b.1, FRep.cut h3 b.2⟩
  | [], _ :: _, h, _ => h.elim
  | _ :: _, [], h, _ => h.elim
theorem kvR.cut : ∀ {fs : List (List Nat × D)} {gs : List (Key × V)}, kvR c r H fs gs → (fs.all fun p => below n p.2) = true → kvR c (r.cut n) H fs gs
  | [], [], _, _ => True.intro
  | (_, _) :: _, (_, _) :: _, ⟨h1, h2, h3⟩, b => by
    rw [List.all_cons, Bool.and_eq_true] at b
    exact ⟨h1, h2.cut b.1, kvR.cut h3 b.2⟩
  | [], _ :: _, h, _ => h.elim
  | _ :: _, [], h, _ => h.elim
theorem Ext.cut {r1 : Rh} {H1 : Hp} (x : Ext r H r1 H1) (hl : r.ix.length ≤ n) : Ext r H (r1.cut n) H1 := by
  refine ⟨⟨fun i z h => ?_, fun a h => x.own a (cut_own h), x.keep, x.dom⟩, x.bl, x.keepB⟩
  obtain ⟨hi, _⟩ := List.getElem?_eq_some_iff.mp h
  rw [show (r1.cut n).ix[i]? = r1.ix[i]? from get_take (by omega)]
  exact x.ix i z h
theorem MemOk.cut {m : Mem} (h : MemOk c r H m) (b : (m.take n).all (belowO n) = true) : MemOk c (r.cut n) H (m.take n) := by
  have lt : ∀ (k : Nat) (x : Option Addr), (r.cut n).ix[k]? = some x → k < n ∧ r.ix[k]? = some x := fun k x e => by
    replace e : (r.ix.take n)[k]? = some x := e
    have hn : k < n := by
      obtain ⟨z, _⟩ := List.getElem?_eq_some_iff.mp e
      rw [List.length_take] at z
      omega
    rw [get_take hn] at e
    exact ⟨hn, e⟩
  refine ⟨by show (r.ix.take n).length = _; rw [List.length_take, List.length_take, h.len], fun i oa o e1 e2 => ?_, fun i j a e1 e2 => h.nd i j a (lt i _ e1).2 (lt j _ e2).2, fun a ha => ⟨fun z => (h.dj a ha).1 (List.mem_of_mem_take z), (h.dj a ha).2⟩⟩
  obtain ⟨hn, e1⟩ := lt i _ e1
  have bo : belowO n o = true := List.all_eq_true.mp b o (List.mem_of_getElem? e2)
  rw [get_take hn] at e2
  have q := h.at' i oa o e1 e2
  cases oa with
  | none => cases o <;> exact q
  | some a =>
    cases o with
    | lst l =>
      obtain ⟨vs, h1, h2⟩ := q
      exact ⟨vs, h1, h2.cut bo⟩
    | ins fs =>
      obtain ⟨dx, gs, h1, h2⟩ := q
      exact ⟨dx, gs, h1, h2.cut bo⟩
    | dct fs =>
      obtain ⟨gs, h1, h2⟩ := q
      exact ⟨gs, h1, h2.cut bo⟩
    | gone => exact q.elim
end
section
variable {c : Cn} {W : WX} {s : L2.St} {r : Rh} {H : Hp}
theorem pack_sound {n : Nat} {d : D} {m : Mem} {Q : VK} (hl : r.ix.length ≤ n) (h : G c W (Rep c) s r H (pack n d m) Q) : G c W (Rep c) s r H (.ok d m) Q := by
  unfold pack at h
  intro r1 H1 v x hm hq
  split at h
  · exact h r1 H1 v x hm hq
  · split at h
    · rename_i hn hb
      have x2 := x.cut (n := n) hl
      have hm2 := hm.cut hb
      split at h
      · rename_i hd
        exact h (r1.cut n) H1 v x2 hm2 (hq.cut hd)
      · rename_i hd
        cases d with
        | ref i =>
          replace h : G c W (Rep c) s r H (match m[i]? with
            | some (.lst l) => if belowL n l then .ok (.lst l) (m.take n) else .ok (.ref i) m
            | _ => .ok (.ref i) m) Q := h
          cases ei : m[i]? with
          | none => rw [ei] at h; exact h r1 H1 v x hm hq
          | some o =>
            rw [ei] at h
            cases o with
            | lst l =>
              replace h : G c W (Rep c) s r H (if belowL n l then .ok (.lst l) (m.take n) else .ok (.ref i) m) Q := h
              split at h
              · rename_i hbl
                have hi : n ≤ i := by
                  have z : ¬ i < n := by simpa [below] using hd
                  omega
                obtain ⟨a, vs, e1, e2, e3⟩ := hm.lst ei
                have ev : v = .ref a := by
                  cases hq with
                  | ref e => rw [e1] at e; cases e; rfl
                  | gone e => rw [e1] at e; cases e
                subst ev
                refine h (r1.cut n) H1 (.ref a) x2 hm2 (.lst e2 (fun z => ?_) (e3.cut hbl))
                rcases z with z | z
                · obtain ⟨k, hk, ek⟩ := List.mem_iff_getElem.mp z
                  replace hk : k < (r1.ix.take n).length := hk
                  have hkn : k < n := by rw [List.length_take] at hk; omega
                  have e4 : r1.ix[k]? = some (some a) := by rw [← get_take hkn, List.getElem?_eq_getElem hk]; exact congrArg some ek
                  have := hm.nd k i a e4 e1
                  omega
                · exact (hm.dj a z).1 (List.mem_of_getElem? e1)
              · exact h r1 H1 v x hm hq
            | _ => exact h r1 H1 v x hm hq
        | _ => exact h r1 H1 v x hm hq
    · exact h r1 H1 v x hm hq
/-- what a def's body is to reach, from what the call's outcome wants -/
theorem fin_sound {E : XK} {o : SO} {Q : VK} (hl : ∃ n, n = r.ix.length ∧ G c (fun cls d _ H => E cls d H) (Rep c) s r H (finD n o) Q) : GS c (fun cls d _ H => E cls d H) r H o { nx := fun _ H' => Q .non H', rt := Q } := by
  obtain ⟨n, hn, h⟩ := hl
  have hle : r.ix.length ≤ n := by omega
  cases o with
  | rt d m => exact pack_sound hle h
  | nx e m => exact fun r1 H1 s1 x hm he => pack_sound (d := .non) hle h r1 H1 .non x hm .non
  | er x e m =>
    replace h : G c (fun cls d _ H => E cls d H) (Rep c) s r H (if m.length ≤ n then .er x m else if (m.take n).all (belowO n) then .er x (m.take n) else .er x m) Q := h
    split at h
    · exact fun r1 H1 s1 x hm he => h r1 H1 x hm
    · split at h
      · rename_i hb
        exact fun r1 H1 s1 x hm he => h (r1.cut n) H1 (x.cut hle) (hm.cut hb)
      · exact fun r1 H1 s1 x hm he => h r1 H1 x hm
  | bk e m => exact h.elim
  | ct e m => exact h.elim
  | bad => exact h.elim
end
/-- the promise of a def: it does what g says -/
def spD (c : Cn) (n : Nat) (g : List D → Mem → Out D) : Sp := fun vs H Q E => ∃ r m ds, vs.length = n ∧ MemOk c r H m ∧ Reps c r H ds vs ∧ G c (fun cls d _ H => E cls d H) (Rep c) [] r H (g ds m) Q
section
variable {P : Program} {w : World} {K : PySem.W.Frag} {mg : Str → Option Value} {base : Heap} {c : Cn}
abbrev XB (P : Program) (w : World) (K : PySem.W.Frag) (mg : Str → Option Value) (base : Heap) (N : List Str) (qual : Str) (sc : Scope) (f : Addr) (cd : Value) (A : Around) (outer : List PySem.Env) (s : Shared) (H : Hp) (E : XK) : Cx := cxOf (L2.CX P w) P w K mg base N qual sc f cd A outer s H E
theorem reps_map {r : Rh} {H : Hp} : ∀ {ds : List D} {vs : List V} (i : Nat) (d : D), Reps c r H ds vs → (ds.map some)[i]? = some (some d) → ∃ v, (vs.map some)[i]? = some (some v) ∧ Rep c r H d v := by
  intro ds vs i d h e
  rw [List.getElem?_map] at e
  cases q : ds[i]? with
  | none => rw [q] at e; cases e
  | some d' =>
    rw [q] at e
    cases e
    obtain ⟨v, h1, h2⟩ := h.get q
    exact ⟨v, by rw [List.getElem?_map, h1]; rfl, h2⟩
theorem env_start {r : Rh} {H : Hp} {N : List Str} {ds : List D} {vs : List V} (h : Reps c r H ds vs) (hl : ds.length ≤ N.length) : EnvOk c r H (ds.map some ++ List.replicate (N.length - ds.length) none) (L2.start N vs) := by
  unfold L2.start
  refine ⟨by simp [h.length], fun i d e => ?_⟩
  by_cases hi : i < ds.length
  · rw [List.getElem?_append_left (by simpa using hi)] at e
    obtain ⟨v, h1, h2⟩ := reps_map i d h e
    exact ⟨v, by rw [List.getElem?_append_left (by rw [List.length_map, ← h.length]; exact hi)]; exact h1, h2⟩
  · rw [List.getElem?_append_right (by simpa using hi), List.getElem?_replicate] at e
    split at e <;> cases e
theorem fn_sem {x qual : Str} {st : Stmt} {f : Addr} {fd : FuncData} {N ps : List Str} {k : Nat} {g : Ev → Mem → SO} (F : Fun K x qual st f fd) (S : FnScope N ps (defScope st))
    (hb : ∀ (cdv : Value) (A : Around) (outer : List PySem.Env) (s : Shared) (H : Hp) (E : XK), Room k (A.deeper (envOfC qual (defScope st) s.heap.objs.size f cdv)) →
      BX c (XB P w K mg base N qual (defScope st) f cdv A outer s H E) (fun cls d _ H => E cls d H) (defBody st) g) :
    FnOk P w K mg base (L2.CX P w) (k + 1) f fd ps (spD c ps.length (defSem ps.length N.length g)) := by
  refine F.okX S (fun vs H Q E h => ?_) (fun cdv A outer s H vs Q E hr h => ?_)
  · obtain ⟨r, m, ds, h1, _⟩ := h
    exact h1
  · obtain ⟨r, m, ds, h1, hm, hq, hg⟩ := h
    obtain ⟨t, p, q⟩ := hb cdv A outer s H E hr
    refine ⟨t, p, ?_⟩
    unfold defSem at hg
    split at hg
    · rename_i hl
      have hpl : ps.length ≤ N.length := by have := congrArg List.length S.pre; rw [List.length_take] at this; omega
      rw [← hl] at hg
      refine q r H m _ _ _ hm (env_start hq (by omega)) (fin_sound (s := []) ⟨m.length, hm.len.symm, hg⟩)
    · exact hg.elim
end
end Sz

namespace Sz
open PySem PySem.Spec PyProof.Rows L2

/-! ## what a for or a comprehension walks -/
def asT (d : D) (m : Mem) : Out (List D) := match d with
  | .tup l => .ok l m
  | _ => .bad
def asLs (d : D) (m : Mem) : Out (List D) := match d with
  | .lst l => .ok l m
  | _ => .bad
def asCh (d : D) (m : Mem) : Out (List D) := match d with
  | .str s => .ok (s.map fun k => D.str [k]) m
  | _ => .bad
def iOf (h : D → Mem → Out (List D)) (f : Ev → Mem → Out D) : Ev → Mem → Out (List D) := fun e m => (f e m).bind h
/-- lo, lo + 1, .. -/
def upto (lo : Int) (n : Nat) : List D := (List.range n).map fun i => .int (lo + (i : Nat))
def rngC (i : Int) : Bool := decide (-1000000000000000000 < i ∧ i < 1000000000000000000)
def iRange1 (f : Ev → Mem → Out (List D)) : Ev → Mem → Out (List D) := fun e m => (f e m).bind fun l m1 => match l with
  | [.int j] => if rngC j then .ok (upto 0 j.toNat) m1 else .bad
  | _ => .bad
def iRange2 (f : Ev → Mem → Out (List D)) : Ev → Mem → Out (List D) := fun e m => (f e m).bind fun l m1 => match l with
  | [.int i, .int j] => if rngC i && rngC j then .ok (upto i (j - i).toNat) m1 else .bad
  | _ => .bad
def pairs : List D → List D → List D
  | a :: as, b :: bs => .tup [a, b] :: pairs as bs
  | _, _ => []
/-- zip of two tuples, or of two lists -/
def iZipT (f : Ev → Mem → Out (List D)) : Ev → Mem → Out (List D) := fun e m => (f e m).bind fun l m1 => match l with
  | [.tup a, .tup b] => .ok (pairs a b) m1
  | _ => .bad
theorem pairs_len : ∀ a b : List D, (pairs a b).length = min a.length b.length
  | [], _ => by simp [pairs]
  | _ :: _, [] => by simp [pairs]
  | a :: as, b :: bs => by simp only [pairs, List.length_cons, pairs_len as bs]; omega
theorem pairs_get : ∀ (a b : List D) (i : Nat) (x y : D), a[i]? = some x → b[i]? = some y → (pairs a b)[i]? = some (.tup [x, y])
  | [], _, _, _, _, h, _ => by simp at h
  | _ :: _, [], _, _, _, _, h => by simp at h
  | a :: as, b :: bs, 0, x, y, h1, h2 => by simp at h1 h2; subst h1; subst h2; rfl
  | a :: as, b :: bs, i + 1, x, y, h1, h2 => by
    show (pairs as bs)[i]? = _
    exact pairs_get as bs i x y (by simpa using h1) (by simpa using h2)
section
variable {c : Cn} {X : Cx} {W : WX} {a b d e : Expr} {es : List Expr} {pos : Pos} {fa fb fc : Ev → Mem → Out D} {fl : Ev → Mem → Out (List D)} {tg : Expr}

theorem ix_tup (h : EX c X W e fa) : IX c X W tg e (iOf asT fa) := by
  obtain ⟨t, p, q⟩ := h
  refine ⟨_, pi_tup p, fun r H m env s R hm he hg => ?_⟩
  refine q r H m env s _ hm he (G.bind hg fun d1 m1 r1 H1 v x1 hm1 q1 hg1 => ?_)
  unfold asT at hg1
  split at hg1
  · rename_i l
    cases q1 with
    | @tup a vs _ hT hoff hr =>
      refine ⟨_, rfl, ⟨_, SqT.of hT⟩, G.here hg1 hm1 ?_⟩
      refine ⟨fun r2 H2 => H2 a = some (.tup vs) ∧ ¬ r2.Own a ∧ Reps c r2 H2 l vs, ⟨hT, hoff, hr⟩, fun r2 H2 r3 H3 ⟨h1, h2, h3⟩ x => ⟨x.keep _ _ h2 h1, x.off h2 h1, h3.le x⟩,
        fun r2 H2 i ⟨h1, h2, h3⟩ hi => ⟨vs, vs[i]'(by rw [← h3.length]; exact hi), SqT.of h1, by simp⟩, fun r2 H2 ⟨h1, h2, h3⟩ => ⟨vs, SqT.of h1, by rw [h3.length]; exact Nat.le_refl _⟩, fun r2 H2 m2 i x H3 ⟨h1, h2, h3⟩ hm2 hy hi => ?_⟩
      obtain ⟨rfl, h4⟩ := hy
      obtain ⟨d2, h5, h6⟩ := h3.back (h4 vs (SqT.of h1))
      exact ⟨Ext.refl _ _, hm2, d2, h5, h6⟩
  · exact hg1.elim
theorem ix_lst (h : EX c X W e fa) : IX c X W tg e (iOf asLs fa) := by
  obtain ⟨t, p, q⟩ := h
  refine ⟨_, pi_list p, fun r H m env s R hm he hg => ?_⟩
  refine q r H m env s _ hm he (G.bind hg fun d1 m1 r1 H1 v x1 hm1 q1 hg1 => ?_)
  unfold asLs at hg1
  split at hg1
  · rename_i l
    cases q1 with
    | @lst a vs _ hT hoff hr =>
      refine ⟨_, rfl, ⟨_, SqL.of hT⟩, G.here hg1 hm1 ?_⟩
      refine ⟨fun r2 H2 => H2 a = some (.lst vs) ∧ ¬ r2.Own a ∧ Reps c r2 H2 l vs, ⟨hT, hoff, hr⟩, fun r2 H2 r3 H3 ⟨h1, h2, h3⟩ x => ⟨x.keep _ _ h2 h1, x.off h2 h1, h3.le x⟩,
        fun r2 H2 i ⟨h1, h2, h3⟩ hi => ⟨vs, vs[i]'(by rw [← h3.length]; exact hi), SqL.of h1, by simp⟩, fun r2 H2 ⟨h1, h2, h3⟩ => ⟨vs, SqL.of h1, by rw [h3.length]; exact Nat.le_refl _⟩, fun r2 H2 m2 i x H3 ⟨h1, h2, h3⟩ hm2 hy hi => ?_⟩
      obtain ⟨rfl, h4⟩ := hy
      obtain ⟨d2, h5, h6⟩ := h3.back (h4 vs (SqL.of h1))
      exact ⟨Ext.refl _ _, hm2, d2, h5, h6⟩
  · exact hg1.elim
theorem ix_str (h : EX c X W e fa) : IX c X W tg e (iOf asCh fa) := by
  obtain ⟨t, p, q⟩ := h
  refine ⟨_, pi_str p, fun r H m env s R hm he hg => ?_⟩
  refine q r H m env s _ hm he (G.bind hg fun d1 m1 r1 H1 v x1 hm1 q1 hg1 => ?_)
  unfold asCh at hg1
  split at hg1
  · rename_i z
    cases q1
    refine ⟨_, rfl, G.here hg1 hm1 ?_⟩
    have W0 := walk_str (z := ⟨z.toArray⟩)
    have hz : (z.map fun k => D.str [k]).length = (⟨z.toArray⟩ : Str).cps.size := by simp
    refine ⟨fun _ _ => True, trivial, fun _ _ _ _ _ _ => trivial, fun r2 H2 i _ hi => W0.goes i H2 (by rw [← hz]; exact hi) trivial, fun r2 H2 _ => by rw [hz]; exact W0.stops H2 trivial, fun r2 H2 m2 i x H3 _ hm2 hy hi => ?_⟩
    obtain ⟨rfl, k, hk, rfl⟩ := W0.yields i H2 x H3 (by rw [← hz]; exact hi) trivial hy
    refine ⟨Ext.refl _ _, hm2, .str [k], ?_, .str [k]⟩
    have hk' : z[i]? = some k := by simpa using hk
    rw [List.getElem?_map, hk']
    rfl
  · exact hg1.elim
theorem rng_bnd {i : Int} (h : rngC i = true) : -(2 ^ 62) ≤ i ∧ i < 2 ^ 62 := by
  unfold rngC at h
  rw [decide_eq_true_eq] at h
  have e : (2 : Int) ^ 62 = 4611686018427387904 := by decide +kernel
  rw [e]
  omega
theorem ix_rngJ {lo : Int} {n : Nat} {r : Rh} {H : Hp} : ∃ Gd : Rh → Hp → Prop, Gd r H ∧ (∀ r1 H1 r2 H2, Gd r1 H1 → Le r1 H1 r2 H2 → Gd r2 H2) ∧
      (∀ r1 H1 i, Gd r1 H1 → i < (upto lo n).length → (Itr lo n).go i H1) ∧ (∀ r1 H1, Gd r1 H1 → (Itr lo n).stop (upto lo n).length H1) ∧
      (∀ r1 H1 m1 i x H2, Gd r1 H1 → MemOk c r1 H1 m1 → (Itr lo n).yld i H1 x H2 → i < (upto lo n).length → Ext r1 H1 r1 H2 ∧ MemOk c r1 H2 m1 ∧ ∃ d, (upto lo n)[i]? = some d ∧ Rep c r1 H2 d x) := by
  have e : (upto lo n).length = n := by simp [upto]
  refine ⟨fun _ _ => True, trivial, fun _ _ _ _ _ _ => trivial, fun r2 H2 i _ hi => by rw [e] at hi; exact hi, fun r2 H2 _ => by rw [e]; exact Nat.le_refl n, fun r2 H2 m2 i x H3 _ hm2 hy hi => ?_⟩
  obtain ⟨rfl, rfl⟩ := hy
  rw [e] at hi
  refine ⟨Ext.refl _ _, hm2, .int (lo + (i : Nat)), ?_, .int _⟩
  unfold upto
  rw [List.getElem?_map, List.getElem?_range hi]
  rfl
theorem ix_range1 {p : Pos} (hg : Gl X "range") (hm : X.mg "range" = none) (ha : AX c X W [a] fl) (hs : starEach [a] X.env = [(false, eval a X.env)] := by rfl) : IX c X W tg (.Call (.Name "range" p) [a] [] pos) (iRange1 fl) := by
  obtain ⟨t, p, q⟩ := ha
  refine ⟨_, pi_range1 hg hm p hs, fun r H m env s R hm he hg => ?_⟩
  refine q r H m env s _ hm he (G.bind hg fun l m1 r1 H1 vs x1 hm1 q1 hg1 => ?_)
  split at hg1
  · rename_i j
    split at hg1
    · rename_i hj
      cases q1 with
      | cons h1 h2 =>
        cases h1
        cases h2
        have b := rng_bnd hj
        exact ⟨j, rfl, b.1, b.2, G.here hg1 hm1 ix_rngJ⟩
    · exact hg1.elim
  · exact hg1.elim
theorem ix_range2 {p : Pos} (hg : Gl X "range") (hm : X.mg "range" = none) (ha : AX c X W [a, b] fl) (hs : starEach [a, b] X.env = [(false, eval a X.env), (false, eval b X.env)] := by rfl) (hs2 : starEach [b] X.env = [(false, eval b X.env)] := by rfl) : IX c X W tg (.Call (.Name "range" p) [a, b] [] pos) (iRange2 fl) := by
  obtain ⟨t, p, q⟩ := ha
  refine ⟨_, pi_range2 hg hm p hs hs2, fun r H m env s R hm he hg => ?_⟩
  refine q r H m env s _ hm he (G.bind hg fun l m1 r1 H1 vs x1 hm1 q1 hg1 => ?_)
  split at hg1
  · rename_i i j
    split at hg1
    · rename_i hj
      rw [Bool.and_eq_true] at hj
      cases q1 with
      | cons h1 h2 =>
        cases h1
        cases h2 with
        | cons h1 h2 =>
          cases h1
          cases h2
          have b1 := rng_bnd hj.1
          have b2 := rng_bnd hj.2
          exact ⟨i, j, rfl, ⟨b1.1, b1.2, b2.1, b2.2⟩, G.here hg1 hm1 ix_rngJ⟩
    · exact hg1.elim
  · exact hg1.elim

/-! ## comprehensions -/
def Out.bind0 {α β : Type} (o : Out α) (f : α → Mem → Out β) : Out β := match o with
  | .ok a m => f a m
  | _ => .bad
end
@[simp] theorem bind0_ok {α β : Type} {a : α} {m : Mem} {f : α → Mem → Out β} : (Out.ok a m).bind0 f = f a m := rfl
@[simp] theorem bind0_er {α β : Type} {x : Nat} {m : Mem} {f : α → Mem → Out β} : (Out.er x m).bind0 f = .bad := rfl
@[simp] theorem bind0_bad {α β : Type} {f : α → Mem → Out β} : (Out.bad).bind0 f = .bad := rfl
def wipeE (e : Ev) : List Nat → Ev
  | [] => e
  | v :: vs => (wipeE e vs).set v none
def lcL (g : Ev → D → Option Ev) (ft : Ev → Mem → Out Bool) (f : Ev → Mem → Out D) (e0 : Ev) : List D → List D → Mem → Out (List D)
  | [], acc, m => .ok acc m
  | d :: ds, acc, m => match g e0 d with
    | none => .bad
    | some e1 => (ft e1 m).bind0 fun b m1 => if b then (f e1 m1).bind0 fun x m2 => if acc.length < 1000000 then lcL g ft f e0 ds (acc ++ [x]) m2 else .bad else lcL g ft f e0 ds acc m1
def tYesS : Ev → Mem → Out Bool := fun _ m => .ok true m
def sLc (vs : List Nat) (fi : Ev → Mem → Out (List D)) (g : Ev → D → Option Ev) (ft : Ev → Mem → Out Bool) (f : Ev → Mem → Out D) : Ev → Mem → Out D := fun e m =>
  (fi e m).bind fun ds m1 => (lcL g ft f (wipeE e vs) ds [] m1).bind0 fun l m2 => .ok (.lst l) m2
theorem G.bind0 {c : Cn} {W : WX} {s : L2.St} {r r5 : Rh} {H H5 : Hp} {α β γ δ : Type} {R : Rh → Hp → α → β → Prop} {R2 : Rh → Hp → γ → δ → Prop} {o : Out α} {f : α → Mem → Out γ} {Q : δ → Hp → Prop} {S : β → Hp → Prop} {W2 : WX} {s2 : L2.St} (h : G c W R2 s r H (o.bind0 f) Q)
    (k : ∀ a m r' H' b, Ext r5 H5 r' H' → MemOk c r' H' m → R r' H' a b → G c W R2 s r H (f a m) Q → S b H') : G c W2 R s2 r5 H5 o S := by
  cases o with
  | ok a m => exact fun r' H' b x y z => k a m r' H' b x y z h
  | er e m => exact h.elim
  | bad => exact h.elim
theorem Ext.under {r1 r5 r7 : Rh} {H1 H5 H7 : Hp} {p : Addr} (x : Ext r1 H1 r5.unblk H5) (h5 : r5.bl = p :: r1.bl) (hp : H1 p = none) (y : Ext r5 H5 r7 H7) : Ext r1 H1 r7.unblk H7 := by
  have un : ∀ b, r5.Own b → r5.unblk.Own b ∨ b = p := fun b q => by
    rcases q with q | q
    · exact .inl (.inl q)
    · rw [h5] at q
      rcases List.mem_cons.mp q with z | z
      · exact .inr z
      · exact .inl (.inr (by show b ∈ r5.bl.tail; rw [h5]; exact z))
  refine ⟨⟨fun i z h => ?_, fun a h => ?_, fun b o n h => ?_, fun b h => x.dom b (y.dom b h)⟩, ?_, fun b hb o h => y.keepB b (by rw [h5]; exact List.mem_cons_of_mem _ hb) o (x.keepB b hb o h)⟩
  · rcases x.ix i z h with q | q
    · exact y.ix i z q
    · rcases y.ix i _ q with w | w
      · exact .inr w
      · exact .inr w
  · rcases y.own a (unblk_own h) with q | q
    · rcases un a q with z | z
      · exact x.own a z
      · exact .inr (by rw [z]; exact hp)
    · exact .inr (x.dom a q)
  · refine y.keep b o (fun z => ?_) (x.keep b o n h)
    rcases un b z with k | k
    · exact x.off n h k
    · rw [k, hp] at h; cases h
  · show r7.bl.tail = r1.bl
    rw [y.bl, h5]
    rfl
theorem Ext.blk0 {r : Rh} {H : Hp} {p : Addr} {o : HO} (hp : H p = none) : Ext r H (r.blk p).unblk (upd H p o) := ⟨(Ext.new hp (r := r)).toLe, rfl, (Ext.new hp (r := r)).keepB⟩
theorem Ext.wrote {r1 r7 : Rh} {H1 H7 : Hp} {p : Addr} {o : HO} (x : Ext r1 H1 r7.unblk H7) (hp : H1 p = none) : Ext r1 H1 r7.unblk (upd H7 p o) := by
  refine ⟨⟨x.ix, x.own, fun b u n h => ?_, fun b h => ?_⟩, x.bl, fun b hb u h => ?_⟩
  · rw [upd_ne (ne_of_none h hp)]; exact x.keep b u n h
  · by_cases q : b = p
    · rw [q]; exact hp
    · rw [upd_ne q] at h; exact x.dom b h
  · rw [upd_ne (ne_of_none h hp)]; exact x.keepB b hb u h
theorem wipeE_len (e : Ev) : ∀ vs : List Nat, (wipeE e vs).length = e.length
  | [] => rfl
  | v :: vs => by show ((wipeE e vs).set v none).length = _; rw [List.length_set, wipeE_len e vs]
theorem EnvOk.wipe {c : Cn} {r : Rh} {H : Hp} {e : Ev} {s : L2.St} (h : EnvOk c r H e s) : ∀ vs : List Nat, EnvOk c r H (wipeE e vs) (L2.wipe s vs)
  | [] => h
  | v :: vs => by
    have ih := EnvOk.wipe h vs
    refine ⟨by rw [wipeE_len, wipe_length]; exact h.len, fun i d q => ?_⟩
    replace q : ((wipeE e vs).set v none)[i]? = some (some d) := q
    by_cases e1 : i = v
    · subst e1
      obtain ⟨z, _⟩ := List.getElem?_eq_some_iff.mp q
      rw [List.length_set] at z
      rw [List.getElem?_set_self z] at q
      cases q
    · rw [List.getElem?_set_ne (Ne.symm e1)] at q
      obtain ⟨v', h1, h2⟩ := ih.at' i d q
      exact ⟨v', by show ((L2.wipe s vs).set v none)[i]? = _; rw [List.getElem?_set_ne (Ne.symm e1)]; exact h1, h2⟩
section
variable {c : Cn} {X : Cx} {W : WX} {pos : Pos} {tg iter elt : Expr} {ifs : List Expr} {scope : Scope} {own : List (Str × Nat)} {fi : Ev → Mem → Out (List D)} {gg : Ev → D → Option Ev} {isg : List Nat} {ft : Ev → Mem → Out Bool} {f : Ev → Mem → Out D}
/-- no exception leaves a comprehension -/
abbrev W0 : WX := fun _ _ _ _ => False
/-- the tests -/
def TsX (c : Cn) (X : Cx) (W : WX) (ifs : List Expr) (ft : Ev → Mem → Out Bool) : Prop := ∃ t : TT, PTs X ifs t ∧ ∀ r H m env s Q, MemOk c r H m → EnvOk c r H env s → G c W RB s r H (ft env m) Q → t s H Q
theorem ts_nil : TsX c X W [] tYesS := ⟨_, pts_nil, fun r H m env s Q hm he hg => G.here (b := true) hg hm rfl⟩
theorem ts_one {e : Expr} (h : TX c X W e ft) : TsX c X W [e] ft := by
  obtain ⟨t, p, q⟩ := h
  exact ⟨t, pts_one p, q⟩
abbrev BK (X : Cx) (scope : Scope) (s : Shared) (H : Hp) (C : Addr) (cl : List (Str × Addr)) (fp : List Addr) : Cx := X.blk s H scope (compEnvC scope cl C X.env) fp
theorem lc_sound {wi : TI} {g : TG} {tt : TT} {te : TE} {vs : List Nat} (hsub : ∀ i ∈ isg, i ∈ vs)
    (qi : ∀ r H m env s (R : It → Hp → Prop), MemOk c r H m → EnvOk c r H env s →
    G c W (fun r' H' (ds : List D) (J : It) => ∃ Gd : Rh → Hp → Prop, Gd r' H' ∧ (∀ r1 H1 r2 H2, Gd r1 H1 → Le r1 H1 r2 H2 → Gd r2 H2) ∧
      (∀ r1 H1 i, Gd r1 H1 → i < ds.length → J.go i H1) ∧ (∀ r1 H1, Gd r1 H1 → J.stop ds.length H1) ∧
      (∀ r1 H1 m1 i x H2, Gd r1 H1 → MemOk c r1 H1 m1 → J.yld i H1 x H2 → i < ds.length → Ext r1 H1 r1 H2 ∧ MemOk c r1 H2 m1 ∧ ∃ d, ds[i]? = some d ∧ Rep c r1 H2 d x)) s r H (fi env m) R → wi s H R)
    (qg : ∀ (r : Rh) (H : Hp) (env e1 : Ev) (s : L2.St) (d : D) (v : V) (Q : L2.St → Hp → Prop), EnvOk c r H env s → Rep c r H d v → gg env d = some e1 →
      (∀ s', EnvOk c r H e1 s' → (∀ vs : List Nat, (∀ i ∈ isg, i ∈ vs) → wipe s' vs = wipe s vs) → Q s' H) → g v s H Q)
    (qt : ∀ r H m env s Q, MemOk c r H m → EnvOk c r H env s → G c W0 RB s r H (ft env m) Q → tt s H Q) (qe : ∀ r H m env s Q, MemOk c r H m → EnvOk c r H env s → G c W0 (Rep c) s r H (f env m) Q → te s H Q) :
    ∀ r H m env s Q, MemOk c r H m → EnvOk c r H env s → G c W (Rep c) s r H (sLc vs fi gg ft f env m) Q → tLc wi g tt te vs s H Q := by
  intro r H m env s Q hm he hg
  refine qi r H m env s _ hm he (G.bind hg fun ds m1 r1 H1 J x1 hm1 q1 hg1 => ?_)
  obtain ⟨Gd, g0, gext, ggo, gstop, gyld⟩ := q1
  intro Dn hDn
  refine ⟨fun i k H2 => i ≤ ds.length ∧ k = ds.length - i ∧ ∃ r2 m2 acc vacc, Gd r2 H2 ∧ MemOk c r2 H2 m2 ∧ EnvOk c r2 H2 env s ∧ H2 Dn = some (.lst vacc) ∧ r2.bl = Dn :: r1.bl ∧ Ext r1 H1 r2.unblk H2 ∧ Reps c r2 H2 acc vacc ∧
    G c W (Rep c) s r1 H1 ((lcL gg ft f (wipeE env vs) (ds.drop i) acc m2).bind0 fun l m2 => .ok (.lst l) m2) Q,
    ⟨ds.length, Nat.zero_le _, by simp, r1.blk Dn, m1, [], [], gext _ _ _ _ g0 (Le.blk hDn), hm1.blk hDn, (he.ext x1).le (Le.blk hDn), upd_same, rfl, Ext.blk0 hDn, .nil, hg1⟩, ?_⟩
  rintro i k H2 ⟨hi, hk, r2, m2, acc, vacc, gd, hm2, he2, hD2, hbl, hx, hacc, hg2⟩
  by_cases hlt : i < ds.length
  · refine .inr ⟨ggo r2 H2 i gd hlt, fun H' => ∃ r3 m3 acc vacc, Gd r3 H' ∧ MemOk c r3 H' m3 ∧ EnvOk c r3 H' env s ∧ H' Dn = some (.lst vacc) ∧ r3.bl = Dn :: r1.bl ∧ Ext r1 H1 r3.unblk H' ∧ Reps c r3 H' acc vacc ∧
      G c W (Rep c) s r1 H1 ((lcL gg ft f (wipeE env vs) (ds.drop (i + 1)) acc m3).bind0 fun l m2 => .ok (.lst l) m2) Q, fun H' h => ⟨ds.length - (i + 1), by omega, hlt, rfl, h⟩, fun x H3 hy => ?_⟩
    obtain ⟨x3, hm3, d, hd, qd⟩ := gyld r2 H2 m2 i x H3 gd hm2 hy hlt
    have ed : ds.drop i = d :: ds.drop (i + 1) := by
      obtain ⟨_, e⟩ := List.getElem?_eq_some_iff.mp hd
      rw [← e, List.drop_eq_getElem_cons hlt]
    rw [ed] at hg2
    replace hg2 : G c W (Rep c) s r1 H1 ((match gg (wipeE env vs) d with
      | none => Out.bad
      | some e1 => (ft e1 m2).bind0 fun b m1 => if b then (f e1 m1).bind0 fun x m2 => if acc.length < 1000000 then lcL gg ft f (wipeE env vs) (ds.drop (i + 1)) (acc ++ [x]) m2 else .bad else lcL gg ft f (wipeE env vs) (ds.drop (i + 1)) acc m1).bind0 fun l m2 => .ok (.lst l) m2) Q := hg2
    cases qe1 : gg (wipeE env vs) d with
    | none => rw [qe1] at hg2; exact hg2.elim
    | some e1 =>
      rw [qe1] at hg2
      have he3 := (he2.ext x3).wipe vs
      have hxm := hx.under hbl hDn x3
      refine qg r2 H3 _ e1 _ d x _ he3 qd qe1 fun s3 he4 hw => ⟨?_, ?_⟩
      · rw [hw vs hsub]
        refine List.ext_getElem? fun j => ?_
        rw [wipe_get, wipe_get, wipe_length]
        by_cases q : j ∈ vs ∧ j < s.length
        · rw [if_pos q, if_pos q]
        · rw [if_neg q, if_neg q]
      · -- the tests
        have hg3 : G c W (Rep c) s r1 H1 ((ft e1 m2).bind0 fun b m1 => (if b then (f e1 m1).bind0 fun x m2 => if acc.length < 1000000 then lcL gg ft f (wipeE env vs) (ds.drop (i + 1)) (acc ++ [x]) m2 else .bad else lcL gg ft f (wipeE env vs) (ds.drop (i + 1)) acc m1).bind0 fun l m2 => .ok (.lst l) m2) Q := by
          cases q : ft e1 m2 with
          | ok b m' => simpa [q] using hg2
          | er y m' => simp [q] at hg2; exact hg2.elim
          | bad => simp [q] at hg2; exact hg2.elim
        refine qt r2 H3 m2 e1 s3 _ hm3 he4 (G.bind0 hg3 fun k' m5 r5 H5 k'' x5 hm5 q5 hg5 => ?_)
        cases q5
        have hbl5 : r5.bl = Dn :: r1.bl := x5.bl.trans hbl
        have xx := x3.trans x5
        have hx5 := hxm.under hbl hDn x5
        have hD5 : H5 Dn = some (.lst vacc) := x5.keepB Dn (by show Dn ∈ r2.bl; rw [hbl]; exact List.mem_cons_self) _ (x3.keepB Dn (by rw [hbl]; exact List.mem_cons_self) _ hD2)
        cases k' with
        | false => exact iteF ⟨r5, m5, acc, vacc, gext _ _ _ _ gd xx.toLe, hm5, he2.ext xx, hD5, hbl5, hx5, hacc.ext xx, hg5⟩
        | true =>
          refine iteT ?_
          have hg6 : G c W (Rep c) s r1 H1 ((f e1 m5).bind0 fun x m2 => (if acc.length < 1000000 then lcL gg ft f (wipeE env vs) (ds.drop (i + 1)) (acc ++ [x]) m2 else .bad).bind0 fun l m2 => .ok (.lst l) m2) Q := by
            cases q : f e1 m5 with
            | ok b m' => simpa [q] using hg5
            | er y m' => simp [q] at hg5; exact hg5.elim
            | bad => simp [q] at hg5; exact hg5.elim
          refine qe r5 H5 m5 e1 s3 _ hm5 (he4.ext x5) (G.bind0 hg6 fun y m7 r7 H7 yv x7 hm7 q7 hg7 => ?_)
          split at hg7
          · rename_i hl
            have hbl7 : r7.bl = Dn :: r1.bl := x7.bl.trans hbl5
            have hin : Dn ∈ r7.bl := by rw [hbl7]; exact List.mem_cons_self
            have hD7 : H7 Dn = some (.lst vacc) := x7.keepB Dn (by rw [hbl5]; exact List.mem_cons_self) _ hD5
            have hx7 := hx5.under hbl5 hDn x7
            have xs := xx.trans x7
            have w := Le.putO (H := H7) (o := .lst (vacc ++ [yv])) (show r7.Own Dn from .inr hin)
            refine ⟨vacc, hD7, by rw [← hacc.length]; exact Nat.lt_of_lt_of_le hl (by decide), ?_⟩
            exact ⟨r7, m7, acc ++ [y], vacc ++ [yv], gext _ _ _ _ gd (xs.toLe.trans w), hm7.putB hin, (he2.ext xs).le w, upd_same, hbl7, hx7.wrote hDn, ((hacc.ext xs).append (.cons q7 .nil)).le w, hg7⟩
          · exact hg7.elim
  · have e : i = ds.length := by omega
    subst e
    rw [List.drop_length] at hg2
    refine .inl ⟨gstop r2 H2 gd, hg2 r2.unblk H2 (.ref Dn) hx hm2.unblk (.lst hD2 (fun z => ?_) hacc.unblk)⟩
    rcases z with z | z
    · exact (hm2.dj Dn (by rw [hbl]; exact List.mem_cons_self)).1 z
    · replace z : Dn ∈ r2.bl.tail := z
      rw [hbl] at z
      exact hm1.off hDn (.inr z)
end
end Sz

namespace Sz
open PySem PySem.Spec PyProof.Rows L2

section
variable {c : Cn} {X : Cx} {W : WX} {pos : Pos} {tg iter elt e : Expr} {ifs : List Expr} {scope : Scope} {own : List (Str × Nat)} {fi : Ev → Mem → Out (List D)} {gg : Ev → D → Option Ev} {isg : List Nat} {ft : Ev → Mem → Out Bool} {f : Ev → Mem → Out D}
/-- the reading that a semantics gives -/
def tO (c : Cn) (W : WX) (f : Ev → Mem → Out D) : TE := fun s H Q => ∃ r m env, MemOk c r H m ∧ EnvOk c r H env s ∧ G c W (Rep c) s r H (f env m) Q
def tOT (c : Cn) (W : WX) (f : Ev → Mem → Out Bool) : TT := fun s H Q => ∃ r m env, MemOk c r H m ∧ EnvOk c r H env s ∧ G c W RB s r H (f env m) Q
def tOG (c : Cn) (isg : List Nat) (gg : Ev → D → Option Ev) : TG := fun v s H Q => ∃ r env e1 d, EnvOk c r H env s ∧ Rep c r H d v ∧ gg env d = some e1 ∧ ∀ s', EnvOk c r H e1 s' → (∀ vs : List Nat, (∀ i ∈ isg, i ∈ vs) → wipe s' vs = wipe s vs) → Q s' H
theorem EX.pe (h : EX c X W e f) : PE X e (tO c W f) := by
  obtain ⟨t, p, q⟩ := h
  exact ⟨fun pins s σ H Q I ⟨r, m, env, h1, h2, h3⟩ => p.run pins s σ H Q I (q r H m env σ Q h1 h2 h3)⟩
theorem TsX.pts (h : TsX c X W ifs ft) : PTs X ifs (tOT c W ft) := by
  obtain ⟨t, p, q⟩ := h
  exact ⟨fun pins s σ H Q I ⟨r, m, env, h1, h2, h3⟩ => p.run pins s σ H Q I (q r H m env σ Q h1 h2 h3)⟩
theorem TgX.pg (h : TgX c X tg isg gg) : PG X tg (tOG c isg gg) := by
  obtain ⟨t, p, q⟩ := h
  exact ⟨fun pins s σ H v u Q I r0 ⟨r, env, e1, d, h1, h2, h3, h4⟩ => p.run pins s σ H v u Q I r0 (q r H env e1 σ d v Q h1 h2 h3 h4)⟩
theorem ex_lc (hc : X.calm = true) (hN : X.N.Nodup) (hi : IX c X W tg iter fi) (ok : BlkOk X.N X.env.scope scope own) (hg : ∀ s H C cl fp, TgX c (BK X scope s H C cl fp) tg isg gg) (ht : ∀ s H C cl fp, TsX c (BK X scope s H C cl fp) W0 ifs ft)
    (he : ∀ s H C cl fp, EX c (BK X scope s H C cl fp) W0 elt f) (hsub : ∀ i ∈ isg, i ∈ own.map (·.2) := by decide) (hs : ∀ x, foldedSetIterable iter X.env x = pure x := by intro _; rfl) : EX c X W (.ListComp elt [⟨tg, iter, ifs, 0⟩] scope pos) (sLc (own.map (·.2)) fi gg ft f) := by
  obtain ⟨wi, pi, qi⟩ := hi
  exact ⟨_, pe_lc hc hN pi ok (fun s H C cl fp => (hg s H C cl fp).pg) (fun s H C cl fp => (ht s H C cl fp).pts) (fun s H C cl fp => (he s H C cl fp).pe) hs,
    lc_sound hsub qi (fun r H env e1 s d v Q h1 h2 h3 h4 => ⟨r, env, e1, d, h1, h2, h3, h4⟩) (fun r H m env s Q h1 h2 h3 => ⟨r, m, env, h1, h2, h3⟩) fun r H m env s Q h1 h2 h3 => ⟨r, m, env, h1, h2, h3⟩⟩
theorem sx_setLc (i : Nat) {y : Str} {py spos : Pos} (hc : X.calm = true) (hN : X.N.Nodup) (hyl : X.env.scope.names.lookup y = some .local)
    (hsw : swapsWith (.ListComp elt [⟨tg, iter, ifs, 0⟩] scope pos) (some (.Name y py)) spos.line X.env = pure true) (hi : IX c X W tg iter fi) (ok : BlkOk X.N X.env.scope scope own) (hg : ∀ s H C cl fp, TgX c (BK X scope s H C cl fp) tg isg gg) (ht : ∀ s H C cl fp, TsX c (BK X scope s H C cl fp) W0 ifs ft)
    (he : ∀ s H C cl fp, EX c (BK X scope s H C cl fp) W0 elt f) (hy : X.N[i]? = some y := by rfl) (hsub : ∀ i ∈ isg, i ∈ own.map (·.2) := by decide) (hs : ∀ x, foldedSetIterable iter X.env x = pure x := by intro _; rfl) :
    SX c X W (.Assign [.Name y py] (.ListComp elt [⟨tg, iter, ifs, 0⟩] scope pos) spos) (kSet i (sLc (own.map (·.2)) fi gg ft f)) := by
  obtain ⟨wi, pi, qi⟩ := hi
  refine ⟨_, ps_setLc hc hN hy hyl hsw pi ok (fun s H C cl fp => (hg s H C cl fp).pg) (fun s H C cl fp => (ht s H C cl fp).pts) (fun s H C cl fp => (he s H C cl fp).pe) hs, fun r H m env s Dn hm he hg => ?_⟩
  refine lc_sound hsub qi (fun r H env e1 s d v Q h1 h2 h3 h4 => ⟨r, env, e1, d, h1, h2, h3, h4⟩) (fun r H m env s Q h1 h2 h3 => ⟨r, m, env, h1, h2, h3⟩) (fun r H m env s Q h1 h2 h3 => ⟨r, m, env, h1, h2, h3⟩) r H m env s _ hm he (G.thn he hg fun a m1 r1 H1 v x1 hm1 q1 hg1 => ?_)
  exact hg1 r1 H1 _ (Ext.refl _ _) hm1 ((he.ext x1).set i q1)
end

/-! ## a call of a def of the text -/
section
variable {c : Cn} {X : Cx} {W : WX} {pos p : Pos} {e : Expr} {es : List Expr} {fl : Ev → Mem → Out (List D)} {k : Nat} {f : Addr} {fd : FuncData} {ps : List Str} {x : Str} {g : List D → Mem → Out D} {n : Nat}
theorem ex_call (tk : Takes X W) (F : FnOk X.prog X.w X.K X.mg X.base (L2.CX X.prog X.w) k f fd ps (spD c n g)) (hr : Room k X.A) (hm : X.mg x = some (.ref f)) (hk : PySem.W.keepIn X.K (.ref f) = true) (hb : Binds X.K fd ps [])
    (ha : AX c X W (e :: es) fl) (hn : n = (e :: es).length) (hg : Gl X x := by rfl) (hdb : (x == ("__debug__" : Str)) = false := by decide) (he : starEach (e :: es) X.env = (false, eval e X.env) :: starEach es X.env := by rfl) (hpl : (backTo pos (starEach es X.env)).any (·.1) = false := by rfl) :
    EX c X W (.Call (.Name x p) (e :: es) [] pos) (sCB (fun l m => if l.length = n then g l m else .bad) fl) := by
  obtain ⟨t, pa, qa⟩ := ha
  refine ⟨_, pe_callS F hr hg hm hk hb (passAt tk) pa hdb he hpl, fun r H m env s Q hm he hg => ?_⟩
  refine qa r H m env s _ hm he (G.bind hg fun l m1 r1 H1 l' x1 hm1 q1 hg1 => ?_)
  split at hg1
  · rename_i hl
    exact ⟨r1, m1, l, by rw [← q1.length, hl], hm1, q1, hg1⟩
  · exact hg1.elim
end

/-! ## more operators -/
def sz (n : Nat) : Bool := decide (n ≤ 1000000)
def gAdd : D → D → Mem → Out D := fun a b m => match a, b with
  | .int i, .int j => .ok (.int (i + j)) m
  | .str x, .str y => if sz (x.length + y.length) then .ok (.str (x ++ y)) m else .bad
  | .tup x, .tup y => if sz (x.length + y.length) then .ok (.tup (x ++ y)) m else .bad
  | a, b => match rdO m a, rdO m b with
    | some x, some y => if sz (x.length + y.length) then .ok (.lst (x ++ y)) m else .bad
    | _, _ => .bad
theorem sz_line {n : Nat} (h : sz n = true) : n ≤ sizeLine := Nat.le_trans (of_decide_eq_true h) (by decide)
theorem app_str (x y : List Nat) : (⟨x.toArray⟩ : Str) ++ ⟨y.toArray⟩ = ⟨(x ++ y).toArray⟩ := by
  show (⟨x.toArray ++ y.toArray⟩ : Str) = _
  simp
/-- a list that is read as it stands -/
theorem rdO_at {c : Cn} {r : Rh} {H : Hp} {m : Mem} {d : D} {v : V} {l : List D} (hm : MemOk c r H m) (h : Rep c r H d v) (e : rdO m d = some l) : ∃ a vs, v = .ref a ∧ H a = some (.lst vs) ∧ Reps c r H l vs := by
  cases d with
  | lst l' =>
    cases e
    cases h with
    | lst h1 h2 h3 => exact ⟨_, _, rfl, h1, h3⟩
  | ref i =>
    replace e : (match m[i]? with
      | some (Ob.lst l) => some l
      | _ => none) = some l := e
    cases q : m[i]? with
    | none => rw [q] at e; cases e
    | some o =>
      rw [q] at e
      cases o with
      | lst l2 =>
        cases e
        obtain ⟨a, vs, h1, h2, h3⟩ := hm.lst q
        cases h with
        | ref h4 => rw [h1] at h4; cases h4; exact ⟨a, vs, rfl, h2, h3⟩
        | gone h4 => rw [h1] at h4; cases h4
      | ins fs => cases e
      | dct fs => cases e
      | gone => cases e
  | _ => cases e
theorem rdL_at {c : Cn} {r : Rh} {H : Hp} {m : Mem} {d : D} {v : V} {l : List D} (hm : MemOk c r H m) (h : Rep c r H d v) (e : rdL m d = some l) : ∃ a vs, v = .ref a ∧ SqL c.K H a vs ∧ Reps c r H l vs := by
  cases d with
  | scr ns =>
    cases e
    cases h with
    | scr h1 h2 => exact ⟨_, _, rfl, .inl (.inr ⟨_, h1⟩), Reps.ints ns⟩
    | scrK h1 => exact ⟨_, _, rfl, h1 H, Reps.ints ns⟩
  | lst l' =>
    obtain ⟨a, vs, h1, h2, h3⟩ := rdO_at (m := m) (l := l) hm h e
    exact ⟨a, vs, h1, SqL.of h2, h3⟩
  | ref i =>
    obtain ⟨a, vs, h1, h2, h3⟩ := rdO_at (m := m) (l := l) hm h e
    exact ⟨a, vs, h1, SqL.of h2, h3⟩
  | _ => cases e

section
variable {c : Cn} {X : Cx} {W : WX} {a b d e : Expr} {es : List Expr} {pos : Pos} {fa fb fc : Ev → Mem → Out D}
theorem op_addAny : OpR X (binaryOp .Add) (fun x y H Q => (∃ i j, x = .int i ∧ y = .int j ∧ Q (.int (i + j)) H) ∨ (∃ i j, x = .str i ∧ y = .str j ∧ i.length + j.length ≤ sizeLine ∧ Q (.str (i ++ j)) H) ∨ rCatA X.K x y H Q ∨ rCat x y H Q) :=
  OpR.or op_add (OpR.or op_add_str (OpR.or op_catA op_cat))
theorem os_add : OpS c W gAdd (fun x y H Q => (∃ i j, x = .int i ∧ y = .int j ∧ Q (.int (i + j)) H) ∨ (∃ i j, x = .str i ∧ y = .str j ∧ i.length + j.length ≤ sizeLine ∧ Q (.str (i ++ j)) H) ∨ rCatA X.K x y H Q ∨ rCat x y H Q) := by
  intro s r H m da db x y Q hm h1 h2 h
  have lists : ∀ l1 l2, rdO m da = some l1 → rdO m db = some l2 → G c W (Rep c) s r H (if sz (l1.length + l2.length) then .ok (.lst (l1 ++ l2)) m else .bad) Q → rCat x y H Q := by
    intro l1 l2 e1 e2 h
    obtain ⟨a1, v1, rfl, p1, q1⟩ := rdO_at hm h1 e1
    obtain ⟨a2, v2, rfl, p2, q2⟩ := rdO_at hm h2 e2
    split at h
    · rename_i hz
      refine ⟨a1, a2, v1, v2, rfl, rfl, p1, p2, by rw [← q1.length, ← q2.length]; exact sz_line hz, fun p np => ?_⟩
      exact h r (upd H p (.lst (v1 ++ v2))) (.ref p) (Ext.new np) (hm.new np) (.lst upd_same (hm.off np) ((q1.append q2).ext (Ext.new np)))
    · exact h.elim
  have other : G c W (Rep c) s r H (match rdO m da, rdO m db with
      | some x, some y => if sz (x.length + y.length) then .ok (.lst (x ++ y)) m else .bad
      | _, _ => .bad) Q → rCat x y H Q := by
    intro h
    cases e1 : rdO m da with
    | none => rw [e1] at h; exact h.elim
    | some l1 =>
      cases e2 : rdO m db with
      | none => rw [e1, e2] at h; exact h.elim
      | some l2 => rw [e1, e2] at h; exact lists l1 l2 e1 e2 h
  unfold gAdd at h
  split at h
  · cases h1
    cases h2
    exact .inl ⟨_, _, rfl, rfl, G.here (b := V.int _) h hm (.int _)⟩
  · cases h1
    cases h2
    split at h
    · rename_i hz
      refine .inr (.inl ⟨_, _, rfl, rfl, ?_, ?_⟩)
      · have := sz_line hz
        show Array.size _ + Array.size _ ≤ _
        simpa using this
      · rw [app_str]
        exact G.here (b := V.str _) h hm (.str _)
    · exact h.elim
  · cases h1 with
    | tup a1 a2 a3 =>
      cases h2 with
      | tup b1 b2 b3 =>
        split at h
        · rename_i hz
          refine .inr (.inr (.inl ⟨_, _, _, _, rfl, rfl, SqT.of a1, SqT.of b1, by rw [← a3.length, ← b3.length]; exact sz_line hz, fun e => ?_, fun _ e => ?_, fun _ _ p np => ?_⟩))
          · subst e
            cases a3
            exact G.here h hm (.tup b1 b2 b3)
          · subst e
            cases b3
            rw [List.append_nil] at h
            exact G.here h hm (.tup a1 a2 a3)
          · exact h r (upd H p _) (.ref p) (Ext.new np) (hm.new np) (.tup upd_same (hm.off np) ((a3.append b3).ext (Ext.new np)))
        · exact h.elim
  · exact .inr (.inr (.inr (other h)))
/-! ### times -/
theorem fold_rep (x : List Nat) : ∀ n : Nat, (List.replicate n x.toArray).foldl (· ++ ·) #[] = (List.replicate n x).flatten.toArray := by
  have gen : ∀ (n : Nat) (acc : List Nat), (List.replicate n x.toArray).foldl (· ++ ·) acc.toArray = (acc ++ (List.replicate n x).flatten).toArray := by
    intro n
    induction n with
    | zero => intro acc; simp
    | succ n ih =>
      intro acc
      rw [List.replicate_succ, List.foldl_cons, List.append_toArray, ih, List.replicate_succ, List.flatten_cons, List.append_assoc]
  intro n
  have := gen n []
  simpa using this
theorem op_repStr : OpR X (binaryOp .Mult) (fun x y H Q => ∃ z n, x = .str z ∧ y = .int n ∧ n ≤ 1000000 ∧ -1000000 ≤ n ∧ z.length * n.toNat ≤ 1000000 ∧ Q (.str ⟨(List.replicate n.toNat z.cps.toList).flatten.toArray⟩) H) := by
  intro pins s σ H x y v u Q I rx ry h
  obtain ⟨z, n, rfl, rfl, h1, h0, hz, q⟩ := h
  obtain ⟨t, rfl⟩ := rx
  obtain ⟨t', rfl⟩ := ry
  have hl : z.cps.size = z.cps.toList.length := by simp
  refine PySem.P.mul_str (by
    have a0 : (2 : Int) ^ 63 = 9223372036854775808 := by decide +kernel
    have a1 : ¬ n < -(2 ^ 63 : Int) := by rw [a0]; omega
    have a2 : ¬ n ≥ 2 ^ 63 := by rw [a0]; omega
    rw [decide_eq_false a1, decide_eq_false a2]
    rfl) (fun h2 h3 h4 => ?_) (fun h2 h3 => decide_eq_false (by rw [sizeLine_eq]; omega)) ?_
  · have h6 : 1 ≤ n := by omega
    have h7 : (z.length : Int) ≤ 1000000 := by
      have : z.length * 1 ≤ z.length * n.toNat := Nat.mul_le_mul_left _ (by omega)
      omega
    have h8 : (9223372036854775807 : Int) / n ≥ 9223372036854775807 / 1000000 := by
      refine Int.le_ediv_of_mul_le (by omega) ?_
      have : (9223372036854775807 : Int) / 1000000 * n ≤ 9223372036854775807 / 1000000 * 1000000 := Int.mul_le_mul_of_nonneg_left h1 (by decide)
      omega
    have h9 : (2 : Int) ^ 63 - 1 = 9223372036854775807 := by decide +kernel
    rw [h9] at h4
    omega
  · have ez : z.cps = z.cps.toList.toArray := by simp
    by_cases c1 : n < 1
    · rw [if_pos c1]
      have e0 : n.toNat = 0 := by omega
      rw [e0] at q
      exact ⟨by rw [sizeLine_eq]; decide, .str _, H, I.tok _, ⟨_, rfl⟩, q⟩
    · rw [if_neg c1]
      by_cases c2 : (n == 1 || z.length == 0) = true
      · rw [if_pos c2]
        have e1 : (⟨(List.replicate n.toNat z.cps.toList).flatten.toArray⟩ : Str) = z := by
          rw [Bool.or_eq_true, beq_iff_eq, beq_iff_eq] at c2
          rcases c2 with c2 | c2
          · subst c2
            cases z
            simp
          · have e3 : z.cps = #[] := Array.eq_empty_of_size_eq_zero c2
            cases z
            simp at e3
            subst e3
            simp
        rw [e1] at q
        exact ⟨.str z, H, I, ⟨t, rfl⟩, q⟩
      · rw [if_neg c2]
        have e1 : (List.replicate n.toNat z.cps).foldl (· ++ ·) #[] = (List.replicate n.toNat z.cps.toList).flatten.toArray := by
          rw [← fold_rep]
        rw [e1]
        refine ⟨?_, .str _, H, I.tok _, ⟨_, rfl⟩, q⟩
        show (List.replicate n.toNat z.cps.toList).flatten.toArray.size ≤ sizeLine
        rw [sizeLine_eq]
        simp only [List.size_toArray, List.length_flatten, List.map_replicate, List.sum_replicate_nat, Array.length_toList]
        have e5 : n.toNat * z.cps.size = z.length * n.toNat := Nat.mul_comm _ _
        omega
def gMul : D → D → Mem → Out D := fun a b m => match a, b with
  | .int i, .int j => if mulC i j then .ok (.int (i * j)) m else .bad
  | .str x, .int n => if decide (n ≤ 1000000) && decide (-1000000 ≤ n) && sz (x.length * n.toNat) then .ok (.str (List.replicate n.toNat x).flatten) m else .bad
  | a, .int n => match rdO m a with
    | some x => if decide (n ≤ 1000000) && decide (-1000000 ≤ n) && sz (x.length * n.toNat) then .ok (.lst (List.replicate n.toNat x).flatten) m else .bad
    | none => .bad
  | _, _ => .bad
theorem op_mulAny : OpR X (binaryOp .Mult) (fun x y H Q => rI CMul (fun i j => .int (i * j)) x y H Q ∨ rI CMulW (fun i j => .int (i * j)) x y H Q ∨ (∃ z n, x = .str z ∧ y = .int n ∧ n ≤ 1000000 ∧ -1000000 ≤ n ∧ z.length * n.toNat ≤ 1000000 ∧ Q (.str ⟨(List.replicate n.toNat z.cps.toList).flatten.toArray⟩) H) ∨ rRep x y H Q) :=
  OpR.or op_mul (OpR.or op_mulW (OpR.or op_repStr op_rep))
theorem reps_rep {r : Rh} {H : Hp} {l : List D} {vs : List V} (h : Reps c r H l vs) : ∀ n : Nat, Reps c r H (List.replicate n l).flatten (List.replicate n vs).flatten
  | 0 => .nil
  | n + 1 => by
    rw [List.replicate_succ, List.replicate_succ, List.flatten_cons, List.flatten_cons]
    exact h.append (reps_rep h n)
theorem os_mul : OpS c W gMul (fun x y H Q => rI CMul (fun i j => .int (i * j)) x y H Q ∨ rI CMulW (fun i j => .int (i * j)) x y H Q ∨ (∃ z n, x = .str z ∧ y = .int n ∧ n ≤ 1000000 ∧ -1000000 ≤ n ∧ z.length * n.toNat ≤ 1000000 ∧ Q (.str ⟨(List.replicate n.toNat z.cps.toList).flatten.toArray⟩) H) ∨ rRep x y H Q) := by
  intro s r H m da db x y Q hm h1 h2 h
  unfold gMul at h
  split at h
  · rename_i i j
    cases h1
    cases h2
    split at h
    · rename_i hc
      have fin := G.here (b := V.int (i * j)) h hm (.int _)
      unfold mulC at hc
      rw [Bool.or_eq_true, Bool.or_eq_true, Bool.and_eq_true, decide_eq_true_eq, decide_eq_true_eq, decide_eq_true_eq, decide_eq_true_eq] at hc
      have e64 : (2 : Int) ^ 64 = 18446744073709551616 := by decide +kernel
      rcases hc with (hc | hc) | hc
      · exact .inl ⟨i, j, rfl, rfl, .inl (by rw [e64]; exact hc), fin⟩
      · exact .inl ⟨i, j, rfl, rfl, .inr (by rw [e64]; exact hc), fin⟩
      · exact .inr (.inl ⟨i, j, rfl, rfl, wide_mul hc.1 hc.2 (by decide) (by decide) (by decide), fin⟩)
    · exact h.elim
  · rename_i z n
    cases h1
    cases h2
    split at h
    · rename_i hc
      rw [Bool.and_eq_true, Bool.and_eq_true, decide_eq_true_eq, decide_eq_true_eq] at hc
      refine .inr (.inr (.inl ⟨_, n, rfl, rfl, hc.1.1, hc.1.2, ?_, ?_⟩))
      · show z.toArray.size * _ ≤ _
        rw [List.size_toArray]
        exact of_decide_eq_true hc.2
      · exact G.here (b := V.str ⟨(List.replicate n.toNat z).flatten.toArray⟩) h hm (.str _)
    · exact h.elim
  · rename_i n _ _
    cases h2
    cases e1 : rdO m da with
    | none => rw [e1] at h; exact h.elim
    | some l1 =>
      rw [e1] at h
      obtain ⟨a1, v1, rfl, p1, q1⟩ := rdO_at hm h1 e1
      replace h : G c W (Rep c) s r H (if decide (n ≤ 1000000) && decide (-1000000 ≤ n) && sz (l1.length * n.toNat) then .ok (.lst (List.replicate n.toNat l1).flatten) m else .bad) Q := h
      split at h
      · rename_i hc
        rw [Bool.and_eq_true, Bool.and_eq_true, decide_eq_true_eq, decide_eq_true_eq] at hc
        have a0 : (2 : Int) ^ 63 = 9223372036854775808 := by decide +kernel
        refine .inr (.inr (.inr ⟨a1, n, v1, rfl, rfl, p1, by rw [a0]; omega, by rw [a0]; omega, by rw [← q1.length]; exact sz_line hc.2, fun p np => ?_⟩))
        exact h r (upd H p (.lst (List.replicate n.toNat v1).flatten)) (.ref p) (Ext.new np) (hm.new np) (.lst upd_same (hm.off np) ((reps_rep q1 _).ext (Ext.new np)))
      · exact h.elim
  · exact h.elim
end
end Sz

namespace Sz
open PySem PySem.Spec PyProof.Rows L2

/-! ## == and != -/
def strC (s : List Nat) : Bool := s.all fun k => decide (k < 1114112)
def shp : Nat → D → Bool
  | _, .non => true
  | _, .bl _ => true
  | _, .int _ => true
  | _, .str s => strC s
  | _, .scr _ => true
  | k + 1, .tup l => l.all (shp k)
  | k + 1, .lst l => l.all (shp k)
  | _, _ => false
def toPy : Nat → D → PyData
  | _, .non => .none
  | _, .bl b => .bool b
  | _, .int i => .int i
  | _, .str s => .str ⟨s.toArray⟩
  | _, .scr ns => .list (ns.map PyData.int)
  | k + 1, .tup l => .tuple (l.map (toPy k))
  | k + 1, .lst l => .list (l.map (toPy k))
  | _, _ => .none
def eqAll (f : D → D → Bool) : List D → List D → Bool
  | [], [] => true
  | x :: xs, y :: ys => f x y && eqAll f xs ys
  | _, _ => false
def eqD : Nat → D → D → Bool
  | _, .non, .non => true
  | _, .bl a, .bl b => a == b
  | _, .bl a, .int b => (if a then 1 else 0) == b
  | _, .int a, .bl b => a == (if b then 1 else 0)
  | _, .int a, .int b => a == b
  | _, .str a, .str b => a == b
  | _, .scr a, .scr b => a == b
  | k + 1, .scr a, .lst b => eqAll (eqD k) (a.map D.int) b
  | k + 1, .lst a, .scr b => eqAll (eqD k) a (b.map D.int)
  | k + 1, .tup a, .tup b => eqAll (eqD k) a b
  | k + 1, .lst a, .lst b => eqAll (eqD k) a b
  | _, _, _ => false
theorem strOk_of {s : List Nat} (h : strC s = true) : PyData.strOk ⟨s.toArray⟩ = true := by
  unfold PyData.strOk
  show s.toArray.all (fun k => decide (k < 0x110000)) = true
  rw [List.all_toArray]
  exact h
theorem canAll_map {α : Type} {f : α → PyData} : ∀ {l : List α}, (∀ a ∈ l, (f a).canLay0 = true) → PyData.canLayAll0 (l.map f) = true
  | [], _ => rfl
  | a :: l, h => by
    rw [List.map_cons, PyData.canLayAll0, h a (by simp), canAll_map fun b hb => h b (by simp [hb])]
    rfl
theorem depAll_map {α : Type} {f : α → PyData} {n : Nat} : ∀ {l : List α}, (∀ a ∈ l, (f a).depth ≤ n) → PyData.depthAll (l.map f) ≤ n
  | [], _ => Nat.zero_le _
  | a :: l, h => by
    rw [List.map_cons, PyData.depthAll]
    exact Nat.max_le.mpr ⟨h a (by simp), depAll_map fun b hb => h b (by simp [hb])⟩
theorem can_of : ∀ (k : Nat) (d : D), shp k d = true → (toPy k d).canLay0 = true ∧ (toPy k d).depth ≤ k + 1
  | k, .non, _ => by cases k <;> exact ⟨rfl, Nat.zero_le _⟩
  | k, .bl b, _ => by cases k <;> exact ⟨rfl, Nat.zero_le _⟩
  | k, .int i, _ => by cases k <;> exact ⟨rfl, Nat.zero_le _⟩
  | k, .str s, h => by
    have h' : strC s = true := by cases k <;> exact h
    have e : toPy k (.str s) = .str ⟨s.toArray⟩ := by cases k <;> rfl
    rw [e]
    exact ⟨strOk_of h', Nat.zero_le _⟩
  | k, .scr ns, _ => by
    have e : toPy k (.scr ns) = .list (ns.map PyData.int) := by cases k <;> rfl
    rw [e]
    refine ⟨canAll_map fun _ _ => rfl, ?_⟩
    rw [PyData.depth]
    exact Nat.succ_le_succ (Nat.le_trans (depAll_map (n := 0) fun _ _ => Nat.le_refl _) (Nat.zero_le _))
  | k + 1, .tup l, h => by
    have h' : l.all (shp k) = true := h
    rw [List.all_eq_true] at h'
    refine ⟨canAll_map fun d hd => (can_of k d (h' d hd)).1, ?_⟩
    show PyData.depth (.tuple (l.map (toPy k))) ≤ _
    rw [PyData.depth]
    exact Nat.succ_le_succ (depAll_map fun d hd => (can_of k d (h' d hd)).2)
  | k + 1, .lst l, h => by
    have h' : l.all (shp k) = true := h
    rw [List.all_eq_true] at h'
    refine ⟨canAll_map fun d hd => (can_of k d (h' d hd)).1, ?_⟩
    show PyData.depth (.list (l.map (toPy k))) ≤ _
    rw [PyData.depth]
    exact Nat.succ_le_succ (depAll_map fun d hd => (can_of k d (h' d hd)).2)
  | 0, .tup l, h => by cases h
  | 0, .lst l, h => by cases h
  | k, .ref i, h => by cases k <;> cases h
  | k, .val i, h => by cases k <;> cases h
theorem shaped_of {k : Nat} {d : D} (h : shp k d = true) (hk : k ≤ 60) : SeqAt.shaped (toPy k d) = true := by
  obtain ⟨h1, h2⟩ := can_of k d h
  unfold SeqAt.shaped
  rw [h1, decide_eq_true (show (toPy k d).depth ≤ 64 by omega)]
  rfl
section
variable {c : Cn} {r : Rh} {H : Hp}
theorem dpAll_of {f : D → PyData} : ∀ {ds : List D} {vs : List V}, Reps c r H ds vs → (∀ d ∈ ds, ∀ v, Rep c r H d v → Dp c.K H v (f d)) → DpAll c.K H vs (ds.map f)
  | _, _, .nil, _ => .nil
  | _, _, .cons h t, k => .cons (k _ (by simp) _ h) (dpAll_of t fun d hd => k d (by simp [hd]))
theorem dp_ints : ∀ ns : List Int, DpAll c.K H (ns.map V.int) (ns.map PyData.int)
  | [] => .nil
  | n :: ns => .cons (.int n) (dp_ints ns)
theorem dp_of : ∀ (k : Nat) (d : D) (v : V), Rep c r H d v → shp k d = true → Dp c.K H v (toPy k d)
  | k, _, _, .non, _ => by cases k <;> exact .non
  | k, _, _, .bl b, _ => by cases k <;> exact .bl b
  | k, _, _, .int i, _ => by cases k <;> exact .int i
  | k, _, _, .str s, _ => by cases k <;> exact .str _
  | k, _, _, .scr (ns := ns) h1 h2, _ => by
    have e : toPy k (.scr ns) = .list (ns.map PyData.int) := by cases k <;> rfl
    rw [e]
    exact .lst (.inl (.inr ⟨_, h1⟩)) (dp_ints ns)
  | k, _, _, .scrK (ns := ns) h1, _ => by
    have e : toPy k (.scr ns) = .list (ns.map PyData.int) := by cases k <;> rfl
    rw [e]
    exact .lst (h1 H) (dp_ints ns)
  | k + 1, _, _, .tup (ds := l) h1 h2 h3, h => by
    have h' : l.all (shp k) = true := h
    rw [List.all_eq_true] at h'
    exact .tup (SqT.of h1) (dpAll_of h3 fun d hd v hv => dp_of k d v hv (h' d hd))
  | k + 1, _, _, .lst (ds := l) h1 h2 h3, h => by
    have h' : l.all (shp k) = true := h
    rw [List.all_eq_true] at h'
    exact .lst (SqL.of h1) (dpAll_of h3 fun d hd v hv => dp_of k d v hv (h' d hd))
  | 0, _, _, .tup _ _ _, h => by cases h
  | 0, _, _, .lst _ _ _, h => by cases h
  | k, _, _, .ref _, h => by cases k <;> cases h
  | k, _, _, .gone _, h => by cases k <;> cases h
  | k, _, _, .val _, h => by cases k <;> cases h
end
theorem eqvAll_map {f : D → PyData} {g : D → D → Bool} : ∀ {l l2 : List D}, (∀ a ∈ l, ∀ b ∈ l2, PyData.eqv (f a) (f b) = g a b) → PyData.eqvAll (l.map f) (l2.map f) = eqAll g l l2
  | [], [], _ => by simp [PyData.eqvAll, eqAll]
  | [], _ :: _, _ => by simp [PyData.eqvAll, eqAll]
  | _ :: _, [], _ => by simp [PyData.eqvAll, eqAll]
  | a :: l, b :: l2, h => by
    rw [List.map_cons, List.map_cons, PyData.eqvAll, eqAll, h a (by simp) b (by simp), eqvAll_map fun x hx y hy => h x (by simp [hx]) y (by simp [hy])]
theorem map_int (k : Nat) (ns : List Int) : (ns.map D.int).map (toPy k) = ns.map PyData.int := by
  rw [List.map_map]
  refine List.map_congr_left fun n _ => ?_
  cases k <;> rfl
theorem eqvAll_ints : ∀ a b : List Int, PyData.eqvAll (a.map PyData.int) (b.map PyData.int) = (a == b)
  | [], [] => rfl
  | [], _ :: _ => rfl
  | _ :: _, [] => rfl
  | x :: a, y :: b => by
    rw [List.map_cons, List.map_cons, PyData.eqvAll, eqvAll_ints a b]
    rfl
theorem str_beq (a b : List Nat) : ((⟨a.toArray⟩ : Str) == ⟨b.toArray⟩) = (a == b) := by
  rw [Bool.eq_iff_iff, beq_iff_eq, beq_iff_eq]
  constructor
  · intro h
    have := congrArg (fun z : Str => z.cps.toList) h
    simpa using this
  · rintro rfl
    rfl
theorem eqD_of : ∀ (k : Nat) (d e : D), shp k d = true → shp k e = true → PyData.eqv (toPy k d) (toPy k e) = eqD k d e := by
  intro k
  induction k with
  | zero =>
    intro d e hd he
    cases d <;> cases e <;> first
      | rfl
      | exact absurd (show false = true from hd) Bool.false_ne_true
      | exact absurd (show false = true from he) Bool.false_ne_true
      | exact str_beq _ _
      | exact eqvAll_ints _ _
      | simp [toPy, eqD, PyData.eqv]
  | succ k ih =>
    have all : ∀ l l2 : List D, l.all (shp k) = true → l2.all (shp k) = true → PyData.eqvAll (l.map (toPy k)) (l2.map (toPy k)) = eqAll (eqD k) l l2 := fun l l2 h1 h2 =>
      eqvAll_map fun a ha b hb => ih a b (List.all_eq_true.mp h1 a ha) (List.all_eq_true.mp h2 b hb)
    have hints : ∀ ns : List Int, (ns.map D.int).all (shp k) = true := fun ns => by
      rw [List.all_eq_true]
      intro d hd
      obtain ⟨n, _, rfl⟩ := List.mem_map.mp hd
      cases k <;> rfl
    intro d e hd he
    cases d <;> cases e <;> first
      | rfl
      | exact absurd (show false = true from hd) Bool.false_ne_true
      | exact absurd (show false = true from he) Bool.false_ne_true
      | exact str_beq _ _
      | exact eqvAll_ints _ _
      | exact all _ _ hd he
      | (show PyData.eqvAll _ (List.map PyData.int _) = eqAll _ _ _; rw [← map_int k]; exact all _ _ hd (hints _))
      | (show PyData.eqvAll (List.map PyData.int _) _ = eqAll _ _ _; rw [← map_int k]; exact all _ _ (hints _) he)
      | simp [toPy, eqD, PyData.eqv]
end Sz

namespace Sz
open PySem PySem.Spec PyProof.Rows L2

/-! ## comparisons by value -/
def deref (m : Mem) : D → D
  | .ref i => match m[i]? with
    | some (.lst l) => .lst l
    | _ => .ref i
  | d => d
def eqO (a b : D) (m : Mem) : Option Bool := match a, b with
  | .str x, .str y => some (x == y)
  | a, b => if shp 8 (deref m a) && shp 8 (deref m b) then some (eqD 8 (deref m a) (deref m b)) else none
def gEq : D → D → Mem → Out D := fun a b m => match eqO a b m with
  | some k => .ok (.bl k) m
  | none => .bad
def gNe : D → D → Mem → Out D := fun a b m => match eqO a b m with
  | some k => .ok (.bl (!k)) m
  | none => .bad
def intsO : List D → Option (List Int)
  | [] => some []
  | .int i :: r => match intsO r with
    | some l => some (i :: l)
    | none => none
  | _ => none
def lexGe (ns ms : List Int) : Bool := Ob.lexAt (fun j => decide (ns.getD j 0 = ms.getD j 0)) (fun j => decide (ms.getD j 0 ≤ ns.getD j 0)) (decide (ns.length ≥ ms.length)) 0 (min ns.length ms.length)
def gLt : D → D → Mem → Out D := fun a b m => match a, b with
  | .int i, .int j => .ok (.bl (decide (i < j))) m
  | .tup x, .tup y => match intsO x, intsO y with
    | some p, some q => .ok (.bl (HT.lexLt p q)) m
    | _, _ => .bad
  | _, _ => .bad
def gGeA : D → D → Mem → Out D := fun a b m => match a, b with
  | .int i, .int j => .ok (.bl (decide (j ≤ i))) m
  | .tup x, .tup y => match intsO x, intsO y with
    | some p, some q => .ok (.bl (lexGe p q)) m
    | _, _ => .bad
  | _, _ => .bad
/-- one item of a list or a tuple by ==; a text's sign -/
def flatD : D → Bool
  | .non => true
  | .bl _ => true
  | .int _ => true
  | .str _ => true
  | _ => false
def rdS (m : Mem) : D → Option (List D)
  | .tup l => some l
  | d => rdL m d
def inO (a b : D) (m : Mem) : Option Bool := match a, b with
  | .str [k], .str z => some (decide (k ∈ z))
  | a, b => match rdS m b with
    | some l => if flatD a && l.all flatD then some (l.any fun y => eqD 8 y a) else none
    | none => none
def gIn : D → D → Mem → Out D := fun a b m => match inO a b m with
  | some k => .ok (.bl k) m
  | none => .bad
def gNotIn : D → D → Mem → Out D := fun a b m => match inO a b m with
  | some k => .ok (.bl (!k)) m
  | none => .bad
def gIs : D → D → Mem → Out D := fun a b m => match a, b with
  | .bl x, .bl y => .ok (.bl (x == y)) m
  | .non, .non => .ok (.bl true) m
  | .bl _, .non => .ok (.bl false) m
  | .int _, .non => .ok (.bl false) m
  | .str _, .non => .ok (.bl false) m
  | .tup _, .non => .ok (.bl false) m
  | .lst _, .non => .ok (.bl false) m
  | _, _ => .bad
def gIsNot : D → D → Mem → Out D := fun a b m => match gIs a b m with
  | .ok (.bl k) m => .ok (.bl (!k)) m
  | _ => .bad

section
variable {c : Cn} {X : Cx} {W : WX} {a b d e : Expr} {es : List Expr} {pos : Pos} {fa fb fc : Ev → Mem → Out D}
theorem deref_at {r : Rh} {H : Hp} {m : Mem} {d : D} {v : V} (hm : MemOk c r H m) (h : Rep c r H d v) (k : Nat) (hs : shp k (deref m d) = true) : Dp c.K H v (toPy k (deref m d)) := by
  cases d with
  | ref i =>
    cases q : m[i]? with
    | none =>
      have e : deref m (.ref i) = .ref i := by simp [deref, q]
      rw [e] at hs
      cases k <;> cases hs
    | some o =>
      cases o with
      | lst l =>
        have e : deref m (.ref i) = .lst l := by simp [deref, q]
        rw [e] at hs ⊢
        obtain ⟨a, vs, h1, h2, h3⟩ := hm.lst q
        have ev : v = .ref a := by
          cases h with
          | ref h4 => rw [h1] at h4; cases h4; rfl
          | gone h4 => rw [h1] at h4; cases h4
        subst ev
        cases k with
        | zero => cases hs
        | succ k =>
          have h' : l.all (shp k) = true := hs
          rw [List.all_eq_true] at h'
          exact .lst (SqL.of h2) (dpAll_of h3 fun d hd v hv => dp_of k d v hv (h' d hd))
      | ins fs =>
        have e : deref m (.ref i) = .ref i := by simp [deref, q]
        rw [e] at hs
        cases k <;> cases hs
      | dct fs =>
        have e : deref m (.ref i) = .ref i := by simp [deref, q]
        rw [e] at hs
        cases k <;> cases hs
      | gone =>
        have e : deref m (.ref i) = .ref i := by simp [deref, q]
        rw [e] at hs
        cases k <;> cases hs
  | _ => exact dp_of k _ v h hs
def rEqA (K : PySem.W.Frag) : R2 := fun x y H Q => rEq x y H Q ∨ rEqD K x y H Q
def rNeA (K : PySem.W.Frag) : R2 := fun x y H Q => rNe x y H Q ∨ rNeD K x y H Q
theorem op_eqA (hu : X.A.units + 64 < cLine) : OpR X (compareOp .Eq) (rEqA X.K) := op_eq.or (op_eqD hu)
theorem op_neA (hu : X.A.units + 64 < cLine) : OpR X (compareOp .NotEq) (rNeA X.K) := op_ne.or (op_neD hu)
theorem dec_str2 (x y : List Nat) : decide (V.str ⟨x.toArray⟩ = V.str ⟨y.toArray⟩) = (x == y) := by
  rw [dec_str]
  exact str_beq x y
theorem eqO_at {r : Rh} {H : Hp} {m : Mem} {da db : D} {x y : V} {k : Bool} (hm : MemOk c r H m) (h1 : Rep c r H da x) (h2 : Rep c r H db y) (e : eqO da db m = some k) :
    (∃ p q : List Nat, x = .str ⟨p.toArray⟩ ∧ y = .str ⟨q.toArray⟩ ∧ k = (p == q)) ∨ ∃ d e, Dp c.K H x d ∧ Dp c.K H y e ∧ SeqAt.shaped d = true ∧ SeqAt.shaped e = true ∧ k = PyData.eqv d e := by
  unfold eqO at e
  split at e
  · cases h1
    cases h2
    cases e
    exact .inl ⟨_, _, rfl, rfl, rfl⟩
  · split at e
    · rename_i hs
      rw [Bool.and_eq_true] at hs
      cases e
      exact .inr ⟨_, _, deref_at hm h1 8 hs.1, deref_at hm h2 8 hs.2, shaped_of hs.1 (by decide), shaped_of hs.2 (by decide), (eqD_of 8 _ _ hs.1 hs.2).symm⟩
    · cases e
theorem os_eq (hK : X.K = c.K := by rfl) : OpS c W gEq (rEqA X.K) := by
  intro s r H m da db x y Q hm h1 h2 h
  unfold gEq at h
  cases e : eqO da db m with
  | none => rw [e] at h; exact h.elim
  | some k =>
    rw [e] at h
    have fin := G.here (b := V.bl k) h hm (.bl k)
    rcases eqO_at hm h1 h2 e with ⟨p, q, rfl, rfl, rfl⟩ | ⟨d, e', h3, h4, h5, h6, rfl⟩
    · exact .inl ⟨rfl, by rw [dec_str2]; exact fin⟩
    · exact .inr ⟨d, e', by rw [hK]; exact h3, by rw [hK]; exact h4, h5, h6, fin⟩
theorem os_ne (hK : X.K = c.K := by rfl) : OpS c W gNe (rNeA X.K) := by
  intro s r H m da db x y Q hm h1 h2 h
  unfold gNe at h
  cases e : eqO da db m with
  | none => rw [e] at h; exact h.elim
  | some k =>
    rw [e] at h
    have fin := G.here (b := V.bl (!k)) h hm (.bl _)
    rcases eqO_at hm h1 h2 e with ⟨p, q, rfl, rfl, rfl⟩ | ⟨d, e', h3, h4, h5, h6, rfl⟩
    · exact .inl ⟨rfl, by rw [dec_str2]; exact fin⟩
    · exact .inr ⟨d, e', by rw [hK]; exact h3, by rw [hK]; exact h4, h5, h6, fin⟩
theorem intsO_at {r : Rh} {H : Hp} : ∀ {ds : List D} {vs : List V} {ns : List Int}, Reps c r H ds vs → intsO ds = some ns → vs = ns.map V.int
  | _, _, _, .nil, h => by cases h; rfl
  | _, _, ns, .cons (d := d) (ds := ds) h t, e => by
    cases d with
    | int i =>
      replace e : (match intsO ds with
        | some l => some (i :: l)
        | none => none) = some ns := e
      cases q : intsO ds with
      | none => rw [q] at e; cases e
      | some l =>
        rw [q] at e
        cases e
        cases h
        rw [intsO_at t q, List.map_cons]
    | _ => cases e
/-- t >= u of tuples of ints -/
def rGeT (K : PySem.W.Frag) : R2 := fun x y H Q => ∃ (a b : Addr) (ns ms : List Int), x = .ref a ∧ y = .ref b ∧ SqT K H a (ns.map V.int) ∧ SqT K H b (ms.map V.int) ∧ Q (.bl (lexGe ns ms)) H
theorem op_geT (hu : X.A.units < cLine) : OpR X (compareOp .GtE) (rGeT X.K) := by
  intro pins s σ H x y v u Q I rx ry hh
  obtain ⟨ad, bd, ns, ms, rfl, rfl, hn, hm, q⟩ := hh
  cases rx
  cases ry
  obtain ⟨us, r1, p1, _⟩ := I.tuple hn
  obtain ⟨ws, r2, p2, _⟩ := I.tuple hm
  have n1 : us.toArray.size = ns.length := by rw [List.size_toArray]; exact (Vals.ints r1).length
  have n2 : ws.toArray.size = ms.length := by rw [List.size_toArray]; exact (Vals.ints r2).length
  have g1 : ∀ (j : Nat) (h : j < us.toArray.size), ∃ t, us.toArray[j] = .int (ns.getD j 0) t := fun j h => PyProof.Rows.IntsAre.int_at (Vals.ints r1) j _ (by simp at h; simp [h])
  have g2 : ∀ (j : Nat) (h : j < ws.toArray.size), ∃ t, ws.toArray[j] = .int (ms.getD j 0) t := fun j h => PyProof.Rows.IntsAre.int_at (Vals.ints r2) j _ (by simp at h; simp [h])
  have eqs : ∀ (i j : Int) (t t' : Tok), SeqAt.EqAt X.A.in1 s (.int i t) (.int j t') (decide (i = j)) := fun i j t t' => by
    have e : decide (i = j) = (i == j) := by by_cases z : i = j <;> simp [z]
    rw [e]
    exact SeqAt.EqAt.int_int i t j t'
  have key := Ob.RcOp.tuples_ge (A := X.A) (s := s) (e := fun j => decide (ns.getD j 0 = ms.getD j 0)) (r := fun j => decide (ms.getD j 0 ≤ ns.getD j 0)) p1 p2 hu
    (fun j h1 h2 => by
      obtain ⟨t, et⟩ := g1 j h1
      obtain ⟨t', et'⟩ := g2 j h2
      rw [et, et']
      exact eqs _ _ _ _)
    (fun j h1 h2 _ => by
      obtain ⟨t, et⟩ := g1 j h1
      obtain ⟨t', et'⟩ := g2 j h2
      rw [et, et']
      exact Ob.RcOp.ge_int _ _ _ _)
  rw [n1, n2] at key
  have fin := key X.prog X.w X.xe (EP X pins σ Q) ⟨.bl (lexGe ns ms), H, I, rfl, q⟩
  exact fin
def rLtA (K : PySem.W.Frag) : R2 := fun x y H Q => (rI0 fun i j => .bl (decide (i < j))) x y H Q ∨ rLtT K x y H Q
def rGeA (K : PySem.W.Frag) : R2 := fun x y H Q => (rI0 fun i j => .bl (decide (j ≤ i))) x y H Q ∨ rGeT K x y H Q
theorem op_ltA (hu : X.A.units < cLine) : OpR X (compareOp .Lt) (rLtA X.K) := op_lt.or (op_ltT hu)
theorem op_geA (hu : X.A.units < cLine) : OpR X (compareOp .GtE) (rGeA X.K) := op_ge.or (op_geT hu)
theorem os_lt {K : PySem.W.Frag} : OpS c W gLt (rLtA K) := by
  intro s r H m da db x y Q hm h1 h2 h
  unfold gLt at h
  split at h
  · cases h1
    cases h2
    exact .inl ⟨_, _, rfl, rfl, G.here (b := V.bl _) h hm (.bl _)⟩
  · rename_i p q
    cases h1 with
    | tup a1 a2 a3 =>
      cases h2 with
      | tup b1 b2 b3 =>
        cases e1 : intsO p with
        | none => rw [e1] at h; exact h.elim
        | some l1 =>
          cases e2 : intsO q with
          | none => rw [e1, e2] at h; exact h.elim
          | some l2 =>
            rw [e1, e2] at h
            rw [intsO_at a3 e1] at a1
            rw [intsO_at b3 e2] at b1
            exact .inr ⟨_, _, l1, l2, rfl, rfl, SqT.of a1, SqT.of b1, G.here (b := V.bl _) h hm (.bl _)⟩
  · exact h.elim
theorem os_geA {K : PySem.W.Frag} : OpS c W gGeA (rGeA K) := by
  intro s r H m da db x y Q hm h1 h2 h
  unfold gGeA at h
  split at h
  · cases h1
    cases h2
    exact .inl ⟨_, _, rfl, rfl, G.here (b := V.bl _) h hm (.bl _)⟩
  · rename_i p q
    cases h1 with
    | tup a1 a2 a3 =>
      cases h2 with
      | tup b1 b2 b3 =>
        cases e1 : intsO p with
        | none => rw [e1] at h; exact h.elim
        | some l1 =>
          cases e2 : intsO q with
          | none => rw [e1, e2] at h; exact h.elim
          | some l2 =>
            rw [e1, e2] at h
            rw [intsO_at a3 e1] at a1
            rw [intsO_at b3 e2] at b1
            exact .inr ⟨_, _, l1, l2, rfl, rfl, SqT.of a1, SqT.of b1, G.here (b := V.bl _) h hm (.bl _)⟩
  · exact h.elim

/-! ## in -/
theorem flat_at {r : Rh} {H : Hp} {d : D} {v : V} (h : Rep c r H d v) (f : flatD d = true) : flatV v = true := by
  cases h <;> first | rfl | cases f
theorem eqV_at {r : Rh} {H : Hp} {d e : D} {v w : V} (h : Rep c r H d v) (g : Rep c r H e w) (f : flatD d = true) (f' : flatD e = true) : eqV v w = eqD 8 d e := by
  cases h <;> first | exact absurd (show false = true from f) Bool.false_ne_true | skip
  all_goals cases g <;> first | exact absurd (show false = true from f') Bool.false_ne_true | rfl | exact str_beq _ _
theorem any_at {r : Rh} {H : Hp} {d : D} {v : V} (h : Rep c r H d v) (f : flatD d = true) : ∀ {ds : List D} {vs : List V}, Reps c r H ds vs → ds.all flatD = true → vs.all flatV = true ∧ inV v vs = ds.any fun y => eqD 8 y d
  | _, _, .nil, _ => ⟨rfl, rfl⟩
  | _, _, .cons h1 t, g => by
    rw [List.all_cons, Bool.and_eq_true] at g
    obtain ⟨i1, i2⟩ := any_at h f t g.2
    refine ⟨by rw [List.all_cons, flat_at h1 g.1, i1]; rfl, ?_⟩
    rw [List.any_cons, ← i2, ← eqV_at h1 h g.1 f]
    rfl
theorem rdS_at {r : Rh} {H : Hp} {m : Mem} {d : D} {v : V} {l : List D} (hm : MemOk c r H m) (h : Rep c r H d v) (e : rdS m d = some l) : ∃ a vs, v = .ref a ∧ (SqL c.K H a vs ∨ SqT c.K H a vs) ∧ Reps c r H l vs := by
  cases d with
  | tup l' =>
    cases e
    cases h with
    | tup h1 h2 h3 => exact ⟨_, _, rfl, .inr (SqT.of h1), h3⟩
  | _ =>
    obtain ⟨a, vs, h1, h2, h3⟩ := rdL_at hm h (l := l) e
    exact ⟨a, vs, h1, .inl h2, h3⟩
def rInA (K : PySem.W.Frag) : R2 := fun x y H Q => (∃ (c : Nat) (z : Str), x = .str ⟨#[c]⟩ ∧ y = .str z ∧ Q (.bl (decide (c ∈ z.cps.toList))) H) ∨ rIn K false x y H Q
def rNotInA (K : PySem.W.Frag) : R2 := fun x y H Q => (∃ (c : Nat) (z : Str), x = .str ⟨#[c]⟩ ∧ y = .str z ∧ Q (.bl (!decide (c ∈ z.cps.toList))) H) ∨ rIn K true x y H Q
theorem op_inA : OpR X (compareOp .In) (rInA X.K) := op_in_sign.or op_in_seq
theorem op_notInA : OpR X (compareOp .NotIn) (rNotInA X.K) := op_notIn_sign.or op_notIn_seq
theorem inO_at {r : Rh} {H : Hp} {m : Mem} {da db : D} {x y : V} {k : Bool} (hm : MemOk c r H m) (h1 : Rep c r H da x) (h2 : Rep c r H db y) (e : inO da db m = some k) :
    (∃ (n : Nat) (z : Str), x = .str ⟨#[n]⟩ ∧ y = .str z ∧ k = decide (n ∈ z.cps.toList)) ∨ ∃ p xs, y = .ref p ∧ (SqL c.K H p xs ∨ SqT c.K H p xs) ∧ flatV x = true ∧ xs.all flatV = true ∧ k = inV x xs := by
  unfold inO at e
  split at e
  · cases h1
    cases h2
    cases e
    refine .inl ⟨_, _, rfl, rfl, ?_⟩
    simp
  · cases q : rdS m db with
    | none => rw [q] at e; cases e
    | some l =>
      rw [q] at e
      replace e : (if flatD da && l.all flatD then some (l.any fun y => eqD 8 y da) else none) = some k := e
      split at e
      · rename_i hf
        rw [Bool.and_eq_true] at hf
        cases e
        obtain ⟨p, vs, rfl, h3, h4⟩ := rdS_at hm h2 q
        obtain ⟨i1, i2⟩ := any_at h1 hf.1 h4 hf.2
        exact .inr ⟨p, vs, rfl, h3, flat_at h1 hf.1, i1, i2.symm⟩
      · cases e
theorem os_in (hK : X.K = c.K := by rfl) : OpS c W gIn (rInA X.K) := by
  intro s r H m da db x y Q hm h1 h2 h
  unfold gIn at h
  cases e : inO da db m with
  | none => rw [e] at h; exact h.elim
  | some k =>
    rw [e] at h
    have fin := G.here (b := V.bl k) h hm (.bl _)
    rcases inO_at hm h1 h2 e with ⟨n, z, rfl, rfl, rfl⟩ | ⟨p, xs, rfl, h3, h4, h5, rfl⟩
    · exact .inl ⟨n, z, rfl, rfl, fin⟩
    · exact .inr ⟨p, xs, rfl, by rw [hK]; exact h3, h4, h5, fin⟩
theorem os_notIn (hK : X.K = c.K := by rfl) : OpS c W gNotIn (rNotInA X.K) := by
  intro s r H m da db x y Q hm h1 h2 h
  unfold gNotIn at h
  cases e : inO da db m with
  | none => rw [e] at h; exact h.elim
  | some k =>
    rw [e] at h
    have fin := G.here (b := V.bl (!k)) h hm (.bl _)
    rcases inO_at hm h1 h2 e with ⟨n, z, rfl, rfl, rfl⟩ | ⟨p, xs, rfl, h3, h4, h5, rfl⟩
    · exact .inl ⟨n, z, rfl, rfl, fin⟩
    · exact .inr ⟨p, xs, rfl, by rw [hK]; exact h3, h4, h5, fin⟩
/-- x not in T, T a written tuple of texts of the module -/
theorem ex_notInK {x : Str} {p : Pos} {t : Addr} {l : List (List Nat)} {o : Obj} {its : Array Value} {n : Nat} (hg : Gl X x) (hm : X.mg x = some (.ref t)) (ha : EX c X W a fa) (hk : X.K.lookup t = some o) (hc : o.cls = .type "tuple") (hd : o.data = .seq its n) (hz : its.size ≤ sizeLine)
    (hv : Vals (l.map fun z => V.str ⟨z.toArray⟩) its.toList) (hdb : (x == ("__debug__" : Str)) = false := by decide) (hmk : behindInMarks .NotIn (.Name x p) = false := by rfl) :
    EX c X W (.Compare a [.NotIn] [.Name x p] pos) (sUn (fun d m => match d with
      | .str s => .ok (.bl (!(l.any fun z => z == s))) m
      | _ => .bad) fa) := by
  obtain ⟨ta, pa, qa⟩ := ha
  refine ⟨_, pe_cmpR op_notIn_seq pa (pe_glob (v := .ref t) hg hm rfl hdb) hmk, fun r H m env s Q hm he hg => ?_⟩
  refine qa r H m env s _ hm he (G.bind hg fun d1 m1 r1 H1 v x1 hm1 q1 hg1 => ?_)
  cases q1 with
  | str z =>
    refine ⟨t, l.map fun z => V.str ⟨z.toArray⟩, rfl, .inr (.inr ⟨o, its, n, hk, hc, hd, hz, hv⟩), rfl, ?_, ?_⟩
    · rw [List.all_map]
      exact List.all_eq_true.mpr fun _ _ => rfl
    · have e : inV (V.str ⟨z.toArray⟩) (l.map fun z => V.str ⟨z.toArray⟩) = l.any fun y => y == z := by
        unfold inV
        rw [List.any_map]
        refine congrArg (l.any ·) (funext fun y => ?_)
        exact str_beq y z
      rw [e]
      exact G.here (b := V.bl _) hg1 hm1 (.bl _)
  | _ => exact hg1.elim

/-! ## is -/
def rIsA : R2 := fun x y H Q => (∃ a b, x = .bl a ∧ y = .bl b ∧ Q (.bl (decide (a = b))) H) ∨ (y = .non ∧ Q (.bl (decide (x = .non))) H)
def rIsNotA : R2 := fun x y H Q => (∃ a b, x = .bl a ∧ y = .bl b ∧ Q (.bl (!decide (a = b))) H) ∨ (y = .non ∧ Q (.bl (!decide (x = .non))) H)
theorem op_isA : OpR X (compareOp .Is) rIsA := op_is_bl.or op_isN
theorem op_isNotA : OpR X (compareOp .IsNot) rIsNotA := op_isnot_bl.or op_notN
theorem gIs_at {r : Rh} {H : Hp} {m m' : Mem} {da db : D} {x y : V} {d : D} (h1 : Rep c r H da x) (h2 : Rep c r H db y) (e : gIs da db m = .ok d m') : m' = m ∧ ∃ k, d = .bl k ∧ ((∃ a b, x = .bl a ∧ y = .bl b ∧ k = decide (a = b)) ∨ (y = .non ∧ k = decide (x = .non))) := by
  have bq : ∀ p q : Bool, (p == q) = decide (p = q) := by decide
  unfold gIs at e
  split at e <;> first
    | (cases e; done)
    | (cases h1; cases h2; cases e; exact ⟨rfl, _, rfl, .inl ⟨_, _, rfl, rfl, bq _ _⟩⟩)
    | (cases h1; cases h2; cases e; exact ⟨rfl, _, rfl, .inr ⟨rfl, rfl⟩⟩)
    | (cases h1; cases h2; cases e; exact ⟨rfl, _, rfl, .inr ⟨rfl, (decide_eq_false (fun z => nomatch z)).symm⟩⟩)
theorem os_is : OpS c W gIs rIsA := by
  intro s r H m da db x y Q hm h1 h2 h
  cases e : gIs da db m with
  | ok d m' =>
    obtain ⟨rfl, k, rfl, hk⟩ := gIs_at h1 h2 e
    rw [e] at h
    have fin := G.here (b := V.bl k) h hm (.bl k)
    rcases hk with ⟨p, q, rfl, rfl, rfl⟩ | ⟨rfl, rfl⟩
    · exact .inl ⟨p, q, rfl, rfl, fin⟩
    · exact .inr ⟨rfl, fin⟩
  | er n m' =>
    exfalso
    unfold gIs at e
    split at e <;> cases e
  | bad => rw [e] at h; exact h.elim
theorem os_isNot : OpS c W gIsNot rIsNotA := by
  intro s r H m da db x y Q hm h1 h2 h
  unfold gIsNot at h
  cases e : gIs da db m with
  | ok d m' =>
    obtain ⟨rfl, k, rfl, hk⟩ := gIs_at h1 h2 e
    rw [e] at h
    have fin := G.here (b := V.bl (!k)) h hm (.bl _)
    rcases hk with ⟨p, q, rfl, rfl, rfl⟩ | ⟨rfl, rfl⟩
    · exact .inl ⟨p, q, rfl, rfl, fin⟩
    · exact .inr ⟨rfl, fin⟩
  | er n m' => rw [e] at h; exact h.elim
  | bad => rw [e] at h; exact h.elim
end
end Sz

namespace Sz
open PySem PySem.Spec PyProof.Rows L2

/-! ## items, slices -/
def tx (l : List Nat) : Str := ⟨l.toArray⟩
def cd (x : Str) : List Nat := x.cps.toList
theorem tx_cd (x : Str) : tx (cd x) = x := by
  cases x
  simp [tx, cd]
@[simp] theorem cd_tx (l : List Nat) : cd (tx l) = l := by simp [tx, cd]
theorem rep_tx {c : Cn} {r : Rh} {H : Hp} (x : Str) : Rep c r H (.str (cd x)) (.str x) := by
  have h : Rep c r H (.str (cd x)) (.str (tx (cd x))) := .str _
  rw [tx_cd] at h
  exact h
def gIx : D → D → Mem → Out D := fun a b m => match a, b with
  | .str z, .int i => if sz z.length then (match atI z i with
    | some k => .ok (.str [k]) m
    | none => .bad) else .bad
  | a, .int i => match rdS m a with
    | some l => (match atI l i with
      | some d => .ok d m
      | none => .bad)
    | none => .bad
  | _, _ => .bad
def cutD {α : Type} (xs : List α) (lo hi : Option Int) : List α := (xs.drop (HT.sIx xs.length 0 lo)).take (HT.sIx xs.length xs.length hi - HT.sIx xs.length 0 lo)
def gSl : D → Option Int → Option Int → Mem → Out D := fun d lo hi m => match d with
  | .str z => if sz z.length then .ok (.str (cutD z lo hi)) m else .bad
  | .tup l => .ok (.tup (cutD l lo hi)) m
  | d => match rdL m d with
    | some l => .ok (.lst (cutD l lo hi)) m
    | none => .bad
def sNoP : Ev → Mem → Out (Option Int) := fun _ m => .ok none m
def sPart (f : Ev → Mem → Out D) : Ev → Mem → Out (Option Int) := fun e m => (f e m).bind fun d m1 => match d with
  | .int i => .ok (some i) m1
  | _ => .bad
def sSl (f : Ev → Mem → Out D) (l h : Ev → Mem → Out (Option Int)) : Ev → Mem → Out D := fun e m => (f e m).bind fun d m1 => (l e m1).bind fun i m2 => (h e m2).bind fun j m3 => gSl d i j m3

section
variable {c : Cn} {X : Cx} {W : WX} {a b d e : Expr} {es : List Expr} {pos : Pos} {fa fb fc : Ev → Mem → Out D} {fl : Ev → Mem → Out (List D)}
theorem ex_ix (hK : X.K = c.K) (ha : EX c X W a fa) (hb : EX c X W b fb) (hs : PlainIx b := by exact fun _ _ => rfl) : EX c X W (.Subscript a b pos) (sBin gIx fa fb) := by
  obtain ⟨ta, pa, qa⟩ := ha
  obtain ⟨tb, pb, qb⟩ := hb
  refine ⟨_, pe_ix ix_seq pa pb hs, bin_sound (fun s r H m da db x y Q hm h1 h2 h => ?_) qa qb⟩
  unfold gIx at h
  split at h
  · rename_i z i
    cases h1
    cases h2
    split at h
    · rename_i hz
      cases q : atI z i with
      | none => rw [q] at h; exact h.elim
      | some k =>
        rw [q] at h
        refine .inr (.inr ⟨_, i, k, rfl, rfl, ?_, ?_, G.here (b := V.str ⟨#[k]⟩) h hm (.str [k])⟩)
        · show z.toArray.size ≤ _
          rw [List.size_toArray]
          exact sz_line hz
        · simpa using q
    · exact h.elim
  · rename_i i _
    cases h2
    cases q : rdS m da with
    | none => rw [q] at h; exact h.elim
    | some l =>
      rw [q] at h
      obtain ⟨p, vs, rfl, h3, h4⟩ := rdS_at hm h1 q
      replace h : G c W (Rep c) s r H (match atI l i with
        | some d => .ok d m
        | none => .bad) Q := h
      cases q2 : atI l i with
      | none => rw [q2] at h; exact h.elim
      | some d =>
        rw [q2] at h
        have at' : ∃ v, atI vs i = some v ∧ Rep c r H d v := by
          unfold atI at q2 ⊢
          rw [← h4.length]
          cases q3 : ixN l.length i with
          | none => rw [q3] at q2; cases q2
          | some j =>
            rw [q3] at q2
            obtain ⟨v, h5, h6⟩ := h4.get (i := j) (show l[j]? = some d from q2)
            exact ⟨v, h5, h6⟩
        obtain ⟨v, h5, h6⟩ := at'
        rcases h3 with h3 | h3
        · exact .inl ⟨p, vs, i, v, rfl, rfl, by rw [hK]; exact h3, h5, G.here h hm h6⟩
        · exact .inr (.inl ⟨p, vs, i, v, rfl, rfl, by rw [hK]; exact h3, h5, G.here h hm h6⟩)
  · exact h.elim
def OX (c : Cn) (X : Cx) (W : WX) (e : Option Expr) (f : Ev → Mem → Out (Option Int)) : Prop :=
  ∃ t : TO, PO X e t ∧ ∀ r H m env s Q, MemOk c r H m → EnvOk c r H env s → G c W (fun _ _ a b => a = b) s r H (f env m) Q → t s H Q
theorem ox_none : OX c X W none sNoP := ⟨_, po_none, fun r H m env s Q hm he hg => G.here (b := none) hg hm rfl⟩
theorem ox_some (h : EX c X W e fa) : OX c X W (some e) (sPart fa) := by
  obtain ⟨t, p, q⟩ := h
  refine ⟨_, po_some p, fun r H m env s Q hm he hg => ?_⟩
  refine q r H m env s _ hm he (G.bind hg fun d1 m1 r1 H1 v x1 hm1 q1 hg1 => ?_)
  split at hg1
  · cases q1
    exact ⟨_, rfl, G.here (b := some _) hg1 hm1 rfl⟩
  · exact hg1.elim
theorem reps_cut {r : Rh} {H : Hp} {l : List D} {vs : List V} (h : Reps c r H l vs) (lo hi : Option Int) : Reps c r H (cutD l lo hi) (cutV vs lo hi) := by
  unfold cutD cutV
  rw [← h.length]
  exact (h.drop _).take _
def rSlAny (K : PySem.W.Frag) : V → Option Int → Option Int → Hp → VK → Prop := fun x lo hi H Q => rSlS x lo hi H Q ∨ rSlA K x lo hi H Q ∨ rSlL K x lo hi H Q
theorem sl_any : SlR X (rSlAny X.K) := SlR.or sl_str (SlR.or sl_tupA sl_list)
theorem ex_sl {lo hi : Option Expr} {p2 : Pos} {f1 f2 : Ev → Mem → Out (Option Int)} (hK : X.K = c.K) (ha : EX c X W a fa) (hl : OX c X W lo f1) (hh : OX c X W hi f2) : EX c X W (.Subscript a (.Slice lo hi none p2) pos) (sSl fa f1 f2) := by
  obtain ⟨ta, pa, qa⟩ := ha
  obtain ⟨tl, pl, ql⟩ := hl
  obtain ⟨th, ph, qh⟩ := hh
  refine ⟨_, pe_slice sl_any pa pl ph, fun r H m env s Q hm he hg => ?_⟩
  refine qa r H m env s _ hm he (G.bind hg fun d1 m1 r1 H1 v x1 hm1 q1 hg1 => ?_)
  refine ql r1 H1 m1 env s _ hm1 (he.ext x1) (G.bind hg1 fun i m2 r2 H2 i' x2 hm2 q2 hg2 => ?_)
  refine qh r2 H2 m2 env s _ hm2 ((he.ext x1).ext x2) (G.bind hg2 fun j m3 r3 H3 j' x3 hm3 q3 hg3 => ?_)
  cases q2
  cases q3
  have q4 := (q1.ext x2).ext x3
  unfold gSl at hg3
  split at hg3
  · rename_i z
    cases q4
    split at hg3
    · rename_i hz
      refine .inl ⟨_, rfl, ?_, ?_⟩
      · show z.toArray.size ≤ _
        rw [List.size_toArray]
        exact sz_line hz
      · have e : cutS ⟨z.toArray⟩ i j = ⟨(cutD z i j).toArray⟩ := by
          unfold cutS cutD
          have e1 : (⟨z.toArray⟩ : Str).length = z.length := by simp [Str.length]
          rw [e1]
        rw [e]
        exact G.here (b := V.str _) hg3 hm3 (.str _)
    · exact hg3.elim
  · rename_i l
    cases q4 with
    | @tup a vs _ h1 h2 h3 =>
      refine .inr (.inl ⟨a, vs, rfl, SqT.of h1, fun hw => ?_, fun _ p np => ?_⟩)
      · have e : cutD l i j = l := by
          unfold cutD
          rw [h3.length, hw.1, hw.2, List.drop_zero, Nat.sub_zero, ← h3.length, List.take_length]
        rw [e] at hg3
        exact G.here hg3 hm3 (.tup h1 h2 h3)
      · exact hg3 r3 (upd H3 p _) (.ref p) (Ext.new np) (hm3.new np) (.tup upd_same (hm3.off np) ((reps_cut h3 i j).ext (Ext.new np)))
  · cases q : rdL m3 d1 with
    | none => rw [q] at hg3; exact hg3.elim
    | some l =>
      rw [q] at hg3
      obtain ⟨a, vs, rfl, h3, h4⟩ := rdL_at hm3 q4 q
      refine .inr (.inr ⟨a, vs, rfl, by rw [hK]; exact h3, fun p np => ?_⟩)
      exact hg3 r3 (upd H3 p _) (.ref p) (Ext.new np) (hm3.new np) (.lst upd_same (hm3.off np) ((reps_cut h4 i j).ext (Ext.new np)))

/-! ## builtins -/
def gLen : List D → Mem → Out D := fun l m => match l with
  | [.str s] => if sz s.length then .ok (.int s.length) m else .bad
  | [d] => match rdS m d with
    | some l => .ok (.int l.length) m
    | none => .bad
  | _ => .bad
theorem cs_len {K : PySem.W.Frag} (hK : K = c.K) : CbS c W gLen (fun xs H Q => ∃ x n, xs = [x] ∧ LenV K x H n ∧ Q (.int n) H) := by
  subst hK
  intro s r H m ds vs Q hm hr h
  unfold gLen at h
  split at h
  · cases hr with
    | cons h1 h2 =>
      cases h1
      cases h2
      split at h
      · rename_i z hz
        refine ⟨_, z.length, rfl, ⟨?_, ?_⟩, G.here (b := V.int _) h hm (.int _)⟩
        · show z.toArray.size ≤ _
          rw [List.size_toArray]
          exact sz_line hz
        · simp [Str.length]
      · exact h.elim
  · cases hr with
    | cons h1 h2 =>
      cases h2
      rename_i d _ v
      cases q : rdS m d with
      | none => rw [q] at h; exact h.elim
      | some l =>
        rw [q] at h
        obtain ⟨a, vs, rfl, h3, h4⟩ := rdS_at hm h1 q
        refine ⟨_, l.length, rfl, ?_, G.here (b := V.int _) h hm (.int _)⟩
        rcases h3 with h3 | h3
        · exact .inl ⟨vs, h3, h4.length⟩
        · exact .inr ⟨vs, h3, h4.length⟩
  · exact h.elim
def g1I (g : Int → D) : List D → Mem → Out D := fun l m => match l with
  | [.int i] => .ok (g i) m
  | _ => .bad
def g2I (C : Int → Int → Bool) (g : Int → Int → D) : List D → Mem → Out D := fun l m => match l with
  | [.int i, .int j] => if C i j then .ok (g i j) m else .bad
  | _ => .bad
abbrev gAbs := g1I fun i => .int (if i < 0 then -i else i)
abbrev gMax2 := g2I (fun _ _ => true) fun i j => .int (if j > i then j else i)
abbrev gMin2 := g2I (fun _ _ => true) fun i j => .int (if j < i then j else i)
abbrev gDivmod := g2I divC fun i j => .tup [.int (i / j), .int (i % j)]
/-- the figures of a number -/
def digs (i : Int) : List Nat := cd (Str.ofString (toString i))
def gStr : List D → Mem → Out D := fun l m => match l with
  | [.int i] => if decide (i.natAbs < 2 ^ 1000) then .ok (.str (digs i)) m else .bad
  | _ => .bad
def gInt : List D → Mem → Out D := fun l m => match l with
  | [.str s] => if decide (s.length ≤ 640) then (match PySem.intText? (tx s) with
    | some n => .ok (.int n) m
    | none => .bad) else .bad
  | _ => .bad
theorem cs_abs : CbS c W gAbs (fun xs H Q => ∃ i, xs = [.int i] ∧ Q (.int (if i < 0 then -i else i)) H) := by
  intro s r H m ds vs Q hm hr h
  unfold gAbs g1I at h
  split at h
  · cases hr with
    | cons h1 h2 =>
      cases h1
      cases h2
      exact ⟨_, rfl, G.here (b := V.int _) h hm (.int _)⟩
  · exact h.elim
theorem cs_2I {C : Int → Int → Bool} {g : Int → Int → D} {gv : Int → Int → V} (hg : ∀ r H i j, Rep c r H (g i j) (gv i j)) : CbS c W (g2I C g) (fun xs H Q => ∃ i j, xs = [.int i, .int j] ∧ Q (gv i j) H) := by
  intro s r H m ds vs Q hm hr h
  unfold g2I at h
  split at h
  · cases hr with
    | cons h1 h2 =>
      cases h1
      cases h2 with
      | cons h1 h2 =>
        cases h1
        cases h2
        split at h
        · exact ⟨_, _, rfl, G.here h hm (hg r H _ _)⟩
        · exact h.elim
  · exact h.elim
theorem cs_max2 : CbS c W gMax2 (fun xs H Q => ∃ i j, xs = [.int i, .int j] ∧ Q (.int (if j > i then j else i)) H) := cs_2I fun _ _ _ _ => .int _
theorem cs_min2 : CbS c W gMin2 (fun xs H Q => ∃ i j, xs = [.int i, .int j] ∧ Q (.int (if j < i then j else i)) H) := cs_2I fun _ _ _ _ => .int _
/-- divmod by a great positive number -/
theorem call_divmodW : CallR X (.builtin "divmod") (fun xs H Q => ∃ i j, xs = [.int i, .int j] ∧ CDivW i j ∧ ∀ p, H p = none → Q (.ref p) (upd H p (.tup [.int (i / j), .int (i % j)]))) := by
  intro pins s σ H xs us Q I r h
  obtain ⟨i, j, rfl, ⟨h1, h2⟩, q⟩ := h
  obtain ⟨u, w', rfl, ⟨t, rfl⟩, ⟨t', rfl⟩⟩ := vals2 r
  refine divmod_int (by omega) ?_ (.inl (PyProof.noPylong_of_log2 h2))
  have hj : (0 : Int) ≤ j := by omega
  rw [Int.fdiv_eq_ediv_of_nonneg i hj, Int.fmod_eq_emod_of_nonneg i hj]
  have fresh : H s.heap.objs.size = none := I.hok.fresh (Nat.le_refl _)
  have two : ([V.int (i / j), V.int (i % j)] : List V).length ≤ sizeLine := by show 2 ≤ sizeLine; decide
  refine ⟨.ref s.heap.objs.size, upd H s.heap.objs.size (.tup [.int (i / j), .int (i % j)]), I.laid (fun b o e => Heap.get?_push_of_some _ e) (Nat.le_refl _) ⟨two, _, .cons ⟨s.toks, rfl⟩ (.cons ⟨s.toks + 1, rfl⟩ .nil), ?_⟩, rfl, q _ fresh⟩
  exact ⟨_, Heap.get?_push_size _ rfl, rfl, _, rfl⟩
theorem cs_divmod : CbS c W gDivmod (fun xs H Q => ∃ i j, xs = [.int i, .int j] ∧ CDivW i j ∧ ∀ p, H p = none → Q (.ref p) (upd H p (.tup [.int (i / j), .int (i % j)]))) := by
  intro s r H m ds vs Q hm hr h
  unfold gDivmod g2I at h
  split at h
  · cases hr with
    | cons h1 h2 =>
      cases h1
      cases h2 with
      | cons h1 h2 =>
        cases h1
        cases h2
        split at h
        · rename_i i j hc
          unfold divC at hc
          rw [Bool.and_eq_true, decide_eq_true_eq, decide_eq_true_eq] at hc
          refine ⟨i, j, rfl, wide_div (b := 64) hc.1 (by rw [nat2_64]; omega) (by decide) (by decide), fun p np => ?_⟩
          exact h r (upd H p _) (.ref p) (Ext.new np) (hm.new np) (.tup upd_same (hm.off np) (.cons (.int _) (.cons (.int _) .nil)))
        · exact h.elim
  · exact h.elim
theorem cs_str : CbS c W gStr (fun xs H Q => ∃ i : Int, xs = [.int i] ∧ i.natAbs.log2 < 1920 ∧ Q (.str (toString i)) H) := by
  intro s r H m ds vs Q hm hr h
  unfold gStr at h
  split at h
  · cases hr with
    | cons h1 h2 =>
      cases h1
      cases h2
      split at h
      · rename_i i hi
        have hi' : i.natAbs < 2 ^ 1000 := of_decide_eq_true hi
        exact ⟨i, rfl, Nat.lt_trans (PySem.Flt.log2_lt_of (by decide) hi') (by decide), G.here (b := V.str _) h hm (rep_tx _)⟩
      · exact h.elim
  · exact h.elim
theorem cs_int : CbS c W gInt (fun xs H Q => ∃ a n, xs = [.str a] ∧ PySem.intText? a = some n ∧ a.length ≤ 640 ∧ Q (.int n) H) := by
  intro s r H m ds vs Q hm hr h
  unfold gInt at h
  split at h
  · rename_i z
    cases hr with
    | cons h1 h2 =>
      cases h1
      cases h2
      split at h
      · rename_i hz
        cases q : PySem.intText? (tx z) with
        | none => rw [q] at h; exact h.elim
        | some n =>
          rw [q] at h
          refine ⟨_, n, rfl, q, ?_, G.here (b := V.int _) h hm (.int _)⟩
          show z.toArray.size ≤ _
          rw [List.size_toArray]
          exact of_decide_eq_true hz
      · exact h.elim
  · exact h.elim
/-- one list of ints, of bools -/
def boolsO : List D → Option (List Bool)
  | [] => some []
  | .bl i :: r => match boolsO r with
    | some l => some (i :: l)
    | none => none
  | _ => none
theorem boolsO_at {r : Rh} {H : Hp} : ∀ {ds : List D} {vs : List V} {ns : List Bool}, Reps c r H ds vs → boolsO ds = some ns → vs = ns.map V.bl
  | _, _, _, .nil, h => by cases h; rfl
  | _, _, ns, .cons (d := d) (ds := ds) h t, e => by
    cases d with
    | bl i =>
      replace e : (match boolsO ds with
        | some l => some (i :: l)
        | none => none) = some ns := e
      cases q : boolsO ds with
      | none => rw [q] at e; cases e
      | some l =>
        rw [q] at e
        cases e
        cases h
        rw [boolsO_at t q, List.map_cons]
    | _ => cases e
def gInts (g : List Int → Option D) : List D → Mem → Out D := fun l m => match l with
  | [d] => match rdL m d with
    | some l => (match intsO l with
      | some ns => (match g ns with
        | some d => .ok d m
        | none => .bad)
      | none => .bad)
    | none => .bad
  | _ => .bad
def gBools (g : List Bool → D) : List D → Mem → Out D := fun l m => match l with
  | [d] => match rdL m d with
    | some l => (match boolsO l with
      | some ns => .ok (g ns) m
      | none => .bad)
    | none => .bad
  | _ => .bad
theorem gInts_at {g : List Int → Option D} {s : L2.St} {r : Rh} {H : Hp} {m : Mem} {ds : List D} {vs : List V} {Q : VK} (hm : MemOk c r H m) (hr : Reps c r H ds vs) (h : G c W (Rep c) s r H (gInts g ds m) Q) :
    ∃ a ns d, vs = [.ref a] ∧ SqL c.K H a (ns.map V.int) ∧ g ns = some d ∧ G c W (Rep c) s r H (.ok d m) Q := by
  unfold gInts at h
  split at h
  · rename_i d
    cases hr with
    | cons h1 h2 =>
      cases h2
      cases q : rdL m d with
      | none => rw [q] at h; exact h.elim
      | some l =>
        rw [q] at h
        replace h : G c W (Rep c) s r H (match intsO l with
          | some ns => (match g ns with
            | some d => .ok d m
            | none => .bad)
          | none => .bad) Q := h
        obtain ⟨a, vs, rfl, h3, h4⟩ := rdL_at hm h1 q
        cases q2 : intsO l with
        | none => rw [q2] at h; exact h.elim
        | some ns =>
          rw [q2] at h
          replace h : G c W (Rep c) s r H (match g ns with
            | some d => .ok d m
            | none => .bad) Q := h
          cases q3 : g ns with
          | none => rw [q3] at h; exact h.elim
          | some d' =>
            rw [q3] at h
            rw [intsO_at h4 q2] at h3
            exact ⟨a, ns, d', rfl, h3, q3, h⟩
  · exact h.elim
theorem gBools_at {g : List Bool → D} {s : L2.St} {r : Rh} {H : Hp} {m : Mem} {ds : List D} {vs : List V} {Q : VK} (hm : MemOk c r H m) (hr : Reps c r H ds vs) (h : G c W (Rep c) s r H (gBools g ds m) Q) :
    ∃ a ns, vs = [.ref a] ∧ SqL c.K H a (ns.map V.bl) ∧ G c W (Rep c) s r H (.ok (g ns) m) Q := by
  unfold gBools at h
  split at h
  · rename_i d
    cases hr with
    | cons h1 h2 =>
      cases h2
      cases q : rdL m d with
      | none => rw [q] at h; exact h.elim
      | some l =>
        rw [q] at h
        replace h : G c W (Rep c) s r H (match boolsO l with
          | some ns => .ok (g ns) m
          | none => .bad) Q := h
        obtain ⟨a, vs, rfl, h3, h4⟩ := rdL_at hm h1 q
        cases q2 : boolsO l with
        | none => rw [q2] at h; exact h.elim
        | some ns =>
          rw [q2] at h
          rw [boolsO_at h4 q2] at h3
          exact ⟨a, ns, rfl, h3, h⟩
  · exact h.elim
def maxL : List Int → Option Int
  | [] => none
  | x :: xs => match maxL xs with
    | none => some x
    | some y => some (if y > x then y else x)
def minL : List Int → Option Int
  | [] => none
  | x :: xs => match minL xs with
    | none => some x
    | some y => some (if y < x then y else x)
theorem maxL_of : ∀ {ns : List Int} {m k : Int}, maxL ns = some k → m ∈ ns → (∀ y ∈ ns, y ≤ m) → m = k
  | [], _, _, h, _, _ => by cases h
  | x :: xs, m, k, h, hm, hle => by
    unfold maxL at h
    cases q : maxL xs with
    | none =>
      rw [q] at h
      cases h
      cases xs with
      | nil => simpa using hm
      | cons y ys => exfalso; unfold maxL at q; split at q <;> cases q
    | some y =>
      rw [q] at h
      cases h
      have ymem : ∀ {zs : List Int} {y : Int}, maxL zs = some y → y ∈ zs ∧ ∀ z ∈ zs, z ≤ y := by
        intro zs
        induction zs with
        | nil => intro y h; cases h
        | cons z zs ih =>
          intro y h
          unfold maxL at h
          cases q : maxL zs with
          | none =>
            rw [q] at h
            cases h
            cases zs with
            | nil => exact ⟨by simp, by simp⟩
            | cons a b => exfalso; unfold maxL at q; split at q <;> cases q
          | some w =>
            rw [q] at h
            cases h
            obtain ⟨i1, i2⟩ := ih q
            split
            · exact ⟨by simp [i1], fun a ha => by
                rcases List.mem_cons.mp ha with rfl | ha
                · omega
                · exact i2 a ha⟩
            · exact ⟨by simp, fun a ha => by
                rcases List.mem_cons.mp ha with rfl | ha
                · omega
                · have := i2 a ha; omega⟩
      obtain ⟨i1, i2⟩ := ymem q
      have h1 := hle y (by simp [i1])
      have h2 := hle x (by simp)
      rcases List.mem_cons.mp hm with rfl | hm
      · split <;> omega
      · have := i2 m hm
        split <;> omega
theorem minL_of : ∀ {ns : List Int} {m k : Int}, minL ns = some k → m ∈ ns → (∀ y ∈ ns, m ≤ y) → m = k
  | [], _, _, h, _, _ => by cases h
  | x :: xs, m, k, h, hm, hle => by
    unfold minL at h
    cases q : minL xs with
    | none =>
      rw [q] at h
      cases h
      cases xs with
      | nil => simpa using hm
      | cons y ys => exfalso; unfold minL at q; split at q <;> cases q
    | some y =>
      rw [q] at h
      cases h
      have ymem : ∀ {zs : List Int} {y : Int}, minL zs = some y → y ∈ zs ∧ ∀ z ∈ zs, y ≤ z := by
        intro zs
        induction zs with
        | nil => intro y h; cases h
        | cons z zs ih =>
          intro y h
          unfold minL at h
          cases q : minL zs with
          | none =>
            rw [q] at h
            cases h
            cases zs with
            | nil => exact ⟨by simp, by simp⟩
            | cons a b => exfalso; unfold minL at q; split at q <;> cases q
          | some w =>
            rw [q] at h
            cases h
            obtain ⟨i1, i2⟩ := ih q
            split
            · exact ⟨by simp [i1], fun a ha => by
                rcases List.mem_cons.mp ha with rfl | ha
                · omega
                · exact i2 a ha⟩
            · exact ⟨by simp, fun a ha => by
                rcases List.mem_cons.mp ha with rfl | ha
                · omega
                · have := i2 a ha; omega⟩
      obtain ⟨i1, i2⟩ := ymem q
      have h1 := hle y (by simp [i1])
      have h2 := hle x (by simp)
      rcases List.mem_cons.mp hm with rfl | hm
      · split <;> omega
      · have := i2 m hm
        split <;> omega
def gMax : List D → Mem → Out D := gInts fun ns => (maxL ns).map D.int
def gMin : List D → Mem → Out D := gInts fun ns => (minL ns).map D.int
def gSum : List D → Mem → Out D := gInts fun ns => some (.int ns.sum)
def gAll : List D → Mem → Out D := gBools fun bs => .bl (bs.all id)
def gAny : List D → Mem → Out D := gBools fun bs => .bl (bs.any id)
theorem cs_max {K : PySem.W.Frag} (hK : K = c.K) : CbS c W gMax (rMax K) := by
  subst hK
  intro s r H m ds vs Q hm hr h
  obtain ⟨a, ns, d, rfl, h1, h2, h3⟩ := gInts_at hm hr h
  cases q : maxL ns with
  | none => rw [q] at h2; cases h2
  | some k =>
    rw [q] at h2
    cases h2
    refine ⟨a, ns, rfl, h1, ?_, fun z hz hle => ?_⟩
    · cases ns with
      | nil => cases q
      | cons _ _ => simp
    · rw [maxL_of q hz hle]
      exact G.here (b := V.int k) h3 hm (.int k)
theorem cs_min {K : PySem.W.Frag} (hK : K = c.K) : CbS c W gMin (rMin K) := by
  subst hK
  intro s r H m ds vs Q hm hr h
  obtain ⟨a, ns, d, rfl, h1, h2, h3⟩ := gInts_at hm hr h
  cases q : minL ns with
  | none => rw [q] at h2; cases h2
  | some k =>
    rw [q] at h2
    cases h2
    refine ⟨a, ns, rfl, h1, ?_, fun z hz hle => ?_⟩
    · cases ns with
      | nil => cases q
      | cons _ _ => simp
    · rw [minL_of q hz hle]
      exact G.here (b := V.int k) h3 hm (.int k)
theorem cs_sum {K : PySem.W.Frag} (hK : K = c.K) : CbS c W gSum (rSum K) := by
  subst hK
  intro s r H m ds vs Q hm hr h
  obtain ⟨a, ns, d, rfl, h1, h2, h3⟩ := gInts_at hm hr h
  cases h2
  exact ⟨a, ns, rfl, h1, G.here (b := V.int _) h3 hm (.int _)⟩
theorem cs_all {K : PySem.W.Frag} (hK : K = c.K) : CbS c W gAll (rAll K) := by
  subst hK
  intro s r H m ds vs Q hm hr h
  obtain ⟨a, ns, rfl, h1, h3⟩ := gBools_at hm hr h
  exact ⟨a, ns, rfl, h1, G.here (b := V.bl _) h3 hm (.bl _)⟩
theorem cs_any {K : PySem.W.Frag} (hK : K = c.K) : CbS c W gAny (rAny K) := by
  subst hK
  intro s r H m ds vs Q hm hr h
  obtain ⟨a, ns, rfl, h1, h3⟩ := gBools_at hm hr h
  exact ⟨a, ns, rfl, h1, G.here (b := V.bl _) h3 hm (.bl _)⟩
end
end Sz

namespace Sz
open PySem PySem.Spec PyProof.Rows L2

section
variable {c : Cn} {X : Cx} {W : WX} {a b d e o : Expr} {es : List Expr} {pos : Pos} {fa fb fc fo : Ev → Mem → Out D} {fl : Ev → Mem → Out (List D)}
/-! ## raise C(), C an own class without an __init__ -/
theorem pmk_own0 {C : Addr} {bmB : List Value} {B newId initId : String} {x : Str} {p pos : Pos} (F : ExcBaseFacts B newId initId bmB) (q : PySem.W.excIn X.K C bmB newId = true) (gC : X.mg x = some (.ref C)) (kC : PySem.W.keepIn X.K (.ref C) = true) (r : Raises X (.ref C)) (hg : Gl X x)
    (hdb : (x == ("__debug__" : Str)) = false := by decide) : PMk X (.Call (.Name x p) [] [] pos) (fun _ H Q => Q (.ref C) none H) := by
  intro pins s σ H Q I h
  refine wpAny_Call_Name_kw (ld_glob I hg gC (PySem.W.callWith_K0 I.kIn kC ?_) hdb)
  obtain ⟨hp, g, dr, tk, os⟩ := s
  obtain ⟨bm, N, nm, qn, bs, hdct, sn, sub, ab, col, dd, k0, k1, k2, k3, k5, mN, hC, hN, hni, T⟩ := exc_obj I.kIn q
  exact wpAny_call_exc_subT F T hC hN hni (fun h' e hm => mk_of I hm r h (I.hok.gone hm.new)) (Nat.zero_le _)
theorem sx_raise {C : Addr} {bmB : List Value} {B newId initId : String} {x : Str} {p p2 : Pos} (n : Nat) (hc : X.calm = true) (tk : Takes X W) (F : ExcBaseFacts B newId initId bmB) (q : PySem.W.excIn X.K C bmB newId = true) (gC : X.mg x = some (.ref C)) (kC : PySem.W.keepIn X.K (.ref C) = true) (r : Raises X (.ref C))
    (hn : c.ec n = .ref C) (hg : Gl X x := by rfl) (hdb : (x == ("__debug__" : Str)) = false := by decide) : SX c X W (.Raise (some (.Call (.Name x p) [] [] p2)) none pos) (kRaise n) := by
  refine ⟨_, ps_raise hc tk (pmk_own0 F q gC kC r hg hdb), fun r H m env s Dn hm he hg => ?_⟩
  have z := hg r H s (Ext.refl _ _) hm he
  rw [hn] at z
  exact z

/-! ## methods of built-in types -/
/-- by values: the receiver, the arguments -/
def MtS' (c : Cn) (W : WX) (K : PySem.W.Frag) (T : String) (g : D → List D → Mem → Out D) (rr : V → List V → Hp → VK → Prop) : Prop :=
  ∀ s r H m d ds v vs Q, MemOk c r H m → Rep c r H d v → Reps c r H ds vs → G c W (Rep c) s r H (g d ds m) Q → rr v vs H Q
/-- the receiver's type -/
def tyD (T : String) (m : Mem) (d : D) : Bool := match d with
  | .str _ => T == "str"
  | d => (rdL m d).isSome && (T == "list")
def sBm (T : String) (g : D → List D → Mem → Out D) (fo : Ev → Mem → Out D) (fl : Ev → Mem → Out (List D)) : Ev → Mem → Out D := fun e m =>
  (fo e m).bind fun d m1 => if tyD T m1 d then (fl e m1).bind fun l m2 => g d l m2 else .bad
theorem tyD_at {T : String} {r : Rh} {H : Hp} {m : Mem} {d : D} {v : V} (hm : MemOk c r H m) (h : Rep c r H d v) (e : tyD T m d = true) : tyV c.K T v H := by
  unfold tyD at e
  split at e
  · cases h
    exact beq_iff_eq.mp e
  · rw [Bool.and_eq_true] at e
    obtain ⟨l, hl⟩ := Option.isSome_iff_exists.mp e.1
    obtain ⟨a, vs, rfl, h1, h2⟩ := rdL_at hm h hl
    exact .inl ⟨beq_iff_eq.mp e.2, vs, h1⟩
theorem ex_bm {T id : String} {name : Str} {apos cpos : Pos} {g : D → List D → Mem → Out D} {rr : V → List V → Hp → VK → Prop} (hK : X.K = c.K) (pa : PlainAttrs T) (slot : Slot T name id) (hty : typeOf (.builtin id) = pure (.type "method_descriptor")) (hm : MtR X id rr) (hs : MtS' c W c.K T g rr)
    (ho : EX c X W o fo) (ha : AX c X W (e :: es) fl) (hbase : attributeBase o name X.env (eval o X.env) = eval o X.env := by rfl)
    (hfew : ((backTo cpos (starEach (e :: es) X.env)).all (fun x => !x.1) && (backToKw cpos (keywordEach [] X.env)).all (fun x => x.1.isSome)
      && decide ((e :: es).length + ([] : List Keyword).length + (if ([] : List Keyword).isEmpty then 0 else 1) < 30)) = true := by rfl)
    (hline : (apos.endLine == cpos.line) = true := by rfl) (hst : starEach (e :: es) X.env = (false, eval e X.env) :: starEach es X.env := by rfl) (hplain : (backTo cpos (starEach es X.env)).any (·.1) = false := by rfl) :
    EX c X W (.Call (.Attribute o name apos) (e :: es) [] cpos) (sBm T g fo fl) := by
  obtain ⟨to, po, qo⟩ := ho
  obtain ⟨ta, pa', qa⟩ := ha
  refine ⟨_, pe_bm pa slot hty hm po pa' hbase hfew hline hst hplain, fun r H m env s Q hm he hg => ?_⟩
  refine qo r H m env s _ hm he (G.bind hg fun d1 m1 r1 H1 v x1 hm1 q1 hg1 => ?_)
  split at hg1
  · rename_i ht
    refine ⟨by rw [hK]; exact tyD_at hm1 q1 ht, qa r1 H1 m1 env s _ hm1 (he.ext x1) (G.bind hg1 fun l m2 r2 H2 l' x2 hm2 q2 hg2 => ?_)⟩
    exact hs s r2 H2 m2 d1 l v l' Q hm2 (q1.ext x2) q2 hg2
  · exact hg1.elim
theorem ex_bm0 {T id : String} {name : Str} {apos cpos : Pos} {g : D → List D → Mem → Out D} {rr : V → List V → Hp → VK → Prop} (hK : X.K = c.K) (pa : PlainAttrs T) (slot : Slot T name id) (hty : typeOf (.builtin id) = pure (.type "method_descriptor")) (hm : MtR X id rr) (hs : MtS' c W c.K T g rr)
    (ho : EX c X W o fo) (hbase : attributeBase o name X.env (eval o X.env) = eval o X.env := by rfl) (hline : (apos.endLine == cpos.line) = true := by rfl) :
    EX c X W (.Call (.Attribute o name apos) [] [] cpos) (sBm T g fo sNil) := by
  obtain ⟨to, po, qo⟩ := ho
  refine ⟨_, pe_bm0 pa slot hty hm po hbase hline, fun r H m env s Q hm he hg => ?_⟩
  refine qo r H m env s _ hm he (G.bind hg fun d1 m1 r1 H1 v x1 hm1 q1 hg1 => ?_)
  split at hg1
  · rename_i ht
    exact ⟨by rw [hK]; exact tyD_at hm1 q1 ht, hs s r1 H1 m1 d1 [] v [] Q hm1 q1 .nil hg1⟩
  · exact hg1.elim
/-- text, text -> something -/
def gSS (C : List Nat → List Nat → Bool) (g : List Nat → List Nat → D) : D → List D → Mem → Out D := fun d l m => match d, l with
  | .str a, [.str b] => if C a b then .ok (g a b) m else .bad
  | _, _ => .bad
theorem mS_SS {K : PySem.W.Frag} {C : List Nat → List Nat → Bool} {g : List Nat → List Nat → D} {gv : Str → Str → V} {Cv : Str → Str → Prop} (hC : ∀ a b, C a b = true → Cv (tx a) (tx b)) (hg : ∀ r H a b, Rep c r H (g a b) (gv (tx a) (tx b))) :
    MtS' c W K "str" (gSS C g) (fun x xs H Q => ∃ a b, x = .str a ∧ xs = [.str b] ∧ Cv a b ∧ Q (gv a b) H) := by
  intro s r H m d ds v vs Q hm hd hr h
  unfold gSS at h
  split at h
  · cases hd
    cases hr with
    | cons h1 h2 =>
      cases h1
      cases h2
      split at h
      · rename_i a b hc
        exact ⟨_, _, rfl, rfl, hC a b hc, G.here h hm (hg r H a b)⟩
      · exact h.elim
  · exact h.elim
def lenC (a _ : List Nat) : Bool := sz a.length
theorem lenC_of {a b : List Nat} (h : lenC a b = true) : (tx a).length ≤ sizeLine := by
  show a.toArray.size ≤ _
  rw [List.size_toArray]
  exact sz_line h
abbrev gRstrip := gSS lenC fun a b => .str (cd (Txt.rstripChars (tx a) (tx b)))
abbrev gLstrip := gSS lenC fun a b => .str (cd (Txt.lstripChars (tx a) (tx b)))
theorem mS_rstrip {K : PySem.W.Frag} : MtS' c W K "str" gRstrip (fun x xs H Q => ∃ a b, x = .str a ∧ xs = [.str b] ∧ a.length ≤ sizeLine ∧ Q (.str (Txt.rstripChars a b)) H) :=
  mS_SS (Cv := fun a _ => a.length ≤ sizeLine) (gv := fun a b => .str (Txt.rstripChars a b)) (fun a b => lenC_of) fun _ _ _ _ => rep_tx _
theorem mS_lstrip {K : PySem.W.Frag} : MtS' c W K "str" gLstrip (fun x xs H Q => ∃ a b, x = .str a ∧ xs = [.str b] ∧ a.length ≤ sizeLine ∧ Q (.str (Txt.lstripChars a b)) H) :=
  mS_SS (Cv := fun a _ => a.length ≤ sizeLine) (gv := fun a b => .str (Txt.lstripChars a b)) (fun a b => lenC_of) fun _ _ _ _ => rep_tx _
abbrev gEndswith := gSS (fun _ _ => true) fun a b => .bl (Txt.endswith (tx a) (tx b))
theorem mS_endswith {K : PySem.W.Frag} : MtS' c W K "str" gEndswith (fun x xs H Q => ∃ a b, x = .str a ∧ xs = [.str b] ∧ Q (.bl (Txt.endswith a b)) H) := by
  intro s r H m d ds v vs Q hm hd hr h
  obtain ⟨a, b, h1, h2, _, h3⟩ := mS_SS (K := K) (C := fun _ _ => true) (Cv := fun _ _ => True) (gv := fun a b => .bl (Txt.endswith a b)) (fun _ _ _ => trivial) (fun _ _ _ _ => .bl _) s r H m d ds v vs Q hm hd hr h
  exact ⟨a, b, h1, h2, h3⟩

/-! ## an owned list is changed -/
def gAppend : D → List D → Mem → Out D := fun d l m => match d, l with
  | .ref i, [x] => match m[i]? with
    | some (.lst ys) => if sz ys.length then .ok .non (m.set i (.lst (ys ++ [x]))) else .bad
    | _ => .bad
  | _, _ => .bad
theorem sz_lt {n : Nat} (h : sz n = true) : n < sizeLine := Nat.lt_of_le_of_lt (of_decide_eq_true h) (by decide)
theorem ref_lst {r : Rh} {H : Hp} {m : Mem} {i : Nat} {v : V} {l : List D} (hm : MemOk c r H m) (h : Rep c r H (.ref i) v) (e : m[i]? = some (.lst l)) : ∃ a vs, r.ix[i]? = some (some a) ∧ v = .ref a ∧ H a = some (.lst vs) ∧ Reps c r H l vs := by
  obtain ⟨a, vs, h1, h2, h3⟩ := hm.lst e
  cases h with
  | ref h4 => rw [h1] at h4; cases h4; exact ⟨a, vs, h1, rfl, h2, h3⟩
  | gone h4 => rw [h1] at h4; cases h4
theorem mS_append {K : PySem.W.Frag} : MtS' c W K "list" gAppend rAppend := by
  intro s r H m d ds v vs Q hm hd hr h
  unfold gAppend at h
  split at h
  · rename_i i x
    cases hr with
    | cons h1 h2 =>
      cases h2
      split at h
      · rename_i ys e
        split at h
        · rename_i hz
          obtain ⟨a, us, h3, rfl, h5, h6⟩ := ref_lst hm hd e
          refine ⟨a, us, _, rfl, rfl, h5, by rw [← h6.length]; exact sz_lt hz, ?_⟩
          exact h r (upd H a (.lst (us ++ [_]))) .non (Ext.put hm h3) (hm.put h3 (h6.append (.cons h1 .nil))) .non
        · exact h.elim
      · exact h.elim
  · exact h.elim
def gExtend : D → List D → Mem → Out D := fun d l m => match d, l with
  | .ref i, [x] => match m[i]?, rdO m x with
    | some (.lst ys), some zs => if sz (ys.length + zs.length) then .ok .non (m.set i (.lst (ys ++ zs))) else .bad
    | _, _ => .bad
  | _, _ => .bad
theorem mS_extend {K : PySem.W.Frag} : MtS' c W K "list" gExtend rExtend := by
  intro s r H m d ds v vs Q hm hd hr h
  unfold gExtend at h
  split at h
  · rename_i i x
    cases hr with
    | cons h1 h2 =>
      cases h2
      split at h
      · rename_i ys zs e e2
        split at h
        · rename_i hz
          obtain ⟨a, us, h3, rfl, h5, h6⟩ := ref_lst hm hd e
          obtain ⟨b, ws, rfl, h7, h8⟩ := rdO_at hm h1 e2
          refine ⟨a, b, us, ws, rfl, rfl, h5, h7, by rw [← h6.length, ← h8.length]; exact sz_line hz, ?_⟩
          exact h r (upd H a (.lst (us ++ ws))) .non (Ext.put hm h3) (hm.put h3 (h6.append h8)) .non
        · exact h.elim
      · exact h.elim
  · exact h.elim
def gPop : D → List D → Mem → Out D := fun d l m => match d, l with
  | .ref i, [] => match m[i]? with
    | some (.lst ys) => (match ys[ys.length - 1]? with
      | some y => .ok y (m.set i (.lst ys.dropLast))
      | none => .bad)
    | _ => .bad
  | _, _ => .bad
theorem reps_dropLast {r : Rh} {H : Hp} {l : List D} {vs : List V} (h : Reps c r H l vs) : Reps c r H l.dropLast vs.dropLast := by
  rw [List.dropLast_eq_take, List.dropLast_eq_take, ← h.length]
  exact h.take _
theorem mS_pop {K : PySem.W.Frag} : MtS' c W K "list" gPop rPop := by
  intro s r H m d ds v vs Q hm hd hr h
  unfold gPop at h
  split at h
  · rename_i i
    cases hr
    split at h
    · rename_i ys e
      obtain ⟨a, us, h3, rfl, h5, h6⟩ := ref_lst hm hd e
      cases q : ys[ys.length - 1]? with
      | none => rw [q] at h; exact h.elim
      | some y =>
        rw [q] at h
        obtain ⟨w, h7, h8⟩ := h6.get q
        refine ⟨a, us, w, rfl, rfl, h5, by rw [← h6.length]; exact h7, ?_⟩
        have x := Ext.put (o := .lst us.dropLast) hm h3
        exact h r (upd H a (.lst us.dropLast)) w x (hm.put h3 (reps_dropLast h6)) (h8.ext x)
    · exact h.elim
  · exact h.elim

/-! ## stores to an item -/
def kSetIx (fe fo fi : Ev → Mem → Out D) : Ev → Mem → SO := fun e m => (fe e m).thn e fun v m1 => (fo e m1).thn e fun o m2 => (fi e m2).thn e fun i m3 => match o, i with
  | .ref k, .int j => (match m3[k]? with
    | some (.lst ys) => (match ixN ys.length j with
      | some n => .nx e (m3.set k (.lst (ys.set n v)))
      | none => .bad)
    | _ => .bad)
  | _, _ => .bad
theorem sx_setIx {i : Expr} {fi : Ev → Mem → Out D} {tpos : Pos} (he : EX c X W e fa) (ho : EX c X W o fo) (hi : EX c X W i fi)
    (hs : swapsWithSole [.Subscript o i tpos] e pos.line X.env = pure false := by rfl) (hw : swappedStores [.Subscript o i tpos] e X.env = pure none := by rfl)
    (h1 : (assignEach [.Subscript o i tpos] X.env).map (·.2) = [assign (.Subscript o i tpos) X.env] := by rfl)
    (hass : ∀ v, assign (.Subscript o i tpos) X.env v = (do
      let ov ← holding [v] (eval o X.env)
      let iv ← holding [v, ov] (eval i X.env)
      standAt tpos
      holding [v, ov, iv] (setItem ov iv v)
      release [v, ov, iv] []) := by intro _; rfl) : SX c X W (.Assign [.Subscript o i tpos] e pos) (kSetIx fa fo fi) := by
  obtain ⟨te, pe, qe⟩ := he
  obtain ⟨to, po, qo⟩ := ho
  obtain ⟨ti, pi, qi⟩ := hi
  refine ⟨_, ps_asg pe (pg_sub po pi set_list hass) hs hw h1, fun r H m env s Dn hm he hg => ?_⟩
  refine qe r H m env s _ hm he (G.thn he hg fun v m1 r1 H1 v' x1 hm1 q1 hg1 => ?_)
  have he1 := he.ext x1
  refine qo r1 H1 m1 env s _ hm1 he1 (G.thn he1 hg1 fun o m2 r2 H2 o' x2 hm2 q2 hg2 => ?_)
  have he2 := he1.ext x2
  refine qi r2 H2 m2 env s _ hm2 he2 (G.thn he2 hg2 fun i m3 r3 H3 i' x3 hm3 q3 hg3 => ?_)
  have he3 := he2.ext x3
  split at hg3
  · rename_i k j
    cases q3
    split at hg3
    · rename_i ys e
      obtain ⟨a, us, h3, rfl, h5, h6⟩ := ref_lst hm3 (q2.ext x3) e
      cases q : ixN ys.length j with
      | none => rw [q] at hg3; exact hg3.elim
      | some n =>
        rw [q] at hg3
        refine ⟨a, us, j, n, rfl, rfl, h5, by rw [← h6.length]; exact q, ?_⟩
        have x := Ext.put (o := .lst (us.set n v')) hm3 h3
        exact hg3 r3 (upd H3 a (.lst (us.set n v'))) s x (hm3.put h3 (h6.set ((q1.ext x2).ext x3) n)) (he3.ext x)
    · exact hg3.elim
  · exact hg3.elim
/-- xs[i], by values -/
def rGetL : V → V → Hp → VK → Prop := fun o i H Q => ∃ p xs k j v, o = .ref p ∧ i = .int k ∧ H p = some (.lst xs) ∧ k = (j : Nat) ∧ k < 1000000 ∧ xs[j]? = some v ∧ Q v H
theorem get_list : PGet X rGetL := by
  intro pins s σ H o i ov iv Q I ro ri h
  obtain ⟨p, xs, k, j, v, rfl, rfl, hp, hk, hlt, hv, q⟩ := h
  cases ro
  obtain ⟨t, rfl⟩ := ri
  obtain ⟨its, rv, pl, _⟩ := I.list (SqL.of hp)
  obtain ⟨u, hu, ru⟩ := rv.get hv
  have e63 : (2 : Int) ^ 63 = 9223372036854775808 := by decide +kernel
  refine wpAny_getItem_list pl.isList (x := u) (by omega) (by rw [e63]; omega) ?_ ⟨v, H, I, ru, q⟩
  rw [hk]
  simpa using hu
def kAugIx (g : Int → Int → Int) (fo fi fe : Ev → Mem → Out D) : Ev → Mem → SO := fun e m => (fo e m).thn e fun o m1 => (fi e m1).thn e fun i m2 => match o, i with
  | .ref k, .int j => (match m2[k]? with
    | some (.lst ys) => if decide (0 ≤ j) && decide (j < 1000000) then (match ys[j.toNat]? with
      | some (.int y) => (fe e m2).thn e fun d m3 => match d, m3[k]? with
        | .int z, some (.lst zs) => (match ixN zs.length j with
          | some n => .nx e (m3.set k (.lst (zs.set n (.int (g y z)))))
          | none => .bad)
        | _, _ => .bad
      | _ => .bad) else .bad
    | _ => .bad)
  | _, _ => .bad
theorem sx_augIx {op : Operator} {g : Int → Int → Int} {i : Expr} {fi : Ev → Mem → Out D} {tpos : Pos} (hp : PIp X op (ipI g)) (ho : EX c X W o fo) (hi : EX c X W i fi) (he : EX c X W e fa)
    (ha : ∀ ov iv new, augStore i ov iv new = (do holding [new, ov, iv] (setItem ov iv new); release [new, ov, iv] []; pure .next) := by intros; rfl) : SX c X W (.AugAssign (.Subscript o i tpos) op e pos) (kAugIx g fo fi fa) := by
  obtain ⟨te, pe, qe⟩ := he
  obtain ⟨to, po, qo⟩ := ho
  obtain ⟨ti, pi, qi⟩ := hi
  refine ⟨_, ps_augS po pi get_list pe hp set_list ha, fun r H m env s Dn hm he hg => ?_⟩
  refine qo r H m env s _ hm he (G.thn he hg fun o m1 r1 H1 o' x1 hm1 q1 hg1 => ?_)
  have he1 := he.ext x1
  refine qi r1 H1 m1 env s _ hm1 he1 (G.thn he1 hg1 fun i m2 r2 H2 i' x2 hm2 q2 hg2 => ?_)
  have he2 := he1.ext x2
  split at hg2
  · rename_i k j
    cases q2
    split at hg2
    · rename_i ys e
      split at hg2
      · rename_i hj
        rw [Bool.and_eq_true, decide_eq_true_eq, decide_eq_true_eq] at hj
        split at hg2
        · rename_i y ey
          obtain ⟨a, us, h3, rfl, h5, h6⟩ := ref_lst hm2 (q1.ext x2) e
          obtain ⟨w, h7, h8⟩ := h6.get ey
          cases h8
          refine ⟨a, us, j, j.toNat, _, rfl, rfl, h5, by omega, hj.2, h7, ?_⟩
          refine qe r2 H2 m2 env s _ hm2 he2 (G.thn he2 hg2 fun d m3 r3 H3 d' x3 hm3 q3 hg3 => ?_)
          have he3 := he2.ext x3
          split at hg3
          · rename_i z zs e3
            cases q3
            refine ⟨y, z, rfl, rfl, ?_⟩
            cases q : ixN zs.length j with
            | none => rw [q] at hg3; exact hg3.elim
            | some n =>
              rw [q] at hg3
              obtain ⟨a3, us3, k3, e4, k5, k6⟩ := ref_lst hm3 ((q1.ext x2).ext x3) e3
              cases e4
              refine ⟨a, us3, j, n, rfl, rfl, k5, by rw [← k6.length]; exact q, ?_⟩
              have x := Ext.put (o := .lst (us3.set n (.int (g y z)))) hm3 k3
              exact hg3 r3 (upd H3 a (.lst (us3.set n (.int (g y z))))) s x (hm3.put k3 (k6.set (.int _) n)) (he3.ext x)
          · exact hg3.elim
        · exact hg2.elim
      · exact hg2.elim
    · exact hg2.elim
  · exact hg2.elim
/-- n op= e of ints -/
def kAug (i : Nat) (g : Int → Int → Int) (fe : Ev → Mem → Out D) : Ev → Mem → SO := fun e m => match e[i]? with
  | some (some (.int y)) => (fe e m).thn e fun d m1 => match d with
    | .int z => .nx (e.set i (some (.int (g y z)))) m1
    | _ => .bad
  | _ => .bad
theorem sx_aug (i : Nat) {x : Str} {op : Operator} {g : Int → Int → Int} {pos' : Pos} (hN : X.N.Nodup) (hx : Loc X.env.scope x) (hp : PIp X op (ipI g)) (he : EX c X W e fa) (hi : X.N[i]? = some x := by rfl) (hf : X.fn x = true ∨ X.env.scope.names.lookup x = some .local := by first | exact .inl rfl | exact .inr rfl | assumption) :
    SX c X W (.AugAssign (.Name x pos') op e pos) (kAug i g fa) := by
  obtain ⟨te, pe, qe⟩ := he
  refine ⟨_, ps_aug hN hi hx pe hp hf, fun r H m env s Dn hm he hg => ?_⟩
  unfold kAug at hg
  split at hg
  · rename_i y ey
    obtain ⟨v, h1, h2⟩ := he.at' i _ ey
    cases h2
    refine ⟨_, h1, qe r H m env s _ hm he (G.thn he hg fun d m1 r1 H1 d' x1 hm1 q1 hg1 => ?_)⟩
    split at hg1
    · cases q1
      exact ⟨_, _, rfl, rfl, hg1 r1 H1 _ (Ext.refl _ _) hm1 ((he.ext x1).set i (.int _))⟩
    · exact hg1.elim
  · exact hg.elim

/-! ## isinstance, list, tuple -/
def kindD (m : Mem) : D → Option String
  | .non => some "NoneType"
  | .bl _ => some "bool"
  | .int _ => some "int"
  | .str _ => some "str"
  | .tup _ => some "tuple"
  | .lst _ => some "list"
  | .ref i => match m[i]? with
    | some (.lst _) => some "list"
    | _ => none
  | _ => none
def gIsi (T : String) : List D → Mem → Out D := fun l m => match l with
  | [d, .val (.ty n)] => if n == T then (match kindD m d with
    | some k => (match kitB k T with
      | some b => .ok (.bl b) m
      | none => .bad)
    | none => .bad) else .bad
  | _ => .bad
theorem kind_at {r : Rh} {H : Hp} {m : Mem} {d : D} {v : V} {k : String} (hm : MemOk c r H m) (h : Rep c r H d v) (e : kindD m d = some k) (K : PySem.W.Frag) : TyX K H v (.type k) := by
  cases h with
  | non => cases e; exact .base .non
  | bl b => cases e; exact .base (.bl b)
  | int b => cases e; exact .base (.int b)
  | str b => cases e; exact .base (.str _)
  | tup h1 _ _ => cases e; exact .base (.tup h1)
  | lst h1 _ _ => cases e; exact .base (.lst h1)
  | scr _ _ => cases e
  | scrK _ => cases e
  | val v => cases e
  | @ref i a h1 =>
    replace e : (match m[i]? with
      | some (Ob.lst _) => some "list"
      | _ => none) = some k := e
    cases q : m[i]? with
    | none => rw [q] at e; cases e
    | some o =>
      rw [q] at e
      cases o with
      | lst l =>
        cases e
        obtain ⟨a', vs, h2, h3, _⟩ := hm.lst q
        rw [h1] at h2
        cases h2
        exact .base (.lst h3)
      | _ => cases e
  | @gone i v h1 =>
    replace e : (match m[i]? with
      | some (Ob.lst _) => some "list"
      | _ => none) = some k := e
    cases q : m[i]? with
    | none => rw [q] at e; cases e
    | some o =>
      rw [q] at e
      cases o with
      | lst l =>
        obtain ⟨a', vs, h2, h3, _⟩ := hm.lst q
        rw [h1] at h2
        cases h2
      | _ => cases e
theorem cs_isi {K : PySem.W.Frag} {T : String} : CbS c W (gIsi T) (rIsi K) := by
  intro s r H m ds vs Q hm hr h
  unfold gIsi at h
  split at h
  · rename_i d n
    cases hr with
    | cons h1 h2 =>
      cases h2 with
      | cons h2 h3 =>
        cases h2
        cases h3
        split at h
        · rename_i hn
          have hn' : n = T := beq_iff_eq.mp hn
          subst hn'
          cases q : kindD m d with
          | none => rw [q] at h; exact h.elim
          | some k =>
            rw [q] at h
            replace h : G c W (Rep c) s r H (match kitB k n with
              | some b => .ok (.bl b) m
              | none => .bad) Q := h
            cases q2 : kitB k n with
            | none => rw [q2] at h; exact h.elim
            | some b =>
              rw [q2] at h
              exact ⟨_, _, .type k, .type n, b, rfl, .ty n, kind_at hm h1 q K, kit_ty q2, G.here (b := V.bl b) h hm (.bl b)⟩
        · exact h.elim
  · exact h.elim
theorem ex_ty {x : Str} {n : String} (hg : Gl X x) (hm : X.mg x = none) (hv : bootBuiltins x = some (.type n)) (hn : x ≠ "__name__" := by decide) (hd : (x == ("__debug__" : Str)) = false := by decide) : EX c X W (.Name x pos) (sC (.val (.ty n))) :=
  ex_c (pe_bltn (v := .ty n) hg hm hv rfl hn hd) fun _ _ => .val _
def gList : List D → Mem → Out D := fun l m => match l with
  | [d] => match rdS m d with
    | some l => .ok (.lst l) m
    | none => .bad
  | _ => .bad
/-- list(xs), to be changed -/
def gListO : List D → Mem → Out D := fun l m => match l with
  | [d] => match rdS m d with
    | some l => .ok (.ref m.length) (m ++ [.lst l])
    | none => .bad
  | _ => .bad
theorem cs_list {K : PySem.W.Frag} (hK : K = c.K) : CbS c W gList (fun xs H Q => ∃ p ys, xs = [.ref p] ∧ (SqL K H p ys ∨ SqT K H p ys) ∧ ∀ l, H l = none → Q (.ref l) (upd H l (.lst ys))) := by
  subst hK
  intro s r H m ds vs Q hm hr h
  unfold gList at h
  split at h
  · rename_i d
    cases hr with
    | cons h1 h2 =>
      cases h2
      cases q : rdS m d with
      | none => rw [q] at h; exact h.elim
      | some l =>
        rw [q] at h
        obtain ⟨a, us, rfl, h3, h4⟩ := rdS_at hm h1 q
        exact ⟨a, us, rfl, h3, fun p np => h r (upd H p (.lst us)) (.ref p) (Ext.new np) (hm.new np) (.lst upd_same (hm.off np) (h4.ext (Ext.new np)))⟩
  · exact h.elim
theorem cs_listO {K : PySem.W.Frag} (hK : K = c.K) : CbS c W gListO (fun xs H Q => ∃ p ys, xs = [.ref p] ∧ (SqL K H p ys ∨ SqT K H p ys) ∧ ∀ l, H l = none → Q (.ref l) (upd H l (.lst ys))) := by
  subst hK
  intro s r H m ds vs Q hm hr h
  unfold gListO at h
  split at h
  · rename_i d
    cases hr with
    | cons h1 h2 =>
      cases h2
      cases q : rdS m d with
      | none => rw [q] at h; exact h.elim
      | some l =>
        rw [q] at h
        obtain ⟨a, us, rfl, h3, h4⟩ := rdS_at hm h1 q
        exact ⟨a, us, rfl, h3, fun p np => h (r.push p) (upd H p (.lst us)) (.ref p) (Ext.push np) (hm.push np h4) (.ref (by rw [← hm.len]; exact push_get))⟩
  · exact h.elim
def gTuple : List D → Mem → Out D := fun l m => match l with
  | [.tup l] => .ok (.tup l) m
  | [d] => match rdL m d with
    | some l => .ok (.tup l) m
    | none => .bad
  | _ => .bad
theorem cs_tuple {K : PySem.W.Frag} (hK : K = c.K) : CbS c W gTuple (fun xs H Q => ∃ p ys, xs = [.ref p] ∧ ((SqL K H p ys ∧ ∀ l, H l = none → Q (.ref l) (upd H l (.tup ys))) ∨ (SqT K H p ys ∧ Q (.ref p) H))) := by
  subst hK
  intro s r H m ds vs Q hm hr h
  unfold gTuple at h
  split at h
  · cases hr with
    | cons h1 h2 =>
      cases h2
      cases h1 with
      | tup a1 a2 a3 => exact ⟨_, _, rfl, .inr ⟨SqT.of a1, G.here h hm (.tup a1 a2 a3)⟩⟩
  · rename_i d _
    cases hr with
    | cons h1 h2 =>
      cases h2
      cases q : rdL m d with
      | none => rw [q] at h; exact h.elim
      | some l =>
        rw [q] at h
        obtain ⟨a, us, rfl, h3, h4⟩ := rdL_at hm h1 q
        exact ⟨a, us, rfl, .inl ⟨h3, fun p np => h r (upd H p (.tup us)) (.ref p) (Ext.new np) (hm.new np) (.tup upd_same (hm.off np) (h4.ext (Ext.new np)))⟩⟩
  · exact h.elim
end
end Sz

namespace Sz
open PySem PySem.Spec PyProof.Rows L2

/-! ## enumerate of a tuple -/
def enumObj (i : Addr) : Obj := { cls := .type "enumerate", data := .fields #[.none, .bool false, .ref i, rawInt 0, .none, .none] }
theorem new_enum {v : Value} {o : Obj} {Hh : Heap → Prop} (B : Begins v o Hh) :
    Meets (Builtin.«enumerate.__new__» ⟨[.type "enumerate", v], []⟩) (fun _ R s => Hh s.heap ∧ R (.ok (.ret (.ref (s.heap.push o).objs.size))) { s with heap := (s.heap.push o).push (enumObj s.heap.objs.size) }) := by
  refine .of_wp fun prog w A R s h => ?_
  obtain ⟨hp, gs, dr, tok, ost⟩ := s
  obtain ⟨hb, hr⟩ := h
  have isub := sub_enumerate
  have step : ∀ {A1 : Around} {E1 : Value → Shared → Prop} {Q1 : Value → Shared → Prop}, Q1 (.ref hp.objs.size) ⟨hp.push o, gs, dr, tok, ost⟩ → wpAny (model prog w) A1 (pyIter v) Q1 E1 ⟨hp, gs, dr, tok, ost⟩ :=
    fun z => B.iter prog w _ _ ⟨hp, gs, dr, tok, ost⟩ _ hb z
  wp_walk using step
  refine wpAny_stack_any fun stk => wpAny_pure ?_
  split
  · rename_i cl _ _ _ _ _
    cases (cl == Value.type "enumerate") <;> (wp_walk using step; exact ⟨_, rfl, hr⟩)
  · wp_walk using step
    exact ⟨_, rfl, hr⟩
theorem call_enumT {prog : Program} {w : World} {A : Around} {E : Value → Shared → Prop} {s : Shared} {t : Addr} {items : Array Value} {Q : Value → Shared → Prop} (ht : s.heap.IsTuple t items)
    (h : ∀ hp, IsEnum hp (s.heap.objs.size + 1) s.heap.objs.size 0 .none → hp.IsTupleIter s.heap.objs.size t 0 → (∀ b o, s.heap.get? b = some o → hp.get? b = some o) → Q (.ref (s.heap.objs.size + 1)) { s with heap := hp }) :
    wpAny (model prog w) A (call (.type "enumerate") [.ref t]) Q E s := by
  refine callType_new F.called_enumerate (by decide) (F.typeCall_enumerate_1 _) (F.newCall_enumerate_1 _) (fun ob => F.args_object_init_2 ob _) F.entry_enumerate_new (new_enum (begins_tuple t items)) ⟨ht, ?_⟩
  have sz1 : (s.heap.push { cls := .type "tuple_iterator", data := .fields #[.ref t, .int 0 0] }).objs.size = s.heap.objs.size + 1 := Heap.size_push ..
  show _ ∧ _
  rw [sz1]
  have is : IsEnum ((s.heap.push { cls := .type "tuple_iterator", data := .fields #[.ref t, .int 0 0] }).push (enumObj s.heap.objs.size)) (s.heap.objs.size + 1) s.heap.objs.size 0 .none := by
    have z := Heap.get?_push_size (s.heap.push { cls := .type "tuple_iterator", data := .fields #[.ref t, .int 0 0] }) (o := enumObj s.heap.objs.size) rfl
    rwa [sz1] at z
  exact ⟨⟨_, is, rfl⟩, h _ is ⟨_, Heap.get?_push_of_some _ (Heap.get?_push_size _ rfl), rfl, rfl⟩ fun b o z => Heap.get?_push_of_some _ (Heap.get?_push_of_some _ z)⟩
/-- the tuple at a as it stands at each turn -/
def ItEn (K : PySem.W.Frag) (a : Addr) : It where
  go := fun i H => ∃ (xs : List V) (x : V), SqT K H a xs ∧ xs[i]? = some x
  yld := fun i H v H' => ∃ p x, v = .ref p ∧ H p = none ∧ H' = upd H p (.tup [.int (i : Nat), x]) ∧ ∀ xs, SqT K H a xs → xs[i]? = some x
  stop := fun i H => ∃ xs : List V, SqT K H a xs ∧ xs.length ≤ i
theorem turn_enumT {P : Program} {w : World} {K : PySem.W.Frag} {elts : List Expr} {kk : Nat} {tpos : Pos} {a e it : Addr} (n1 : e ≠ it) (n2 : a ≠ it) (n3 : e ≠ a) :
    Turn P w K (.Tuple elts kk tpos) (ItEn K a) [e, it] e (fun i h => (∃ old, IsEnum h e it ((i : Nat) : Int) old) ∧ h.IsTupleIter it a i) where
  mem := by simp
  obj := by
    rintro i h ⟨⟨old, he⟩, o, ho, hc, hd⟩ b hb
    rcases List.mem_cons.mp hb with z | z
    · rw [z]; exact ⟨_, he, fun v q => nomatch q⟩
    · exact ⟨o, (List.mem_singleton.mp z) ▸ ho, fun v q => by rw [hd] at q; cases q⟩
  keep := fun i h h' st k => ⟨st.1.imp fun old z => k e (by simp) _ z, st.2.at fun o z => k it (by simp) o z⟩
  item := by
    intro X hP hw hK hc i pins s σ H E I hf st hg
    subst hP hw hK
    obtain ⟨⟨old, he⟩, hi⟩ := st
    obtain ⟨xs, x, hq, hx⟩ := hg
    obtain ⟨its, rv, tp, _⟩ := I.tuple hq
    obtain ⟨u, hu, ru⟩ := rv.get hx
    have el : e < s.heap.objs.size := Heap.lt_size he
    have il : it < s.heap.objs.size := by obtain ⟨_, z, _⟩ := hi; exact Heap.lt_size z
    have hlt : i < its.toArray.size := by
      have := (List.getElem?_eq_some_iff.mp hu).1
      simpa using this
    refine wpAny_pyNext_enum_itemD (Draws.tuple (show X.A.in1.handled = none from I.ok.hd hc) it a n2 its.toArray) he ⟨hi, tp⟩ hlt n1 (by simp [n1, n3]) fun y h' tk hy ho hs hT hsz hk => ?_
    obtain rfl : y = u := by
      have z : its.toArray[i]? = some y := hy
      rw [List.getElem?_toArray, hu] at z
      exact (Option.some.inj z).symm
    refine ⟨_, rfl, wpAny_letOwnedTupleGo_enum (s := { s with heap := h', toks := tk + 1 }) ho fun h2 he2 sb => ?_⟩
    have hT2 : h2.get? s.heap.objs.size = some { cls := .type "tuple", data := .seq #[.int i tk, y] } := (sb.2 _ (Nat.ne_of_gt el)).trans hT
    have new : ObjOk X.prog X.w (upd H s.heap.objs.size (.tup [.int (i : Nat), x])) h2 s.heap.objs.size (.tup [.int (i : Nat), x]) :=
      ⟨by show 2 ≤ sizeLine; decide, [.int i tk, y], .cons ⟨_, rfl⟩ (.cons ru .nil), ⟨_, hT2, rfl, _, rfl⟩⟩
    have I1 := I.turnedNew (t' := tk + 1) (h' := h2) (ch := [e, it]) (fun b ob hb z => (sb.2 b fun w => hb (by simp [w])).trans (hk b ob (fun w => hb (by simp [w])) (fun w => hb (by simp [w])) z)) hf (Nat.le_refl _) new
    refine ⟨.ref s.heap.objs.size, _, I1, rfl, ⟨_, x, rfl, I.hok.fresh (Nat.le_refl _), rfl, fun ys hy2 => by rw [I.tuple_inj hy2 hq]; exact hx⟩, ⟨⟨y, ?_⟩, hs.1.at fun o z => (sb.2 it (Ne.symm n1)).trans z⟩, fun b hb => ?_⟩
    · rw [show ((i + 1 : Nat) : Int) = (i : Int) + 1 by omega]
      exact he2
    · have lt : b < s.heap.objs.size := by
        rcases List.mem_cons.mp hb with z | z
        · exact z ▸ el
        · exact (List.mem_singleton.mp z) ▸ il
      rw [upd_ne (Nat.ne_of_lt lt)]
      exact (hf b hb).1
  done := by
    intro X hP hw hK hc i pins s σ H E I hf st hg
    subst hP hw hK
    obtain ⟨⟨old, he⟩, hi⟩ := st
    obtain ⟨xs, hq, hx⟩ := hg
    obtain ⟨its, rv, tp, _⟩ := I.tuple hq
    have f := hf it (by simp)
    have fin : ∀ h', Heap.ExtBut it s.heap h' → (none : Option Value) = none ∧ Inv X pins σ H { s with heap := h' } := fun h' eb => ⟨rfl, I.turned (t' := s.toks) (fun b o hb q => eb b o hb q) f.1 f.2.1 f.2.2.2.1 f.2.2.2.2.1 f.2.2.2.2.2⟩
    have hT : s.TypeIs (.ref e) "enumerate" := ⟨_, he, rfl⟩
    have hend : its.toArray[i]? = none := by
      have := rv.length
      simp; omega
    unfold pyNext
    refine wpAny_bind (wpAny_attempt (wpAny_callSpecial?_slot (name := Str.ofString "__next__") hT F.slot_enumerate_next (wpAny_call_entry F.slot_enumerate_next hT F.entry_enumerate_next ?_ (F.args_enumerate_next_1 _))))
    show wpAny _ _ (field (.ref e) 2 >>= _) _ _ _
    refine wpAny_bind (wpAny_field he rfl (x := .ref it) rfl ?_)
    refine wpAny_bind (wpAny_nextOf_tuple_end (show X.A.in1.handled = none from I.ok.hd hc) hi tp hend fun h' x eb hx' => ?_)
    obtain ⟨o, ho, hcl⟩ := hx'
    exact wpAny_bind (wpAny_isInstance (T := "StopIteration") (b := true) ⟨o, ho, hcl⟩ isSubtype_stop (wpAny_pure (fin _ eb)))
  self := fun A i s Q E st h => let ⟨⟨_, he⟩, _⟩ := st; wpAny_pyIter_enum he h
theorem pi_enumT {X : Cx} {e : Expr} {ta : TA} {p pos tpos : Pos} {elts : List Expr} {kk : Nat} (hg : Gl X "enumerate") (hm : X.mg "enumerate" = none) (ha : PA X [e] ta) (hs : starEach [e] X.env = [(false, eval e X.env)] := by rfl) :
    PI X (.Tuple elts kk tpos) (.Call (.Name "enumerate" p) [e] [] pos) (fun σ H R => ta σ H fun vs H1 => ∃ a xs, vs = [.ref a] ∧ SqT X.K H1 a xs ∧ R (ItEn X.K a) H1) := by
  refine ⟨fun pins s σ H R I h => Call_ (ld_blt I hg hm boot_enumerate (PyProof.Rows.callWith_type1 (thn (ha.run pos pins s σ H _ I h) fun us s1 ⟨vs, H1, I1, r1, q1⟩ => ?_) hs rfl))⟩
  obtain ⟨a, xs, rfl, hq, q⟩ := q1
  cases r1 with
  | cons rr r0 =>
    cases r0
    cases rr
    obtain ⟨its, rv, tp, _⟩ := I1.tuple hq
    have al : a < s1.heap.objs.size := by obtain ⟨_, z, _⟩ := tp; exact Heap.lt_size z
    refine call_enumT tp fun h' he hi hk => wpAny_pyIter_enum he ?_
    refine ⟨s1.heap.objs.size + 1, [s1.heap.objs.size + 1, s1.heap.objs.size], _, _, H1, rfl, I1.kept (t' := s1.toks) hk, turn_enumT (Nat.succ_ne_self _) (Nat.ne_of_lt al) (Nat.ne_of_gt (Nat.lt_succ_of_lt al)), ⟨⟨.none, he⟩, hi⟩, fun b hb => ?_, q⟩
    have lb : s1.heap.objs.size ≤ b := by
      rcases List.mem_cons.mp hb with z | z
      · exact z ▸ Nat.le_succ _
      · exact (List.mem_singleton.mp z) ▸ Nat.le_refl _
    exact I1.fpOk lb (I1.hok.fresh lb)
/-- enumerate(a tuple) -/
def iEnumT (f : Ev → Mem → Out (List D)) : Ev → Mem → Out (List D) := fun e m => (f e m).bind fun l m1 => match l with
  | [.tup a] => .ok (pairs (upto 0 a.length) a) m1
  | _ => .bad
theorem upto_get {lo : Int} {n i : Nat} (h : i < n) : (upto lo n)[i]? = some (.int (lo + (i : Nat))) := by
  unfold upto
  rw [List.getElem?_map, List.getElem?_range h]
  rfl
theorem enum_len (l : List D) : (pairs (upto 0 l.length) l).length = l.length := by rw [pairs_len]; simp [upto]
section
variable {c : Cn} {X : Cx} {W : WX} {a : Expr} {pos : Pos} {fl : Ev → Mem → Out (List D)}
theorem ix_enumT {p tpos : Pos} {elts : List Expr} {kk : Nat} (hK : X.K = c.K) (hg : Gl X "enumerate") (hm : X.mg "enumerate" = none) (ha : AX c X W [a] fl) (hs : starEach [a] X.env = [(false, eval a X.env)] := by rfl) :
    IX c X W (.Tuple elts kk tpos) (.Call (.Name "enumerate" p) [a] [] pos) (iEnumT fl) := by
  obtain ⟨t, p, q⟩ := ha
  refine ⟨_, pi_enumT hg hm p hs, fun r H m env s R hm he hg => ?_⟩
  refine q r H m env s _ hm he (G.bind hg fun l m1 r1 H1 vs x1 hm1 q1 hg1 => ?_)
  split at hg1
  · rename_i l
    cases q1 with
    | cons h1 h2 =>
      cases h2
      cases h1 with
      | @tup a vs _ hT hoff hr =>
        refine ⟨a, vs, rfl, SqT.of hT, G.here hg1 hm1 ?_⟩
        refine ⟨fun r2 H2 => H2 a = some (.tup vs) ∧ ¬ r2.Own a ∧ Reps c r2 H2 l vs, ⟨hT, hoff, hr⟩, fun r2 H2 r3 H3 ⟨h1, h2, h3⟩ x => ⟨x.keep _ _ h2 h1, x.off h2 h1, h3.le x⟩,
          fun r2 H2 i ⟨h1, h2, h3⟩ hi => ?_, fun r2 H2 ⟨h1, h2, h3⟩ => ⟨vs, SqT.of h1, by rw [enum_len, h3.length]; exact Nat.le_refl _⟩, fun r2 H2 m2 i x H3 ⟨h1, h2, h3⟩ hm2 hy hi => ?_⟩
        · rw [enum_len] at hi
          exact ⟨vs, vs[i]'(by rw [← h3.length]; exact hi), SqT.of h1, by simp⟩
        · rw [enum_len] at hi
          obtain ⟨T, y, rfl, np, rfl, h4⟩ := hy
          obtain ⟨d2, h5, h6⟩ := h3.back (h4 vs (SqT.of h1))
          refine ⟨Ext.new np, hm2.new np, .tup [.int (i : Nat), d2], ?_, .tup upd_same (hm2.off np) (.cons (.int _) (.cons (h6.ext (Ext.new np)) .nil))⟩
          have z := pairs_get (upto 0 l.length) l i _ _ (upto_get hi) h5
          rw [z]
          simp
  · exact hg1.elim
end
end Sz

namespace Sz
open PySem PySem.Spec PyProof.Rows L2

/-! ## tuple(zip(one list, another)) -/
theorem no_len_zip : typeLookup (.type "zip") "__len__" = pure none := am_miss_of_fast (by decide +kernel)
theorem no_hint_zip : typeLookup (.type "zip") "__length_hint__" = pure none := am_miss_of_fast (by decide +kernel)
/-- new pairs, one by one -/
inductive Grown (xs ys : List V) : Hp → Nat → Hp → List V → Prop
  | nil {H : Hp} : Grown xs ys H 0 H []
  | snoc {H H1 : Hp} {i : Nat} {ws : List V} {p : Addr} {x y : V} : Grown xs ys H i H1 ws → H1 p = none → xs[i]? = some x → ys[i]? = some y → Grown xs ys H (i + 1) (upd H1 p (.tup [x, y])) (ws ++ [.ref p])
/-- the zip fresh, or with the pair it gave out last -/
def ZipSt (h : Heap) (z TI TO : Addr) : Prop := (IsZip h z TI TO .none ∧ ∃ x y, IsPair h TO x y) ∨ ∃ T f o, IsZipHeld h z TI TO T f ∧ h.get? T = some o
structure ZS (h : Heap) (z TI TO i1 i2 l1 l2 : Addr) (i : Nat) : Prop where
  zip : ZipSt h z TI TO
  pair : IsPair h TI (.ref i1) (.ref i2)
  a1 : h.IsListIter i1 l1 i
  a2 : h.IsListIter i2 l2 i
  to : ∃ o, h.get? TO = some o
theorem ZS.at {h h' : Heap} {z TI TO i1 i2 l1 l2 S : Addr} {i : Nat} (x : ZS h z TI TO i1 i2 l1 l2 i) (k : ∀ b o, b ≠ S → h.get? b = some o → h'.get? b = some o) (kS : ∃ o, h'.get? S = some o) (n1 : S ≠ z) (n2 : S ≠ TI) (n3 : S ≠ TO) (n4 : S ≠ i1) (n5 : S ≠ i2) : ZS h' z TI TO i1 i2 l1 l2 i where
  zip := by
    rcases x.zip with ⟨h1, u, v, h2⟩ | ⟨T, f, o, h1, h2⟩
    · exact .inl ⟨k _ _ (Ne.symm n1) h1, u, v, k _ _ (Ne.symm n3) h2⟩
    · by_cases e : T = S
      · obtain ⟨o', ho'⟩ := kS
        exact .inr ⟨T, f, o', k _ _ (Ne.symm n1) h1, e ▸ ho'⟩
      · exact .inr ⟨T, f, o, k _ _ (Ne.symm n1) h1, k _ _ e h2⟩
  pair := k _ _ (Ne.symm n2) x.pair
  a1 := x.a1.at fun o q => k _ _ (Ne.symm n4) q
  a2 := x.a2.at fun o q => k _ _ (Ne.symm n5) q
  to := x.to.imp fun o q => k _ _ (Ne.symm n3) q
section
variable {X : Cx} {pins : List (Addr × Obj)} {σ : L2.St}
theorem zip_next1 {A : Around} {E : Value → Shared → Prop} {s : Shared} {z TI TO i1 i2 l1 l2 : Addr} {i : Nat} {us vs : Array Value} {u v : Value} {Q : Option Value → Shared → Prop} (D : ZipApart z TI TO i1 i2 l1 l2) (Z : ZS s.heap z TI TO i1 i2 l1 l2 i)
    (hl1 : s.heap.IsList l1 us) (hl2 : s.heap.IsList l2 vs) (hu : us[i]? = some u) (hv : vs[i]? = some v)
    (hQ : ∀ h', ZS h' z TI TO i1 i2 l1 l2 (i + 1) → IsPair h' s.heap.objs.size u v → (∀ b o, b ∉ [z, TI, TO, i1, i2] → s.heap.get? b = some o → h'.get? b = some o) → Q (some (.ref s.heap.objs.size)) { s with heap := h' }) :
    wpAny (model X.prog X.w) A (pyNext (.ref z)) Q E s := by
  have n1 : z ≠ s.heap.objs.size := by
    rcases Z.zip with ⟨q, _⟩ | ⟨_, _, _, q, _⟩ <;> exact Nat.ne_of_lt (Heap.lt_size q)
  rcases Z.zip with ⟨h1, x, y, h2⟩ | ⟨T, f, o, h1, h2⟩
  · refine wpAny_pyNext_zip_item D h1 Z.pair h2 Z.a1 Z.a2 hl1 hl2 hu hv fun h' z' TO' b1 b2 pr sz k => hQ h' ⟨.inr ⟨_, false, _, z', pr⟩, k _ _ D.TIz D.TITO D.TIi1 D.TIi2 Z.pair, b1, b2, _, TO'⟩ pr fun b ob hb q => ?_
    exact k b ob (fun w => hb (by simp [w])) (fun w => hb (by simp [w])) (fun w => hb (by simp [w])) (fun w => hb (by simp [w])) q
  · refine wpAny_pyNext_zip_item_held D h1 h2 Z.pair Z.a1 Z.a2 hl1 hl2 hu hv fun h' z' b1 b2 pr sz k => hQ h' ⟨.inr ?_, k _ _ D.TIz D.TIi1 D.TIi2 Z.pair, b1, b2, Z.to.imp fun o q => k _ _ D.TOz D.TOi1 D.TOi2 q⟩ pr fun b ob hb q => ?_
    · have : ∃ o, h'.get? T = some o := by
        by_cases e1 : T = z
        · rw [e1]; exact ⟨_, z'⟩
        · by_cases e2 : T = i1
          · obtain ⟨o, ho, _⟩ := b1; exact ⟨o, e2 ▸ ho⟩
          · by_cases e3 : T = i2
            · obtain ⟨o, ho, _⟩ := b2; exact ⟨o, e3 ▸ ho⟩
            · exact ⟨o, k _ _ e1 e2 e3 h2⟩
      obtain ⟨o', ho'⟩ := this
      exact ⟨T, true, o', z', ho'⟩
    · exact k b ob (fun w => hb (by simp [w])) (fun w => hb (by simp [w])) (fun w => hb (by simp [w])) q
theorem zip_next0 {A : Around} {E : Value → Shared → Prop} {s : Shared} {z TI TO i1 i2 l1 l2 : Addr} {i : Nat} {us vs : Array Value} {Q : Option Value → Shared → Prop} (hh : A.handled = none) (D : ZipApart z TI TO i1 i2 l1 l2) (Z : ZS s.heap z TI TO i1 i2 l1 l2 i)
    (hl1 : s.heap.IsList l1 us) (hl2 : s.heap.IsList l2 vs) (hend : us[i]? = none ∨ vs[i]? = none)
    (hQ : ∀ h', (∀ b o, b ∉ [z, TI, TO, i1, i2] → s.heap.get? b = some o → h'.get? b = some o) → Q none { s with heap := h' }) :
    wpAny (model X.prog X.w) A (pyNext (.ref z)) Q E s := by
  rcases Z.zip with ⟨h1, x, y, h2⟩ | ⟨T, f, o, h1, h2⟩
  · refine wpAny_pyNext_zip_end hh D h1 Z.pair h2 Z.a1 Z.a2 hl1 hl2 hend fun h' k => hQ h' fun b ob hb q => ?_
    exact k b ob (fun w => hb (by simp [w])) (fun w => hb (by simp [w])) (fun w => hb (by simp [w])) (fun w => hb (by simp [w])) q
  · refine wpAny_pyNext_zip_end_held hh D h1 h2 Z.pair Z.a1 Z.a2 hl1 hl2 hend fun h' k => hQ h' fun b ob hb q => ?_
    exact k b ob (fun w => hb (by simp [w])) (fun w => hb (by simp [w])) (fun w => hb (by simp [w])) q
theorem sqL_upd {K : PySem.W.Frag} {H : Hp} {a p : Addr} {xs : List V} {o : HO} (h : SqL K H a xs) (n : H p = none) : SqL K (upd H p o) a xs := by
  rcases h with (h | ⟨fo, h⟩) | h
  · exact .inl (.inl (by rw [upd_ne (ne_of_none h n)]; exact h))
  · exact .inl (.inr ⟨fo, by rw [upd_ne (ne_of_none h n)]; exact h⟩)
  · exact .inr h
/-- a list takes all that a zip gives -/
theorem take_zip {A : Around} {R : Result → Shared → Prop} {S z TI TO i1 i2 l1 l2 : Addr} {xs ys : List V} {H0 : Hp} {res : Value} (hh : A.handled = none) (D : ZipApart z TI TO i1 i2 l1 l2) (d : S ∉ [z, TI, TO, i1, i2]) (hz : min xs.length ys.length ≤ sizeLine) :
    ∀ (k i : Nat) (s : Shared) (acc : Array Value) (cap : Nat) (H : Hp) (ws : List V), min xs.length ys.length - i = k → i ≤ min xs.length ys.length → Inv X pins σ H s → (∀ b ∈ S :: [z, TI, TO, i1, i2], FpOk X pins H b) → Grown xs ys H0 i H ws → Vals ws acc.toList →
      SqL X.K H l1 xs → SqL X.K H l2 ys → ZS s.heap z TI TO i1 i2 l1 l2 i → s.heap.get? S = some { cls := .type "list", dict := none, data := .seq acc cap, slots := #[] } → acc.size = i →
      (∀ s' acc' cap' H' ws', Inv X pins σ H' s' → (∀ b ∈ S :: [z, TI, TO, i1, i2], FpOk X pins H' b) → Grown xs ys H0 (min xs.length ys.length) H' ws' → Vals ws' acc'.toList → s'.heap.get? S = some { cls := .type "list", dict := none, data := .seq acc' cap', slots := #[] } → acc'.size = min xs.length ys.length → R (.ok (.ret res)) s') →
      codeAny (model X.prog X.w) A (.builtin "list.extend.loop" ⟨[.ref S, .ref z, res], []⟩) R s := by
  have dS : S ≠ z ∧ S ≠ TI ∧ S ≠ TO ∧ S ≠ i1 ∧ S ≠ i2 := by simpa using d
  obtain ⟨d1, d2, d3, d4, d5⟩ := dS
  intro k
  induction k with
  | zero =>
    intro i s acc cap H ws hk hi I hf g rv q1 q2 Z hS ha hR
    have hin : i = min xs.length ys.length := by omega
    refine codeAny_builtin F.entry_extend_loop ?_
    rw [Around.under_plainId F.plain_extend_loop _]
    obtain ⟨us, r1, p1, _⟩ := I.list q1
    obtain ⟨vs, r2, p2, _⟩ := I.list q2
    have e1 := r1.length
    have e2 := r2.length
    show wpAny _ A.in1 (pyNext (.ref z) >>= _) _ _ s
    refine wpAny_bind (zip_next0 hh D Z p1.isList p2.isList ?_ fun h' kk => ?_)
    · by_cases q : xs.length ≤ ys.length
      · exact .inl (by simp; omega)
      · exact .inr (by simp; omega)
    · refine wpAny_pure (hR _ acc cap H ws (I.turnedL (t' := s.toks) (ch := [z, TI, TO, i1, i2]) (fun b o hb q => kk b o hb q) fun b hb => hf b (List.mem_cons_of_mem _ hb)) hf (hin ▸ g) rv (kk S _ d hS) (by omega))
  | succ k ih =>
    intro i s acc cap H ws hk hi I hf g rv q1 q2 Z hS ha hR
    refine codeAny_builtin F.entry_extend_loop ?_
    rw [Around.under_plainId F.plain_extend_loop _]
    obtain ⟨us, r1, p1, _⟩ := I.list q1
    obtain ⟨vs, r2, p2, _⟩ := I.list q2
    have e1 := r1.length
    have e2 := r2.length
    obtain ⟨x, hx⟩ : ∃ x, xs[i]? = some x := ⟨_, List.getElem?_eq_getElem (by omega)⟩
    obtain ⟨y, hy⟩ : ∃ y, ys[i]? = some y := ⟨_, List.getElem?_eq_getElem (by omega)⟩
    obtain ⟨u, hu, ru⟩ := r1.get hx
    obtain ⟨v, hv, rw'⟩ := r2.get hy
    show wpAny _ A.in1 (pyNext (.ref z) >>= _) _ _ s
    refine wpAny_bind (zip_next1 D Z p1.isList p2.isList (by simpa using hu) (by simpa using hv) fun h1 Z1 pr kk => ?_)
    have hp : H s.heap.objs.size = none := I.hok.fresh (Nat.le_refl _)
    have new : ObjOk X.prog X.w (upd H s.heap.objs.size (.tup [x, y])) h1 s.heap.objs.size (.tup [x, y]) := ⟨by show 2 ≤ sizeLine; decide, [u, v], .cons ru (.cons rw' .nil), ⟨_, pr, rfl, _, rfl⟩⟩
    have I1 : Inv X pins σ (upd H s.heap.objs.size (.tup [x, y])) { s with heap := h1 } := I.turnedNew (t' := s.toks) (ch := [z, TI, TO, i1, i2]) (fun b o hb q => kk b o hb q) (fun b hb => hf b (List.mem_cons_of_mem _ hb)) (Nat.le_refl _) new
    have lt : ∀ b, b ∈ S :: [z, TI, TO, i1, i2] → b < s.heap.objs.size := fun b hb => by
      have e' : b = S ∨ b = z ∨ b = TI ∨ b = TO ∨ b = i1 ∨ b = i2 := by simpa using hb
      rcases e' with w | w | w | w | w | w
      · exact w ▸ Heap.lt_size hS
      · rw [w]; rcases Z.zip with ⟨q, _⟩ | ⟨_, _, _, q, _⟩ <;> exact Heap.lt_size q
      · exact w ▸ Heap.lt_size Z.pair
      · obtain ⟨o, q⟩ := Z.to; exact w ▸ Heap.lt_size q
      · obtain ⟨_, q, _⟩ := Z.a1; exact w ▸ Heap.lt_size q
      · obtain ⟨_, q, _⟩ := Z.a2; exact w ▸ Heap.lt_size q
    have hf1 : ∀ b ∈ S :: [z, TI, TO, i1, i2], FpOk X pins (upd H s.heap.objs.size (.tup [x, y])) b := fun b hb => ⟨by rw [upd_ne (Nat.ne_of_lt (lt b hb))]; exact (hf b hb).1, (hf b hb).2⟩
    have hS1 := kk S _ d hS
    show wpAny _ A.in1 (updateSeq S (·.push (Value.ref s.heap.objs.size)) >>= _) _ _ _
    refine wpAny_bind (wpAny_updateSeq (s := { s with heap := h1 }) hS1 rfl (wpAny_pure ⟨plainId_quiet F.plain_extend_loop _, ?_⟩) (by omega) (by show (acc.push _).size ≤ sizeLine + 1; rw [Array.size_push]; omega))
    have ks : ∀ b o, b ≠ S → h1.get? b = some o → (h1.update S (Obj.mapSeq (·.push (Value.ref s.heap.objs.size)))).get? b = some o := fun b o nb q => (Heap.get?_update_other _ _ (Ne.symm nb)).trans q
    have hS2 := Heap.get?_update_self (Obj.mapSeq (·.push (Value.ref s.heap.objs.size))) hS1 rfl
    refine ih (i + 1) _ (acc.push (Value.ref s.heap.objs.size)) _ _ (ws ++ [.ref s.heap.objs.size]) (by omega) (by omega) (I1.turnedL (t' := s.toks) (ch := [S]) (fun b o hb q => ks b o (by simpa using hb) q) fun b hb => hf1 b (by simp at hb; simp [hb])) hf1 (.snoc g hp hx hy) (by rw [Array.toList_push]; exact rv.append (.cons rfl .nil))
      (sqL_upd q1 hp) (sqL_upd q2 hp) (Z1.at ks ⟨_, hS2⟩ d1 d2 d3 d4 d5) hS2 (by rw [Array.size_push]; omega) hR
theorem collect_zip {A : Around} {E : Value → Shared → Prop} {s : Shared} {H : Hp} {z TI TO i1 i2 l1 l2 : Addr} {xs ys : List V} {Q : List Value → Shared → Prop} (hh : A.handled = none) (D : ZipApart z TI TO i1 i2 l1 l2) (hz : min xs.length ys.length ≤ sizeLine)
    (I : Inv X pins σ H s) (hf : ∀ b ∈ [z, TI, TO, i1, i2], FpOk X pins H b) (q1 : SqL X.K H l1 xs) (q2 : SqL X.K H l2 ys) (Z : ZS s.heap z TI TO i1 i2 l1 l2 0)
    (hQ : ∀ s' (acc : Array Value) H' ws, Inv X pins σ H' s' → Grown xs ys H (min xs.length ys.length) H' ws → Vals ws acc.toList → acc.size = min xs.length ys.length → Q acc.toList s') : wpAny (model X.prog X.w) A (collect (.ref z)) Q E s := by
  have lt : ∀ b, b ∈ [z, TI, TO, i1, i2] → b < s.heap.objs.size := fun b hb => by
    have e' : b = z ∨ b = TI ∨ b = TO ∨ b = i1 ∨ b = i2 := by simpa using hb
    rcases e' with w | w | w | w | w
    · rw [w]; rcases Z.zip with ⟨q, _⟩ | ⟨_, _, _, q, _⟩ <;> exact Heap.lt_size q
    · exact w ▸ Heap.lt_size Z.pair
    · obtain ⟨o, q⟩ := Z.to; exact w ▸ Heap.lt_size q
    · obtain ⟨_, q, _⟩ := Z.a1; exact w ▸ Heap.lt_size q
    · obtain ⟨_, q, _⟩ := Z.a2; exact w ▸ Heap.lt_size q
  have d : s.heap.objs.size ∉ [z, TI, TO, i1, i2] := fun hm => Nat.lt_irrefl _ (lt _ hm)
  have dz : s.heap.objs.size ≠ z := fun e => d (by simp [e])
  unfold collect
  refine wpAny_bind (wpAny_runValue (codeAny_builtin F.entry_proto_collect ?_))
  rw [Around.under_plainId F.plain_proto_collect _]
  show wpAny _ A.in1 (newList [] >>= fun li => again (.builtin "list.__iadd__" ⟨[li, .ref z], []⟩)) _ _ s
  refine wpAny_bind (wpAny_newObj_type ?_)
  refine wpAny_pure ⟨plainId_quiet F.plain_list_iadd _, codeAny_builtin F.entry_list_iadd ?_⟩
  rw [Around.under_plainId F.plain_list_iadd _]
  generalize hh1 : s.heap.push { cls := .type "list", data := .seq ([] : List Value).toArray } = hp1
  have hS1 : hp1.get? s.heap.objs.size = some { cls := .type "list", data := .seq ([] : List Value).toArray } := by rw [← hh1]; exact Heap.get?_push_size _ rfl
  have kp : ∀ b o, s.heap.get? b = some o → hp1.get? b = some o := fun b o q => by rw [← hh1]; exact Heap.get?_push_of_some _ q
  have Z1 : ZS hp1 z TI TO i1 i2 l1 l2 0 := Z.at (S := s.heap.objs.size) (fun b o _ q => kp b o q) ⟨_, hS1⟩ (fun e => d (by simp [e])) (fun e => d (by simp [e])) (fun e => d (by simp [e])) (fun e => d (by simp [e])) (fun e => d (by simp [e]))
  have zty : ∀ hp : Heap, ZipSt hp z TI TO → Shared.TypeIs { s with heap := hp } (.ref z) "zip" := fun hp q => by
    rcases q with ⟨q, _⟩ | ⟨_, _, _, q, _⟩ <;> exact ⟨_, q, rfl⟩
  have hT := zty hp1 Z1.zip
  have ns : Builtin.List.listSameRef (.ref s.heap.objs.size) (.ref z) = false := by simp [Builtin.List.listSameRef, dz]
  show wpAny _ A.in1 (Builtin.List.listExtendWith (.ref s.heap.objs.size) (.ref z) (.ref s.heap.objs.size)) _ _ _
  unfold Builtin.List.listExtendWith
  refine wpAny_bind (wpAny_typeOf hT ?_)
  rw [if_neg (by rw [ns]; decide)]
  have self : ∀ {A2 : Around} {E2 : Value → Shared → Prop} {Q2 : Value → Shared → Prop}, Q2 (.ref z) { s with heap := hp1 } → wpAny (model X.prog X.w) A2 (pyIter (.ref z)) Q2 E2 { s with heap := hp1 } := fun q => by
    refine wpAny_pyIter_slot hT F.slot_zip_iter (wpAny_call_entry F.slot_zip_iter hT F.entry_zip_iter ?_ (F.args_zip_iter_1 _))
    show wpAny _ _ (ret (.ref z)) _ _ _
    exact wpAny_pure ⟨_, rfl, "zip", _, hT, F.slot_zip_next.lookup, q⟩
  refine wpAny_bind (self ?_)
  refine wpAny_bind (wpAny_holding ?_)
  unfold Builtin.List.listLengthHint
  refine wpAny_bind (wpAny_specialOf hT no_len_zip ?_)
  show wpAny _ A.in1 (specialOf (Value.ref z) (Str.ofString "__length_hint__") >>= _) _ _ _
  refine wpAny_bind (wpAny_specialOf hT no_hint_zip ?_)
  refine wpAny_pure ?_
  show wpAny _ A.in1 (rule "list.extend.makes-room" >>= fun _ => Builtin.List.listTouch (.ref s.heap.objs.size) >>= fun _ => again (.builtin "list.extend.loop" ⟨[.ref s.heap.objs.size, .ref z, .ref s.heap.objs.size], []⟩)) _ _ _
  refine wpAny_bind (wpAny_rule (wpAny_bind ?_))
  show wpAny _ A.in1 (updateSeq s.heap.objs.size (·.push .none) >>= fun _ => updateSeq s.heap.objs.size (·.pop)) _ _ _
  refine wpAny_bind (wpAny_updateSeq (s := { s with heap := hp1 }) hS1 rfl ?_)
  have hS2 := Heap.get?_update_self (Obj.mapSeq (·.push Value.none)) hS1 rfl
  refine wpAny_updateSeq (s := { s with heap := hp1.update s.heap.objs.size (Obj.mapSeq (·.push Value.none)) }) hS2 rfl ?_
  have hS3 := Heap.get?_update_self (Obj.mapSeq (·.pop)) hS2 rfl
  have ko : ∀ b o, b ≠ s.heap.objs.size → hp1.get? b = some o → ((hp1.update s.heap.objs.size (Obj.mapSeq (·.push Value.none))).update s.heap.objs.size (Obj.mapSeq (·.pop))).get? b = some o :=
    fun b o nb q => (Heap.get?_update_other _ _ (Ne.symm nb)).trans ((Heap.get?_update_other _ _ (Ne.symm nb)).trans q)
  have I1 : Inv X pins σ H { s with heap := hp1 } := I.kept (t' := s.toks) kp
  have hfS : ∀ b ∈ s.heap.objs.size :: [z, TI, TO, i1, i2], FpOk X pins H b := fun b hb => by
    rcases List.mem_cons.mp hb with e | e
    · rw [e]; exact I.fpOk (Nat.le_refl _) (I.hok.fresh (Nat.le_refl _))
    · exact hf b e
  have I3 : Inv X pins σ H { s with heap := (hp1.update s.heap.objs.size (Obj.mapSeq (·.push Value.none))).update s.heap.objs.size (Obj.mapSeq (·.pop)) } := I1.turnedL (s := { s with heap := hp1 }) (t' := s.toks) (ch := [s.heap.objs.size]) (fun b o hb q => ko b o (by simpa using hb) q) fun b hb => hfS b (by simp at hb; simp [hb])
  refine wpAny_pure ⟨plainId_quiet F.plain_extend_loop _, take_zip (pins := pins) (σ := σ) (xs := xs) (ys := ys) (H0 := H) hh D d hz _ 0 _ _ _ H [] rfl (Nat.zero_le _) I3 hfS .nil .nil q1 q2
    (Z1.at ko ⟨_, hS3⟩ (fun e => d (by simp [e])) (fun e => d (by simp [e])) (fun e => d (by simp [e])) (fun e => d (by simp [e])) (fun e => d (by simp [e]))) hS3 rfl fun s' acc' cap' H' ws' I' hf' g rv hS' hs' => ?_⟩
  show wpAny _ A (load s.heap.objs.size >>= _) _ _ s'
  refine wpAny_bind (wpAny_load hS' ?_)
  exact wpAny_pure (hQ s' acc' H' ws' I' g rv hs')
theorem call_tupleZip {A : Around} {E : Value → Shared → Prop} {s : Shared} {H : Hp} {z TI TO i1 i2 l1 l2 : Addr} {xs ys : List V} {Q : Value → Shared → Prop} (hh : A.handled = none) (D : ZipApart z TI TO i1 i2 l1 l2) (hz : min xs.length ys.length ≤ sizeLine)
    (I : Inv X pins σ H s) (hf : ∀ b ∈ [z, TI, TO, i1, i2], FpOk X pins H b) (q1 : SqL X.K H l1 xs) (q2 : SqL X.K H l2 ys) (Z : ZS s.heap z TI TO i1 i2 l1 l2 0)
    (hQ : ∀ s' (acc : Array Value) H' ws, Inv X pins σ H' s' → Grown xs ys H (min xs.length ys.length) H' ws → Vals ws acc.toList → acc.size = min xs.length ys.length → Q (.ref s'.heap.objs.size) { s' with heap := s'.heap.push { cls := .type "tuple", data := .seq acc } }) :
    wpAny (model X.prog X.w) A (call (.type "tuple") [.ref z]) Q E s := by
  refine callType_codes (Q₁ := fun obj s1 => s1.TypeIs obj "tuple" ∧ Q obj s1) F.called_tuple (F.typeCall_tuple_1 _) F.entry_object_init ?_ fun obj s1 h1 => ⟨h1.1, F.args_object_init_2 obj _, object_init_meets F.called_tuple.init.lookup F.called_tuple.made (by decide) X.prog X.w A.in1 _ s1 ⟨h1.1, rfl, h1.2⟩⟩
  refine codeAny_of_tree ?_
  show wpAny _ A.in1.in1 (do checkBuiltinCall "tuple.__new__" ⟨[.type "tuple", .ref z], []⟩; again (.builtin "tuple.__new__" ⟨[.type "tuple", .ref z], []⟩)) _ _ s
  refine wpAny_bind (wpAny_of_eq (F.newCall_tuple_1 _) (wpAny_pure ⟨plainId_quiet F.plain_tuple_new _, codeAny_builtin F.entry_tuple_new ?_⟩))
  rw [Around.under_plainId F.plain_tuple_new _]
  have t1 := sub_tuple_self
  have t2 := init_tuple_lookup
  have t3 := madeHere_tuple
  have hT : s.TypeIs (.ref z) "zip" := by rcases Z.zip with ⟨q, _⟩ | ⟨_, _, _, q, _⟩ <;> exact ⟨_, q, rfl⟩
  wp_walk using wpAny_typeOf hT, collect_zip (pins := pins) (σ := σ) (H := H) (xs := xs) (ys := ys) (A := A.in1.in1) hh D hz I hf q1 q2 Z
  intro s' acc H' ws I' g rv hs
  show wpAny _ _ (Builtin.Tuple.tupleExact acc.toList.toArray >>= fun v => ret v) _ _ _
  unfold Builtin.Tuple.tupleExact
  refine wpAny_bind (wpAny_newObj_type ?_ (by show acc.toList.toArray.size ≤ sizeLine; simp only [Array.toArray_toList]; omega))
  refine wpAny_pure ?_
  rw [show acc.toList.toArray = acc by simp]
  exact ⟨⟨_, Heap.get?_push_size _ rfl, rfl⟩, hQ s' acc H' ws I' g rv hs⟩
end
/-- tuple(zip(a, b)) -/
def tTupZip (K : PySem.W.Frag) (ta : TA) : TE := fun σ H Q => ta σ H fun vs H1 => ∃ a b xs ys, vs = [.ref a, .ref b] ∧ SqL K H1 a xs ∧ SqL K H1 b ys ∧
  ∀ H2 ws p, Grown xs ys H1 (min xs.length ys.length) H2 ws → H2 p = none → Q (.ref p) (upd H2 p (.tup ws))
theorem pe_tupZip {X : Cx} {e e2 : Expr} {ta : TA} {p p2 pos pos2 : Pos} (hc : X.calm = true) (hg : Gl X "tuple") (hm : X.mg "tuple" = none) (hg2 : Gl X "zip") (hm2 : X.mg "zip" = none) (ha : PA X [e, e2] ta)
    (hs : starEach [e, e2] X.env = (false, eval e X.env) :: starEach [e2] X.env := by rfl) (hpl : (backTo pos2 (starEach [e2] X.env)).any (·.1) = false := by rfl)
    (hs2 : starEach [.Call (.Name "zip" p2) [e, e2] [] pos2] X.env = (false, eval (.Call (.Name "zip" p2) [e, e2] [] pos2) X.env) :: starEach [] X.env := by rfl) :
    PE X (.Call (.Name "tuple" p) [.Call (.Name "zip" p2) [e, e2] [] pos2] [] pos) (tTupZip X.K ta) := by
  refine ⟨fun pins s σ H Q I h => ?_⟩
  refine Call_ (ld_blt I hg hm boot_tuple (PyProof.Rows.callWith_type1 (args_cons (Call_ (ld_blt I hg2 hm2 PyProof.Rows.boot_zip (PyProof.Rows.callWith_type1 (thn (ha.run pos2 pins s σ H _ I h) fun us s1 ⟨vs, H1, I1, r1, q1⟩ => ?_) hs hpl))) hs2) hs2 rfl))
  obtain ⟨a, b, xs, ys, ex, hqx, hqy, q⟩ := q1
  subst ex
  cases r1 with
  | cons r rr =>
    cases rr with
    | cons r' rr =>
      cases rr
      cases r
      cases r'
      obtain ⟨its, rv, p1, z1⟩ := I1.list hqx
      obtain ⟨its2, rv2, p3, z2⟩ := I1.list hqy
      refine call_zip_2 p1.isList p3.isList fun h' hz hTI hTO h1 h2 hsz hk => args_nil ?_
      have I2 : Inv X pins σ H1 { s1 with heap := h' } := I1.kept (t' := s1.toks) hk
      refine call_tupleZip (s := { s1 with heap := h' }) (I2.ok.hd hc) (PySem.W.ktu_apart s1.heap.objs.size a b p1.lt p3.lt) (by omega) I2 (fun c hcm => ?_) hqx hqy ⟨.inl ⟨hz, _, _, hTO⟩, hTI, h1, h2, _, hTO⟩ fun s' acc H' ws I' g rv hs => ?_
      · have hle : s1.heap.objs.size ≤ c := by
          have e' : c = s1.heap.objs.size + 4 ∨ c = s1.heap.objs.size + 2 ∨ c = s1.heap.objs.size + 3 ∨ c = s1.heap.objs.size ∨ c = s1.heap.objs.size + 1 := by simpa using hcm
          rcases e' with z | z | z | z | z <;> rw [z] <;> first | exact Nat.le_add_right _ _ | exact Nat.le_refl _
        exact I1.fpOk hle (I1.hok.fresh hle)
      · have nf := I'.hok.fresh (Nat.le_refl s'.heap.objs.size)
        have hl := rv.length
        have hl2 : acc.toList.length = acc.size := Array.length_toList ..
        rw [hl2, hs] at hl
        have nx : min xs.length ys.length ≤ sizeLine := by omega
        refine ⟨.ref s'.heap.objs.size, _, I'.laid (t' := s'.toks) (fun c o e => Heap.get?_push_of_some _ e) (Nat.le_refl _) (show ObjOk X.prog X.w _ _ _ (.tup ws) from ⟨by rw [hl]; exact nx, acc.toList, rv, ?_⟩), rfl, q H' ws _ g nf⟩
        rw [Array.toArray_toList]
        exact IsTup.new _ _
/-- the pairs of two lists, as a tuple -/
def gZip : List D → Mem → Out D := fun l m => match l with
  | [a, b] => match rdL m a, rdL m b with
    | some xs, some ys => .ok (.tup (pairs xs ys)) m
    | _, _ => .bad
  | _ => .bad
section
variable {c : Cn} {X : Cx} {W : WX} {a b : Expr} {pos pos2 : Pos} {fl : Ev → Mem → Out (List D)}
theorem take_succ_some {α : Type} {l : List α} {i : Nat} {x : α} (h : l[i]? = some x) : l.take (i + 1) = l.take i ++ [x] := by
  rw [List.take_add_one, h]; rfl
theorem grown_ok {r : Rh} {H : Hp} {m : Mem} {xs ys : List V} {as bs : List D} (hm : MemOk c r H m) (ra : Reps c r H as xs) (rb : Reps c r H bs ys) {i : Nat} {H2 : Hp} {ws : List V} (g : Grown xs ys H i H2 ws) :
    Ext r H r H2 ∧ MemOk c r H2 m ∧ Reps c r H2 ((pairs as bs).take i) ws := by
  induction g with
  | nil => exact ⟨Ext.refl _ _, hm, .nil⟩
  | @snoc _ _ _ px x y g np hx hy ih =>
    obtain ⟨x1, m1, r1⟩ := ih
    obtain ⟨d1, e1, k1⟩ := ra.back hx
    obtain ⟨d2, e2, k2⟩ := rb.back hy
    have nx := Ext.new (r := r) np (o := .tup [x, y])
    refine ⟨x1.trans nx, m1.new np, ?_⟩
    rw [take_succ_some (pairs_get _ _ _ _ _ e1 e2)]
    exact (r1.ext nx).append (.cons (.tup upd_same (m1.off np) (.cons ((k1.ext x1).ext nx) (.cons ((k2.ext x1).ext nx) .nil))) .nil)
theorem ex_tupZip {p p2 : Pos} (hK : X.K = c.K) (hc : X.calm = true) (hg : Gl X "tuple") (hm : X.mg "tuple" = none) (hg2 : Gl X "zip") (hm2 : X.mg "zip" = none) (ha : AX c X W [a, b] fl)
    (hs : starEach [a, b] X.env = (false, eval a X.env) :: starEach [b] X.env := by rfl) (hpl : (backTo pos2 (starEach [b] X.env)).any (·.1) = false := by rfl)
    (hs2 : starEach [.Call (.Name "zip" p2) [a, b] [] pos2] X.env = (false, eval (.Call (.Name "zip" p2) [a, b] [] pos2) X.env) :: starEach [] X.env := by rfl) :
    EX c X W (.Call (.Name "tuple" p) [.Call (.Name "zip" p2) [a, b] [] pos2] [] pos) (sCB gZip fl) := by
  obtain ⟨t, p, q⟩ := ha
  refine ⟨_, pe_tupZip hc hg hm hg2 hm2 p hs hpl hs2, fun r H m env s Q hm he hg => ?_⟩
  refine q r H m env s _ hm he (G.bind hg fun l m1 r1 H1 vs x1 hm1 q1 hg1 => ?_)
  unfold gZip at hg1
  split at hg1
  · rename_i a b
    cases q1 with
    | cons h1 h2 =>
      cases h2 with
      | cons h2 h3 =>
        cases h3
        split at hg1
        · rename_i xs ys e1 e2
          obtain ⟨a1, us, rfl, k1, k2⟩ := rdL_at hm1 h1 e1
          obtain ⟨a2, vs, rfl, k3, k4⟩ := rdL_at hm1 h2 e2
          rw [hK]
          refine ⟨a1, a2, us, vs, rfl, k1, k3, fun H2 ws p g np => ?_⟩
          obtain ⟨g1, g2, g3⟩ := grown_ok hm1 k2 k4 g
          rw [List.take_of_length_le (by rw [pairs_len, k2.length, k4.length]; exact Nat.le_refl _)] at g3
          exact hg1 r1 _ _ (g1.trans (Ext.new np)) (g2.new np) (.tup upd_same (g2.off np) (g3.ext (Ext.new np)))
        · exact hg1.elim
  · exact hg1.elim
end
end Sz

namespace Sz
open PySem PySem.Spec PyProof.Rows L2

/-! ## len(set(a list of texts)) -/
def addNew {α : Type} [DecidableEq α] (l : List α) (x : α) : List α := if x ∈ l then l else l ++ [x]
def dis {α : Type} [DecidableEq α] (l : List α) : List α := l.foldl addNew []
theorem dis_snoc {α : Type} [DecidableEq α] (l : List α) (x : α) : dis (l ++ [x]) = addNew (dis l) x := by simp [dis]
theorem mem_addNew {α : Type} [DecidableEq α] {l : List α} {x y : α} : y ∈ addNew l x ↔ y ∈ l ∨ y = x := by
  unfold addNew
  split
  · rename_i h
    exact ⟨.inl, fun q => q.elim id fun e => e ▸ h⟩
  · simp
theorem len_addNew {α : Type} [DecidableEq α] (l : List α) (x : α) : (addNew l x).length = if x ∈ l then l.length else l.length + 1 := by
  unfold addNew
  split <;> simp
theorem dis_len {α : Type} [DecidableEq α] (l : List α) : (dis l).length ≤ l.length := by
  have : ∀ (l a : List α), (l.foldl addNew a).length ≤ a.length + l.length := fun l => by
    induction l with
    | nil => intro a; simp
    | cons x l ih =>
      intro a
      have h1 := ih (addNew a x)
      have h2 := len_addNew a x
      rw [List.foldl_cons, List.length_cons]
      split at h2 <;> omega
  simpa [dis] using this l []
theorem dis_map {α β : Type} [DecidableEq α] [DecidableEq β] {f : α → β} (hf : ∀ x y, f x = f y → x = y) (l : List α) : dis (l.map f) = (dis l).map f := by
  have ad : ∀ (a : List α) x, addNew (a.map f) (f x) = (addNew a x).map f := fun a x => by
    unfold addNew
    by_cases h : x ∈ a
    · rw [if_pos h, if_pos (List.mem_map_of_mem h)]
    · rw [if_neg h, if_neg (fun z => by obtain ⟨y, h1, h2⟩ := List.mem_map.mp z; exact h (hf _ _ h2 ▸ h1))]; simp
  have : ∀ (l a : List α), (l.map f).foldl addNew (a.map f) = (l.foldl addNew a).map f := fun l => by
    induction l with
    | nil => intro a; rfl
    | cons x l ih => intro a; rw [List.map_cons, List.foldl_cons, ad, ih]; rfl
  exact this l []
section
variable {prog : Program} {w : World} {A : Around} {R : Result → Shared → Prop} {I : Addr} {fp wr : List Addr} {Gr : Array GenState → Array GenState → Prop} {n : Nat} {P : Nat → Value → Prop} {St : Nat → Shared → Prop}
/-- the texts met so far stand in the set -/
def Met (prog : Program) (w : World) (h : Heap) (S : Addr) (l : List Str) : Prop := h.SetOf (PySem.strKind prog w) S (fun q => decide (q ∈ dis l)) (dis l).length
theorem Met.at {h h' : Heap} {S : Addr} {l : List Str} (x : Met prog w h S l) (k : ∀ o, h.get? S = some o → h'.get? S = some o) : Met prog w h' S l := by
  obtain ⟨o, es, ep, t, ho, q⟩ := x
  exact ⟨o, es, ep, t, k o ho, q⟩
theorem fill_set (V0 : WalksS prog w A.in1 I fp wr Gr n P St) (S : Addr) (hSf : S ∉ fp) (xs : List Str) (hl : xs.length = n) (hb : n + 1 < scanBound) (hv : ∀ i v, P i v → ∃ x t, xs[i]? = some x ∧ v = .str x t) :
    ∀ (k i : Nat) (s : Shared), n - i = k → i ≤ n → St i s → Met prog w s.heap S (xs.take i) → (∀ s', Moved (S :: wr) Gr s s' → Met prog w s'.heap S xs → R (.ok (.ret .none)) s') →
      codeAny (model prog w) A (.builtin "set.update.loop" ⟨[.ref S, .ref I], []⟩) R s := by
  have nS : S ∉ wr := fun z => hSf (V0.sub _ z)
  intro k
  induction k with
  | zero =>
    intro i s hk hi st hm hR
    refine codeAny_builtin PyProof.Rows.F.entry_set_update_loop ?_
    rw [Around.under_plainId PyProof.Rows.F.plain_set_update_loop _]
    have e : i = n := by omega
    subst e
    show wpAny _ A.in1 (pyNext (.ref I) >>= _) _ _ s
    refine wpAny_bind (V0.done s _ _ st fun s' mv => ?_)
    rw [List.take_of_length_le (by omega)] at hm
    exact wpAny_pure (hR s' (mv.mono fun b hb => List.mem_cons_of_mem _ hb) (hm.at fun o q => mv.heap S _ nS q))
  | succ k ih =>
    intro i s hk hi st hm hR
    refine codeAny_builtin PyProof.Rows.F.entry_set_update_loop ?_
    rw [Around.under_plainId PyProof.Rows.F.plain_set_update_loop _]
    show wpAny _ A.in1 (pyNext (.ref I) >>= _) _ _ s
    refine wpAny_bind (V0.item i s _ _ (by omega) st fun v s' hp st' mv => ?_)
    obtain ⟨x, t, hx, rfl⟩ := hv i v hp
    have hm1 : Met prog w s'.heap S (xs.take i) := hm.at fun o q => mv.heap S _ nS q
    show wpAny _ A.in1 (holding [Value.str x t] (setAdd S (.str x t)) >>= _) _ _ s'
    refine wpAny_bind (wpAny_holding ?_)
    unfold setAdd
    refine wpAny_holding (wpAny_bind ((PySem.strKind prog w).pyHash (k := x) (strKind_is _ _ _ _) ?_))
    have room : (dis (xs.take i)).length + 1 < scanBound := by
      have := dis_len (xs.take i)
      rw [List.length_take] at this
      omega
    refine wpAny_setAddHashed_of (knd := PySem.strKind prog w) (s := { s' with toks := s'.toks + 1 }) (strKind_is _ _ _ _) rfl hm1 room fun h' sb h2 => ?_
    have hm2 : Met prog w h' S (xs.take (i + 1)) := by
      rw [take_succ_some hx]
      refine SetOf_congr h2 (fun q => ?_) ?_
      · rw [dis_snoc]
        simp [mem_addNew]
      · rw [dis_snoc, len_addNew]
        simp
    refine wpAny_pure ⟨plainId_quiet PyProof.Rows.F.plain_set_update_loop _, ih (i + 1) _ (by omega) (by omega) (V0.frame _ s' _ _ st' (Nat.le_succ _) fun b hb o q => ?_) hm2 fun s2 mv2 hm3 => ?_⟩
    · rw [sb.2 b (fun z : b = S => hSf (z ▸ hb))]; exact q
    · refine hR s2 (Moved.trans V0.gtrans ((mv.mono fun b hb => List.mem_cons_of_mem _ hb).then_heap (Nat.le_succ _) fun b o hb q => ?_) mv2) hm3
      rw [sb.2 b (fun z : b = S => hb (by simp [z]))]; exact q
end
section
variable {prog : Program} {w : World} {A : Around} {E : Value → Shared → Prop} {s : Shared}
theorem strs_get : ∀ {us : List Value} {xs : List Str}, StrsAre us xs → us.length = xs.length ∧ ∀ (i : Nat) (v : Value), us[i]? = some v → ∃ x t, xs[i]? = some x ∧ v = .str x t
  | _, _, .nil => ⟨rfl, fun i v h => by simp at h⟩
  | _, _, .cons x t hr => by
    obtain ⟨l, g⟩ := strs_get hr
    refine ⟨by rw [List.length_cons, List.length_cons, l], fun i v h => ?_⟩
    cases i with
    | zero => simp at h; exact ⟨x, t, rfl, h.symm⟩
    | succ i => exact g i v (by simpa using h)
def set0 (led : Bool) : Obj := { cls := .type "set", dict := none, data := .set #[] 0 (.fresh 0 0 led) }
theorem init_set {led : Bool} {l : Addr} {items : Array Value} {xs : List Str} {hp : Heap} {gs dr tk os} {Q : Heap → Nat → Prop} (hh : A.handled = none) (lt : l < hp.objs.size) (hl : (hp.push (set0 led)).IsList l items) (hi : StrsAre items.toList xs) (hb : xs.length + 1 < scanBound)
    (h : ∀ h' t', Met prog w h' hp.objs.size xs → (∀ b o, b < hp.objs.size → hp.get? b = some o → h'.get? b = some o) → Q h' t') :
    codeAny (model prog w) A (.call (.builtin "set.__init__") ⟨[.ref hp.objs.size, .ref l], []⟩) (wants (fun r s2 => r = .none ∧ ∃ h' t', s2 = ⟨h', gs, dr, t', os⟩ ∧ Q h' t') E) ⟨hp.push (set0 led), gs, dr, tk, os⟩ := by
  have hS : (hp.push (set0 led)).get? hp.objs.size = some (set0 led) := Heap.get?_push_size _ rfl
  have hT : Shared.TypeIs ⟨hp.push (set0 led), gs, dr, tk, os⟩ (.ref hp.objs.size) "set" := ⟨_, hS, rfl⟩
  refine codeAny_call_builtin PySem.F.called_set.init.plain PySem.F.entry_set_init (check_set_init_1 hT ?_)
  obtain ⟨⟨oc, od, oda, osl⟩, hol, hc, nl, hd⟩ := id hl
  simp only at hc hd
  subst hc hd
  have s1 := PySem.F.sub_list_set
  have s2 := PySem.F.sub_list_frozenset
  have s3 : (Value.type "list" == Value.type "dict") = false := by decide
  unfold Builtin.«set.__init__» noKeywords Builtin.Frozenset.updateFrom
  generalize hPI : pyIter = pit
  wp_walk
  subst hPI
  refine wpAny_pyIter_list hl (wpAny_bind (wpAny_runValue ?_))
  have z1 : (hp.push (set0 led)).objs.size = hp.objs.size + 1 := Heap.size_push ..
  have nI : l ≠ (hp.push (set0 led)).objs.size := by rw [z1]; exact Nat.ne_of_lt (Nat.lt_succ_of_lt lt)
  have nf : hp.objs.size ∉ [(hp.push (set0 led)).objs.size, l] := by
    rw [z1]
    simp only [List.mem_cons, List.not_mem_nil, or_false, not_or]
    exact ⟨Nat.ne_of_lt (Nat.lt_succ_self _), Nat.ne_of_gt lt⟩
  obtain ⟨e1, e2⟩ := strs_get hi
  have e1' : xs.length = items.size := by rw [← e1, Array.length_toList]
  refine fill_set ((Walks.list (show A.in1.in1.handled = none by simp [hh]) _ l nI items).toS) hp.objs.size nf xs e1' (by omega) (fun i v hv => e2 i v (by rw [Array.getElem?_toList]; exact hv)) (items.size - 0) 0 ⟨(hp.push (set0 led)).push { cls := .type "list_iterator", data := .fields #[.ref l, .int 0 0] }, gs, dr, tk, os⟩ (by omega) (Nat.zero_le _) ⟨⟨_, Heap.get?_push_size _ rfl, rfl, rfl⟩, (hl.push _)⟩ ?_ fun s' mv hm => ?_
  · exact SetOf_congr ((setObjOf_fresh (knd := PySem.strKind prog w) led).setOf (Heap.get?_push_of_some _ hS) (by unfold scanBound; omega)) (fun _ => rfl) rfl
  · obtain ⟨h', g', d', t', o'⟩ := s'
    obtain rfl : g' = gs := mv.gens
    obtain rfl : d' = dr := mv.drawn
    obtain rfl : o' = os := mv.os
    show wpAny _ _ _ _ _ _
    refine wpAny_pure ?_
    show wpAny _ _ (ret Value.none) _ _ _
    refine wpAny_pure ⟨rfl, h', t', rfl, h h' t' hm fun b o lb q => mv.heap b o ?_ (Heap.get?_push_of_some _ (Heap.get?_push_of_some _ q))⟩
    rw [z1]
    simp only [List.mem_cons, List.not_mem_nil, or_false, not_or]
    exact ⟨Nat.ne_of_lt lb, Nat.ne_of_lt (Nat.lt_succ_of_lt lb)⟩
theorem call_setL {l : Addr} {items : Array Value} {xs : List Str} {Q : Value → Shared → Prop} (hh : A.handled = none) (hl : s.heap.IsList l items) (hi : StrsAre items.toList xs) (hb : xs.length + 1 < scanBound)
    (h : ∀ h' t', Met prog w h' s.heap.objs.size xs → (∀ b o, b < s.heap.objs.size → s.heap.get? b = some o → h'.get? b = some o) → Q (.ref s.heap.objs.size) { s with heap := h', toks := t' }) :
    wpAny (model prog w) A (call (.type "set") [.ref l]) Q E s := by
  have lt : l < s.heap.objs.size := by obtain ⟨_, q, _⟩ := hl; exact Heap.lt_size q
  obtain ⟨c, tl, hmro⟩ := PySem.F.called_set.mro
  have m1 := PySem.F.called_set.made
  have m2 := PySem.F.called_set.sub
  have m3 := PySem.F.called_set.notType
  have m4 := PySem.F.called_set.canCreate
  have m5 := PySem.F.typeCall_set_1 (.ref l)
  refine wpAny_call (codeAny_of_tree ?_)
  show wpAny _ _ (callAny (.type "set") _) _ _ _
  refine wpAny_pure ⟨Code.quiet_builtin _ (by decide +kernel), codeAny_builtin PySem.F.entry_type_call ?_⟩
  rw [Around.under_plain (weight_type_call_type "set" [.ref l] []) rfl]
  repeat (any_goals (first | assumption | wp_step))
  refine codeAny_mono (code_set_new_1 (.ref l) (E := E) (Q₁ := fun ob s1 => ∃ led, ob = .ref s.heap.objs.size ∧ s1 = { s with heap := s.heap.push (set0 led) }) fun led => ⟨led, rfl, rfl⟩) fun r s1 hr => ?_
  cases r with
  | error e => exact hr
  | ok fl =>
    cases fl with
    | ret ob =>
      obtain ⟨led, rfl, rfl⟩ := hr
      have hT : Shared.TypeIs { s with heap := s.heap.push (set0 led) } (.ref s.heap.objs.size) "set" := ⟨_, Heap.get?_push_size _ rfl, rfl⟩
      have n1 := PySem.F.called_set.init.lookup
      have n2 := PySem.F.called_set.init.bind (.ref s.heap.objs.size)
      repeat (any_goals (first | assumption | wp_step))
      refine codeAny_mono (init_set (E := E) (Q := fun h' t' => Q (.ref s.heap.objs.size) { s with heap := h', toks := t' }) (by simpa using hh) lt (hl.push _) hi hb h) fun r2 s2 hr2 => ?_
      cases r2 with
      | error e => exact hr2
      | ok fl2 =>
        cases fl2 with
        | ret v =>
          obtain ⟨rfl, h', t', rfl, hq⟩ := hr2
          repeat (any_goals (first | assumption | wp_step))
        | _ => exact hr2.elim
    | _ => exact hr.elim
end
section
variable {X : Cx}
theorem pe_setLen {a : Expr} {ta : TE} {p p2 q pos : Pos} (hc : X.calm = true) (hg : Gl X "len") (hm : X.mg "len" = none) (hg2 : Gl X "set") (hm2 : X.mg "set" = none) (ha : PE X a ta)
    (na : starEach [a] X.env = (false, eval a X.env) :: starEach [] X.env := by rfl) : PE X (.Call (.Name "len" p) [.Call (.Name "set" p2) [a] [] q] [] pos) (fun σ H Q => ta σ H fun x H1 => ∃ l, ∃ xs : List Str, x = .ref l ∧ SqL X.K H1 l (xs.map V.str) ∧ xs.length ≤ 100 ∧ Q (.int (dis xs).length) H1) := by
  refine ⟨fun pins s σ H Q I h => Call_ (ld_blt I hg hm boot_len (callWith_builtin1 (args_cons (Call_ (ld_blt I hg2 hm2 boot_set (callWith_type1 (args_cons (thn (ha.run pins s σ H _ I h) fun v s1 ⟨x, H1, I1, r1, q1⟩ => args_nil ?_) na) na rfl))) rfl) rfl rfl))⟩
  obtain ⟨l, xs, rfl, hq, hn, q1⟩ := q1
  cases r1
  obtain ⟨its, r, pl, hz⟩ := I1.list hq
  have sb : scanBound = 4096 := rfl
  refine call_setL (I1.ok.hd hc) pl.isList (by simpa using strsAre_of r) (by omega) fun h' tk hS hk => args_nil ?_
  obtain ⟨o, es, ep, t, ho, hex, hd, _, _, _, hf, he⟩ := hS
  have := dis_len xs
  have I2 : Inv X pins σ H1 { s1 with heap := h', toks := tk } := I1.kept fun b o e => hk b o (Heap.lt_size e) e
  exact call_len_set (s := { s1 with heap := h', toks := tk }) ho hex hd hf (by rw [he]; omega) ⟨.int (dis xs).length, H1, I2.tok _, ⟨_, by rw [he]⟩, q1⟩
/-- all texts -/
def texts : List D → Option (List (List Nat))
  | [] => some []
  | .str s :: l => (texts l).map (s :: ·)
  | _ :: _ => none
theorem texts_at {c : Cn} {r : Rh} {H : Hp} : ∀ {l : List D} {vs : List V} {ts : List (List Nat)}, Reps c r H l vs → texts l = some ts → vs = (ts.map fun s => (⟨s.toArray⟩ : Str)).map V.str
  | _, _, _, .nil, e => by cases e; rfl
  | _, _, ts, .cons h t, e => by
    cases h with
    | str s =>
      rw [texts, Option.map_eq_some_iff] at e
      obtain ⟨ts', e1, rfl⟩ := e
      rw [texts_at t e1]
      rfl
    | _ => cases e
def gSetLen (d : D) (m : Mem) : Out D := match rdL m d with
  | some l => match texts l with
    | some ts => if ts.length ≤ 100 then .ok (.int (dis ts).length) m else .bad
    | none => .bad
  | none => .bad
variable {c : Cn} {W : WX} {a : Expr} {pos : Pos} {fa : Ev → Mem → Out D}
theorem ex_setLen {p p2 q : Pos} (hK : X.K = c.K) (hc : X.calm = true) (hg : Gl X "len") (hm : X.mg "len" = none) (hg2 : Gl X "set") (hm2 : X.mg "set" = none) (ha : EX c X W a fa) (na : starEach [a] X.env = (false, eval a X.env) :: starEach [] X.env := by rfl) :
    EX c X W (.Call (.Name "len" p) [.Call (.Name "set" p2) [a] [] q] [] pos) (fun e m => (fa e m).bind gSetLen) := by
  obtain ⟨t, pa, qa⟩ := ha
  refine ⟨_, pe_setLen hc hg hm hg2 hm2 pa na, fun r H m env s Q hm he hg => ?_⟩
  refine qa r H m env s _ hm he (G.bind hg fun d m1 r1 H1 v x1 hm1 q1 hg1 => ?_)
  unfold gSetLen at hg1
  cases e : rdL m1 d with
  | none => rw [e] at hg1; exact hg1.elim
  | some l =>
    rw [e] at hg1
    dsimp only at hg1
    cases e2 : texts l with
    | none => rw [e2] at hg1; exact hg1.elim
    | some ts =>
      rw [e2] at hg1
      dsimp only at hg1
      split at hg1
      · rename_i hn
        obtain ⟨l0, us, rfl, k1, k2⟩ := rdL_at hm1 q1 e
        obtain rfl := texts_at k2 e2
        rw [hK]
        refine ⟨l0, _, rfl, k1, by simpa using hn, ?_⟩
        have inj : ∀ x y : List Nat, (⟨x.toArray⟩ : Str) = ⟨y.toArray⟩ → x = y := fun x y z => by
          have := congrArg (fun s : Str => s.cps.toList) z
          simpa using this
        rw [dis_map inj, List.length_map]
        exact G.here hg1 hm1 (.int _)
      · exact hg1.elim
end
end Sz

namespace Sz
open PySem PySem.Spec PyProof.Rows L2

section
variable {c : Cn} {X : Cx} {W : WX} {a b d e : Expr} {es : List Expr} {pos : Pos} {fa fb fc : Ev → Mem → Out D} {fl : Ev → Mem → Out (List D)}
theorem sx_par3 (i j l : Nat) {x y z : Str} {px py pz pt : Pos} {kt k2 : Nat} {pt2 : Pos} (hc : X.calm = true) (hN : X.N.Nodup) (hx : X.env.scope.names.lookup x = some .local) (hy : X.env.scope.names.lookup y = some .local) (hz : X.env.scope.names.lookup z = some .local) (ha : EX c X W a fa) (hb : EX c X W b fb) (hd : EX c X W d fc)
    (hi : X.N[i]? = some x := by rfl) (hj : X.N[j]? = some y := by rfl) (hl : X.N[l]? = some z := by rfl) (hij : i ≠ j := by decide) (hil : i ≠ l := by decide) (hjl : j ≠ l := by decide)
    (hw : swappedStores [.Tuple [.Name x px, .Name y py, .Name z pz] kt pt] (.Tuple [a, b, d] k2 pt2) X.env = pure (some [x, y, z]) := by rfl)
    (hs : swapsWithSole [.Tuple [.Name x px, .Name y py, .Name z pz] kt pt] (.Tuple [a, b, d] k2 pt2) pos.line X.env = pure false := by rfl)
    (hs1 : starEach [a, b, d] X.env = (false, eval a X.env) :: starEach [b, d] X.env := by rfl) (hs2 : starEach [b, d] X.env = (false, eval b X.env) :: starEach [d] X.env := by rfl) (hs3 : starEach [d] X.env = (false, eval d X.env) :: starEach [] X.env := by rfl) :
    SX c X W (.Assign [.Tuple [.Name x px, .Name y py, .Name z pz] kt pt] (.Tuple [a, b, d] k2 pt2) pos) (kPar3 i j l fa fb fc) := by
  obtain ⟨ta, pa, qa⟩ := ha
  obtain ⟨tb, pb, qb⟩ := hb
  obtain ⟨td, pd, qd⟩ := hd
  refine ⟨_, ps_par3 hc hN hi hj hl hij hil hjl hx hy hz (pa_cons pa (pa_cons pb (pa_cons pd pa_nil hs3) hs2) hs1) hw hs, fun r H m env s Dn hm he hg => ?_⟩
  refine qa r H m env s _ hm he (G.thn he hg fun a1 m1 r1 H1 v x1 hm1 q1 hg1 => ?_)
  refine qb r1 H1 m1 env s _ hm1 (he.ext x1) (G.thn (he.ext x1) hg1 fun b1 m2 r2 H2 w x2 hm2 q2 hg2 => ?_)
  refine qd r2 H2 m2 env s _ hm2 ((he.ext x1).ext x2) (G.thn ((he.ext x1).ext x2) hg2 fun d1 m3 r3 H3 u x3 hm3 q3 hg3 => ?_)
  exact ⟨v, w, u, rfl, hg3 r3 H3 _ (Ext.refl _ _) hm3 ((((((he.ext x1).ext x2).ext x3).set i ((q1.ext x2).ext x3)).set j (q2.ext x3)).set l q3)⟩
end

/-! ## a program's defs -/
/-- the name x stands for a def that does g -/
def Df (P : Program) (w : World) (c : Cn) (mg : Str → Option Value) (base : Heap) (x : Str) (lv : Nat) (ps : List Str) (g : List D → Mem → Out D) : Prop :=
  ∃ f fd, FnOk P w c.K mg base (L2.CX P w) lv f fd ps (spD c ps.length g) ∧ mg x = some (.ref f) ∧ PySem.W.keepIn c.K (.ref f) = true ∧ Binds c.K fd ps []
def sCall (n : Nat) (g : List D → Mem → Out D) (fl : Ev → Mem → Out (List D)) : Ev → Mem → Out D := fun e m => (fl e m).bind fun l m1 => if l.length = n then g l m1 else .bad
theorem room64 {k : Nat} {A : Around} (r : Room k A) : A.units + 64 < cLine := by
  have := r.un
  omega
theorem room0 {k : Nat} {A : Around} (r : Room k A) : A.units < cLine := by
  have := r.un
  omega
section
variable {c : Cn} {X : Cx} {W : WX} {e : Expr} {es : List Expr} {pos : Pos} {fl : Ev → Mem → Out (List D)}
theorem ex_callD {x : Str} {p : Pos} {lv k n : Nat} {ps : List Str} {g : List D → Mem → Out D} (tk : Takes X W) (hK : X.K = c.K) (hr : Room k X.A) (D : Df X.prog X.w c X.mg X.base x lv ps g) (hle : lv ≤ k) (ha : AX c X W (e :: es) fl) (hp : ps.length = n := by rfl) (hn : n = (e :: es).length := by rfl)
    (hg : Gl X x := by rfl) (hdb : (x == ("__debug__" : Str)) = false := by decide) (he : starEach (e :: es) X.env = (false, eval e X.env) :: starEach es X.env := by rfl) (hpl : (backTo pos (starEach es X.env)).any (·.1) = false := by rfl) :
    EX c X W (.Call (.Name x p) (e :: es) [] pos) (sCall n g fl) := by
  subst hp
  obtain ⟨f, fd, F, gm, kp, bs⟩ := D
  rw [← hK] at F kp bs
  exact ex_call (n := ps.length) tk F (hr.mono hle) gm kp bs ha hn hg hdb he hpl
end
section
variable {P : Program} {w : World} {c : Cn} {mg : Str → Option Value} {base : Heap}
theorem df_mk {x : Str} {st : Stmt} {f : Addr} {fd : FuncData} {N ps : List Str} {k : Nat} {g : Ev → Mem → SO} (F : Fun c.K x x st f fd) (S : FnScope N ps (defScope st)) (gm : mg x = some (.ref f)) (bs : Binds c.K fd ps [])
    (hb : ∀ (cdv : Value) (A : Around) (outer : List PySem.Env) (s : Shared) (H : Hp) (E : XK), Room k (A.deeper (envOfC x (defScope st) s.heap.objs.size f cdv)) →
      BX c (XB P w c.K mg base N x (defScope st) f cdv A outer s H E) (fun cls d _ H => E cls d H) (defBody st) g) :
    Df P w c mg base x (k + 1) ps (defSem ps.length N.length g) := ⟨f, fd, fn_sem F S hb, gm, F.kp, bs⟩
theorem df_mk2 {x : Str} {st : Stmt} {sc : Scope} {bd : List Stmt} {f : Addr} {fd : FuncData} {N ps : List Str} {k np nn : Nat} {g : Ev → Mem → SO} (F : Fun c.K x x st f fd) (es : defScope st = sc) (eb : defBody st = bd) (S : FnScope N ps sc) (gm : mg x = some (.ref f)) (bs : Binds c.K fd ps [])
    (hb : ∀ (cdv : Value) (A : Around) (outer : List PySem.Env) (s : Shared) (H : Hp) (E : XK), Room k (A.deeper (envOfC x sc s.heap.objs.size f cdv)) →
      BX c (XB P w c.K mg base N x sc f cdv A outer s H E) (fun cls d _ H => E cls d H) bd g) (hp : ps.length = np := by rfl) (hn : N.length = nn := by rfl) :
    Df P w c mg base x (k + 1) ps (defSem np nn g) := by
  subst es eb hp hn
  exact df_mk F S gm bs hb
theorem fn_mk2 {x : Str} {st : Stmt} {sc : Scope} {bd : List Stmt} {f : Addr} {fd : FuncData} {N ps : List Str} {k np nn : Nat} {g : Ev → Mem → SO} (F : Fun c.K x x st f fd) (es : defScope st = sc) (eb : defBody st = bd) (S : FnScope N ps sc)
    (hb : ∀ (cdv : Value) (A : Around) (outer : List PySem.Env) (s : Shared) (H : Hp) (E : XK), Room k (A.deeper (envOfC x sc s.heap.objs.size f cdv)) →
      BX c (XB P w c.K mg base N x sc f cdv A outer s H E) (fun cls d _ H => E cls d H) bd g) (hp : ps.length = np := by rfl) (hn : N.length = nn := by rfl) :
    FnOk P w c.K mg base (L2.CX P w) (k + 1) f fd ps (spD c np (defSem np nn g)) := by
  subst es eb hp hn
  exact fn_sem F S hb
theorem df_of {x : Str} {lv : Nat} {ps : List Str} {g g' : List D → Mem → Out D} (h : Df P w c mg base x lv ps g) (e : g = g') : Df P w c mg base x lv ps g' := e ▸ h
end
/-- the law's promise -/
def spLaw (K : PySem.W.Frag) : Sp := fun vs H Q _ => ∃ (a : Addr) (ns : List Int), vs = [.ref a] ∧ ns.length ≤ 63 ∧ Only H ∧ SqL K H a (ns.map V.int) ∧ ∀ H', Q (.bl true) H'
theorem law_ok {P : Program} {w : World} {c : Cn} {mg : Str → Option Value} {base : Heap} {f : Addr} {fd : FuncData} {k : Nat} {x : Str} {g : List D → Mem → Out D} (F : FnOk P w c.K mg base (L2.CX P w) k f fd [x] (spD c 1 g))
    (h : ∀ ns : List Int, ns.length ≤ 63 → ∃ m, g [.scr ns] [] = .ok (.bl true) m) : FnOk P w c.K mg base (L2.CX P w) k f fd [x] (spLaw c.K) := by
  refine F.imp ?_
  rintro vs H Q E ⟨a, ns, rfl, hn, ho, hs, q⟩
  have r0 : ∀ b, ¬ (⟨[], []⟩ : Rh).Own b := fun b z => by
    rcases z with z | z <;> cases z
  have hm : MemOk c ⟨[], []⟩ H [] := ⟨rfl, fun i oa o e => by simp at e, fun i j a e => by simp at e, fun a ha => by cases ha⟩
  refine ⟨⟨[], []⟩, [], [.scr ns], rfl, hm, .cons ?_ .nil, ?_⟩
  · rcases hs with (h1 | ⟨o, h1⟩) | h1
    · rcases ho a with z | ⟨o, xs, z⟩ <;> (rw [z] at h1; cases h1)
    · exact .scr h1 (r0 a)
    · exact .scrK fun H0 => .inr h1
  · obtain ⟨m, e⟩ := h ns hn
    rw [e]
    intro r' H' b x1 hm1 rb
    cases rb
    exact q H'
theorem walk_ofX {l : PySem.W.OpenLaw} {n k : Nat} {q : Program} {loose : List Str} {XP : (Str → Option Value) → Heap → Prop} {YP : World → Heap → Prop} {d : DefRec} {K : Params → PySem.W.Frag} {x : Str}
    (hn : l.most = some 63) (hdf : d.params.defaults = []) (hr : Room k callerA) (hY : ∀ (w : World) (h : Heap), YP w h → (K w.params).In h)
    (F : ∀ (w : World) (mg : Str → Option Value) (fa : Addr) (h : Heap), (K w.params).In h → h.Ns mainGlobals mg → XP mg h → mg d.name = some (.ref fa) →
      ∃ fd : FuncData, (∀ (s : Shared) (u : Value), BindsTo s fd ⟨[u], []⟩ [(x, u)]) ∧ ∀ base : Heap, (K w.params).In base → base.Ns mainGlobals mg → FnOk l.prog w (K w.params) mg base (L2.CX l.prog w) k fa fd [x] (spLaw (K w.params))) :
    PySem.W.WalkO q loose XP YP l.row.toRowW d [] (fun f vs => PySem.call f vs) := by
  refine Att.attach_call hn hdf fun w s₀ s₁ mg mb fa o pm cd doc a vs ns G0 Y ho hd hcd hmg hobj hints hlen hg => ?_
  have KX := hY w _ Y
  obtain ⟨fd, hb, hF⟩ := F w mg fa _ KX G0.T.g G0.X hmg
  refine law_call KX G0.T.g G0.T.b G0.T.builtins G0.T.nolimit hg hobj hints (Nat.le_trans hlen (by decide)) hr hF hb (fun H hO hS => ⟨a, ns, rfl, hlen, hO, hS, fun H' => rfl⟩) fun H e s' => ?_
  rintro ⟨a1, B1, H1, cls1, d1, _, _, _, _, _, _, _, z⟩
  exact z
/-- a loose whole number of the top -/
theorem loose_int {q : Program} {lv : List (Str × PySem.W.WData)} {mg : Str → Option Value} {h : Heap} (X : PySem.W.XL q lv mg h) {x : Str} {n : Int} (hm : (x, PySem.W.WData.int n) ∈ lv) : ∃ t, mg x = some (.int n t) := by
  obtain ⟨v, h1, h2⟩ := X.2.val _ hm
  obtain ⟨t, rfl, _⟩ := PySem.W.readsW_int_inv h2
  exact ⟨t, h1⟩
end Sz
namespace Sz
open PySem PySem.Spec PyProof.Rows L2
/-- an own error class, number n -/
def ExcD (c : Cn) (mg : Str → Option Value) (n : Nat) (x : Str) : Prop := ∃ C, c.ec n = .ref C ∧ mg x = some (.ref C) ∧ PySem.W.keepIn c.K (.ref C) = true ∧
  PySem.W.excIn c.K C [.type "ValueError", .type "Exception", .type "BaseException", .type "object"] "ValueError.__new__" = true ∧ PySem.W.subIn c.K (.ref C) (.type "BaseException") = some true ∧ PySem.W.typeIn c.K (.ref C) = some (.type "type")
theorem sx_raiseD {c : Cn} {X : Cx} {W : WX} {x : Str} {p p2 pos : Pos} {n : Nat} (hc : X.calm = true) (tk : Takes X W) (hK : X.K = c.K) (D : ExcD c X.mg n x) (hg : Gl X x := by rfl) (hdb : (x == ("__debug__" : Str)) = false := by decide) :
    SX c X W (.Raise (some (.Call (.Name x p) [] [] p2)) none pos) (kRaise n) := by
  obtain ⟨C, e, gm, kp, q, s, t⟩ := D
  rw [← hK] at kp q s t
  exact sx_raise n hc tk PySem.F.excBase_ValueError q gm kp (raises_own s t) e hg hdb
def gNotInK (l : List (List Nat)) : D → Mem → Out D := fun d m => match d with
  | .str s => .ok (.bl (!(l.any fun z => z == s))) m
  | _ => .bad
/-- a tuple of texts of the top -/
def TupD (c : Cn) (mg : Str → Option Value) (x : Str) (l : List (List Nat)) : Prop := ∃ t o its n, mg x = some (.ref t) ∧ c.K.lookup t = some o ∧ o.cls = .type "tuple" ∧ o.data = .seq its n ∧ its.size ≤ sizeLine ∧ Vals (l.map fun z => V.str ⟨z.toArray⟩) its.toList
theorem ex_notInD {c : Cn} {X : Cx} {W : WX} {a : Expr} {fa : Ev → Mem → Out D} {x : Str} {p pos : Pos} {l : List (List Nat)} (hK : X.K = c.K) (D : TupD c X.mg x l) (ha : EX c X W a fa) (hg : Gl X x := by rfl) (hdb : (x == ("__debug__" : Str)) = false := by decide) (hmk : behindInMarks .NotIn (.Name x p) = false := by rfl) :
    EX c X W (.Compare a [.NotIn] [.Name x p] pos) (sUn (gNotInK l) fa) := by
  obtain ⟨t, o, its, n, h1, h2, h3, h4, h5, h6⟩ := D
  rw [← hK] at h2
  exact ex_notInK hg h1 ha h2 h3 h4 h5 h6 hdb hmk
theorem tx_notInD {c : Cn} {X : Cx} {W : WX} {a : Expr} {fa : Ev → Mem → Out D} {x : Str} {p pos : Pos} {l : List (List Nat)} (hK : X.K = c.K) (D : TupD c X.mg x l) (ha : EX c X W a fa) (hg : Gl X x := by rfl) (hdb : (x == ("__debug__" : Str)) = false := by decide) (hmk : behindInMarks .NotIn (.Name x p) = false := by rfl) :
    TX c X W (.Compare a [.NotIn] [.Name x p] pos) (sTest (sUn (gNotInK l) fa)) := by
  obtain ⟨t, o, its, n, h1, h2, h3, h4, h5, h6⟩ := D
  rw [← hK] at h2
  obtain ⟨ta, pa, qa⟩ := ha
  refine ⟨_, pt_cmpR op_notIn_seq pa (pe_glob (v := .ref t) hg h1 rfl hdb) hmk, fun r H m env s Q hm he hgo => ?_⟩
  refine qa r H m env s _ hm he ?_
  unfold sTest sUn at hgo
  cases q : fa env m with
  | bad => rw [q] at hgo; exact hgo
  | er n m1 => rw [q] at hgo; exact hgo
  | ok d1 m1 =>
    rw [q] at hgo
    intro r1 H1 v x1 hm1 q1
    cases q1 with
    | str z =>
      have e : inV (V.str ⟨z.toArray⟩) (l.map fun z => V.str ⟨z.toArray⟩) = l.any fun y => y == z := by
        unfold inV
        rw [List.any_map]
        refine congrArg (l.any ·) (funext fun y => ?_)
        exact str_beq y z
      refine ⟨t, l.map fun z => V.str ⟨z.toArray⟩, rfl, .inr (.inr ⟨o, its, n, h2, h3, h4, h5, h6⟩), rfl, ?_, ?_⟩
      · rw [List.all_map]
        exact List.all_eq_true.mpr fun _ _ => rfl
      · rw [e]
        exact ⟨_, rfl, hgo r1 H1 _ x1 hm1 rfl⟩
    | _ => exact hgo.elim
theorem takes0 {X : Cx} : Takes X W0 := fun u s' ⟨a, B, sI, pins, σ, H, cls, d, e, I, nb, up, sky, na, os, ag, w⟩ => w.elim
/-- a whole number, a text of the top -/
def IntD (mg : Str → Option Value) (x : Str) (n : Int) : Prop := ∃ t, mg x = some (.int n t)
def TxtD (mg : Str → Option Value) (x : Str) (l : List Nat) : Prop := ∃ t, mg x = some (.str ⟨l.toArray⟩ t)
theorem ex_intD {c : Cn} {X : Cx} {W : WX} {x : Str} {pos : Pos} {i : Int} (D : IntD X.mg x i) (hg : Gl X x := by rfl) (hd : (x == ("__debug__" : Str)) = false := by decide) : EX c X W (.Name x pos) (sC (.int i)) := by
  obtain ⟨t, e⟩ := D
  exact ex_globI hg e hd
theorem ex_txtD {c : Cn} {X : Cx} {W : WX} {x : Str} {pos : Pos} {l : List Nat} (D : TxtD X.mg x l) (hg : Gl X x := by rfl) (hd : (x == ("__debug__" : Str)) = false := by decide) : EX c X W (.Name x pos) (sC (.str l)) := by
  obtain ⟨t, e⟩ := D
  exact ex_globS l rfl hg e hd
end Sz

namespace Sz
open PySem PySem.Spec PyProof.Rows L2
/-! ## how the semantics compute -/
@[simp] theorem sVar_e {i : Nat} {e} {m} : sVar i e m = (match e[i]? with
  | some (some d) => .ok d m
  | _ => .bad) := rfl
@[simp] theorem sC_e {d : D} {z0} {m} : sC d z0 m = (.ok d m) := rfl
@[simp] theorem sBin_e {g : D → D → Mem → Out D} {fa fb : Ev → Mem → Out D} {e} {m} : sBin g fa fb e m = ((fa e m).bind fun a m1 => (fb e m1).bind fun b m2 => g a b m2) := rfl
@[simp] theorem sUn_e {g : D → Mem → Out D} {fa : Ev → Mem → Out D} {e} {m} : sUn g fa e m = ((fa e m).bind g) := rfl
@[simp] theorem sTest_e {f : Ev → Mem → Out D} {e} {m} : sTest f e m = ((f e m).bind asB) := rfl
@[simp] theorem sAndT_e {f g : Ev → Mem → Out Bool} {e} {m} : sAndT f g e m = ((f e m).bind fun b m1 => if b then g e m1 else .ok false m1) := rfl
@[simp] theorem sOrT_e {f g : Ev → Mem → Out Bool} {e} {m} : sOrT f g e m = ((f e m).bind fun b m1 => if b then .ok true m1 else g e m1) := rfl
@[simp] theorem sNotT_e {f : Ev → Mem → Out Bool} {e} {m} : sNotT f e m = ((f e m).bind fun b m1 => .ok (!b) m1) := rfl
@[simp] theorem sAnd_e {f g : Ev → Mem → Out D} {e} {m} : sAnd f g e m = ((f e m).bind fun d m1 => (asB d m1).bind fun b m2 => if b then g e m2 else .ok (.bl false) m2) := rfl
@[simp] theorem sOr_e {f g : Ev → Mem → Out D} {e} {m} : sOr f g e m = ((f e m).bind fun d m1 => (asB d m1).bind fun b m2 => if b then .ok (.bl true) m2 else g e m2) := rfl
@[simp] theorem sNot_e {f : Ev → Mem → Out D} {e} {m} : sNot f e m = ((f e m).bind fun d m1 => (asB d m1).bind fun b m2 => .ok (.bl (!b)) m2) := rfl
@[simp] theorem sIfE_e {t : Ev → Mem → Out Bool} {f g : Ev → Mem → Out D} {e} {m} : sIfE t f g e m = ((t e m).bind fun b m1 => if b then f e m1 else g e m1) := rfl
@[simp] theorem sChain_e {g h : D → D → Mem → Out D} {fa fb fc : Ev → Mem → Out D} {e} {m} : sChain g h fa fb fc e m = ((fa e m).bind fun a m1 => (fb e m1).bind fun b m2 => (g a b m2).bind fun d m3 => (asB d m3).bind fun k m4 => if k then (fc e m4).bind fun x m5 => h b x m5 else .ok (.bl false) m4) := rfl
@[simp] theorem sNil_e {z0} {m} : sNil  z0 m = (.ok [] m) := rfl
@[simp] theorem sNoP_e {z0} {m} : sNoP  z0 m = (.ok none m) := rfl
@[simp] theorem sPart_e {f : Ev → Mem → Out D} {e} {m} : sPart f e m = ((f e m).bind fun d m1 => match d with
  | .int i => .ok (some i) m1
  | _ => .bad) := rfl
@[simp] theorem bNil_e {e} {m} : bNil  e m = (.nx e m) := rfl
@[simp] theorem bCons_e {f g : Ev → Mem → SO} {e} {m} : bCons f g e m = ((f e m).seq g) := rfl
@[simp] theorem kRet_e {f : Ev → Mem → Out D} {e} {m} : kRet f e m = ((f e m).thn e .rt) := rfl
@[simp] theorem kExpr_e {f : Ev → Mem → Out D} {e} {m} : kExpr f e m = ((f e m).thn e fun _ m1 => .nx e m1) := rfl
@[simp] theorem kSet_e {i : Nat} {f : Ev → Mem → Out D} {e} {m} : kSet i f e m = ((f e m).thn e fun d m1 => .nx (e.set i (some d)) m1) := rfl
@[simp] theorem kIf_e {t : Ev → Mem → Out Bool} {f g : Ev → Mem → SO} {e} {m} : kIf t f g e m = ((t e m).thn e fun b m1 => if b then f e m1 else g e m1) := rfl
@[simp] theorem kRaise_e {x : Nat} {e} {m} : kRaise x e m = (.er x e m) := rfl
@[simp] theorem kPass_e {e} {m} : kPass  e m = (.nx e m) := rfl
@[simp] theorem kBreak_e {e} {m} : kBreak  e m = (.bk e m) := rfl
@[simp] theorem kCont_e {e} {m} : kCont  e m = (.ct e m) := rfl
@[simp] theorem kUnT_e {is : List Nat} {f : Ev → Mem → Out D} {e} {m} : kUnT is f e m = ((f e m).thn e fun d m1 => match d with
  | .tup l => match setAll e is l with
    | some e1 => .nx e1 m1
    | none => .bad
  | _ => .bad) := rfl
@[simp] theorem kPar_e {i j : Nat} {f g : Ev → Mem → Out D} {e} {m} : kPar i j f g e m = ((f e m).thn e fun d m1 => (g e m1).thn e fun d2 m2 => .nx ((e.set i (some d)).set j (some d2)) m2) := rfl
@[simp] theorem kPar3_e {i j k : Nat} {f g h : Ev → Mem → Out D} {e} {m} : kPar3 i j k f g h e m = ((f e m).thn e fun d m1 => (g e m1).thn e fun d2 m2 => (h e m2).thn e fun d3 m3 => .nx (((e.set i (some d)).set j (some d2)).set k (some d3)) m3) := rfl
@[simp] theorem tYesS_e {z0} {m} : tYesS  z0 m = (.ok true m) := rfl
@[simp] theorem kSetIx_e {fe fo fi : Ev → Mem → Out D} {e} {m} : kSetIx fe fo fi e m = ((fe e m).thn e fun v m1 => (fo e m1).thn e fun o m2 => (fi e m2).thn e fun i m3 => match o, i with
  | .ref k, .int j => (match m3[k]? with
    | some (.lst ys) => (match ixN ys.length j with
      | some n => .nx e (m3.set k (.lst (ys.set n v)))
      | none => .bad)
    | _ => .bad)
  | _, _ => .bad) := rfl
@[simp] theorem kAugIx_e {g : Int → Int → Int} {fo fi fe : Ev → Mem → Out D} {e} {m} : kAugIx g fo fi fe e m = ((fo e m).thn e fun o m1 => (fi e m1).thn e fun i m2 => match o, i with
  | .ref k, .int j => (match m2[k]? with
    | some (.lst ys) => if decide (0 ≤ j) && decide (j < 1000000) then (match ys[j.toNat]? with
      | some (.int y) => (fe e m2).thn e fun d m3 => match d, m3[k]? with
        | .int z, some (.lst zs) => (match ixN zs.length j with
          | some n => .nx e (m3.set k (.lst (zs.set n (.int (g y z)))))
          | none => .bad)
        | _, _ => .bad
      | _ => .bad) else .bad
    | _ => .bad)
  | _, _ => .bad) := rfl
@[simp] theorem kAug_e {i : Nat} {g : Int → Int → Int} {fe : Ev → Mem → Out D} {e} {m} : kAug i g fe e m = (match e[i]? with
  | some (some (.int y)) => (fe e m).thn e fun d m1 => match d with
    | .int z => .nx (e.set i (some (.int (g y z)))) m1
    | _ => .bad
  | _ => .bad) := rfl
@[simp] theorem gN_e {i : Nat} {e} {d} : gN i e d = (some (e.set i (some d))) := rfl
@[simp] theorem gT_e {is : List Nat} {e} {d} : gT is e d = (match d with
  | .tup l => setAll e is l
  | _ => none) := rfl
@[simp] theorem defSem_e {np nn : Nat} {f : Ev → Mem → SO} {ds} {m} : defSem np nn f ds m = (if ds.length = np then finD m.length (f (ds.map some ++ List.replicate (nn - np) none) m) else .bad) := rfl
@[simp] theorem asB_e {d} {m} : asB  d m = (match d with
  | .bl b => .ok b m
  | _ => .bad) := rfl
end Sz
namespace Sz
section
variable {f fo : Ev → Mem → Out D} {fl : Ev → Mem → Out (List D)} {fi : Ev → Mem → Out (List D)} {e : Ev} {m : Mem} {d : D} {l ds : List D} {ft : Ev → Mem → Out Bool} {g : Ev → D → Option Ev} {body : Ev → Mem → SO}
@[simp] theorem sCons_e : sCons f fl e m = (f e m).bind fun a m1 => (fl e m1).bind fun l m2 => .ok (a :: l) m2 := rfl
@[simp] theorem sTup_e : sTup fl e m = (fl e m).bind fun l m1 => if l.length ≤ 1000 then .ok (.tup l) m1 else .bad := rfl
@[simp] theorem sLst_e : sLst fl e m = (fl e m).bind fun l m1 => if l.length ≤ 1000 then .ok (.lst l) m1 else .bad := rfl
@[simp] theorem sLstO_e : sLstO fl e m = (fl e m).bind fun l m1 => if l.length ≤ 1000 then .ok (.ref m1.length) (m1 ++ [.lst l]) else .bad := rfl
@[simp] theorem sCB_e {h : List D → Mem → Out D} : sCB h fl e m = (fl e m).bind h := rfl
@[simp] theorem sCall_e {n : Nat} {h : List D → Mem → Out D} : sCall n h fl e m = (fl e m).bind fun l m1 => if l.length = n then h l m1 else .bad := rfl
@[simp] theorem sSl_e {lo hi : Ev → Mem → Out (Option Int)} : sSl f lo hi e m = (f e m).bind fun d m1 => (lo e m1).bind fun i m2 => (hi e m2).bind fun j m3 => gSl d i j m3 := rfl
@[simp] theorem kFor_e : kFor fi g body e m = (fi e m).thn e fun ds m1 => forL g body ds e m1 := rfl
@[simp] theorem sLc_e {vs : List Nat} : sLc vs fi g ft f e m = (fi e m).bind fun ds m1 => (lcL g ft f (wipeE e vs) ds [] m1).bind0 fun l m2 => .ok (.lst l) m2 := rfl
@[simp] theorem iOf_e {h : D → Mem → Out (List D)} : iOf h f e m = (f e m).bind h := rfl
@[simp] theorem asT_e : asT (.tup l) m = .ok l m := rfl
@[simp] theorem asLs_e : asLs (.lst l) m = .ok l m := rfl
@[simp] theorem asCh_e {s : List Nat} : asCh (.str s) m = .ok (s.map fun k => D.str [k]) m := rfl
@[simp] theorem iRange1_e : iRange1 fl e m = (fl e m).bind fun l m1 => match l with
  | [.int j] => if rngC j then .ok (upto 0 j.toNat) m1 else .bad
  | _ => .bad := rfl
@[simp] theorem iRange2_e : iRange2 fl e m = (fl e m).bind fun l m1 => match l with
  | [.int i, .int j] => if rngC i && rngC j then .ok (upto i (j - i).toNat) m1 else .bad
  | _ => .bad := rfl
@[simp] theorem iEnumT_e : iEnumT fl e m = (fl e m).bind fun l m1 => match l with
  | [.tup a] => .ok (pairs (upto 0 a.length) a) m1
  | _ => .bad := rfl
@[simp] theorem finD_rt {n : Nat} : finD n (.rt d m) = pack n d m := rfl
@[simp] theorem finD_nx {n : Nat} : finD n (.nx e m) = pack n .non m := rfl
@[simp] theorem finD_er {n x : Nat} : finD n (.er x e m) = if m.length ≤ n then .er x m else if (m.take n).all (belowO n) then .er x (m.take n) else .er x m := rfl
theorem pack_le {n : Nat} (h : m.length ≤ n) : pack n d m = .ok d m := by unfold pack; rw [if_pos h]
@[simp] theorem pack_same : pack m.length d m = .ok d m := pack_le (Nat.le_refl _)
@[simp] theorem pack_set {i : Nat} {o : Ob} : pack m.length d (m.set i o) = .ok d (m.set i o) := pack_le (by simp)
/-! ### operators -/
variable {i j : Int} {s t : List Nat} {a b : D}
@[simp] theorem gAdd_i : gAdd (.int i) (.int j) m = .ok (.int (i + j)) m := rfl
@[simp] theorem gAdd_s : gAdd (.str s) (.str t) m = if sz (s.length + t.length) then .ok (.str (s ++ t)) m else .bad := rfl
@[simp] theorem gAdd_t {x y : List D} : gAdd (.tup x) (.tup y) m = if sz (x.length + y.length) then .ok (.tup (x ++ y)) m else .bad := rfl
@[simp] theorem gAdd_l {x y : List D} : gAdd (.lst x) (.lst y) m = if sz (x.length + y.length) then .ok (.lst (x ++ y)) m else .bad := rfl
@[simp] theorem sI2_i {C : Int → Int → Bool} {h : Int → Int → D} : sI2 C h (.int i) (.int j) m = if C i j then .ok (h i j) m else .bad := rfl
@[simp] theorem gMul_i : gMul (.int i) (.int j) m = if mulC i j then .ok (.int (i * j)) m else .bad := rfl
@[simp] theorem gMul_s : gMul (.str s) (.int j) m = if decide (j ≤ 1000000) && decide (-1000000 ≤ j) && sz (s.length * j.toNat) then .ok (.str (List.replicate j.toNat s).flatten) m else .bad := rfl
@[simp] theorem gNeg_i : gNeg (.int i) m = .ok (.int (-i)) m := rfl
@[simp] theorem g1I_i {h : Int → D} : g1I h [.int i] m = .ok (h i) m := rfl
@[simp] theorem g2I_i {C : Int → Int → Bool} {h : Int → Int → D} : g2I C h [.int i, .int j] m = if C i j then .ok (h i j) m else .bad := rfl
@[simp] theorem gStr_i : gStr [.int i] m = if decide (i.natAbs < 2 ^ 1000) then .ok (.str (digs i)) m else .bad := rfl
@[simp] theorem gLen_s : gLen [.str s] m = if sz s.length then .ok (.int s.length) m else .bad := rfl
@[simp] theorem gLen_t : gLen [.tup l] m = .ok (.int l.length) m := rfl
@[simp] theorem gLen_l : gLen [.lst l] m = .ok (.int l.length) m := rfl
@[simp] theorem gLen_scr {ns : List Int} : gLen [.scr ns] m = .ok (.int ns.length) m := by simp [gLen, rdS, rdL]
@[simp] theorem gIx_t : gIx (.tup l) (.int i) m = (match L2.atI l i with
  | some d => .ok d m
  | none => .bad) := rfl
@[simp] theorem gIx_l : gIx (.lst l) (.int i) m = (match L2.atI l i with
  | some d => .ok d m
  | none => .bad) := rfl
@[simp] theorem gIx_s : gIx (.str s) (.int i) m = if sz s.length then (match L2.atI s i with
    | some k => .ok (.str [k]) m
    | none => .bad) else .bad := rfl
@[simp] theorem gIx_scr {ns : List Int} : gIx (.scr ns) (.int i) m = (match L2.atI (ns.map D.int) i with
  | some d => .ok d m
  | none => .bad) := rfl
theorem rdS_r {k : Nat} (h : m[k]? = some (.lst l)) : rdS m (.ref k) = some l := by simp [rdS, rdL, h]
theorem gIx_r {k : Nat} (h : m[k]? = some (.lst l)) : gIx (.ref k) (.int i) m = (match L2.atI l i with
  | some d => .ok d m
  | none => .bad) := by
  unfold gIx
  simp only [rdS_r h] <;> (cases L2.atI l i <;> rfl)
@[simp] theorem sBm_e {T : String} {h : D → List D → Mem → Out D} : sBm T h fo fl e m = (fo e m).bind fun d m1 => if tyD T m1 d then (fl e m1).bind fun l m2 => h d l m2 else .bad := rfl
theorem gLen_r {k : Nat} (h : m[k]? = some (.lst l)) : gLen [.ref k] m = .ok (.int l.length) m := by simp [gLen, rdS, rdL, h]
@[simp] theorem gSl_t {lo hi : Option Int} : gSl (.tup l) lo hi m = .ok (.tup (cutD l lo hi)) m := rfl
@[simp] theorem gSl_s {lo hi : Option Int} : gSl (.str s) lo hi m = if sz s.length then .ok (.str (cutD s lo hi)) m else .bad := rfl
@[simp] theorem gSl_l {lo hi : Option Int} : gSl (.lst l) lo hi m = .ok (.lst (cutD l lo hi)) m := rfl
@[simp] theorem gEq_i : gEq (.int i) (.int j) m = .ok (.bl (i == j)) m := rfl
@[simp] theorem gNe_i : gNe (.int i) (.int j) m = .ok (.bl (!(i == j))) m := rfl
@[simp] theorem gEq_s : gEq (.str s) (.str t) m = .ok (.bl (s == t)) m := rfl
@[simp] theorem gNe_s : gNe (.str s) (.str t) m = .ok (.bl (!(s == t))) m := rfl
@[simp] theorem gIs_bb {x y : Bool} : gIs (.bl x) (.bl y) m = .ok (.bl (x == y)) m := rfl
@[simp] theorem gIs_nn : gIs .non .non m = .ok (.bl true) m := rfl
@[simp] theorem gIs_bn {x : Bool} : gIs (.bl x) .non m = .ok (.bl false) m := rfl
@[simp] theorem gIs_in : gIs (.int i) .non m = .ok (.bl false) m := rfl
@[simp] theorem gIs_sn : gIs (.str s) .non m = .ok (.bl false) m := rfl
@[simp] theorem gIs_tn : gIs (.tup l) .non m = .ok (.bl false) m := rfl
@[simp] theorem gIsNot_bb {x y : Bool} : gIsNot (.bl x) (.bl y) m = .ok (.bl (!(x == y))) m := rfl
@[simp] theorem gIsNot_nn : gIsNot .non .non m = .ok (.bl false) m := rfl
@[simp] theorem gIsNot_in : gIsNot (.int i) .non m = .ok (.bl true) m := rfl
@[simp] theorem gIsNot_tn : gIsNot (.tup l) .non m = .ok (.bl true) m := rfl
@[simp] theorem forL_nil : forL g body [] e m = .nx e m := rfl
@[simp] theorem lcL_nil {e0 : Ev} {acc : List D} : lcL g ft f e0 [] acc m = .ok acc m := rfl
@[simp] theorem wipe_nil : wipeE e [] = e := rfl
@[simp] theorem wipe_cons {v : Nat} {vs : List Nat} : wipeE e (v :: vs) = (wipeE e vs).set v none := rfl
@[simp] theorem setAll_nil : setAll e [] [] = some e := rfl
@[simp] theorem setAll_cons {k : Nat} {ks : List Nat} : setAll e (k :: ks) (d :: ds) = setAll (e.set k (some d)) ks ds := rfl
@[simp] theorem gSetLen_l : gSetLen (.lst l) m = (match texts l with
  | some ts => if ts.length ≤ 100 then .ok (.int (dis ts).length) m else .bad
  | none => .bad) := rfl
@[simp] theorem gNotInK_s {l : List (List Nat)} : gNotInK l (.str s) m = .ok (.bl (!(l.any fun z => z == s))) m := rfl
@[simp] theorem gInts_l {h : List Int → Option D} : gInts h [.lst l] m = (match intsO l with
  | some ns => (match h ns with
    | some d => .ok d m
    | none => .bad)
  | none => .bad) := rfl
@[simp] theorem gBools_l {h : List Bool → D} : gBools h [.lst l] m = (match boolsO l with
  | some ns => .ok (h ns) m
  | none => .bad) := rfl
@[simp] theorem intsO_map : ∀ ns : List Int, intsO (ns.map D.int) = some ns
  | [] => rfl
  | n :: ns => by show (match intsO (ns.map D.int) with | some l => some (n :: l) | none => none) = _; rw [intsO_map ns]
@[simp] theorem boolsO_map : ∀ ns : List Bool, boolsO (ns.map D.bl) = some ns
  | [] => rfl
  | n :: ns => by show (match boolsO (ns.map D.bl) with | some l => some (n :: l) | none => none) = _; rw [boolsO_map ns]
@[simp] theorem texts_map : ∀ ns : List (List Nat), texts (ns.map D.str) = some ns
  | [] => rfl
  | n :: ns => by rw [List.map_cons, texts, texts_map ns]; rfl
/-- a comprehension whose turns only compute -/
theorem lc_pure {α : Type} {e0 : Ev} {mk : α → D} {keep : α → Bool} {val : α → D} : ∀ (xs : List α) (acc : List D), (∀ x ∈ xs, ∃ e1, g e0 (mk x) = some e1 ∧ ft e1 m = .ok (keep x) m ∧ (keep x = true → f e1 m = .ok (val x) m)) → acc.length + xs.length ≤ 1000000 →
    lcL g ft f e0 (xs.map mk) acc m = .ok (acc ++ (xs.filter keep).map val) m
  | [], acc, _, _ => by simp
  | x :: xs, acc, h, hl => by
    obtain ⟨e1, h1, h2, h3⟩ := h x (by simp)
    rw [List.length_cons] at hl
    rw [List.map_cons, lcL, h1]
    dsimp only
    rw [h2, bind0_ok]
    cases k : keep x with
    | true =>
      rw [if_pos rfl, h3 k, bind0_ok, if_pos (by omega), lc_pure xs (acc ++ [val x]) (fun y hy => h y (by simp [hy])) (by rw [List.length_append]; simp; omega), List.filter_cons_of_pos k]
      simp
    | false =>
      rw [if_neg (by simp), lc_pure xs acc (fun y hy => h y (by simp [hy])) (by omega), List.filter_cons_of_neg (by simp [k])]
/-- what each turn keeps -/
theorem forL_keep {P : Ev → Mem → Prop} : ∀ (l : List D) (e : Ev) (m : Mem), (∀ d ∈ l, ∀ e m, P e m → ∃ e1, g e d = some e1 ∧ ∃ e2 m2, body e1 m = .nx e2 m2 ∧ P e2 m2) → P e m → ∃ e2 m2, forL g body l e m = .nx e2 m2 ∧ P e2 m2
  | [], e, m, _, hp => ⟨e, m, rfl, hp⟩
  | d :: l, e, m, h, hp => by
    obtain ⟨e1, h1, e2, m2, h2, h3⟩ := h d (by simp) e m hp
    obtain ⟨e3, m3, h4, h5⟩ := forL_keep l e2 m2 (fun x hx => h x (by simp [hx])) h3
    refine ⟨e3, m3, ?_, h5⟩
    rw [forL, h1]
    dsimp only
    rw [h2]
    exact h4
end
end Sz

namespace Sz
open PySem PySem.Spec PyProof.Rows L2
section
variable {c : Cn} {X : Cx} {W : WX}
/-! ## x.partition(sep), x.split(sep) -/
def gPart : D → List D → Mem → Out D := fun d l m => match d, l with
  | .str a, [.str b] => if sz a.length && !b.isEmpty then .ok (.tup [.str (cd (Txt.partition (tx a) (tx b)).1), .str (cd (Txt.partition (tx a) (tx b)).2.1), .str (cd (Txt.partition (tx a) (tx b)).2.2)]) m else .bad
  | _, _ => .bad
theorem tx_ne {b : List Nat} (h : b.isEmpty = false) : ((tx b).length == 0) = false := by
  cases b with
  | nil => cases h
  | cons x b =>
    show ((x :: b).toArray.size == 0) = false
    simp
theorem mS_partition {K : PySem.W.Frag} : MtS' c W K "str" gPart (fun x xs H Q => ∃ a b, x = .str a ∧ xs = [.str b] ∧ (b.length == 0) = false ∧ a.length ≤ sizeLine ∧
    ∀ p, H p = none → Q (.ref p) (upd H p (.tup [.str (Txt.partition a b).1, .str (Txt.partition a b).2.1, .str (Txt.partition a b).2.2]))) := by
  intro s r H m d ds v vs Q hm hd hr h
  unfold gPart at h
  split at h
  · cases hd
    cases hr with
    | cons h1 h2 =>
      cases h1
      cases h2
      split at h
      · rename_i a b hc
        rw [Bool.and_eq_true] at hc
        refine ⟨_, _, rfl, rfl, tx_ne (by simpa using hc.2), lenC_of (b := b) hc.1, fun p np => ?_⟩
        exact h r (upd H p _) (.ref p) (Ext.new np) (hm.new np) (.tup upd_same (hm.off np) (.cons (rep_tx _) (.cons (rep_tx _) (.cons (rep_tx _) .nil))))
      · exact h.elim
  · exact h.elim
theorem rep_txs {r : Rh} {H : Hp} : ∀ ys : List Str, Reps c r H (ys.map fun y => D.str (cd y)) (ys.map V.str)
  | [] => .nil
  | y :: ys => .cons (rep_tx y) (rep_txs ys)
def gSplit : D → List D → Mem → Out D := fun d l m => match d, l with
  | .str a, [.str b] => if decide (a.length ≤ 1000) && !b.isEmpty then .ok (.lst ((Txt.split (tx a) (tx b)).map fun y => D.str (cd y))) m else .bad
  | _, _ => .bad
theorem mS_split {K : PySem.W.Frag} : MtS' c W K "str" gSplit (fun x xs H Q => ∃ a b, x = .str a ∧ xs = [.str b] ∧ (b.length == 0) = false ∧ a.length + 2 ≤ sizeLine ∧ rNewStrs (Txt.split a b) H Q) := by
  intro s r H m d ds v vs Q hm hd hr h
  unfold gSplit at h
  split at h
  · cases hd
    cases hr with
    | cons h1 h2 =>
      cases h1
      cases h2
      split at h
      · rename_i a b hc
        rw [Bool.and_eq_true, decide_eq_true_eq] at hc
        refine ⟨_, _, rfl, rfl, tx_ne (by simpa using hc.2), ?_, fun p np => ?_⟩
        · show a.toArray.size + 2 ≤ _
          rw [List.size_toArray]
          exact Nat.le_trans (Nat.add_le_add_right hc.1 2) (by decide)
        exact h r (upd H p _) (.ref p) (Ext.new np) (hm.new np) (.lst upd_same (hm.off np) ((rep_txs _).ext (Ext.new np)))
      · exact h.elim
  · exact h.elim
end
end Sz

namespace Sz
open PySem PySem.Spec PyProof.Rows L2
/-! ## sorted(ints) -/
def ins1 (x : Int) : List Int → List Int
  | [] => [x]
  | y :: l => if x ≤ y then x :: y :: l else y :: ins1 x l
def isort : List Int → List Int
  | [] => []
  | x :: l => ins1 x (isort l)
theorem ins1_perm (x : Int) : ∀ l, (ins1 x l).Perm (x :: l)
  | [] => .refl _
  | y :: l => by
    unfold ins1
    split
    · exact .refl _
    · exact ((ins1_perm x l).cons y).trans (.swap x y l)
theorem isort_perm : ∀ l, (isort l).Perm l
  | [] => .refl _
  | x :: l => (ins1_perm x _).trans ((isort_perm l).cons x)
theorem ins1_srt (x : Int) : ∀ l, l.Pairwise (· ≤ ·) → (ins1 x l).Pairwise (· ≤ ·)
  | [], _ => by simp [ins1]
  | y :: l, h => by
    have h' := List.pairwise_cons.mp h
    unfold ins1
    split
    · rename_i c
      refine List.pairwise_cons.mpr ⟨fun z hz => ?_, h⟩
      rcases List.mem_cons.mp hz with rfl | hz
      · exact c
      · have := h'.1 z hz
        omega
    · rename_i c
      refine List.pairwise_cons.mpr ⟨fun z hz => ?_, ins1_srt x l h'.2⟩
      rcases List.mem_cons.mp ((ins1_perm x l).mem_iff.mp hz) with rfl | hz
      · omega
      · exact h'.1 z hz
theorem isort_srt : ∀ l, (isort l).Pairwise (· ≤ ·)
  | [] => .nil
  | x :: l => ins1_srt x _ (isort_srt l)
theorem srt_uniq : ∀ a b : List Int, a.Perm b → a.Pairwise (· ≤ ·) → b.Pairwise (· ≤ ·) → a = b
  | [], [], _, _, _ => rfl
  | [], y :: b, h, _, _ => by simpa using h.length_eq
  | x :: a, [], h, _, _ => by simpa using h.length_eq
  | x :: a, y :: b, h, ha, hb => by
    have ha' := List.pairwise_cons.mp ha
    have hb' := List.pairwise_cons.mp hb
    have e : x = y := by
      have h1 : x ∈ y :: b := h.mem_iff.mp (by simp)
      have h2 : y ∈ x :: a := h.mem_iff.mpr (by simp)
      rcases List.mem_cons.mp h1 with q | q
      · exact q
      · rcases List.mem_cons.mp h2 with p | p
        · exact p.symm
        · have := ha'.1 y p
          have := hb'.1 x q
          omega
    subst e
    rw [srt_uniq a b (h.cons_inv) ha'.2 hb'.2]
section
variable {c : Cn} {X : Cx} {W : WX}
def gSorted : List D → Mem → Out D := gInts fun ns => some (.lst ((isort ns).map D.int))
theorem reps_ints2 {r : Rh} {H : Hp} : ∀ ns : List Int, Reps c r H (ns.map D.int) (ns.map V.int)
  | [] => .nil
  | n :: ns => .cons (.int n) (reps_ints2 ns)
theorem cs_sorted {K : PySem.W.Frag} (hK : K = c.K) : CbS c W gSorted (rSortedI K) := by
  subst hK
  intro s r H m ds vs Q hm hr h
  obtain ⟨a, ns, d, rfl, h1, h2, h3⟩ := gInts_at hm hr h
  cases h2
  refine ⟨a, ns, rfl, h1, fun ns' p hp hs np => ?_⟩
  rw [srt_uniq ns' (isort ns) (hp.trans (isort_perm ns).symm) hs (isort_srt ns)]
  exact h3 r (upd H p _) (.ref p) (Ext.new np) (hm.new np) (.lst upd_same (hm.off np) (reps_ints2 _))
end
end Sz

namespace Sz
open PySem PySem.Spec PyProof.Rows L2
section
variable {c : Cn} {X : Cx} {W : WX} {a b d e o i : Expr} {es : List Expr} {pos : Pos} {fa fb fc fo fi : Ev → Mem → Out D} {fl : Ev → Mem → Out (List D)}
/-! ## a, b, .. = a list -/
theorem sx_unL {is : List Nat} {k : Nat} {tpos : Pos} {n : Nat} (hc : X.calm = true) (hK : X.K = c.K) (h : EX c X W e fa) (hg : GX c X es is) (hn : (assignEach es X.env).length = n := by rfl) (hst : (assignEach es X.env).findIdx? (·.1) = none := by rfl)
    (hs : swapsWithSole [.Tuple es k tpos] e pos.line X.env = pure false := by rfl) (hw : swappedStores [.Tuple es k tpos] e X.env = pure none := by rfl)
    (h1 : (assignEach [.Tuple es k tpos] X.env).map (·.2) = [assign (.Tuple es k tpos) X.env] := by rfl) (hl : is.length = n := by rfl) : SX c X W (.Assign [.Tuple es k tpos] e pos) (kUnL is fa) := by
  obtain ⟨t, p, q⟩ := h
  obtain ⟨tg, pg, qg⟩ := hg
  refine ⟨_, ps_asg p (pg_lst hc pg hn hst) hs hw h1, fun r H m env s Dn hm he hg => ?_⟩
  refine q r H m env s _ hm he (G.thn he hg fun a m1 r1 H1 v x1 hm1 q1 hg1 => ?_)
  split at hg1
  · rename_i l el
    split at hg1
    · rename_i e1 he1
      obtain ⟨ad, vs, rfl, h3, h4⟩ := rdL_at hm1 q1 el
      refine ⟨ad, vs, rfl, by rw [hK]; exact h3, ?_, qg r1 H1 env e1 s l _ _ (he.ext x1) h4 he1 fun s' hs' _ => hg1 r1 H1 s' (Ext.refl _ _) hm1 hs'⟩
      rw [← h4.length, setAll_len he1, hl]
    · exact hg1.elim
  · exact hg1.elim
/-! ## for a, b in zip(t, u) -/
theorem ix_zipT {tg : Expr} {p tpos : Pos} {elts : List Expr} {kk : Nat} (hK : X.K = c.K) (hg : Gl X "zip") (hm : X.mg "zip" = none) (ha : AX c X W [a, b] fl) (hs : starEach [a, b] X.env = (false, eval a X.env) :: starEach [b] X.env := by rfl) (hpl : (backTo pos (starEach [b] X.env)).any (·.1) = false := by rfl) :
    IX c X W (.Tuple elts kk tpos) (.Call (.Name "zip" p) [a, b] [] pos) (iZipT fl) := by
  obtain ⟨t, p, q⟩ := ha
  refine ⟨_, RZ.pi_zipA hg hm p hs hpl, fun r H m env s R hm he hg => ?_⟩
  refine q r H m env s _ hm he (G.bind hg fun l m1 r1 H1 vs x1 hm1 q1 hg1 => ?_)
  split at hg1
  · rename_i l1 l2
    cases q1 with
    | cons h1 h2 =>
      cases h2 with
      | cons h2 h3 =>
        cases h3
        cases h1 with
        | @tup a1 v1 _ hT1 hoff1 hr1 =>
          cases h2 with
          | @tup a2 v2 _ hT2 hoff2 hr2 =>
            refine ⟨a1, a2, v1, v2, rfl, .inr ⟨SqT.of hT1, SqT.of hT2, G.here hg1 hm1 ?_⟩⟩
            refine ⟨fun r2 H2 => (H2 a1 = some (.tup v1) ∧ ¬ r2.Own a1 ∧ Reps c r2 H2 l1 v1) ∧ (H2 a2 = some (.tup v2) ∧ ¬ r2.Own a2 ∧ Reps c r2 H2 l2 v2), ⟨⟨hT1, hoff1, hr1⟩, ⟨hT2, hoff2, hr2⟩⟩,
              fun r2 H2 r3 H3 ⟨⟨h1, h2, h3⟩, ⟨k1, k2, k3⟩⟩ x => ⟨⟨x.keep _ _ h2 h1, x.off h2 h1, h3.le x⟩, ⟨x.keep _ _ k2 k1, x.off k2 k1, k3.le x⟩⟩,
              fun r2 H2 i ⟨⟨h1, h2, h3⟩, ⟨k1, k2, k3⟩⟩ hi => ?_, fun r2 H2 ⟨⟨h1, h2, h3⟩, ⟨k1, k2, k3⟩⟩ => ⟨v1, v2, SqT.of h1, SqT.of k1, ?_⟩, fun r2 H2 m2 i x H3 ⟨⟨h1, h2, h3⟩, ⟨k1, k2, k3⟩⟩ hm2 hy hi => ?_⟩
            · rw [pairs_len] at hi
              have e1 := h3.length
              have e2 := k3.length
              exact ⟨v1, v2, v1[i]'(by omega), v2[i]'(by omega), SqT.of h1, SqT.of k1, by simp, by simp⟩
            · rw [pairs_len, ← h3.length, ← k3.length]
              omega
            · rw [pairs_len] at hi
              obtain ⟨T, x, y, rfl, np, rfl, h4, k4⟩ := hy
              obtain ⟨d1, h5, h6⟩ := h3.back (h4 v1 (SqT.of h1))
              obtain ⟨d2, k5, k6⟩ := k3.back (k4 v2 (SqT.of k1))
              exact ⟨Ext.new np, hm2.new np, .tup [d1, d2], pairs_get l1 l2 i _ _ h5 k5, .tup upd_same (hm2.off np) (.cons (h6.ext (Ext.new np)) (.cons (k6.ext (Ext.new np)) .nil))⟩
  · exact hg1.elim
/-! ## a dict with texts as keys -/
def getK (x : List Nat) : List (List Nat × D) → Option D
  | [] => none
  | (y, d) :: r => if y = x then some d else getK x r
def putD (x : List Nat) (d : D) : List (List Nat × D) → List (List Nat × D)
  | [] => [(x, d)]
  | (y, e) :: r => if y = x then (y, d) :: r else (y, e) :: putD x d r
def nodK : List (List Nat × D) → Bool
  | [] => true
  | (y, _) :: r => (r.all fun p => !(p.1 == y)) && nodK r
theorem key_eq {x y : List Nat} : ((Sum.inr ⟨x.toArray⟩ : Key) = .inr ⟨y.toArray⟩) ↔ x = y := by
  constructor
  · intro h
    have h1 : (⟨x.toArray⟩ : Str) = ⟨y.toArray⟩ := Sum.inr.inj h
    have := congrArg (fun z : Str => z.cps.toList) h1
    simpa using this
  · rintro rfl
    rfl
theorem kvR.val {r : Rh} {H : Hp} {x : List Nat} : ∀ {fs : List (List Nat × D)} {gs : List (Key × V)} {d : D}, kvR c r H fs gs → getK x fs = some d → ∃ v, valV gs (.inr ⟨x.toArray⟩) = some v ∧ Rep c r H d v
  | [], [], _, _, e => by cases e
  | (y, d0) :: fs, (z, v) :: gs, d, ⟨h1, h2, h3⟩, e => by
    subst h1
    unfold getK at e
    split at e
    · rename_i c1
      cases e
      refine ⟨v, ?_, h2⟩
      unfold valV
      rw [List.find?_cons_of_pos (by simpa using key_eq.mpr c1)]
      rfl
    · rename_i c1
      obtain ⟨w, h4, h5⟩ := kvR.val h3 e
      refine ⟨w, ?_, h5⟩
      unfold valV at h4 ⊢
      rw [List.find?_cons_of_neg (by simpa using fun q => c1 (key_eq.mp q))]
      exact h4
  | [], _ :: _, _, h, _ => h.elim
  | _ :: _, [], _, h, _ => h.elim
theorem kvR.any {r : Rh} {H : Hp} {x : List Nat} : ∀ {fs : List (List Nat × D)} {gs : List (Key × V)}, kvR c r H fs gs → (gs.any fun kv => decide (kv.1 = .inr ⟨x.toArray⟩)) = (getK x fs).isSome
  | [], [], _ => rfl
  | (y, d0) :: fs, (z, v) :: gs, ⟨h1, h2, h3⟩ => by
    subst h1
    rw [List.any_cons, kvR.any h3]
    by_cases c1 : y = x
    · have e : getK x ((y, d0) :: fs) = some d0 := by rw [getK, if_pos c1]
      rw [e, decide_eq_true (key_eq.mpr c1)]
      rfl
    · have e : getK x ((y, d0) :: fs) = getK x fs := by rw [getK, if_neg c1]
      rw [e, decide_eq_false (fun q => c1 (key_eq.mp q)), Bool.false_or]
  | [], _ :: _, h => h.elim
  | _ :: _, [], h => h.elim
theorem kvR.map {r : Rh} {H : Hp} {x : List Nat} {d : D} {v : V} (hd : Rep c r H d v) : ∀ {fs : List (List Nat × D)} {gs : List (Key × V)}, kvR c r H fs gs → nodK fs = true →
    kvR c r H (fs.map fun p => if p.1 = x then (p.1, d) else p) (gs.map fun kv => if kv.1 = .inr ⟨x.toArray⟩ then (kv.1, v) else kv)
  | [], [], _, _ => True.intro
  | (y, d0) :: fs, (z, w) :: gs, ⟨h1, h2, h3⟩, n => by
    subst h1
    unfold nodK at n
    rw [Bool.and_eq_true] at n
    have ih := kvR.map (x := x) hd h3 n.2
    rw [List.map_cons, List.map_cons]
    by_cases c1 : y = x
    · rw [if_pos (show (y, d0).1 = x from c1), if_pos (key_eq.mpr c1)]
      exact ⟨rfl, hd, ih⟩
    · rw [if_neg (show ¬ (y, d0).1 = x from c1), if_neg (fun q => c1 (key_eq.mp q))]
      exact ⟨rfl, h2, ih⟩
  | [], _ :: _, h, _ => h.elim
  | _ :: _, [], h, _ => h.elim
theorem kvR.app {r : Rh} {H : Hp} {x : List Nat} {d : D} {v : V} (hd : Rep c r H d v) : ∀ {fs : List (List Nat × D)} {gs : List (Key × V)}, kvR c r H fs gs → kvR c r H (fs ++ [(x, d)]) (gs ++ [(.inr ⟨x.toArray⟩, v)])
  | [], [], _ => ⟨rfl, hd, True.intro⟩
  | (_, _) :: _, (_, _) :: _, ⟨h1, h2, h3⟩ => ⟨h1, h2, kvR.app hd h3⟩
  | [], _ :: _, h => h.elim
  | _ :: _, [], h => h.elim
theorem putD_in {x : List Nat} {d : D} : ∀ {fs : List (List Nat × D)}, nodK fs = true → (getK x fs).isSome = true → putD x d fs = fs.map fun p => if p.1 = x then (p.1, d) else p
  | [], _, h => by cases h
  | (y, e) :: r, n, h => by
    unfold nodK at n
    rw [Bool.and_eq_true] at n
    by_cases c1 : y = x
    · have e1 : putD x d ((y, e) :: r) = (y, d) :: r := by rw [putD, if_pos c1]
      have e2 : ((y, e) :: r).map (fun p : List Nat × D => if p.1 = x then (p.1, d) else p) = (y, d) :: r.map (fun p : List Nat × D => if p.1 = x then (p.1, d) else p) := by
        rw [List.map_cons]
        exact congrArg (· :: _) (if_pos c1)
      rw [e1, e2]
      refine congrArg _ ((List.map_id _).symm.trans (List.map_congr_left fun p hp => ?_))
      have q := List.all_eq_true.mp n.1 p hp
      have q2 : ¬ p.1 = x := by
        rw [← c1]
        simpa using q
      exact (if_neg q2).symm
    · have e1 : putD x d ((y, e) :: r) = (y, e) :: putD x d r := by rw [putD, if_neg c1]
      have e2 : ((y, e) :: r).map (fun p : List Nat × D => if p.1 = x then (p.1, d) else p) = (y, e) :: r.map (fun p : List Nat × D => if p.1 = x then (p.1, d) else p) := by
        rw [List.map_cons]
        exact congrArg (· :: _) (if_neg c1)
      rw [e1, e2]
      unfold getK at h
      rw [if_neg c1] at h
      rw [putD_in n.2 h]
theorem putD_out {x : List Nat} {d : D} : ∀ {fs : List (List Nat × D)}, (getK x fs).isSome = false → putD x d fs = fs ++ [(x, d)]
  | [], _ => rfl
  | (y, e) :: r, h => by
    unfold putD
    unfold getK at h
    split
    · rename_i c1
      rw [if_pos c1] at h
      cases h
    · rename_i c1
      rw [if_neg c1] at h
      rw [putD_out h]
      rfl
theorem kvR.put {r : Rh} {H : Hp} {x : List Nat} {d : D} {v : V} (hd : Rep c r H d v) {fs : List (List Nat × D)} {gs : List (Key × V)} (h : kvR c r H fs gs) (n : nodK fs = true) : kvR c r H (putD x d fs) (putK gs (.inr ⟨x.toArray⟩) v) := by
  unfold putK
  rw [h.any (x := x)]
  cases e : (getK x fs).isSome with
  | true =>
    rw [if_pos rfl, putD_in n e]
    exact kvR.map hd h n
  | false =>
    rw [if_neg (by simp), putD_out e]
    exact kvR.app hd h
theorem kvR.length {r : Rh} {H : Hp} : ∀ {fs : List (List Nat × D)} {gs : List (Key × V)}, kvR c r H fs gs → fs.length = gs.length
  | [], [], _ => rfl
  | (_, _) :: _, (_, _) :: _, ⟨_, _, h3⟩ => by rw [List.length_cons, List.length_cons, kvR.length h3]
  | [], _ :: _, h => h.elim
  | _ :: _, [], h => h.elim
/-- o[k] of a dict -/
def gDix : D → D → Mem → Out D := fun o k m => match o, k with
  | .ref i, .str x => (match m[i]? with
    | some (.dct fs) => (match getK x fs with
      | some d => .ok d m
      | none => .bad)
    | _ => .bad)
  | _, _ => .bad
theorem ref_dct {r : Rh} {H : Hp} {m : Mem} {i : Nat} {v : V} {l : List (List Nat × D)} (hm : MemOk c r H m) (h : Rep c r H (.ref i) v) (e : m[i]? = some (.dct l)) : ∃ a gs, r.ix[i]? = some (some a) ∧ v = .ref a ∧ H a = some (.dK gs) ∧ kvR c r H l gs := by
  obtain ⟨a, vs, h1, h2, h3⟩ := hm.dct e
  cases h with
  | ref h4 => rw [h1] at h4; cases h4; exact ⟨a, vs, h1, rfl, h2, h3⟩
  | gone h4 => rw [h1] at h4; cases h4
theorem ex_dix (hu : X.A.units + 64 < cLine) (ho : EX c X W o fo) (hi : EX c X W i fi) (hs : NoSl i := by exact rfl) : EX c X W (.Subscript o i pos) (sBin gDix fo fi) := by
  obtain ⟨to, po, qo⟩ := ho
  obtain ⟨ti, pi, qi⟩ := hi
  refine ⟨_, pe_dget (by omega) po pi hs, fun r H m env s Q hm he hg => ?_⟩
  refine qo r H m env s _ hm he (G.bind hg fun d1 m1 r1 H1 x x1 hm1 q1 hg1 => ?_)
  refine qi r1 H1 m1 env s _ hm1 (he.ext x1) (G.bind hg1 fun k m2 r2 H2 y x2 hm2 q2 hg2 => ?_)
  unfold gDix at hg2
  split at hg2
  · cases q2
    split at hg2
    · rename_i fs ef
      split at hg2
      · rename_i d eg
        obtain ⟨a, gs, h1, rfl, h3, h4⟩ := ref_dct hm2 (q1.ext x2) ef
        obtain ⟨v, h5, h6⟩ := h4.val eg
        refine ⟨a, v, rfl, ?_, G.here hg2 hm2 h6⟩
        rw [← h5]
        exact DGet.k (k := .inr _) h3
      · exact hg2.elim
    · exact hg2.elim
  · exact hg2.elim
/-- o[k] = e of a dict -/
def kSetDx (fe fo fi : Ev → Mem → Out D) : Ev → Mem → SO := fun e m => (fe e m).thn e fun v m1 => (fo e m1).thn e fun o m2 => (fi e m2).thn e fun k m3 => match o, k with
  | .ref i, .str x => (match m3[i]? with
    | some (.dct fs) => if nodK fs && decide (fs.length ≤ 1000) then .nx e (m3.set i (.dct (putD x v fs))) else .bad
    | _ => .bad)
  | _, _ => .bad
theorem MemOk.putDct {r : Rh} {H : Hp} {m : Mem} {i : Nat} {a : Addr} {l : List (List Nat × D)} {gs : List (Key × V)} (h : MemOk c r H m) (e : r.ix[i]? = some (some a)) (q : kvR c r H l gs) : MemOk c r (upd H a (.dK gs)) (m.set i (.dct l)) :=
  h.putO e ⟨gs, upd_same, q.le (Le.putO (.inl (List.mem_of_getElem? e)))⟩
theorem sx_setDx {tpos : Pos} (hu : X.A.units + 64 < cLine) (he : EX c X W e fa) (ho : EX c X W o fo) (hi : EX c X W i fi) (hs : swapsWith e (some (.Subscript o i tpos)) pos.line X.env = pure false := by rfl) :
    SX c X W (.Assign [.Subscript o i tpos] e pos) (kSetDx fa fo fi) := by
  obtain ⟨te, pe, qe⟩ := he
  obtain ⟨to, po, qo⟩ := ho
  obtain ⟨ti, pi, qi⟩ := hi
  refine ⟨_, ps_dput (by omega) po pi pe hs, fun r H m env s Dn hm he hg => ?_⟩
  refine qe r H m env s _ hm he (G.thn he hg fun v m1 r1 H1 v' x1 hm1 q1 hg1 => ?_)
  have he1 := he.ext x1
  refine qo r1 H1 m1 env s _ hm1 he1 (G.thn he1 hg1 fun o m2 r2 H2 o' x2 hm2 q2 hg2 => ?_)
  have he2 := he1.ext x2
  refine qi r2 H2 m2 env s _ hm2 he2 (G.thn he2 hg2 fun i m3 r3 H3 i' x3 hm3 q3 hg3 => ?_)
  have he3 := he2.ext x3
  split at hg3
  · rename_i k x
    cases q3
    split at hg3
    · rename_i fs ef
      split at hg3
      · rename_i hc
        rw [Bool.and_eq_true, decide_eq_true_eq] at hc
        obtain ⟨a, gs, h1, rfl, h3, h4⟩ := ref_dct hm3 (q2.ext x3) ef
        have hl : gs.length < sizeLine := by
          rw [← h4.length]
          exact Nat.lt_of_le_of_lt hc.2 (by decide)
        refine ⟨a, _, rfl, DPut.k (k := .inr _) h3 hl, ?_⟩
        have x := Ext.put (o := .dK (putK gs (.inr ⟨x.toArray⟩) v')) hm3 h1
        exact hg3 r3 _ s x (hm3.putDct h1 (kvR.put ((q1.ext x2).ext x3) h4 hc.1)) (he3.ext x)
      · exact hg3.elim
    · exact hg3.elim
  · exact hg3.elim
/-! ## {k: v, ..} -/
theorem nodK_app {x : List Nat} {d : D} : ∀ {a b : List (List Nat × D)}, nodK (a ++ (x, d) :: b) = true → (getK x a).isSome = false
  | [], _, _ => rfl
  | (y, e) :: a, b, h => by
    rw [List.cons_append] at h
    unfold nodK at h
    rw [Bool.and_eq_true] at h
    unfold getK
    split
    · rename_i c1
      have q := List.all_eq_true.mp h.1 (x, d) (by simp)
      simp [c1] at q
    · exact nodK_app h.2
theorem kvR.merge {r : Rh} {H : Hp} : ∀ {fs : List (List Nat × D)} {gs : List (Key × V)} {f0 : List (List Nat × D)} {g0 : List (Key × V)}, kvR c r H f0 g0 → kvR c r H fs gs → nodK (f0 ++ fs) = true → mergeK g0 gs = g0 ++ gs
  | [], [], _, g0, _, _, _ => (List.append_nil _).symm
  | (x, d) :: fs, (z, v) :: gs, f0, g0, h0, ⟨h1, h2, h3⟩, n => by
    subst h1
    have e : putK g0 (.inr ⟨x.toArray⟩) v = g0 ++ [(.inr ⟨x.toArray⟩, v)] := by
      unfold putK
      rw [h0.any (x := x), nodK_app n, if_neg (by simp)]
    show mergeK (putK g0 (.inr ⟨x.toArray⟩) v) gs = _
    rw [e, kvR.merge (kvR.app h2 h0) h3 (by rw [List.append_assoc]; exact n), List.append_assoc]
    rfl
  | [], _ :: _, _, _, _, h, _ => h.elim
  | _ :: _, [], _, _, _, h, _ => h.elim
/-- a blocked new object becomes an owned one -/
theorem Le.claim {r2 : Rh} {H2 : Hp} {p : Addr} {o : HO} {b : List Addr} (hb : r2.bl = p :: b) : Le r2 H2 (r2.unblk.push p) (upd H2 p o) := by
  have hp : r2.Own p := .inr (by rw [hb]; exact List.mem_cons_self)
  refine ⟨fun i x h => .inl ?_, fun a h => .inl ?_, (Le.putO hp (o := o) (H := H2)).keep, (Le.putO hp (o := o) (H := H2)).dom⟩
  · obtain ⟨hi, e⟩ := List.getElem?_eq_some_iff.mp h
    show (r2.ix ++ [some p])[i]? = _
    rw [List.getElem?_append_left hi]
    exact h
  · rcases h with h | h
    · rcases List.mem_append.mp h with q | q
      · exact .inl q
      · have e : a = p := by simpa using q
        rw [e]
        exact hp
    · exact .inr (List.mem_of_mem_tail h)
theorem MemOk.claim {r2 : Rh} {H2 : Hp} {m : Mem} {p : Addr} {o : HO} {ob : Ob} {b : List Addr} (h : MemOk c r2 H2 m) (hb : r2.bl = p :: b) (nb : p ∉ b) (q : ObAt c (r2.unblk.push p) (upd H2 p o) (some p) ob) : MemOk c (r2.unblk.push p) (upd H2 p o) (m ++ [ob]) := by
  have np : some p ∉ r2.ix := (h.dj p (by rw [hb]; exact List.mem_cons_self)).1
  have tb : r2.unblk.bl = b := by show r2.bl.tail = b; rw [hb]; rfl
  refine ⟨by show (r2.ix ++ [some p]).length = _; rw [List.length_append, List.length_append, h.len]; rfl, fun i oa ob e1 e2 => ?_, fun i j a e1 e2 => ?_, fun a ha => ?_⟩
  · replace e1 : (r2.ix ++ [some p])[i]? = some oa := e1
    by_cases hi : i < r2.ix.length
    · rw [List.getElem?_append_left hi] at e1
      rw [List.getElem?_append_left (by rw [← h.len]; exact hi)] at e2
      refine (h.at' i oa ob e1 e2).le (Le.claim hb) fun a ea => ?_
      subst ea
      rw [upd_ne (fun z : a = p => np (by rw [← z]; exact List.mem_of_getElem? e1))]
    · have hl : i = r2.ix.length := by
        obtain ⟨z, _⟩ := List.getElem?_eq_some_iff.mp e1
        rw [List.length_append, List.length_singleton] at z
        omega
      subst hl
      rw [List.getElem?_append_right (Nat.le_refl _)] at e1
      rw [h.len, List.getElem?_append_right (Nat.le_refl _)] at e2
      simp at e1 e2
      subst e1; subst e2
      exact q
  · have out : ∀ k, (r2.ix ++ [some p])[k]? = some (some a) → (k < r2.ix.length ∧ r2.ix[k]? = some (some a)) ∨ (k = r2.ix.length ∧ a = p) := fun k e => by
      by_cases hk : k < r2.ix.length
      · rw [List.getElem?_append_left hk] at e; exact .inl ⟨hk, e⟩
      · obtain ⟨z, _⟩ := List.getElem?_eq_some_iff.mp e
        rw [List.length_append, List.length_singleton] at z
        have hl : k = r2.ix.length := by omega
        subst hl
        rw [List.getElem?_append_right (Nat.le_refl _)] at e
        simp at e
        exact .inr ⟨rfl, e.symm⟩
    rcases out i e1 with ⟨h1, q1⟩ | ⟨h1, q1⟩ <;> rcases out j e2 with ⟨h2, q2⟩ | ⟨h2, q2⟩
    · exact h.nd i j a q1 q2
    · subst q2; exact absurd (List.mem_of_getElem? q1) np
    · subst q1; exact absurd (List.mem_of_getElem? q2) np
    · rw [h1, h2]
  · replace ha : a ∈ r2.unblk.bl := ha
    rw [tb] at ha
    have hab : a ∈ r2.bl := by rw [hb]; exact List.mem_cons_of_mem _ ha
    refine ⟨fun z => ?_, upd_there (h.dj a hab).2⟩
    rcases List.mem_append.mp z with k | k
    · exact (h.dj a hab).1 k
    · have e : a = p := by simpa using k
      exact nb (e ▸ ha)
def sVals : List (List Nat × (Ev → Mem → Out D)) → Ev → Mem → Out (List (List Nat × D))
  | [], _, m => .ok [] m
  | (x, f) :: r, e, m => (f e m).bind fun d m1 => (sVals r e m1).bind fun l m2 => .ok ((x, d) :: l) m2
def sDct (l : List (List Nat × (Ev → Mem → Out D))) : Ev → Mem → Out D := fun e m => (sVals l e m).bind0 fun vs m1 => if nodK vs && decide (vs.length ≤ 15) then .ok (.ref m1.length) (m1 ++ [.dct vs]) else .bad
def kvP (c : Cn) : Rh → Hp → List (List Nat × D) → List (V × V) → Prop := fun r H ds ps => ∃ gs : List (Key × V), ps = gs.map (fun kv => (kV kv.1, kv.2)) ∧ kvR c r H ds gs
def DX (c : Cn) (X : Cx) (pos : Pos) (ks : List (Option Expr)) (vs : List Expr) (l : List (List Nat × (Ev → Mem → Out D))) : Prop :=
  ∃ trs, PPs X pos ks vs trs ∧ ∀ r H m env s Q, MemOk c r H m → EnvOk c r H env s → G c W0 (kvP c) s r H (sVals l env m) Q → tPairs trs s H Q
theorem dx_nil {pos : Pos} : DX c X pos [] [] [] := ⟨[], pps_nil, fun r H m env s Q hm he hg => G.here (b := []) hg hm ⟨[], rfl, True.intro⟩⟩
theorem dx_cons {pos p : Pos} {x : Str} {j : Nat} {v : Expr} {f : Ev → Mem → Out D} {ks : List (Option Expr)} {vs : List Expr} {l : List (List Nat × (Ev → Mem → Out D))} (k : List Nat) (h : x = ⟨k.toArray⟩) (hv : EX c X W0 v f) (hr : DX c X pos ks vs l) : DX c X pos (some (.Constant (.str x) j p) :: ks) (v :: vs) ((k, f) :: l) := by
  subst h
  obtain ⟨tv, pv, qv⟩ := hv
  obtain ⟨tr, pr, qr⟩ := hr
  refine ⟨_, pps_cons pe_str pv pr, fun r H m env s Q hm he hg => ?_⟩
  show tv s H fun y H2 => tPairs tr s H2 fun ps H3 => Q ((V.str ⟨k.toArray⟩, y) :: ps) H3
  refine qv r H m env s _ hm he (G.bind hg fun d1 m1 r1 H1 y x1 hm1 q1 hg1 => ?_)
  refine qr r1 H1 m1 env s _ hm1 (he.ext x1) (G.bind hg1 fun ds m2 r2 H2 ps x2 hm2 q2 hg2 => ?_)
  obtain ⟨gs, rfl, q3⟩ := q2
  exact G.here (b := (V.str ⟨k.toArray⟩, y) :: gs.map (fun kv => (kV kv.1, kv.2))) hg2 hm2 ⟨(.inr ⟨k.toArray⟩, y) :: gs, rfl, rfl, q1.ext x2, q3⟩
theorem ex_dct {pos : Pos} {ks : List (Option Expr)} {vs : List Expr} {l : List (List Nat × (Ev → Mem → Out D))} (h : DX c X pos ks vs l) (hall : ks.all (·.isSome) = true := by rfl) (hl : ks.length = vs.length := by rfl) (h0 : ks ≠ [] := by intro z; cases z) (h15 : ks.length ≤ 15 := by decide) : EX c X W (.Dict ks vs pos) (sDct l) := by
  obtain ⟨trs, p, q⟩ := h
  refine ⟨_, pe_disp p hall hl h0 h15, fun r H m env s Q hm he hg => ?_⟩
  intro a na
  refine q (r.blk a) (upd H a (.dK [])) m env s _ (hm.blk na) (he.le (Le.blk na)) (G.bind0 hg fun ds m2 r2 H2 ps x2 hm2 q2 hg2 => ?_)
  obtain ⟨gs, rfl, q3⟩ := q2
  split at hg2
  · rename_i hc
    rw [Bool.and_eq_true, decide_eq_true_eq] at hc
    have hbl : r2.bl = a :: r.bl := x2.bl
    have na2 : a ∉ r.bl := fun z => hm.off na (.inr z)
    have at2 : H2 a = some (.dK []) := x2.keepB a (by show a ∈ a :: r.bl; exact List.mem_cons_self) _ upd_same
    have mg : mergeK [] gs = gs := kvR.merge (f0 := []) (g0 := []) True.intro q3 hc.1
    refine ⟨at2, gs, rfl, by rw [← q3.length]; exact hc.2, ?_⟩
    rw [mg]
    have lc : Le r2 H2 (r2.unblk.push a) (upd H2 a (.dK gs)) := Le.claim hbl
    refine hg2 (r2.unblk.push a) (upd H2 a (.dK gs)) (.ref a) ?_ (hm2.claim hbl na2 ⟨gs, upd_same, q3.le lc⟩) (.ref ?_)
    · refine ⟨((Le.blk na).trans x2.toLe).trans lc, ?_, fun b hb o h => ?_⟩
      · show r2.bl.tail = r.bl
        rw [hbl]
        rfl
      · have nb : b ≠ a := fun z => na2 (z ▸ hb)
        rw [upd_ne nb]
        exact x2.keepB b (List.mem_cons_of_mem _ hb) o (by rw [upd_ne nb]; exact h)
    · rw [← hm2.len]
      show (r2.ix ++ [some a])[r2.ix.length]? = _
      rw [List.getElem?_append_right (Nat.le_refl _)]
      simp
  · exact hg2.elim
@[simp] theorem sDct_e {l : List (List Nat × (Ev → Mem → Out D))} {e : Ev} {m : Mem} : sDct l e m = (sVals l e m).bind0 fun vs m1 => if nodK vs && decide (vs.length ≤ 15) then .ok (.ref m1.length) (m1 ++ [.dct vs]) else .bad := rfl
@[simp] theorem sVals_nil {e : Ev} {m : Mem} : sVals [] e m = .ok [] m := rfl
@[simp] theorem sVals_cons {x : List Nat} {f : Ev → Mem → Out D} {r : List (List Nat × (Ev → Mem → Out D))} {e : Ev} {m : Mem} : sVals ((x, f) :: r) e m = (f e m).bind fun d m1 => (sVals r e m1).bind fun l m2 => .ok ((x, d) :: l) m2 := rfl
end
end Sz

namespace Sz
open PySem PySem.Spec PyProof.Rows L2
/-! ## a def that is handed the exception that is being handled -/
/-- the exception at a: of the class cls, nothing written into it -/
def Zx (a : Addr) (cls : Value) (p : Addr × Obj) : Prop := p.1 = a ∧ Zc cls none p.2 ∧ ∃ vs, p.2.data = .fields vs
structure FnZ (P : Program) (w : World) (K : PySem.W.Frag) (mg : Str → Option Value) (base : Heap) (k : Nat) (f : Addr) (fd : FuncData) (ps : List Str) (Z : Addr × Obj → Prop) (sp : Sp) : Prop where
  len : ∀ vs H Q E, sp vs H Q E → vs.length = ps.length
  run : ∀ (A : Around) (outer : List PySem.Env) (s : Shared) (H : Hp) (args : Args) (us : List Value) (vs : List V) (Q : VK) (E : XK) (p : Addr × Obj), L2H.RoomH k A → Z p → L2H.PinOk outer H s p → Env0 P w K mg base A outer s H →
    BindsTo s fd args (ps.zip us) → Vals vs us → sp vs H Q E → codeAny (model P w) A (.call (.ref f) args) (CR (L2.CX P w) outer P w H s Q E) s
section
variable {P : Program} {w : World} {K : PySem.W.Frag} {mg : Str → Option Value} {base : Heap} {c : Cn}
abbrev XZ (P : Program) (w : World) (K : PySem.W.Frag) (mg : Str → Option Value) (base : Heap) (N : List Str) (qual : Str) (sc : Scope) (f : Addr) (cd : Value) (A : Around) (outer : List PySem.Env) (s : Shared) (H : Hp) (E : XK) (p : Addr × Obj) : Cx :=
  L2H.cxH (L2.CX P w) P w K mg base N qual sc f cd A outer s H E p
theorem fnz_sem {x qual : Str} {st : Stmt} {f : Addr} {fd : FuncData} {N ps : List Str} {k : Nat} {g : Ev → Mem → SO} {Z : Addr × Obj → Prop} (F : Fun K x qual st f fd) (S : FnScope N ps (defScope st))
    (hb : ∀ (cdv : Value) (A : Around) (outer : List PySem.Env) (s : Shared) (H : Hp) (E : XK) (p : Addr × Obj), Z p → L2H.RoomH k (A.deeper (envOfC qual (defScope st) s.heap.objs.size f cdv)) → BX c (XZ P w K mg base N qual (defScope st) f cdv A outer s H E p) (fun cls d _ H => E cls d H) (defBody st) g) :
    FnZ P w K mg base (k + 1) f fd ps Z (spD c ps.length (defSem ps.length N.length g)) := by
  obtain ⟨oc, od, kV, doc, pm, an, cdv, ct, osl, rfl, lk, hcd⟩ := F.ex
  refine ⟨fun vs H Q E h => by obtain ⟨r, m, ds, h1, _⟩ := h; exact h1, fun A outer s H args us vs Q E p hr zp hpin e0 bt rv hsp => ?_⟩
  obtain ⟨r, m, ds, hl, hm, hq, hg⟩ := hsp
  have kx : K.In s.heap := e0.mod.kin.keeps fun b o q => (e0.bs b o q).1
  have nl : s.heap.NoLimit := e0.mod.nolimit.keeps fun b o q => (e0.bs b o q).1
  have kinds : ∀ y ∈ ps.zip us, (defScope st).names.lookup y.1 = some .local ∨ ((defScope st).names.lookup y.1 = some .cell ∧ ((cellsFrom (s.heap.objs.size + 1) (defScope st).names []).lookup y.1).isSome = true) := by
    rintro ⟨n, v⟩ hy
    rcases S.par n (List.of_mem_zip hy).1 with q | q
    · exact .inl q
    · exact .inr ⟨q, PySem.W.cellsFrom_some _ _ _ (.inl q)⟩
  refine codeAny_call_function hr.depth (kx _ _ lk) rfl S.co S.gen rfl (PySem.W.codeRec_of kx hcd) (bt _ _ _ _ ?_)
  refine wpAny_newFunctionEnv_cells S.kind kinds fun env he s1 x1 => ?_
  subst he
  refine ⟨nl.keeps x1.toInCall.keep, codeAny_func ?_⟩
  have J : Inv (XZ P w K mg base N qual (defScope st) f cdv A outer s H E p) [] (L2.start N vs) H s1 := L2H.inv_startH S hpin e0 hl rv x1
  obtain ⟨t, pt, qt⟩ := hb cdv A outer s H E p zp (hr.deeper _)
  have go : t { nx := fun _ H' => Q .non H', rt := Q } (L2.start N vs) H := by
    unfold defSem at hg
    split at hg
    · rename_i hl2
      have hpl : ps.length ≤ N.length := by have := congrArg List.length S.pre; rw [List.length_take] at this; omega
      rw [← hl2] at hg
      exact qt r H m _ _ _ hm (env_start hq (by omega)) (fin_sound (s := []) ⟨m.length, hm.len.symm, hg⟩)
    · exact hg.elim
  refine wpAny_mono (pt.run [] s1 (L2.start N vs) H _ J go) (fun fl s' hs => ?_) fun _ _ hs => hs
  have ends : ∀ {σ2 : L2.St} {H2 : Hp} {v : V} {u : Value}, Inv (XZ P w K mg base N qual (defScope st) f cdv A outer s H E p) [] σ2 H2 s' → RelV v u → Q v H2 → CE outer P w H s Q u s' := fun {σ2 H2 v u} J2 ru q => ⟨v, H2, J2.os, J2.bare, J2.base, J2.hok, ru, q⟩
  cases fl with
  | ret u => obtain ⟨v, σ2, H2, J2, ru, q⟩ := hs; exact ends J2 ru q
  | next => obtain ⟨σ2, H2, J2, q⟩ := hs; exact ends (v := V.non) (u := Value.none) J2 rfl q
  | brk => obtain ⟨_, _, _, q⟩ := hs; exact q.elim
  | cont => obtain ⟨_, _, _, q⟩ := hs; exact q.elim
end
section
variable {c : Cn} {X : Cx} {W : WX} {a Dc f : Addr} {oe : Obj} {fd : FuncData} {pss : List Str} {sp : Sp} {k : Nat} {x : Str} {e : Expr} {es : List Expr} {t : TA} {q pos : Pos} {cls : Value}
theorem pe_callZ (hp : (a, oe) ∈ X.pn) (hz : Zx a cls (a, oe)) (F : FnZ X.prog X.w X.K X.mg X.base k f fd pss (Zx a cls) sp) (hr : L2H.RoomH k X.A) (hg : Gl X x) (hm : X.mg x = some (.ref f)) (hk : PySem.W.keepIn X.K (.ref f) = true) (hb : Binds X.K fd pss [])
    (ha : PA X (e :: es) t) (hdb : (x == ("__debug__" : Str)) = false := by decide) (he : starEach (e :: es) X.env = (false, eval e X.env) :: starEach es X.env := by rfl) (hpl : (backTo pos (starEach es X.env)).any (·.1) = false := by rfl) :
    PE X (.Call (.Name x q) (e :: es) [] pos) (fun σ H Q => t σ H fun vs H1 => sp vs H1 Q fun _ _ _ => False) := by
  refine ⟨fun pins s σ H Q I h => wpAny_Call_Name_kw (ld_glob I hg hm ?_ hdb)⟩
  refine PySem.W.callWith_K (h₀ := X.base) I.ok.mod.kin hk (thn (ha.run pos pins s σ H _ I h) fun us s1 ⟨vs, H1, I1, r1, q1⟩ => ⟨I1.kIn, ?_⟩) he hpl
  have ll : us.length = pss.length := by rw [← r1.length]; exact F.len _ _ _ _ q1
  have bt := hb s1 us I1.kIn (by rw [List.append_nil]; exact ll)
  rw [List.append_nil] at bt
  have P1 := I1.pin (a, oe) (List.mem_append_left _ hp)
  have pin : L2H.PinOk X.stack H1 s1 (a, oe) := ⟨P1.1, P1.2.1, fun hm => (List.mem_cons.mp (I1.stkSub a hm)).elim P1.2.2.1 P1.2.2.2.1, P1.2.2.2.2⟩
  refine wpAny_call (codeAny_mono (F.run X.A X.stack s1 H1 ⟨us, []⟩ us vs Q _ (a, oe) hr hz pin I1.env0 bt r1 q1) fun res s' hq => ?_)
  cases res with
  | error err => exact passAt (takes0 (X := X)) σ pins H1 s1 err s' I1 hq
  | ok fl =>
    cases fl with
    | ret u => exact I1.after hq
    | next => exact hq.elim
    | brk => exact hq.elim
    | cont => exact hq.elim
/-- isinstance of the exception that is handled -/
theorem cr_isZ (C : ExcC X.K Dc) (hp : (a, oe) ∈ X.pn) (hz : Zx a (.ref Dc) (a, oe)) : CallR X (.builtin "isinstance") (rIsE X.K Dc a) := by
  intro pins s σ H xs us Q I r h
  obtain ⟨v, cv, b, rfl, hcv, e, q⟩ := h
  obtain ⟨_, z, vs, hv⟩ := hz
  cases r with
  | cons rx rr =>
    cases rr with
    | cons rt rr =>
      cases rr
      cases rx
      obtain rfl := hcv _ rt
      have hget := (I.pin (a, oe) (List.mem_append_left _ hp)).1
      have J : PySem.W.InstAt s.heap a oe Dc none := by
        obtain ⟨oc, od, oda, osl⟩ := oe
        obtain ⟨h1, h2⟩ := z
        dsimp only at h1 h2 hv
        subst h1 h2 hv
        exact ⟨hget, rfl, rfl, trivial⟩
      exact PySem.W.kia_one (PySem.W.handS_kitx_exc C.hg C.hk C.hs C.hd C.ha C.hn C.ht C.hm) I.kIn J e (fun z => nomatch z) fun tk => ⟨.bl b, H, I.kept (t' := tk) fun _ _ z => z, rfl, q⟩
def sIsZ (a : Addr) (i : Nat) (b : Bool) : Ev → Mem → Out D := fun e m => match e[i]? with
  | some (some (.val (.ref p))) => if p = a then .ok (.bl b) m else .bad
  | _ => .bad
theorem ex_isZ (i : Nat) {p p1 : Pos} {e2 : Expr} {v : V} {cv : Value} {b : Bool} (C : ExcC X.K Dc) (hp : (a, oe) ∈ X.pn) (hz : Zx a (.ref Dc) (a, oe)) (hg : Gl X "isinstance") (hm : X.mg "isinstance" = none) (pv : PE X (.Name x p1) (tVar i)) (pc : PE X e2 (tC v)) (hv : ∀ u, RelV v u → u = cv)
    (hk : PySem.W.kitOne X.K (.ref Dc) cv = some b) (hs1 : starEach [.Name x p1, e2] X.env = (false, eval (.Name x p1) X.env) :: starEach [e2] X.env := by rfl) (hs2 : starEach [e2] X.env = (false, eval e2 X.env) :: starEach [] X.env := by rfl)
    (hpl : (backTo pos (starEach [e2] X.env)).any (·.1) = false := by rfl) : EX c X W (.Call (.Name "isinstance" p) [.Name x p1, e2] [] pos) (sIsZ a i b) := by
  refine ⟨_, pe_callB (cr_isZ C hp hz) hg hm (by decide +kernel) (pa_cons pv (pa_cons pc pa_nil hs2) hs1) (by decide) (by decide) hs1 hpl, fun r H m env s Q hm he hg => ?_⟩
  unfold sIsZ at hg
  split at hg
  · rename_i p0 ee
    split at hg
    · rename_i ep
      subst ep
      obtain ⟨w0, h1, h2⟩ := he.at' i _ ee
      cases h2
      exact ⟨_, h1, v, cv, b, rfl, hv, hk, G.here (b := V.bl b) hg hm (.bl b)⟩
    · exact hg.elim
  · exact hg.elim
/-! ## try: .. except C as n: return f(n) -/
/-- f stands for a def that tells the exceptions of the class of number n -/
def DfZ (P : Program) (w : World) (c : Cn) (mg : Str → Option Value) (base : Heap) (y : Str) (lv : Nat) (n : Nat) (g : Addr → List D → Mem → Out D) : Prop :=
  ∃ D ps, c.ec n = .ref D ∧ ps.length = 1 ∧ ∀ a, ∃ f fd, FnZ P w c.K mg base lv f fd ps (Zx a (.ref D)) (spD c 1 (g a)) ∧ mg y = some (.ref f) ∧ PySem.W.keepIn c.K (.ref f) = true ∧ Binds c.K fd ps []
/-- the block's reading by its semantics -/
def tOS (c : Cn) (W : WX) (f : Ev → Mem → SO) : TS := fun Dn s H => ∃ r m env, MemOk c r H m ∧ EnvOk c r H env s ∧ GS c W r H (f env m) Dn
theorem bx_pss {st : List Stmt} {f : Ev → Mem → SO} (h : BX c X W st f) : PSs X st (tOS c W f) := by
  obtain ⟨t, p, q⟩ := h
  exact ⟨fun pins s σ H Dn I ⟨r, m, env, h1, h2, h3⟩ => p.run pins s σ H Dn I (q r H m env σ Dn h1 h2 h3)⟩
def kTryW (i : Nat) (f : Ev → Mem → SO) (ok : Nat → Option D) : Ev → Mem → SO := fun e m => match f e m with
  | .er n e1 m1 => if i < e1.length ∧ m1.all (belowO m1.length) = true then (match ok n with
    | some d => .rt d m1
    | none => .bad) else .bad
  | o => o
theorem sx_tryW {y n : Str} {cS : Value} {i lv : Nat} {body : List Stmt} {f : Ev → Mem → SO} {ok : Nat → Option D} {gg : Nat → Addr → List D → Mem → Out D} {np p1 p2 p3 pos' : Pos} (hs : X.stack = X.env :: X.outer) (hf : X.env.frame = some X.env.locals) (hN : X.N.Nodup) (hi : X.N[i]? = some n) (hln : X.env.kindOf n = some .local) (hc : Names X x cS) (tk : Takes X W) (hK : X.K = c.K) (hr : Room lv X.A)
    (hb : ∀ (W' : WX) (pn : List (Addr × Obj)) (xe : Value → Shared → Prop), Takes (X.tr pn xe) W' → BX c (X.tr pn xe) W' body f)
    (pv : ∀ a pn, PE (X.suite a pn) (.Name n p1) (tVar i)) (gy : Gl X y)
    (hw : ∀ k d, ok k = some d → ∃ D, c.ec k = .ref D ∧ PySem.W.exmOne c.K (.ref D) cS = some true ∧ DfZ X.prog X.w c X.mg X.base y lv k (gg k) ∧ ∀ a m, m.all (belowO m.length) = true → gg k a [.val (.ref a)] m = .ok d m) (hdb : (y == ("__debug__" : Str)) = false := by decide) :
    SX c X W (.Try body [.ExceptHandler (some (.Name x np)) (some n) [.Return (some (.Call (.Name y p2) [.Name n p1] [] p3)) q] pos'] [] [] pos) (kTryW i f ok) := by
  have suite : ∀ (b : Addr) (oe : Obj) (cls : Value) (d : Option Addr) (pn : List (Addr × Obj)), Zc cls d oe → (∃ vs, oe.data = .fields vs) → PSs (X.suite b ((b, oe) :: pn)) [.Return (some (.Call (.Name y p2) [.Name n p1] [] p3)) q]
      (fun Dn σ H => ∃ k dd D, c.ec k = .ref D ∧ cls = .ref D ∧ d = none ∧ ok k = some dd ∧ σ[i]? = some (some (.ref b)) ∧ ∃ r m, MemOk c r H m ∧ m.all (belowO m.length) = true ∧ G c W0 (Rep c) [] r H (.ok dd m) Dn.rt) := by
    intro b oe cls d pn hz hfl
    refine ⟨fun pins s σ H Dn I h => ?_⟩
    obtain ⟨k, dd, D, e1, rfl, rfl, e2, e3, r, m, hm, mb, hg⟩ := h
    obtain ⟨D', e1', _, DZ, ge⟩ := hw k dd e2
    obtain ⟨D'', ps, e1'', hps, fz⟩ := DZ
    have ed : D'' = D := Value.ref.inj (e1''.symm.trans e1)
    subst ed
    obtain ⟨f1, fd, F, gm, kp, bs⟩ := fz b
    have ps1 := pss_one (ps_ret (pos := q) (pe_callZ (X := X.suite b ((b, oe) :: pn)) (q := p2) (pos := p3) (x := y) (sp := spD c 1 (gg k b)) (List.mem_cons_self) ⟨rfl, hz, hfl⟩ (by rw [← hK] at F; exact F) ⟨hr.dp, hr.un⟩ gy gm (by rw [← hK] at kp; exact kp) (by rw [← hK] at bs; exact bs) (pa_cons (pv b ((b, oe) :: pn)) pa_nil) hdb))
    refine ps1.run pins s σ H Dn I ?_
    refine ⟨.ref b, e3, r, m, [.val (.ref b)], rfl, hm, .cons (.val _) .nil, ?_⟩
    rw [ge b m mb]
    exact hg
  refine ⟨_, ps_try_as (i := i) (tb := fun W' => tOS c W' f) hs hf hN hi hln hc tk (fun W' pn xe tk' _ => bx_pss (hb W' pn xe tk')) suite, fun r H m env s Dn hm he hg => ⟨r, m, env, hm, he, ?_⟩⟩
  unfold kTryW at hg
  cases ef : f env m with
  | nx e1 m1 => rw [ef] at hg; exact hg
  | rt d m1 => rw [ef] at hg; exact hg
  | bk e1 m1 => rw [ef] at hg; exact hg
  | ct e1 m1 => rw [ef] at hg; exact hg
  | bad => rw [ef] at hg; exact hg
  | er k e1 m1 =>
    rw [ef] at hg
    replace hg : GS c W r H (if i < e1.length ∧ m1.all (belowO m1.length) = true then (match ok k with
      | some d => SO.rt d m1
      | none => .bad) else .bad) Dn := hg
    by_cases il : i < e1.length ∧ m1.all (belowO m1.length) = true
    case neg => rw [if_neg il] at hg; exact hg.elim
    rw [if_pos il] at hg
    cases eo : ok k with
    | none => rw [eo] at hg; exact hg.elim
    | some d =>
      rw [eo] at hg
      obtain ⟨D, e1', ex, _⟩ := hw k d eo
      intro r' H' s' x1 hm1 he1
      refine ⟨true, by rw [e1', hK]; exact ex, fun _ b nb => ?_, fun z => Bool.noConfusion z⟩
      have hi' : i < s'.length := by rw [← he1.len]; exact il.1
      exact ⟨k, d, D, e1', e1', rfl, eo, List.getElem?_set_self hi', r', m1, hm1, il.2, GS.mono x1 hg⟩
end
end Sz

namespace Sz
open PySem PySem.Spec PyProof.Rows L2
/-! ## xs.count(y), xs.index(y), sep.join(xs), list(range(n)) -/
section
variable {c : Cn} {X : Cx} {W : WX} {a e o : Expr} {es : List Expr} {pos : Pos} {fa fo fi : Ev → Mem → Out D} {fl : Ev → Mem → Out (List D)}
def rCntF (K : PySem.W.Frag) : V → List V → Hp → VK → Prop := fun x xs H Q => ∃ (p : Addr) (ys : List V) (y : V), x = .ref p ∧ xs = [y] ∧ SqL K H p ys ∧ flatV y = true ∧ ys.all flatV = true ∧ Q (.int ((ys.countP fun z => eqV z y : Nat) : Int)) H
theorem cnt_eqU {y : V} : ∀ {ys : List V} {us : List Value}, Vals ys us → ys.all flatV = true → us.countP (eqU y) = ys.countP fun z => eqV z y
  | _, _, .nil, _ => rfl
  | z :: ys, u :: us, .cons r t, f => by
    rw [List.all_cons, Bool.and_eq_true] at f
    rw [List.countP_cons, List.countP_cons, cnt_eqU t f.2, eqU_of r f.1]
theorem mt_cntF : MtR X "list.count" (rCntF X.K) := by
  intro pins s σ H x xs v us Q I rx rxs h
  obtain ⟨p, ys, y, rfl, rfl, hs, fy, fys, q⟩ := h
  cases rx
  obtain ⟨uy, rfl, ry⟩ := rxs.one
  obtain ⟨its, rv, ⟨⟨cls, dd, data, sl⟩, n, ho, hc, hdn, hd⟩, hlen⟩ := I.list hs
  simp only at hc hd
  subst hc hd
  refine call_meets PySem.F.slot_list_count ⟨_, ho, rfl⟩ PySem.F.entry_list_count (PySem.F.args_list_count_2 _ _) (SeqAt.list_countAt p its.toArray n dd sl uy (eqU y)) ⟨ho, fun u' hu' => mem_eqAt ry fy rv fys u' (by simpa using hu'), ?_⟩
  refine ⟨.int ((ys.countP fun z => eqV z y : Nat) : Int), H, I.tok _, ⟨s.toks, ?_⟩, q⟩
  rw [← cnt_eqU rv fys]
def gCountF : D → List D → Mem → Out D := fun d l m => match l with
  | [y] => (match rdL m d with
    | some ys => if flatD y && ys.all flatD then .ok (.int ((ys.countP fun z => eqD 8 z y : Nat) : Int)) m else .bad
    | none => .bad)
  | _ => .bad
def gIndexF : D → List D → Mem → Out D := fun d l m => match l with
  | [y] => (match rdL m d with
    | some ys => if flatD y && ys.all flatD then (match ys.findIdx? fun z => eqD 8 z y with
      | some j => .ok (.int (j : Nat)) m
      | none => .bad) else .bad
    | none => .bad)
  | _ => .bad
theorem flats_at {r : Rh} {H : Hp} : ∀ {ds : List D} {vs : List V}, Reps c r H ds vs → ds.all flatD = true → vs.all flatV = true
  | _, _, .nil, _ => rfl
  | _, _, .cons h t, g => by
    rw [List.all_cons, Bool.and_eq_true] at g
    rw [List.all_cons, flat_at h g.1, flats_at t g.2]
    rfl
theorem cnt_at {r : Rh} {H : Hp} {d : D} {v : V} (h : Rep c r H d v) (f : flatD d = true) : ∀ {ds : List D} {vs : List V}, Reps c r H ds vs → ds.all flatD = true → (vs.countP fun z => eqV z v) = ds.countP fun z => eqD 8 z d
  | _, _, .nil, _ => rfl
  | _, _, .cons h1 t, g => by
    rw [List.all_cons, Bool.and_eq_true] at g
    rw [List.countP_cons, List.countP_cons, cnt_at h f t g.2, eqV_at h1 h g.1 f]
theorem mS_count {K : PySem.W.Frag} (hK : K = c.K) : MtS' c W c.K "list" gCountF (rCntF K) := by
  subst hK
  intro s r H m d ds v vs Q hm hd hr h
  unfold gCountF at h
  split at h
  · rename_i y
    cases hr with
    | cons h1 h2 =>
      cases h2
      split at h
      · rename_i ys er
        split at h
        · rename_i hf
          rw [Bool.and_eq_true] at hf
          obtain ⟨p, us, rfl, h3, h4⟩ := rdL_at hm hd er
          refine ⟨p, us, _, rfl, rfl, h3, flat_at h1 hf.1, flats_at h4 hf.2, ?_⟩
          rw [cnt_at h1 hf.1 h4 hf.2]
          exact G.here (b := V.int _) h hm (.int _)
        · exact h.elim
      · exact h.elim
  · exact h.elim
theorem mS_index {K : PySem.W.Frag} (hK : K = c.K) : MtS' c W c.K "list" gIndexF (rIndex K) := by
  subst hK
  intro s r H m d ds v vs Q hm hd hr h
  unfold gIndexF at h
  split at h
  · rename_i y
    cases hr with
    | cons h1 h2 =>
      cases h2
      split at h
      · rename_i ys er
        split at h
        · rename_i hf
          rw [Bool.and_eq_true] at hf
          split at h
          · rename_i j ej
            obtain ⟨p, us, rfl, h3, h4⟩ := rdL_at hm hd er
            obtain ⟨hj, e1, e2⟩ := List.findIdx?_eq_some_iff_getElem.mp ej
            obtain ⟨w, hw, rw'⟩ := h4.get (List.getElem?_eq_getElem hj)
            have fj := List.all_eq_true.mp hf.2 ys[j] (List.getElem_mem hj)
            refine ⟨p, us, _, j, w, rfl, rfl, h3, flat_at h1 hf.1, flats_at h4 hf.2, hw, ?_, fun k z' hk hz => ?_, G.here (b := V.int _) h hm (.int _)⟩
            · rw [eqV_at rw' h1 fj hf.1]
              exact e1
            · obtain ⟨d', hd', rd'⟩ := h4.back hz
              obtain ⟨hkl, ek⟩ := List.getElem?_eq_some_iff.mp hd'
              have fk := List.all_eq_true.mp hf.2 d' (List.mem_of_getElem? hd')
              rw [eqV_at rd' h1 fk hf.1, ← ek]
              simpa using e2 k hk
          · exact h.elim
        · exact h.elim
      · exact h.elim
  · exact h.elim
def strsO : List D → Option (List Str)
  | [] => some []
  | .str s :: r => match strsO r with
    | some l => some (tx s :: l)
    | none => none
  | _ => none
theorem strsO_at {r : Rh} {H : Hp} : ∀ {ds : List D} {vs : List V} {ns : List Str}, Reps c r H ds vs → strsO ds = some ns → vs = ns.map V.str
  | _, _, _, .nil, h => by cases h; rfl
  | _, _, ns, .cons (d := d) (ds := ds) h t, e => by
    cases d with
    | str i =>
      replace e : (match strsO ds with
        | some l => some (tx i :: l)
        | none => none) = some ns := e
      cases q : strsO ds with
      | none => rw [q] at e; cases e
      | some l =>
        rw [q] at e
        cases e
        cases h
        rw [strsO_at t q, List.map_cons]
        rfl
    | _ => cases e
def gJoin : D → List D → Mem → Out D := fun d l m => match d, l with
  | .str a, [y] => (match rdL m y with
    | some ys => (match strsO ys with
      | some ts => if decide ((ts.map (·.length)).sum + ts.length * a.length ≤ 1000000) then .ok (.str (cd (Txt.join (tx a) ts))) m else .bad
      | none => .bad)
    | none => .bad)
  | _, _ => .bad
theorem mS_join {K : PySem.W.Frag} (hK : K = c.K) : MtS' c W c.K "str" gJoin (fun x xs H Q => ∃ a p, ∃ ys : List Str, x = .str a ∧ xs = [.ref p] ∧ (SqL K H p (ys.map V.str) ∨ SqT K H p (ys.map V.str)) ∧ (ys.map (·.length)).sum + ys.length * a.length ≤ 16777216 ∧ Q (.str (Txt.join a ys)) H) := by
  subst hK
  intro s r H m d ds v vs Q hm hd hr h
  unfold gJoin at h
  split at h
  · rename_i x y
    cases hd
    cases hr with
    | cons h1 h2 =>
      cases h2
      split at h
      · rename_i ys er
        split at h
        · rename_i ts et
          split at h
          · rename_i hz
            obtain ⟨p, us, rfl, h3, h4⟩ := rdL_at hm h1 er
            rw [strsO_at h4 et] at h3
            refine ⟨_, p, ts, rfl, rfl, .inl h3, ?_, G.here (b := V.str _) h hm (rep_tx _)⟩
            have := of_decide_eq_true hz
            show _ + _ * x.toArray.size ≤ _
            rw [List.size_toArray]
            omega
          · exact h.elim
        · exact h.elim
      · exact h.elim
  · exact h.elim
def gRangeL : D → Mem → Out D := fun d m => match d with
  | .int n => if decide (0 ≤ n) && decide (n ≤ 1000000) then .ok (.lst (upto 0 n.toNat)) m else .bad
  | _ => .bad
theorem reps_upto {r : Rh} {H : Hp} (n : Int) : Reps c r H (upto 0 n.toNat) (rgV 0 n) := by
  have gen : ∀ l : List Nat, Reps c r H (l.map fun (i : Nat) => D.int (0 + (i : Int))) (l.map fun (i : Nat) => V.int (0 + (i : Int))) := fun l => by
    induction l with
    | nil => exact .nil
    | cons x l ih => exact .cons (.int _) ih
  have e : (n - 0).toNat = n.toNat := by rw [Int.sub_zero]
  unfold upto rgV
  rw [e]
  exact gen _
theorem ex_listRg {p p2 pos2 : Pos} (hc : X.calm = true) (hl : Gl X "list") (ml : X.mg "list" = none) (hg : Gl X "range") (hm : X.mg "range" = none) (ha : EX c X W a fa) (na : starEach [a] X.env = (false, eval a X.env) :: starEach [] X.env := by rfl)
    (na2 : starEach [.Call (.Name "range" p2) [a] [] pos2] X.env = (false, eval (.Call (.Name "range" p2) [a] [] pos2) X.env) :: starEach [] X.env := by rfl) : EX c X W (.Call (.Name "list" p) [.Call (.Name "range" p2) [a] [] pos2] [] pos) (sUn gRangeL fa) := by
  obtain ⟨t, pt, q⟩ := ha
  refine ⟨_, pe_listRg hc hl ml (prg_1 hg hm pt na), fun r H m env s Q hm he hg => ?_⟩
  refine q r H m env s _ hm he (G.bind hg fun d m1 r1 H1 v x1 hm1 q1 hg1 => ?_)
  unfold gRangeL at hg1
  split at hg1
  · rename_i n
    cases q1
    split at hg1
    · rename_i hc
      rw [Bool.and_eq_true, decide_eq_true_eq, decide_eq_true_eq] at hc
      exact ⟨n, rfl, RgOk.of_le (Int.le_refl _) (by omega) (by decide) hc.1, fun p np => hg1 r1 (upd H1 p (.lst (rgV 0 n))) (.ref p) (Ext.new np) (hm1.new np) (.lst upd_same (hm1.off np) ((reps_upto n).ext (Ext.new np)))⟩
    · exact hg1.elim
  · exact hg1.elim
end
/-! ## [f, g, ..][i](x, ..) -/
inductive All2 {α β : Type} (R : α → β → Prop) : List α → List β → Prop
  | nil : All2 R [] []
  | cons {a : α} {b : β} {as : List α} {bs : List β} : R a b → All2 R as bs → All2 R (a :: as) (b :: bs)
theorem All2.get {α β : Type} {R : α → β → Prop} : ∀ {as : List α} {bs : List β} {i : Nat} {b : β}, All2 R as bs → bs[i]? = some b → ∃ a, as[i]? = some a ∧ R a b
  | _, _, _, _, .nil, e => by simp at e
  | _, _, 0, _, .cons h _, e => by simp at e; subst e; exact ⟨_, rfl, h⟩
  | _, _, i + 1, b, .cons _ t, e => by
    obtain ⟨a, h1, h2⟩ := All2.get (i := i) (b := b) t (by simpa using e)
    exact ⟨a, by simpa using h1, h2⟩
theorem All2.length {α β : Type} {R : α → β → Prop} : ∀ {as : List α} {bs : List β}, All2 R as bs → as.length = bs.length
  | _, _, .nil => rfl
  | _, _, .cons _ t => by rw [List.length_cons, List.length_cons, All2.length t]
section
variable {c : Cn} {X : Cx} {W : WX} {e i : Expr} {es : List Expr} {pos : Pos} {fi : Ev → Mem → Out D} {fl : Ev → Mem → Out (List D)}
def FnD (c : Cn) (X : Cx) (n lv : Nat) (f : Addr) (g : List D → Mem → Out D) : Prop := ∃ k fd ps, k ≤ lv ∧ FnOk X.prog X.w X.K X.mg X.base (L2.CX X.prog X.w) k f fd ps (spD c n g) ∧ PySem.W.keepIn X.K (.ref f) = true ∧ Binds X.K fd ps []
def SelX (c : Cn) (X : Cx) (W : WX) (n lv : Nat) (es : List Expr) (gs : List (List D → Mem → Out D)) : Prop := ∃ fs : List Addr, AX c X W es (fun _ m => .ok (fs.map fun f => D.val (.ref f)) m) ∧ All2 (FnD c X n lv) fs gs
theorem sel_nil {n lv : Nat} : SelX c X W n lv [] [] := ⟨[], ax_nil, .nil⟩
theorem sel_cons {n lv k : Nat} {x : Str} {p : Pos} {ps : List Str} {g : List D → Mem → Out D} {gs : List (List D → Mem → Out D)} (hK : X.K = c.K) (hx : Df X.prog X.w c X.mg X.base x k ps g) (hn : ps.length = n) (hk : k ≤ lv) (h : SelX c X W n lv es gs) (hg : Gl X x := by rfl) (hdb : (x == ("__debug__" : Str)) = false := by decide)
    (hs : starEach (.Name x p :: es) X.env = (false, eval (.Name x p) X.env) :: starEach es X.env := by rfl) : SelX c X W n lv (.Name x p :: es) (g :: gs) := by
  subst hn
  obtain ⟨f, fd, F, gm, kp, bs⟩ := hx
  obtain ⟨fs, A, al⟩ := h
  rw [← hK] at F kp bs
  exact ⟨f :: fs, ax_cons (ex_c (d := .val (.ref f)) (pe_glob (v := .ref f) hg gm rfl hdb) fun _ _ => .val _) A hs, .cons ⟨k, fd, ps, hk, F, kp, bs⟩ al⟩
def sSel (n : Nat) (gs : List (List D → Mem → Out D)) (fi : Ev → Mem → Out D) (fl : Ev → Mem → Out (List D)) : Ev → Mem → Out D := fun e m => (fi e m).bind fun d m1 => match d with
  | .int j => (match L2.atI gs j with
    | some g => (fl e m1).bind fun l m2 => if l.length = n then g l m2 else .bad
    | none => .bad)
  | _ => .bad
theorem ex_sel {lp sp_ : Pos} {n lv : Nat} {gs : List (List D → Mem → Out D)} (tk : Takes X W) (hK : X.K = c.K) (hr : Room lv X.A) (hl : SelX c X W n lv es gs) (hi : EX c X W i fi) {e : Expr} {as : List Expr} (ha : AX c X W (e :: as) fl) (hn : n = (e :: as).length := by rfl) (hs : PlainIx i := by exact fun _ _ => rfl) (hz : gs.length ≤ 1000 := by decide)
    (he : starEach (e :: as) X.env = (false, eval e X.env) :: starEach as X.env := by rfl) (hpl : (backTo pos (starEach as X.env)).any (·.1) = false := by rfl)
    (hev : eval (.Call (.Subscript (.List es lp) i sp_) (e :: as) [] pos) X.env = (do callWith pos (← eval (.Subscript (.List es lp) i sp_) X.env) [] (backTo pos (starEach (e :: as) X.env)) (backToKw pos (keywordEach [] X.env))) := by rfl) :
    EX c X W (.Call (.Subscript (.List es lp) i sp_) (e :: as) [] pos) (sSel n gs fi fl) := by
  obtain ⟨fs, A, al⟩ := hl
  obtain ⟨tf, pf, qf⟩ := ex_ix (pos := sp_) hK (ex_lst (pos := lp) A) hi hs
  obtain ⟨ta, pa, qa⟩ := ha
  refine ⟨fun σ H Q => tf σ H fun v H1 => ∃ f k fd ps sp, v = .ref f ∧ FnOk X.prog X.w X.K X.mg X.base (L2.CX X.prog X.w) k f fd ps sp ∧ k ≤ lv ∧ PySem.W.keepIn X.K (.ref f) = true ∧ Binds X.K fd ps [] ∧ ta σ H1 fun vs H2 => sp vs H2 Q (WE W σ),
    ⟨fun pins s σ H Q I h => Call_ (thn (pf.run pins s σ H _ I h) fun u s1 ⟨v, H1, I1, rv, f, k, fd, ps, sp, ev, F, kl, kp, bs, q1⟩ => ?_) hev⟩, fun r H m env s Q hm he hg => ?_⟩
  · subst ev
    obtain rfl : u = Value.ref f := rv
    refine PySem.W.callWith_K (h₀ := X.base) I.ok.mod.kin kp (thn (pa.run pos pins s1 σ H1 _ I1 q1) fun us s2 ⟨vs, H2, I2, r2, q2⟩ => ⟨I2.kIn, ?_⟩) he hpl
    exact run_fnS F (hr.mono kl) bs (passAt tk σ) I2 r2 q2
  · refine qf r H m env s _ hm he ?_
    have fz : (fs.map fun f => D.val (.ref f)).length ≤ 1000 := by
      rw [List.length_map, al.length]
      exact hz
    show G c W (Rep c) s r H ((((fun _ m => Out.ok (fs.map fun f => D.val (.ref f)) m : Ev → Mem → Out (List D)) env m).bind fun l m1 => if l.length ≤ 1000 then .ok (.lst l) m1 else .bad).bind fun a m1 => (fi env m1).bind fun b m2 => gIx a b m2) _
    rw [bind_ok, if_pos fz, bind_ok]
    unfold sSel at hg
    cases ef : fi env m with
    | bad => rw [ef] at hg; exact hg
    | er n1 m1 => rw [ef] at hg; exact hg
    | ok d m1 =>
      rw [ef, bind_ok] at hg
      rw [bind_ok]
      cases d with
      | int j =>
        replace hg : G c W (Rep c) s r H (match L2.atI gs j with
          | some g => (fl env m1).bind fun l m2 => if l.length = n then g l m2 else .bad
          | none => .bad) Q := hg
        cases eg : L2.atI gs j with
        | none => rw [eg] at hg; exact hg.elim
        | some g =>
          rw [eg] at hg
          have af : ∃ f, L2.atI (fs.map fun f => D.val (.ref f)) j = some (.val (.ref f)) ∧ FnD c X n lv f g := by
            unfold L2.atI at eg ⊢
            rw [List.length_map, al.length]
            cases e3 : ixN gs.length j with
            | none => rw [e3] at eg; cases eg
            | some k =>
              rw [e3] at eg
              obtain ⟨f, h1, h2⟩ := al.get (i := k) (show gs[k]? = some g from eg)
              exact ⟨f, by show (fs.map fun f => D.val (.ref f))[k]? = _; rw [List.getElem?_map, h1]; rfl, h2⟩
          obtain ⟨f, e4, k, fd, ps, kl, F, kp, bs⟩ := af
          rw [gIx_l, e4]
          intro r1 H1 v x1 hm1 q1
          cases q1
          refine ⟨f, k, fd, ps, _, rfl, F, kl, kp, bs, ?_⟩
          refine qa r1 H1 m1 env s _ hm1 (he.ext x1) (G.bind (G.mono x1 hg) fun l m2 r2 H2 l' x2 hm2 q2 hg2 => ?_)
          split at hg2
          · rename_i hl
            exact ⟨r2, m2, l, by rw [← q2.length, hl], hm2, q2, hg2⟩
          · exact hg2.elim
      | _ => exact hg.elim
end
end Sz

namespace Sz
open PySem PySem.Spec PyProof.Rows L2
/-! ## instances of the own class -/
theorem FRep.look {c : Cn} {r : Rh} {H : Hp} {f : Str} : ∀ {fs : List (Str × D)} {gs : List (Str × V)} {d : D}, FRep c r H fs gs → fs.lookup f = some d → ∃ v, gs.lookup f = some v ∧ Rep c r H d v
  | [], [], _, _, e => by cases e
  | (x, d0) :: fs, (y, v) :: gs, d, ⟨h1, h2, h3⟩, e => by
    subst h1
    rw [List.lookup_cons] at e ⊢
    cases q : f == x with
    | true => rw [q] at e; cases e; exact ⟨v, rfl, h2⟩
    | false => rw [q] at e; exact FRep.look h3 e
  | [], _ :: _, _, h, _ => h.elim
  | _ :: _, [], _, h, _ => h.elim
theorem FRep.miss {c : Cn} {r : Rh} {H : Hp} {f : Str} : ∀ {fs : List (Str × D)} {gs : List (Str × V)}, FRep c r H fs gs → fs.lookup f = none → gs.lookup f = none
  | [], [], _, _ => rfl
  | (x, d0) :: fs, (y, v) :: gs, ⟨h1, h2, h3⟩, e => by
    subst h1
    rw [List.lookup_cons] at e ⊢
    cases q : f == x with
    | true => rw [q] at e; cases e
    | false => rw [q] at e; exact FRep.miss h3 e
  | [], _ :: _, h, _ => h.elim
  | _ :: _, [], h, _ => h.elim
def putN (f : Str) (d : D) : List (Str × D) → List (Str × D)
  | [] => [(f, d)]
  | (g, x) :: r => if g = f then (g, d) :: r else (g, x) :: putN f d r
theorem FRep.put {c : Cn} {r : Rh} {H : Hp} {f : Str} {d : D} {v : V} (hd : Rep c r H d v) : ∀ {fs : List (Str × D)} {gs : List (Str × V)}, FRep c r H fs gs → FRep c r H (putN f d fs) (putF f v gs)
  | [], [], _ => ⟨rfl, hd, True.intro⟩
  | (x, d0) :: fs, (y, w) :: gs, ⟨h1, h2, h3⟩ => by
    subst h1
    unfold putN putF
    by_cases q : x = f
    · rw [if_pos q, if_pos q]
      exact ⟨rfl, hd, h3⟩
    · rw [if_neg q, if_neg q]
      exact ⟨rfl, h2, FRep.put hd h3⟩
  | [], _ :: _, h => h.elim
  | _ :: _, [], h => h.elim
theorem FRep.len {c : Cn} {r : Rh} {H : Hp} : ∀ {fs : List (Str × D)} {gs : List (Str × V)}, FRep c r H fs gs → fs.length = gs.length
  | [], [], _ => rfl
  | (_, _) :: _, (_, _) :: _, ⟨_, _, h3⟩ => by rw [List.length_cons, List.length_cons, FRep.len h3]
  | [], _ :: _, h => h.elim
  | _ :: _, [], h => h.elim
theorem ref_ins {c : Cn} {r : Rh} {H : Hp} {m : Mem} {i : Nat} {v : V} {l : List (Str × D)} (hm : MemOk c r H m) (h : Rep c r H (.ref i) v) (e : m[i]? = some (.ins l)) : ∃ a dx gs, r.ix[i]? = some (some a) ∧ v = .ref a ∧ H a = some (.ins c.tc dx gs) ∧ FRep c r H l gs := by
  obtain ⟨a, dx, gs, h1, h2, h3⟩ := hm.ins e
  cases h with
  | ref h4 => rw [h1] at h4; cases h4; exact ⟨a, dx, gs, h1, rfl, h2, h3⟩
  | gone h4 => rw [h1] at h4; cases h4
section
variable {c : Cn} {X : Cx} {W : WX} {e o : Expr} {es : List Expr} {pos apos : Pos} {fa fo : Ev → Mem → Out D} {fl : Ev → Mem → Out (List D)}
/-- o.f -/
def gFld (f : Str) : D → Mem → Out D := fun d m => match d with
  | .ref i => (match m[i]? with
    | some (.ins fs) => (match fs.lookup f with
      | some x => .ok x m
      | none => .bad)
    | _ => .bad)
  | _ => .bad
theorem ex_fld (f : Str) (hK : X.K = c.K) (C : Cls c.K c.tc) (N : NoAttr c.K c.tc f) (ho : EX c X W o fo) (hb : attributeBase o f X.env (eval o X.env) = eval o X.env := by rfl) : EX c X W (.Attribute o f pos) (sUn (gFld f) fo) := by
  obtain ⟨t, p, q⟩ := ho
  refine ⟨_, pe_fld p hb, fun r H m env s Q hm he hg => ?_⟩
  refine q r H m env s _ hm he (G.bind hg fun d1 m1 r1 H1 v x1 hm1 q1 hg1 => ?_)
  unfold gFld at hg1
  split at hg1
  · rename_i i
    split at hg1
    · rename_i fs ef
      split at hg1
      · rename_i x ex
        obtain ⟨a, dx, gs, _, rfl, h3, h4⟩ := ref_ins hm1 q1 ef
        obtain ⟨w, h5, h6⟩ := h4.look ex
        exact ⟨a, c.tc, dx, gs, w, rfl, h3, by rw [hK]; exact C, by rw [hK]; exact N, h5, G.here hg1 hm1 h6⟩
      · exact hg1.elim
    · exact hg1.elim
  · exact hg1.elim
/-- o.f = e -/
def kSetF (f : Str) (fe fo : Ev → Mem → Out D) : Ev → Mem → SO := fun e m => (fe e m).thn e fun v m1 => (fo e m1).thn e fun d m2 => match d with
  | .ref i => (match m2[i]? with
    | some (.ins fs) => if fs.length < 100 then .nx e (m2.set i (.ins (putN f v fs))) else .bad
    | _ => .bad)
  | _ => .bad
theorem MemOk.putIns {r : Rh} {H : Hp} {m : Mem} {i : Nat} {a dx : Addr} {l : List (Str × D)} {gs : List (Str × V)} (h : MemOk c r H m) (e : r.ix[i]? = some (some a)) (q : FRep c r H l gs) : MemOk c r (upd H a (.ins c.tc dx gs)) (m.set i (.ins l)) :=
  h.putO e ⟨dx, gs, upd_same, q.le (Le.putO (.inl (List.mem_of_getElem? e)))⟩
theorem sx_fld (f : Str) {pos' : Pos} (hK : X.K = c.K) (C : Cls c.K c.tc) (N : NoAttr c.K c.tc f) (he : EX c X W e fa) (ho : EX c X W o fo) (hs : swapsWith e (some (.Attribute o f pos')) pos.line X.env = pure false := by rfl) : SX c X W (.Assign [.Attribute o f pos'] e pos) (kSetF f fa fo) := by
  obtain ⟨te, pe, qe⟩ := he
  obtain ⟨to, po, qo⟩ := ho
  refine ⟨_, ps_fld po pe hs, fun r H m env s Dn hm he hg => ?_⟩
  refine qe r H m env s _ hm he (G.thn he hg fun v m1 r1 H1 v' x1 hm1 q1 hg1 => ?_)
  have he1 := he.ext x1
  refine qo r1 H1 m1 env s _ hm1 he1 (G.thn he1 hg1 fun d m2 r2 H2 d' x2 hm2 q2 hg2 => ?_)
  have he2 := he1.ext x2
  split at hg2
  · rename_i i
    split at hg2
    · rename_i fs ef
      split at hg2
      · rename_i hl
        obtain ⟨a, dx, gs, h1, rfl, h3, h4⟩ := ref_ins hm2 q2 ef
        have x := Ext.put (o := .ins c.tc dx (putF f v' gs)) hm2 h1
        refine ⟨a, c.tc, dx, gs, rfl, h3, by rw [hK]; exact C, by rw [hK]; exact N, by rw [← h4.len]; omega, ?_⟩
        exact hg2 r2 _ s x (hm2.putIns h1 (FRep.put (q1.ext x2) h4)) (he2.ext x)
      · exact hg2.elim
    · exact hg2.elim
  · exact hg2.elim
/-! ## o.m(e, ..) -/
def isIns (m : Str) (mem : Mem) : D → Bool
  | .ref i => (match mem[i]? with
    | some (.ins fs) => (fs.lookup m).isNone
    | _ => false)
  | _ => false
def sMeth (m : Str) (n : Nat) (g : List D → Mem → Out D) (fo : Ev → Mem → Out D) (fl : Ev → Mem → Out (List D)) : Ev → Mem → Out D := fun e mm => (fo e mm).bind fun d m1 => if isIns m m1 d then (fl e m1).bind fun l m2 => if l.length + 1 = n then g (d :: l) m2 else .bad else .bad
/-- m is a method that does g -/
def MetD (P : Program) (w : World) (c : Cn) (mg : Str → Option Value) (base : Heap) (m : Str) (lv : Nat) (ps : List Str) (g : List D → Mem → Out D) : Prop :=
  ∃ f fd, FnOk P w c.K mg base (L2.CX P w) lv f fd ps (spD c ps.length g) ∧ Meth c.K c.tc m f ∧ Binds c.K fd ps []
theorem isIns_at {m : Str} {r : Rh} {H : Hp} {mem : Mem} {d : D} {v : V} (hm : MemOk c r H mem) (h : Rep c r H d v) (e : isIns m mem d = true) : ∃ a dx gs, v = .ref a ∧ H a = some (.ins c.tc dx gs) ∧ gs.lookup m = none := by
  cases d with
  | ref i =>
    replace e : (match mem[i]? with
      | some (Ob.ins fs) => (fs.lookup m).isNone
      | _ => false) = true := e
    split at e
    · rename_i fs ef
      obtain ⟨a, dx, gs, _, rfl, h3, h4⟩ := ref_ins hm h ef
      exact ⟨a, dx, gs, rfl, h3, h4.miss (Option.isNone_iff_eq_none.mp e)⟩
    · cases e
  | _ => cases e
theorem ex_meth {m : Str} {lv k n : Nat} {ps : List Str} {g : List D → Mem → Out D} {pl : Sem Bool} (tk : Takes X W) (hK : X.K = c.K) (hr : Room k X.A) (C : Cls c.K c.tc) (Mt : MetD X.prog X.w c X.mg X.base m lv ps g) (hle : lv ≤ k) (ho : EX c X W o fo) (ha : AX c X W (e :: es) fl) (hp : ps.length = n := by rfl) (hn : n = (e :: es).length + 1 := by rfl)
    (hst : starEach (e :: es) X.env = (false, eval e X.env) :: starEach es X.env := by rfl) (hpl : (backTo pos (starEach es X.env)).any (·.1) = false := by rfl)
    (ht : eval (.Call (.Attribute o m apos) (e :: es) [] pos) X.env = (do
      let ov ← eval o X.env
      standAt apos.atName
      let (f, first) ← holding [ov] (getMethod ov m pl)
      callWith pos f first (backTo pos (starEach (e :: es) X.env)) (backToKw pos (keywordEach [] X.env))) := by rfl) : EX c X W (.Call (.Attribute o m apos) (e :: es) [] pos) (sMeth m n g fo fl) := by
  subst hp
  obtain ⟨f, fd, F, Mh, bs⟩ := Mt
  rw [← hK] at F Mh bs C
  obtain ⟨to, po, qo⟩ := ho
  obtain ⟨ta, pa, qa⟩ := ha
  refine ⟨fun σ H Q => to σ H fun x H1 => ∃ a dx fs, x = .ref a ∧ H1 a = some (.ins c.tc dx fs) ∧ fs.lookup m = none ∧ ta σ H1 fun vs H2 => spD c ps.length g (x :: vs) H2 Q (WE W σ), ⟨fun pins s σ H Q I h => PySem.W.methodCall_KW (pl := pl) (thn (po.run pins s σ H _ I h) fun u s1 ⟨x, H1, I1, rx, a, dx, fs, ex, ea, l, q⟩ => ?_) ht⟩, fun r H mm env s Q hm he hg => ?_⟩
  · subst ex
    obtain rfl : u = Value.ref a := rx
    refine getmeth_ok I1 ea C Mh l (PySem.W.callWith_K (first := [.ref a]) (h₀ := X.base) I.ok.mod.kin Mh.kp (thn (pa.run pos pins s1 σ H1 _ I1 q) fun us s2 ⟨vs, H2, I2, r2, q2⟩ => ⟨I2.kIn, ?_⟩) hst hpl)
    exact run_fnS (us := .ref a :: us) (vs := .ref a :: vs) F (hr.mono hle) bs (passAt tk σ) I2 (.cons rfl r2) q2
  · refine qo r H mm env s _ hm he (G.bind hg fun d m1 r1 H1 v x1 hm1 q1 hg1 => ?_)
    split at hg1
    · rename_i hi
      obtain ⟨a, dx, gs, rfl, h3, h4⟩ := isIns_at hm1 q1 hi
      refine ⟨a, dx, gs, rfl, h3, h4, qa r1 H1 m1 env s _ hm1 (he.ext x1) (G.bind hg1 fun l m2 r2 H2 l' x2 hm2 q2 hg2 => ?_)⟩
      split at hg2
      · rename_i hl
        exact ⟨r2, m2, d :: l, by rw [List.length_cons, ← q2.length, hl], hm2, .cons (q1.ext x2) q2, hg2⟩
      · exact hg2.elim
    · exact hg1.elim
theorem ex_meth0 {m : Str} {lv k : Nat} {ps : List Str} {g : List D → Mem → Out D} {pl : Sem Bool} (tk : Takes X W) (hK : X.K = c.K) (hr : Room k X.A) (C : Cls c.K c.tc) (Mt : MetD X.prog X.w c X.mg X.base m lv ps g) (hle : lv ≤ k) (ho : EX c X W o fo) (hp : ps.length = 1 := by rfl)
    (ht : eval (.Call (.Attribute o m apos) [] [] pos) X.env = (do
      let ov ← eval o X.env
      standAt apos.atName
      let (f, first) ← holding [ov] (getMethod ov m pl)
      callWith pos f first (backTo pos (starEach [] X.env)) (backToKw pos (keywordEach [] X.env))) := by rfl) : EX c X W (.Call (.Attribute o m apos) [] [] pos) (sMeth m 1 g fo sNil) := by
  obtain ⟨f, fd, F, Mh, bs⟩ := Mt
  rw [← hK] at F Mh bs C
  obtain ⟨to, po, qo⟩ := ho
  refine ⟨fun σ H Q => to σ H fun x H1 => ∃ a dx fs, x = .ref a ∧ H1 a = some (.ins c.tc dx fs) ∧ fs.lookup m = none ∧ spD c ps.length g [x] H1 Q (WE W σ), ⟨fun pins s σ H Q I h => PySem.W.methodCall_KW (pl := pl) (thn (po.run pins s σ H _ I h) fun u s1 ⟨x, H1, I1, rx, a, dx, fs, ex, ea, l, q⟩ => ?_) ht⟩, fun r H mm env s Q hm he hg => ?_⟩
  · subst ex
    obtain rfl : u = Value.ref a := rx
    refine getmeth_ok I1 ea C Mh l (PySem.W.callWith_K0 (first := [.ref a]) I1.kIn Mh.kp ?_)
    exact run_fnS (us := [.ref a]) (vs := [.ref a]) F (hr.mono hle) bs (passAt tk σ) I1 (.cons rfl .nil) q
  · refine qo r H mm env s _ hm he (G.bind hg fun d m1 r1 H1 v x1 hm1 q1 hg1 => ?_)
    split at hg1
    · rename_i hi
      obtain ⟨a, dx, gs, rfl, h3, h4⟩ := isIns_at hm1 q1 hi
      refine ⟨a, dx, gs, rfl, h3, h4, r1, m1, [d], by rw [hp]; rfl, hm1, .cons q1 .nil, ?_⟩
      have hg2 : G c W (Rep c) s r1 H1 (g [d] m1) Q := hg1
      exact hg2
    · exact hg1.elim
/-! ## C(e) -/
def sMake (n : Nat) (g : List D → Mem → Out D) (fl : Ev → Mem → Out (List D)) : Ev → Mem → Out D := fun e m => (fl e m).bind fun l m1 => if l.length + 1 = n then (g (.ref m1.length :: l) (m1 ++ [.ins []])).bind fun d m2 => match d with
  | .non => .ok (.ref m1.length) m2
  | _ => .bad else .bad
/-- the name x stands for the own class, its __init__ does g -/
def MakD (P : Program) (w : World) (c : Cn) (mg : Str → Option Value) (base : Heap) (x : Str) (lv : Nat) (ps : List Str) (g : List D → Mem → Out D) : Prop :=
  ∃ f fd, Mk c.K c.tc f ∧ FnOk P w c.K mg base (L2.CX P w) lv f fd ps (spD c ps.length g) ∧ mg x = some (.ref c.tc) ∧ Binds c.K fd ps []
theorem run_makeZ {f : Addr} {fd : FuncData} {ps : List Str} {sp : Sp} {k : Nat} {E : XK} {pins : List (Addr × Obj)} {σ : L2.St} {H : Hp} {s : Shared} {Q : VK} {us : List Value} {vs : List V} {Ca : Addr} (M : Mk X.K Ca f) (F : FnOk X.prog X.w X.K X.mg X.base (L2.CX X.prog X.w) k f fd ps sp) (hr : Room (k + 1) X.A) (hb : Binds X.K fd ps []) (hx : PassesAt (L2.CX X.prog X.w) X σ E) (I : Inv X pins σ H s) (rv : Vals vs us)
    (h : ∀ x dx, H x = none → H dx = none → dx ≠ x → sp (.ref x :: vs) (upd (upd H dx (.own x)) x (.ins Ca dx [])) (fun v H2 => v = .non ∧ Q (.ref x) H2) E) : wpAny (model X.prog X.w) X.A (call (.ref Ca) us) (EP X pins σ Q) X.xe s := by
  have q := h (s.heap.objs.size + 1) s.heap.objs.size (I.hok.fresh (Nat.le_succ _)) (I.hok.fresh (Nat.le_refl _)) (Nat.ne_of_lt (Nat.lt_succ_self _))
  have J := Inv.made (C := Ca) I
  have rv2 : Vals (V.ref (s.heap.objs.size + 1) :: vs) (Value.ref (s.heap.objs.size + 1) :: us) := .cons rfl rv
  have ll : (Value.ref (s.heap.objs.size + 1) :: us).length = ps.length := by rw [← rv2.length]; exact F.len _ _ _ _ q
  have bt := hb _ (Value.ref (s.heap.objs.size + 1) :: us) J.kIn (by rw [List.append_nil]; exact ll)
  rw [List.append_nil] at bt
  refine wpAny_call (make_map (f := f) I.kIn M.makes M.init (beq_iff_eq.mp M.fn) (codeAny_mono (F.run _ X.stack _ _ ⟨Value.ref (s.heap.objs.size + 1) :: us, []⟩ _ _ _ E (hr.make Ca us []) (J.env0.make Ca us []) bt rv2 q) fun res s' hq => ?_))
  cases res with
  | error err => exact hx pins _ _ err s' J hq
  | ok fl =>
    cases fl with
    | ret u =>
      obtain ⟨v, H', J2, ru, ev, q3⟩ := J.after hq
      subst ev
      exact ⟨ru, ⟨V.ref (s.heap.objs.size + 1), H', J2, rfl, q3⟩⟩
    | next => exact hq.elim
    | brk => exact hq.elim
    | cont => exact hq.elim
theorem ex_make {x : Str} {p : Pos} {lv k n : Nat} {ps : List Str} {g : List D → Mem → Out D} (tk : Takes X W) (hK : X.K = c.K) (hr : Room k X.A) (Mt : MakD X.prog X.w c X.mg X.base x lv ps g) (hle : lv + 1 ≤ k) (ha : AX c X W (e :: es) fl) (hp : ps.length = n := by rfl) (hn : n = (e :: es).length + 1 := by rfl) (hg : Gl X x := by rfl) (hdb : (x == ("__debug__" : Str)) = false := by decide)
    (he : starEach (e :: es) X.env = (false, eval e X.env) :: starEach es X.env := by rfl) (hpl : (backTo pos (starEach es X.env)).any (·.1) = false := by rfl) : EX c X W (.Call (.Name x p) (e :: es) [] pos) (sMake n g fl) := by
  subst hp
  obtain ⟨f, fd, M, F, gm, bs⟩ := Mt
  rw [← hK] at M F bs
  obtain ⟨ta, pa, qa⟩ := ha
  refine ⟨fun σ H Q => ta σ H fun vs H1 => ∀ y dx, H1 y = none → H1 dx = none → dx ≠ y → spD c ps.length g (.ref y :: vs) (upd (upd H1 dx (.own y)) y (.ins c.tc dx [])) (fun v H2 => v = .non ∧ Q (.ref y) H2) (WE W σ), ⟨fun pins s σ H Q I h => wpAny_Call_Name_kw (ld_glob I hg gm ?_ hdb)⟩, fun r H mm env s Q hm he hgo => ?_⟩
  · refine PySem.W.callWith_K (h₀ := X.base) I.ok.mod.kin M.kp (thn (pa.run pos pins s σ H _ I h) fun us s1 ⟨vs, H1, I1, r1, q1⟩ => ⟨I1.kIn, ?_⟩) he hpl
    exact run_makeZ M F (hr.mono hle) bs (passAt tk σ) I1 r1 q1
  · refine qa r H mm env s _ hm he (G.bind hgo fun l m1 r1 H1 l' x1 hm1 q1 hg1 => ?_)
    intro y dx ny ndx ne
    split at hg1
    · rename_i hl
      have e1 : Ext r1 H1 r1 (upd H1 dx (.own y)) := Ext.new ndx
      have hm2 : MemOk c r1 (upd H1 dx (.own y)) m1 := hm1.new ndx
      have ny2 : (upd H1 dx (.own y)) y = none := by rw [upd_ne (Ne.symm ne)]; exact ny
      have e2 : Ext r1 (upd H1 dx (.own y)) (r1.push y) (upd (upd H1 dx (.own y)) y (.ins c.tc dx [])) := Ext.push ny2
      have hm3 : MemOk c (r1.push y) (upd (upd H1 dx (.own y)) y (.ins c.tc dx [])) (m1 ++ [.ins []]) := hm2.pushO ny2 ⟨dx, [], upd_same, True.intro⟩
      have pg : (r1.push y).ix[m1.length]? = some (some y) := by rw [← hm1.len]; exact push_get
      refine ⟨r1.push y, m1 ++ [.ins []], .ref m1.length :: l, by rw [List.length_cons, ← q1.length, hl], hm3, .cons (.ref pg) ((q1.ext e1).ext e2), ?_⟩
      have hg2 := G.mono (e1.trans e2) hg1
      cases eg : g (.ref m1.length :: l) (m1 ++ [.ins []]) with
      | bad => rw [eg] at hg2; exact hg2.elim
      | er n1 m2 => rw [eg] at hg2; exact hg2
      | ok d m2 =>
        rw [eg] at hg2
        intro r3 H3 v x3 hm4 q4
        cases d with
        | non =>
          cases q4
          refine ⟨rfl, hg2 r3 H3 (.ref y) x3 hm4 ?_⟩
          rcases x3.ix _ _ pg with z | z
          · exact .ref z
          · exact .gone z
        | _ => exact hg2.elim
    · exact hg1.elim
/-! ## len(o) -/
def sLenI (n : Str) (g : List D → Mem → Out D) (fo : Ev → Mem → Out D) : Ev → Mem → Out D := fun e m => (fo e m).bind fun d m1 => if isIns n m1 d then (g [d] m1).bind0 fun x m2 => match x with
  | .int j => if 0 ≤ j ∧ j < 1000000 then .ok (.int j) m2 else .bad
  | _ => .bad else .bad
theorem special_def {prog : Program} {w : World} {A : Around} {E : Value → Shared → Prop} {s : Shared} {K : PySem.W.Frag} {a Ca f : Addr} {dx : Addr} {mA : Str → Option Value} {name : Str} {Q : Option Value → Shared → Prop} (kx : K.In s.heap) (O : ObjM s.heap a dx Ca mA) (hf : PySem.W.findIn K (.ref Ca) name = some (some (.ref f))) (ht : PySem.W.typeIn K (.ref f) = some (.type "function"))
    (hc : wpAny (model prog w) A (call (.ref f) [.ref a]) (fun v s' => Q (some v) s') E s) : wpAny (model prog w) A (callSpecial? (.ref a) name []) Q E s := by
  have LT : PySem.W.Looks (model prog w) s.heap (typeOf (.ref a)) (.ref Ca) := fun A Q E s k q => wpAny_typeOf_ref (k _ _ O.obj) q
  unfold callSpecial? specialOf
  refine wpAny_bind (wpAny_bind (LT.here ((PySem.W.looks_findIn kx hf).here ?_)))
  refine wpAny_holding (wpAny_bind ((PySem.W.bind_fn kx (.ref a) ht).here ?_))
  exact wpAny_bind (wpAny_mono hc (fun v s' h => wpAny_pure h) fun _ _ z => z)
def rLenI (c : Cn) (X : Cx) : List V → Hp → VK → Prop := fun xs H Q => ∃ a dx fs f fd ps sp k, xs = [.ref a] ∧ H a = some (.ins c.tc dx fs) ∧ Meth X.K c.tc "__len__" f ∧ FnOk X.prog X.w X.K X.mg X.base (L2.CX X.prog X.w) k f fd ps sp ∧ Room (k + 1) X.A ∧ Binds X.K fd ps [] ∧
  sp [.ref a] H (fun v H2 => ∃ n : Int, v = .int n ∧ 0 ≤ n ∧ n < 1000000 ∧ Q (.int n) H2) fun _ _ _ => False
theorem cr_lenI : CallR X (.builtin "len") (rLenI c X) := by
  intro pins s σ H xs us Q I rv h
  obtain ⟨a, dx, fs, f, fd, ps, sp, k, rfl, ha, Mh, F, hr, hb, q⟩ := h
  obtain ⟨u, rfl, ru⟩ := rv.one
  obtain rfl : u = Value.ref a := ru
  obtain ⟨mA, O, _⟩ := ins_get I.hok ha
  have ll := F.len _ _ _ _ q
  have bt := hb s [.ref a] I.kIn (by rw [List.append_nil]; exact ll)
  rw [List.append_nil] at bt
  refine Calls.call_function_entry kind_len plain_len entry_len (args_len1 _) ?_
  unfold Builtin.«len»
  refine wpAny_bind (m := oneArg "len" _) (wpAny_pure ?_)
  refine wpAny_bind (m := callSpecial? (.ref a) (Str.ofString "__len__")) (special_def I.kIn O Mh.at_ (beq_iff_eq.mp Mh.fn) (wpAny_call (codeAny_mono (F.run X.A.in1 X.stack s H ⟨[.ref a], []⟩ [.ref a] [.ref a] _ (fun _ _ _ => False) hr.in1 I.env0.in1 bt (.cons rfl .nil) q) fun res s' hq => ?_)))
  cases res with
  | error err => exact passAt (takes0 (X := X)) σ pins H s err s' I hq
  | ok fl =>
    cases fl with
    | ret u =>
      obtain ⟨v, H', J2, ru, n, ev, h0, h1, q3⟩ := I.after hq
      subst ev
      obtain ⟨t, rfl⟩ := ru
      have e63 : (2 : Int) ^ 63 = 9223372036854775808 := by decide +kernel
      refine wpAny_bind (wpAny_holding (wpAny_pure (wpAny_bind (wpAny_letGo ?_))))
      show wpAny _ _ (if n < 0 then _ else _) _ _ _
      rw [if_neg (by omega)]
      show wpAny _ _ (if n ≥ 2 ^ 63 then _ else _) _ _ _
      rw [if_neg (by rw [e63]; omega)]
      exact wpAny_bind (wpAny_mkInt (wpAny_pure ⟨_, rfl, .int n, H', J2.tok _, ⟨_, rfl⟩, q3⟩))
    | next => exact hq.elim
    | brk => exact hq.elim
    | cont => exact hq.elim
theorem ex_lenI {p : Pos} {lv k : Nat} {ps : List Str} {g : List D → Mem → Out D} (hK : X.K = c.K) (hr : Room k X.A) (Mt : MetD X.prog X.w c X.mg X.base "__len__" lv ps g) (hle : lv + 1 ≤ k) (hg : Gl X "len") (hm : X.mg "len" = none) (ho : EX c X W o fo) (hp : ps.length = 1 := by rfl) (hst : starEach [o] X.env = (false, eval o X.env) :: starEach [] X.env := by rfl)
    (hpl : (backTo pos (starEach [] X.env)).any (·.1) = false := by rfl) : EX c X W (.Call (.Name "len" p) [o] [] pos) (sLenI "__len__" g fo) := by
  obtain ⟨f, fd, F, Mh, bs⟩ := Mt
  rw [← hK] at F Mh bs
  obtain ⟨to, po, qo⟩ := ho
  refine ⟨_, pe_callB (cr_lenI (c := c)) hg hm (by decide +kernel) (pa_cons po pa_nil hst) (by decide) (by decide) hst hpl, fun r H mm env s Q hmm he hgo => ?_⟩
  refine qo r H mm env s _ hmm he (G.bind hgo fun d m1 r1 H1 v x1 hm1 q1 hg1 => ?_)
  split at hg1
  · rename_i hi
    obtain ⟨a, dx, gs, rfl, h3, h4⟩ := isIns_at hm1 q1 hi
    refine ⟨a, dx, gs, f, fd, ps, _, lv, rfl, h3, Mh, F, hr.mono hle, bs, r1, m1, [d], by rw [hp]; rfl, hm1, .cons q1 .nil, ?_⟩
    cases eg : g [d] m1 with
    | bad => rw [eg] at hg1; exact hg1.elim
    | er n1 m2 => rw [eg] at hg1; exact hg1.elim
    | ok x m2 =>
      rw [eg] at hg1
      intro r3 H3 v x3 hm4 q4
      cases x with
      | int j =>
        cases q4
        replace hg1 : G c W (Rep c) s r1 H1 (if 0 ≤ j ∧ j < 1000000 then .ok (.int j) m2 else .bad) Q := hg1
        split at hg1
        · rename_i hj
          exact ⟨j, rfl, hj.1, hj.2, hg1 r3 H3 (.int j) x3 hm4 (.int j)⟩
        · exact hg1.elim
      | _ => exact hg1.elim
  · exact hg1.elim
end
end Sz

namespace Sz
open PySem PySem.Spec PyProof.Rows L2
def bodyC : Stmt → List Stmt
  | .ClassDef _ _ _ b _ _ _ _ _ _ _ => b
  | _ => []
/-! ## a comprehension over a list that is owned: its items are read anew in each turn -/
def lcR (i : Nat) (g : Ev → D → Option Ev) (f : Ev → Mem → Out D) (e0 : Ev) : Nat → Nat → List D → Mem → Out (List D)
  | 0, _, _, _ => .bad
  | k + 1, j, acc, m => match m[i]? with
    | some (.lst l) => (match l[j]? with
      | none => .ok acc m
      | some d => (match g e0 d with
        | none => .bad
        | some e1 => (f e1 m).bind0 fun x m2 => if acc.length < 1000000 then lcR i g f e0 k (j + 1) (acc ++ [x]) m2 else .bad))
    | _ => .bad
def sLcR (n : Nat) (vs : List Nat) (fi : Ev → Mem → Out D) (g : Ev → D → Option Ev) (f : Ev → Mem → Out D) : Ev → Mem → Out D := fun e m =>
  (fi e m).bind fun d m1 => match d with
    | .ref i => (lcR i g f (wipeE e vs) n 0 [] m1).bind0 fun l m2 => .ok (.lst l) m2
    | _ => .bad
section
variable {c : Cn} {X : Cx} {W : WX} {pos : Pos} {tg iter elt : Expr} {scope : Scope} {own : List (Str × Nat)} {fi : Ev → Mem → Out D} {gg : Ev → D → Option Ev} {isg : List Nat} {f : Ev → Mem → Out D}
theorem lcR_sound {ti : TE} {g : TG} {te : TE} {vs : List Nat} {n : Nat} (hsub : ∀ i ∈ isg, i ∈ vs)
    (qi : ∀ r H m env s Q, MemOk c r H m → EnvOk c r H env s → G c W (Rep c) s r H (fi env m) Q → ti s H Q)
    (qg : ∀ (r : Rh) (H : Hp) (env e1 : Ev) (s : L2.St) (d : D) (v : V) (Q : L2.St → Hp → Prop), EnvOk c r H env s → Rep c r H d v → gg env d = some e1 →
      (∀ s', EnvOk c r H e1 s' → (∀ vs : List Nat, (∀ i ∈ isg, i ∈ vs) → wipe s' vs = wipe s vs) → Q s' H) → g v s H Q)
    (qe : ∀ r H m env s Q, MemOk c r H m → EnvOk c r H env s → G c W0 (Rep c) s r H (f env m) Q → te s H Q) {tt : TT} (qt : ∀ r H m env s Q, MemOk c r H m → EnvOk c r H env s → G c W0 RB s r H (tYesS env m) Q → tt s H Q) :
    ∀ r H m env s Q, MemOk c r H m → EnvOk c r H env s → G c W (Rep c) s r H (sLcR n vs fi gg f env m) Q → tLc (iList c.K ti) g tt te vs s H Q := by
  intro r H m env s Q hm he hg
  refine qi r H m env s _ hm he (G.bind hg fun d0 m1 r1 H1 v0 x1 hm1 q1 hg1 => ?_)
  split at hg1
  case h_2 => exact hg1.elim
  rename_i io
  -- the list at the start
  have st0 : ∃ l, m1[io]? = some (.lst l) := by
    cases n with
    | zero => exact hg1.elim
    | succ n =>
      unfold lcR at hg1
      cases e : m1[io]? with
      | none => rw [e] at hg1; exact hg1.elim
      | some o =>
        rw [e] at hg1
        cases o with
        | lst l => exact ⟨l, rfl⟩
        | _ => exact hg1.elim
  obtain ⟨l0, el0⟩ := st0
  obtain ⟨a, vs0, ia, rfl, ha, hr0⟩ := ref_lst hm1 q1 el0
  refine ⟨a, rfl, ⟨vs0, SqL.of ha⟩, ?_⟩
  -- what is known later of the list
  have now : ∀ {r2 : Rh} {H2 : Hp} {m2 : Mem} {l : List D}, Ext r1 H1 r2.unblk H2 → MemOk c r2 H2 m2 → m2[io]? = some (.lst l) → ∃ us, H2 a = some (.lst us) ∧ Reps c r2 H2 l us := by
    intro r2 H2 m2 l x hm2 e
    obtain ⟨b, us, h1, h2, h3⟩ := hm2.lst e
    rcases x.ix io _ ia with z | z
    · have z' : r2.ix[io]? = some (some a) := z
      rw [h1] at z'
      cases z'
      exact ⟨us, h2, h3⟩
    · have z' : r2.ix[io]? = some none := z
      rw [h1] at z'
      cases z'
  intro Dn hDn
  refine ⟨fun j k H2 => ∃ r2 m2 acc vacc, MemOk c r2 H2 m2 ∧ EnvOk c r2 H2 env s ∧ H2 Dn = some (.lst vacc) ∧ r2.bl = Dn :: r1.bl ∧ Ext r1 H1 r2.unblk H2 ∧ Reps c r2 H2 acc vacc ∧
    G c W (Rep c) s r1 H1 ((lcR io gg f (wipeE env vs) k j acc m2).bind0 fun l m2 => .ok (.lst l) m2) Q,
    ⟨n, r1.blk Dn, m1, [], [], hm1.blk hDn, (he.ext x1).le (Le.blk hDn), upd_same, rfl, Ext.blk0 hDn, .nil, hg1⟩, ?_⟩
  rintro j k H2 ⟨r2, m2, acc, vacc, hm2, he2, hD2, hbl, hx, hacc, hg2⟩
  cases k with
  | zero => exact hg2.elim
  | succ k =>
    unfold lcR at hg2
    cases em : m2[io]? with
    | none => rw [em] at hg2; exact hg2.elim
    | some o =>
      rw [em] at hg2
      cases o with
      | lst l =>
        obtain ⟨us, hu, hr⟩ := now hx hm2 em
        replace hg2 : G c W (Rep c) s r1 H1 ((match l[j]? with
          | none => Out.ok acc m2
          | some d => (match gg (wipeE env vs) d with
            | none => .bad
            | some e1 => (f e1 m2).bind0 fun x m3 => if acc.length < 1000000 then lcR io gg f (wipeE env vs) k (j + 1) (acc ++ [x]) m3 else .bad)).bind0 fun l m2 => .ok (.lst l) m2) Q := hg2
        cases ej : l[j]? with
        | none =>
          rw [ej] at hg2
          have hjl : us.length ≤ j := by
            rw [← hr.length]
            exact List.getElem?_eq_none_iff.mp ej
          refine .inl ⟨⟨us, SqL.of hu, hjl⟩, hg2 r2.unblk H2 (.ref Dn) hx hm2.unblk (.lst hD2 (fun z => ?_) hacc.unblk)⟩
          rcases z with z | z
          · exact (hm2.dj Dn (by rw [hbl]; exact List.mem_cons_self)).1 z
          · replace z : Dn ∈ r2.bl.tail := z
            rw [hbl] at z
            exact hm1.off hDn (.inr z)
        | some d =>
          rw [ej] at hg2
          obtain ⟨w, hw, rw'⟩ := hr.get ej
          refine .inr ⟨⟨us, w, SqL.of hu, hw⟩, fun H' => ∃ r3 m3 acc vacc, MemOk c r3 H' m3 ∧ EnvOk c r3 H' env s ∧ H' Dn = some (.lst vacc) ∧ r3.bl = Dn :: r1.bl ∧ Ext r1 H1 r3.unblk H' ∧ Reps c r3 H' acc vacc ∧
            G c W (Rep c) s r1 H1 ((lcR io gg f (wipeE env vs) k (j + 1) acc m3).bind0 fun l m2 => .ok (.lst l) m2) Q, fun H' h => ⟨k, Nat.lt_succ_self k, h⟩, fun x H3 hy => ?_⟩
          obtain ⟨rfl, hy2⟩ := hy
          have ex : x = w := by
            have := hy2 us (SqL.of hu)
            rw [hw] at this
            exact (Option.some.inj this).symm
          subst ex
          replace hg2 : G c W (Rep c) s r1 H1 ((match gg (wipeE env vs) d with
            | none => Out.bad
            | some e1 => (f e1 m2).bind0 fun x m3 => if acc.length < 1000000 then lcR io gg f (wipeE env vs) k (j + 1) (acc ++ [x]) m3 else .bad).bind0 fun l m2 => .ok (.lst l) m2) Q := hg2
          cases qe1 : gg (wipeE env vs) d with
          | none => rw [qe1] at hg2; exact hg2.elim
          | some e1 =>
            rw [qe1] at hg2
            refine qg r2 H3 _ e1 _ d _ _ (he2.wipe vs) rw' qe1 fun s3 he4 hw4 => ⟨?_, ?_⟩
            · rw [hw4 vs hsub]
              refine List.ext_getElem? fun y => ?_
              rw [wipe_get, wipe_get, wipe_length]
              by_cases q : y ∈ vs ∧ y < s.length
              · rw [if_pos q, if_pos q]
              · rw [if_neg q, if_neg q]
            · refine qt r2 H3 m2 e1 s3 _ hm2 he4 fun r5 H5 b x5 hm5 eb => ?_
              cases eb
              refine iteT ?_
              have hg6 : G c W (Rep c) s r1 H1 ((f e1 m2).bind0 fun x m3 => (if acc.length < 1000000 then lcR io gg f (wipeE env vs) k (j + 1) (acc ++ [x]) m3 else .bad).bind0 fun l m2 => .ok (.lst l) m2) Q := by
                cases q : f e1 m2 with
                | ok b m' => simpa [q] using hg2
                | er y m' => simp [q] at hg2; exact hg2.elim
                | bad => simp [q] at hg2; exact hg2.elim
              have hbl5 : r5.bl = Dn :: r1.bl := x5.bl.trans hbl
              have hx5 := hx.under hbl hDn x5
              have hD5 := x5.keepB Dn (by rw [hbl]; exact List.mem_cons_self) _ hD2
              refine qe r5 H5 m2 e1 s3 _ hm5 (he4.ext x5) (G.bind0 hg6 fun y m7 r7 H7 yv x7 hm7 q7 hg7 => ?_)
              split at hg7
              · rename_i hl
                have hbl7 : r7.bl = Dn :: r1.bl := x7.bl.trans hbl5
                have hin : Dn ∈ r7.bl := by rw [hbl7]; exact List.mem_cons_self
                have hD7 := x7.keepB Dn (by rw [hbl5]; exact List.mem_cons_self) _ hD5
                have hx7 := hx5.under hbl5 hDn x7
                have xs := x5.trans x7
                have wr := Le.putO (H := H7) (o := .lst (vacc ++ [yv])) (show r7.Own Dn from .inr hin)
                exact ⟨vacc, hD7, by rw [← hacc.length]; exact Nat.lt_of_lt_of_le hl (by decide), r7, m7, acc ++ [y], vacc ++ [yv], hm7.putB hin, (he2.ext xs).le wr, upd_same, hbl7, hx7.wrote hDn, ((hacc.ext xs).append (.cons q7 .nil)).le wr, hg7⟩
              · exact hg7.elim
      | _ => exact hg2.elim
theorem ex_lcR {n : Nat} (hc : X.calm = true) (hK : X.K = c.K) (hN : X.N.Nodup) (hi : EX c X W iter fi) (ok : BlkOk X.N X.env.scope scope own) (hg : ∀ s H C cl fp, TgX c (BK X scope s H C cl fp) tg isg gg)
    (he : ∀ s H C cl fp, EX c (BK X scope s H C cl fp) W0 elt f) (hsub : ∀ i ∈ isg, i ∈ own.map (·.2) := by decide) (hs : ∀ x, foldedSetIterable iter X.env x = pure x := by intro _; rfl) : EX c X W (.ListComp elt [⟨tg, iter, [], 0⟩] scope pos) (sLcR n (own.map (·.2)) fi gg f) := by
  obtain ⟨ti, pi, qi⟩ := hi
  refine ⟨_, pe_lc hc hN (pi_list pi) ok (fun s H C cl fp => (hg s H C cl fp).pg) (fun s H C cl fp => (ts_nil (c := c) (W := W0)).pts) (fun s H C cl fp => (he s H C cl fp).pe) hs, ?_⟩
  rw [hK]
  exact lcR_sound hsub qi (fun r H env e1 s d v Q h1 h2 h3 h4 => ⟨r, env, e1, d, h1, h2, h3, h4⟩) (fun r H m env s Q h1 h2 h3 => ⟨r, m, env, h1, h2, h3⟩) (fun r H m env s Q h1 h2 h3 => ⟨r, m, env, h1, h2, h3⟩)
end
/-! ## isinstance of the exception in hand, by names -/
def KitD (c : Cn) (mg : Str → Option Value) (n : Nat) (x : Str) (b : Bool) : Prop := ∃ D C, c.ec n = .ref D ∧ mg x = some (.ref C) ∧ PySem.W.kitOne c.K (.ref D) (.ref C) = some b
def KitT (c : Cn) (n : Nat) (T : String) (b : Bool) : Prop := ∃ D, c.ec n = .ref D ∧ PySem.W.kitOne c.K (.ref D) (.type T) = some b
def ExcE (c : Cn) (n : Nat) : Prop := ∃ D, c.ec n = .ref D ∧ ExcC c.K D
/-- p holds an exception of number n -/
def Zn (c : Cn) (n : Nat) (a : Addr) (p : Addr × Obj) : Prop := ∃ D, c.ec n = .ref D ∧ Zx a (.ref D) p
section
variable {c : Cn} {X : Cx} {W : WX} {a : Addr} {pp : Addr × Obj} {n : Nat} {x y : Str} {b : Bool} {p p1 p2 p3 : Pos}
theorem ex_isD (i : Nat) (hK : X.K = c.K) (z : Zn c n a pp) (hp : pp ∈ X.pn) (E : ExcE c n) (k : KitD c X.mg n y b) (hg : Gl X "isinstance") (hm : X.mg "isinstance" = none) (pv : PE X (.Name x p1) (tVar i)) (hy : Gl X y := by rfl) (hdb : (y == ("__debug__" : Str)) = false := by decide)
    (hs1 : starEach [.Name x p1, .Name y p2] X.env = (false, eval (.Name x p1) X.env) :: starEach [.Name y p2] X.env := by rfl) (hs2 : starEach [.Name y p2] X.env = (false, eval (.Name y p2) X.env) :: starEach [] X.env := by rfl)
    (hpl : (backTo p3 (starEach [.Name y p2] X.env)).any (·.1) = false := by rfl) : EX c X W (.Call (.Name "isinstance" p) [.Name x p1, .Name y p2] [] p3) (sIsZ a i b) := by
  obtain ⟨D, e1, z⟩ := z
  obtain ⟨D2, e2, E⟩ := E
  obtain ⟨D3, C, e3, gm, k⟩ := k
  have h2 : D2 = D := Value.ref.inj (e2.symm.trans e1)
  have h3 : D3 = D := Value.ref.inj (e3.symm.trans e1)
  subst h2 h3
  obtain ⟨a2, oe⟩ := pp
  obtain ⟨ea, z1⟩ := z
  dsimp only at ea z1
  subst ea
  rw [← hK] at E k
  exact ex_isZ i E hp ⟨rfl, z1⟩ hg hm pv (pe_glob (v := .ref C) hy gm rfl hdb) (fun u h => h) k hs1 hs2 hpl
theorem ex_isB {T : String} (i : Nat) (hK : X.K = c.K) (z : Zn c n a pp) (hp : pp ∈ X.pn) (E : ExcE c n) (k : KitT c n T b) (hg : Gl X "isinstance") (hm : X.mg "isinstance" = none) (pv : PE X (.Name x p1) (tVar i)) (my : X.mg y = none) (hv : bootBuiltins y = some (.type T)) (hy : Gl X y := by rfl) (hn : y ≠ "__name__" := by decide) (hdb : (y == ("__debug__" : Str)) = false := by decide)
    (hs1 : starEach [.Name x p1, .Name y p2] X.env = (false, eval (.Name x p1) X.env) :: starEach [.Name y p2] X.env := by rfl) (hs2 : starEach [.Name y p2] X.env = (false, eval (.Name y p2) X.env) :: starEach [] X.env := by rfl)
    (hpl : (backTo p3 (starEach [.Name y p2] X.env)).any (·.1) = false := by rfl) : EX c X W (.Call (.Name "isinstance" p) [.Name x p1, .Name y p2] [] p3) (sIsZ a i b) := by
  obtain ⟨D, e1, z⟩ := z
  obtain ⟨D2, e2, E⟩ := E
  obtain ⟨D3, e3, k⟩ := k
  have h2 : D2 = D := Value.ref.inj (e2.symm.trans e1)
  have h3 : D3 = D := Value.ref.inj (e3.symm.trans e1)
  subst h2 h3
  obtain ⟨a2, oe⟩ := pp
  obtain ⟨ea, z1⟩ := z
  dsimp only at ea z1
  subst ea
  rw [← hK] at E k
  exact ex_isZ i E hp ⟨rfl, z1⟩ hg hm pv (pe_bltn (v := .ty T) hy my hv rfl hn hdb) (fun u h => h) k hs1 hs2 hpl
end
/-! ## defs of the class, the def that tells exceptions -/
theorem room64H {k : Nat} {A : Around} (r : L2H.RoomH k A) : A.units + 64 < cLine := by
  have := r.un
  omega
section
variable {P : Program} {w : World} {c : Cn} {mg : Str → Option Value} {base : Heap}
theorem fn_mk3 {x qual : Str} {st : Stmt} {sc : Scope} {bd : List Stmt} {f : Addr} {fd : FuncData} {N ps : List Str} {k np nn : Nat} {g : Ev → Mem → SO} (F : Fun c.K x qual st f fd) (es : defScope st = sc) (eb : defBody st = bd) (S : FnScope N ps sc)
    (hb : ∀ (cdv : Value) (A : Around) (outer : List PySem.Env) (s : Shared) (H : Hp) (E : XK), Room k (A.deeper (envOfC qual sc s.heap.objs.size f cdv)) →
      BX c (XB P w c.K mg base N qual sc f cdv A outer s H E) (fun cls d _ H => E cls d H) bd g) (hp : ps.length = np := by rfl) (hn : N.length = nn := by rfl) :
    FnOk P w c.K mg base (L2.CX P w) (k + 1) f fd ps (spD c ps.length (defSem np nn g)) := by
  subst es eb hp hn
  exact fn_sem F S hb
theorem met_mk {m : Str} {lv : Nat} {ps : List Str} {g : List D → Mem → Out D} {f : Addr} {fd : FuncData} (h : FnOk P w c.K mg base (L2.CX P w) lv f fd ps (spD c ps.length g)) (M : Meth c.K c.tc m f) (bs : Binds c.K fd ps []) : MetD P w c mg base m lv ps g := ⟨f, fd, h, M, bs⟩
theorem fnz_mk {x qual : Str} {st : Stmt} {sc : Scope} {bd : List Stmt} {f : Addr} {fd : FuncData} {N ps : List Str} {k np nn : Nat} {g : Ev → Mem → SO} {Z : Addr × Obj → Prop} (F : Fun c.K x qual st f fd) (es : defScope st = sc) (eb : defBody st = bd) (S : FnScope N ps sc)
    (hb : ∀ (cdv : Value) (A : Around) (outer : List PySem.Env) (s : Shared) (H : Hp) (E : XK) (p : Addr × Obj), Z p → L2H.RoomH k (A.deeper (envOfC qual sc s.heap.objs.size f cdv)) → BX c (XZ P w c.K mg base N qual sc f cdv A outer s H E p) (fun cls d _ H => E cls d H) bd g) (hp : ps.length = np := by rfl) (hn : N.length = nn := by rfl) :
    FnZ P w c.K mg base (k + 1) f fd ps Z (spD c np (defSem np nn g)) := by
  subst es eb hp hn
  exact fnz_sem F S hb
/-- what the handlers of a law need -/
def WhD (P : Program) (w : World) (c : Cn) (mg : Str → Option Value) (base : Heap) (x y : Str) (lv : Nat) (ok : Nat → Option D) (gg : Nat → Addr → List D → Mem → Out D) : Prop :=
  ∃ cS, mg x = some cS ∧ ∀ k d, ok k = some d → ∃ D, c.ec k = .ref D ∧ PySem.W.exmOne c.K (.ref D) cS = some true ∧ DfZ P w c mg base y lv k (gg k) ∧ ∀ a m, m.all (belowO m.length) = true → gg k a [.val (.ref a)] m = .ok d m
end
theorem lookup_all {P : Nat → D → Prop} : ∀ {L : List (Nat × D)}, (∀ q ∈ L, P q.1 q.2) → ∀ k d, L.lookup k = some d → P k d
  | [], _, _, _, h => by cases h
  | (k0, d0) :: L, h, k, d, e => by
    rw [List.lookup_cons] at e
    cases q : k == k0 with
    | true => rw [q] at e; cases e; rw [beq_iff_eq.mp q]; exact h (k0, d0) List.mem_cons_self
    | false => rw [q] at e; exact lookup_all (fun r hr => h r (List.mem_cons_of_mem _ hr)) k d e
end Sz

namespace Sz
open PySem PySem.Spec PyProof.Rows L2
/-! ## try with two clauses that name no exception -/
def kTry2 (n1 n2 : Nat) (f g1 g2 : Ev → Mem → SO) : Ev → Mem → SO := fun e m => match f e m with
  | .er n e1 m1 => if n = n1 then g1 e1 m1 else if n = n2 then g2 e1 m1 else .bad
  | o => o
/-- the classes of the two clauses, as the exceptions of the numbers n1, n2 meet them -/
def Th2 (c : Cn) (mg : Str → Option Value) (x1 x2 : Str) (n1 n2 : Nat) : Prop := ∃ C1 C2 D1 D2, mg x1 = some C1 ∧ mg x2 = some C2 ∧ c.ec n1 = .ref D1 ∧ c.ec n2 = .ref D2 ∧
  PySem.W.exmOne c.K (.ref D1) C1 = some true ∧ PySem.W.exmOne c.K (.ref D2) C1 = some false ∧ PySem.W.exmOne c.K (.ref D2) C2 = some true
section
variable {c : Cn} {X : Cx} {W : WX}
theorem sx_try2 {x1 x2 : Str} {C1 C2 : Value} {D1 D2 : Addr} {n1 n2 : Nat} {body r1 r2 : List Stmt} {b1 b2 : Stmt} {f g1 g2 : Ev → Mem → SO} {np1 np2 p1 p2 pos : Pos} (hs : X.stack = X.env :: X.outer) (hf : X.env.frame = some X.env.locals) (hc1 : Names X x1 C1) (hc2 : Names X x2 C2) (tk : Takes X W) (hK : X.K = c.K)
    (e1 : c.ec n1 = .ref D1) (e2 : c.ec n2 = .ref D2) (m1 : PySem.W.exmOne c.K (.ref D1) C1 = some true) (m2 : PySem.W.exmOne c.K (.ref D2) C1 = some false) (m3 : PySem.W.exmOne c.K (.ref D2) C2 = some true)
    (hb : ∀ (W' : WX) (pn : List (Addr × Obj)) (xe : Value → Shared → Prop), Takes (X.tr pn xe) W' → BX c (X.tr pn xe) W' body f)
    (h1 : ∀ a pn, BX c (X.suite a pn) W (b1 :: r1) g1) (h2 : ∀ a pn, BX c (X.suite a pn) W (b2 :: r2) g2) :
    SX c X W (.Try body [.ExceptHandler (some (.Name x1 np1)) none (b1 :: r1) p1, .ExceptHandler (some (.Name x2 np2)) none (b2 :: r2) p2] [] [] pos) (kTry2 n1 n2 f g1 g2) := by
  refine ⟨_, ps_try_many (tb := fun W' => tOS c W' f) hs hf tk (fun W' pn xe tk' _ => bx_pss (hb W' pn xe tk'))
    (.cons (ts := fun _ _ _ => tOS c W g1) hc1 (fun a oe cls d pn _ _ => bx_pss (h1 a _)) (.cons (ts := fun _ _ _ => tOS c W g2) hc2 (fun a oe cls d pn _ _ => bx_pss (h2 a _)) .nil)), fun r H m env s Dn hm he hg => ⟨r, m, env, hm, he, ?_⟩⟩
  unfold kTry2 at hg
  cases ef : f env m with
  | nx e1 m1 => rw [ef] at hg; exact hg
  | rt d m1 => rw [ef] at hg; exact hg
  | bk e1 m1 => rw [ef] at hg; exact hg
  | ct e1 m1 => rw [ef] at hg; exact hg
  | bad => rw [ef] at hg; exact hg
  | er k ev m4 =>
    rw [ef] at hg
    replace hg : GS c W r H (if k = n1 then g1 ev m4 else if k = n2 then g2 ev m4 else .bad) Dn := hg
    intro r' H' s' x hm1 he1
    by_cases q1 : k = n1
    · rw [if_pos q1] at hg
      subst q1
      exact ⟨true, by rw [e1, hK]; exact m1, fun _ b nb => ⟨r', m4, ev, hm1, he1, GS.mono x hg⟩, fun z => Bool.noConfusion z⟩
    · rw [if_neg q1] at hg
      by_cases q2 : k = n2
      · rw [if_pos q2] at hg
        subst q2
        exact ⟨false, by rw [e2, hK]; exact m2, fun z => Bool.noConfusion z, fun _ => ⟨true, by rw [e2, hK]; exact m3, fun _ b nb => ⟨r', m4, ev, hm1, he1, GS.mono x hg⟩, fun z => Bool.noConfusion z⟩⟩
      · rw [if_neg q2] at hg
        exact hg.elim
end
theorem room64S {k : Nat} {A : Around} {x : Option Value} (r : Room k A) : (A.mark x).units + 64 < cLine := room64 (A := A) r
end Sz

namespace Sz
open PySem PySem.Spec PyProof.Rows L2
/-! ## a comprehension whose list stays one's own; defs that forget nothing -/
def Rh.hold (r : Rh) (Dn : Addr) : Rh := ⟨r.ix ++ [some Dn], r.bl.tail⟩
section
variable {c : Cn} {r r1 : Rh} {H H1 : Hp} {m : Mem} {Dn : Addr} {vs : List V}
theorem hold_own {b1 : List Addr} (hbl : r.bl = Dn :: b1) {a : Addr} (h : (r.hold Dn).Own a) : r.Own a := by
  rcases h with h | h
  · rcases List.mem_append.mp h with q | q
    · exact .inl q
    · have e : a = Dn := by simpa using q
      exact .inr (by rw [hbl, e]; exact List.mem_cons_self)
  · exact .inr (List.mem_of_mem_tail h)
theorem hold_ix {i : Nat} {x : Option Addr} (h : r.ix[i]? = some x) : (r.hold Dn).ix[i]? = some x := by
  obtain ⟨hi, e⟩ := List.getElem?_eq_some_iff.mp h
  show (r.ix ++ [some Dn])[i]? = _
  rw [List.getElem?_append_left hi]
  exact h
theorem Le.hold {b1 : List Addr} (hbl : r.bl = Dn :: b1) : Le r H (r.hold Dn) H :=
  ⟨fun i x h => .inl (hold_ix h), fun a h => .inl (hold_own hbl h), fun b o n h => h, fun b h => h⟩
theorem Ext.hold {b1 : List Addr} (x : Ext r1 H1 r.unblk H) (hbl : r.bl = Dn :: b1) (hD : H1 Dn = none) : Ext r1 H1 (r.hold Dn) H := by
  refine ⟨⟨fun i z h => ?_, fun a h => ?_, x.keep, x.dom⟩, x.bl, x.keepB⟩
  · rcases x.ix i z h with q | q
    · exact .inl (hold_ix (r := r) q)
    · exact .inr (hold_ix (r := r) q)
  · rcases h with h | h
    · rcases List.mem_append.mp h with q | q
      · exact x.own a (.inl q)
      · have e : a = Dn := by simpa using q
        exact .inr (by rw [e]; exact hD)
    · exact x.own a (.inr h)
theorem MemOk.hold {b1 : List Addr} {l : List D} (hm : MemOk c r H m) (hbl : r.bl = Dn :: b1) (hD : H Dn = some (.lst vs)) (q : Reps c r H l vs) (nb : Dn ∉ b1) : MemOk c (r.hold Dn) H (m ++ [Ob.lst l]) := by
  have x : Le r H (r.hold Dn) H := Le.hold hbl
  have dj := (hm.dj Dn (by rw [hbl]; exact List.mem_cons_self)).1
  refine ⟨by show (r.ix ++ [some Dn]).length = _; rw [List.length_append, List.length_append, hm.len]; rfl, fun i oa ob e1 e2 => ?_, fun i j a e1 e2 => ?_, fun a ha => ?_⟩
  · replace e1 : (r.ix ++ [some Dn])[i]? = some oa := e1
    by_cases hi : i < r.ix.length
    · rw [List.getElem?_append_left hi] at e1
      rw [List.getElem?_append_left (by rw [← hm.len]; exact hi)] at e2
      exact (hm.at' i oa ob e1 e2).le x fun a ea => rfl
    · have hl : i = r.ix.length := by
        obtain ⟨z, _⟩ := List.getElem?_eq_some_iff.mp e1
        rw [List.length_append, List.length_singleton] at z
        omega
      subst hl
      rw [List.getElem?_append_right (Nat.le_refl _)] at e1
      rw [hm.len, List.getElem?_append_right (Nat.le_refl _)] at e2
      simp at e1 e2
      subst e1; subst e2
      exact ⟨vs, hD, q.le x⟩
  · have out : ∀ k, (r.ix ++ [some Dn])[k]? = some (some a) → (k < r.ix.length ∧ r.ix[k]? = some (some a)) ∨ (k = r.ix.length ∧ a = Dn) := fun k e => by
      by_cases hk : k < r.ix.length
      · rw [List.getElem?_append_left hk] at e; exact .inl ⟨hk, e⟩
      · obtain ⟨z, _⟩ := List.getElem?_eq_some_iff.mp e
        rw [List.length_append, List.length_singleton] at z
        have hl : k = r.ix.length := by omega
        subst hl
        rw [List.getElem?_append_right (Nat.le_refl _)] at e
        simp at e
        exact .inr ⟨rfl, e.symm⟩
    rcases out i e1 with ⟨h1, q1⟩ | ⟨h1, q1⟩ <;> rcases out j e2 with ⟨h2, q2⟩ | ⟨h2, q2⟩
    · exact hm.nd i j a q1 q2
    · subst q2; exact absurd (List.mem_of_getElem? q1) dj
    · subst q1; exact absurd (List.mem_of_getElem? q2) dj
    · rw [h1, h2]
  · replace ha : a ∈ r.bl.tail := ha
    have hb : a ∈ r.bl := List.mem_of_mem_tail ha
    refine ⟨fun z => ?_, (hm.dj a hb).2⟩
    rcases List.mem_append.mp z with k | k
    · exact (hm.dj a hb).1 k
    · have e : a = Dn := by simpa using k
      rw [hbl, e] at ha
      exact nb ha
end
def sLcRO (n : Nat) (vs : List Nat) (fi : Ev → Mem → Out D) (g : Ev → D → Option Ev) (f : Ev → Mem → Out D) : Ev → Mem → Out D := fun e m =>
  (fi e m).bind fun d m1 => match d with
    | .ref i => (lcR i g f (wipeE e vs) n 0 [] m1).bind0 fun l m2 => .ok (.ref m2.length) (m2 ++ [Ob.lst l])
    | _ => .bad
section
variable {c : Cn} {X : Cx} {W : WX} {pos : Pos} {tg iter elt : Expr} {scope : Scope} {own : List (Str × Nat)} {fi : Ev → Mem → Out D} {gg : Ev → D → Option Ev} {isg : List Nat} {f : Ev → Mem → Out D}
theorem lcRO_sound {ti : TE} {g : TG} {te : TE} {vs : List Nat} {n : Nat} (hsub : ∀ i ∈ isg, i ∈ vs)
    (qi : ∀ r H m env s Q, MemOk c r H m → EnvOk c r H env s → G c W (Rep c) s r H (fi env m) Q → ti s H Q)
    (qg : ∀ (r : Rh) (H : Hp) (env e1 : Ev) (s : L2.St) (d : D) (v : V) (Q : L2.St → Hp → Prop), EnvOk c r H env s → Rep c r H d v → gg env d = some e1 →
      (∀ s', EnvOk c r H e1 s' → (∀ vs : List Nat, (∀ i ∈ isg, i ∈ vs) → wipe s' vs = wipe s vs) → Q s' H) → g v s H Q)
    (qe : ∀ r H m env s Q, MemOk c r H m → EnvOk c r H env s → G c W0 (Rep c) s r H (f env m) Q → te s H Q) {tt : TT} (qt : ∀ r H m env s Q, MemOk c r H m → EnvOk c r H env s → G c W0 RB s r H (tYesS env m) Q → tt s H Q) :
    ∀ r H m env s Q, MemOk c r H m → EnvOk c r H env s → G c W (Rep c) s r H (sLcRO n vs fi gg f env m) Q → tLc (iList c.K ti) g tt te vs s H Q := by
  intro r H m env s Q hm he hg
  refine qi r H m env s _ hm he (G.bind hg fun d0 m1 r1 H1 v0 x1 hm1 q1 hg1 => ?_)
  split at hg1
  case h_2 => exact hg1.elim
  rename_i io
  -- the list at the start
  have st0 : ∃ l, m1[io]? = some (.lst l) := by
    cases n with
    | zero => exact hg1.elim
    | succ n =>
      unfold lcR at hg1
      cases e : m1[io]? with
      | none => rw [e] at hg1; exact hg1.elim
      | some o =>
        rw [e] at hg1
        cases o with
        | lst l => exact ⟨l, rfl⟩
        | _ => exact hg1.elim
  obtain ⟨l0, el0⟩ := st0
  obtain ⟨a, vs0, ia, rfl, ha, hr0⟩ := ref_lst hm1 q1 el0
  refine ⟨a, rfl, ⟨vs0, SqL.of ha⟩, ?_⟩
  -- what is known later of the list
  have now : ∀ {r2 : Rh} {H2 : Hp} {m2 : Mem} {l : List D}, Ext r1 H1 r2.unblk H2 → MemOk c r2 H2 m2 → m2[io]? = some (.lst l) → ∃ us, H2 a = some (.lst us) ∧ Reps c r2 H2 l us := by
    intro r2 H2 m2 l x hm2 e
    obtain ⟨b, us, h1, h2, h3⟩ := hm2.lst e
    rcases x.ix io _ ia with z | z
    · have z' : r2.ix[io]? = some (some a) := z
      rw [h1] at z'
      cases z'
      exact ⟨us, h2, h3⟩
    · have z' : r2.ix[io]? = some none := z
      rw [h1] at z'
      cases z'
  intro Dn hDn
  refine ⟨fun j k H2 => ∃ r2 m2 acc vacc, MemOk c r2 H2 m2 ∧ EnvOk c r2 H2 env s ∧ H2 Dn = some (.lst vacc) ∧ r2.bl = Dn :: r1.bl ∧ Ext r1 H1 r2.unblk H2 ∧ Reps c r2 H2 acc vacc ∧
    G c W (Rep c) s r1 H1 ((lcR io gg f (wipeE env vs) k j acc m2).bind0 fun l m2 => .ok (.ref m2.length) (m2 ++ [Ob.lst l])) Q,
    ⟨n, r1.blk Dn, m1, [], [], hm1.blk hDn, (he.ext x1).le (Le.blk hDn), upd_same, rfl, Ext.blk0 hDn, .nil, hg1⟩, ?_⟩
  rintro j k H2 ⟨r2, m2, acc, vacc, hm2, he2, hD2, hbl, hx, hacc, hg2⟩
  cases k with
  | zero => exact hg2.elim
  | succ k =>
    unfold lcR at hg2
    cases em : m2[io]? with
    | none => rw [em] at hg2; exact hg2.elim
    | some o =>
      rw [em] at hg2
      cases o with
      | lst l =>
        obtain ⟨us, hu, hr⟩ := now hx hm2 em
        replace hg2 : G c W (Rep c) s r1 H1 ((match l[j]? with
          | none => Out.ok acc m2
          | some d => (match gg (wipeE env vs) d with
            | none => .bad
            | some e1 => (f e1 m2).bind0 fun x m3 => if acc.length < 1000000 then lcR io gg f (wipeE env vs) k (j + 1) (acc ++ [x]) m3 else .bad)).bind0 fun l m2 => .ok (.ref m2.length) (m2 ++ [Ob.lst l])) Q := hg2
        cases ej : l[j]? with
        | none =>
          rw [ej] at hg2
          have hjl : us.length ≤ j := by
            rw [← hr.length]
            exact List.getElem?_eq_none_iff.mp ej
          have nb : Dn ∉ r1.bl := fun z => hm1.off hDn (.inr z)
          refine .inl ⟨⟨us, SqL.of hu, hjl⟩, hg2 (r2.hold Dn) H2 (.ref Dn) (hx.hold hbl hDn) (hm2.hold hbl hD2 hacc nb) (.ref ?_)⟩
          show (r2.ix ++ [some Dn])[m2.length]? = _
          rw [← hm2.len, List.getElem?_append_right (Nat.le_refl _)]
          simp
        | some d =>
          rw [ej] at hg2
          obtain ⟨w, hw, rw'⟩ := hr.get ej
          refine .inr ⟨⟨us, w, SqL.of hu, hw⟩, fun H' => ∃ r3 m3 acc vacc, MemOk c r3 H' m3 ∧ EnvOk c r3 H' env s ∧ H' Dn = some (.lst vacc) ∧ r3.bl = Dn :: r1.bl ∧ Ext r1 H1 r3.unblk H' ∧ Reps c r3 H' acc vacc ∧
            G c W (Rep c) s r1 H1 ((lcR io gg f (wipeE env vs) k (j + 1) acc m3).bind0 fun l m2 => .ok (.ref m2.length) (m2 ++ [Ob.lst l])) Q, fun H' h => ⟨k, Nat.lt_succ_self k, h⟩, fun x H3 hy => ?_⟩
          obtain ⟨rfl, hy2⟩ := hy
          have ex : x = w := by
            have := hy2 us (SqL.of hu)
            rw [hw] at this
            exact (Option.some.inj this).symm
          subst ex
          replace hg2 : G c W (Rep c) s r1 H1 ((match gg (wipeE env vs) d with
            | none => Out.bad
            | some e1 => (f e1 m2).bind0 fun x m3 => if acc.length < 1000000 then lcR io gg f (wipeE env vs) k (j + 1) (acc ++ [x]) m3 else .bad).bind0 fun l m2 => .ok (.ref m2.length) (m2 ++ [Ob.lst l])) Q := hg2
          cases qe1 : gg (wipeE env vs) d with
          | none => rw [qe1] at hg2; exact hg2.elim
          | some e1 =>
            rw [qe1] at hg2
            refine qg r2 H3 _ e1 _ d _ _ (he2.wipe vs) rw' qe1 fun s3 he4 hw4 => ⟨?_, ?_⟩
            · rw [hw4 vs hsub]
              refine List.ext_getElem? fun y => ?_
              rw [wipe_get, wipe_get, wipe_length]
              by_cases q : y ∈ vs ∧ y < s.length
              · rw [if_pos q, if_pos q]
              · rw [if_neg q, if_neg q]
            · refine qt r2 H3 m2 e1 s3 _ hm2 he4 fun r5 H5 b x5 hm5 eb => ?_
              cases eb
              refine iteT ?_
              have hg6 : G c W (Rep c) s r1 H1 ((f e1 m2).bind0 fun x m3 => (if acc.length < 1000000 then lcR io gg f (wipeE env vs) k (j + 1) (acc ++ [x]) m3 else .bad).bind0 fun l m2 => .ok (.ref m2.length) (m2 ++ [Ob.lst l])) Q := by
                cases q : f e1 m2 with
                | ok b m' => simpa [q] using hg2
                | er y m' => simp [q] at hg2; exact hg2.elim
                | bad => simp [q] at hg2; exact hg2.elim
              have hbl5 : r5.bl = Dn :: r1.bl := x5.bl.trans hbl
              have hx5 := hx.under hbl hDn x5
              have hD5 := x5.keepB Dn (by rw [hbl]; exact List.mem_cons_self) _ hD2
              refine qe r5 H5 m2 e1 s3 _ hm5 (he4.ext x5) (G.bind0 hg6 fun y m7 r7 H7 yv x7 hm7 q7 hg7 => ?_)
              split at hg7
              · rename_i hl
                have hbl7 : r7.bl = Dn :: r1.bl := x7.bl.trans hbl5
                have hin : Dn ∈ r7.bl := by rw [hbl7]; exact List.mem_cons_self
                have hD7 := x7.keepB Dn (by rw [hbl5]; exact List.mem_cons_self) _ hD5
                have hx7 := hx5.under hbl5 hDn x7
                have xs := x5.trans x7
                have wr := Le.putO (H := H7) (o := .lst (vacc ++ [yv])) (show r7.Own Dn from .inr hin)
                exact ⟨vacc, hD7, by rw [← hacc.length]; exact Nat.lt_of_lt_of_le hl (by decide), r7, m7, acc ++ [y], vacc ++ [yv], hm7.putB hin, (he2.ext xs).le wr, upd_same, hbl7, hx7.wrote hDn, ((hacc.ext xs).append (.cons q7 .nil)).le wr, hg7⟩
              · exact hg7.elim
      | _ => exact hg2.elim
theorem ex_lcRO {n : Nat} (hc : X.calm = true) (hK : X.K = c.K) (hN : X.N.Nodup) (hi : EX c X W iter fi) (ok : BlkOk X.N X.env.scope scope own) (hg : ∀ s H C cl fp, TgX c (BK X scope s H C cl fp) tg isg gg)
    (he : ∀ s H C cl fp, EX c (BK X scope s H C cl fp) W0 elt f) (hsub : ∀ i ∈ isg, i ∈ own.map (·.2) := by decide) (hs : ∀ x, foldedSetIterable iter X.env x = pure x := by intro _; rfl) : EX c X W (.ListComp elt [⟨tg, iter, [], 0⟩] scope pos) (sLcRO n (own.map (·.2)) fi gg f) := by
  obtain ⟨ti, pi, qi⟩ := hi
  refine ⟨_, pe_lc hc hN (pi_list pi) ok (fun s H C cl fp => (hg s H C cl fp).pg) (fun s H C cl fp => (ts_nil (c := c) (W := W0)).pts) (fun s H C cl fp => (he s H C cl fp).pe) hs, ?_⟩
  rw [hK]
  exact lcRO_sound hsub qi (fun r H env e1 s d v Q h1 h2 h3 h4 => ⟨r, env, e1, d, h1, h2, h3, h4⟩) (fun r H m env s Q h1 h2 h3 => ⟨r, m, env, h1, h2, h3⟩) (fun r H m env s Q h1 h2 h3 => ⟨r, m, env, h1, h2, h3⟩)
end
/-- a def's outcome, with all that it has made -/
def finK (o : SO) : Out D := match o with
  | .rt d m => .ok d m
  | .nx _ m => .ok .non m
  | .er x _ m => .er x m
  | _ => .bad
def defSemK (np nn : Nat) (f : Ev → Mem → SO) : List D → Mem → Out D := fun ds m => if ds.length = np then finK (f (ds.map some ++ List.replicate (nn - np) none) m) else .bad
theorem finK_sound {c : Cn} {s : L2.St} {r : Rh} {H : Hp} {E : XK} {o : SO} {Q : VK} (h : G c (fun cls d _ H => E cls d H) (Rep c) s r H (finK o) Q) : GS c (fun cls d _ H => E cls d H) r H o { nx := fun _ H' => Q .non H', rt := Q } := by
  cases o with
  | rt d m => exact h
  | nx e m => exact fun r1 H1 s1 x hm he => h r1 H1 .non x hm .non
  | er x e m => exact fun r1 H1 s1 x hm he => h r1 H1 x hm
  | bk e m => exact h.elim
  | ct e m => exact h.elim
  | bad => exact h.elim
section
variable {P : Program} {w : World} {K : PySem.W.Frag} {mg : Str → Option Value} {base : Heap} {c : Cn}
theorem fn_semK {x qual : Str} {st : Stmt} {f : Addr} {fd : FuncData} {N ps : List Str} {k : Nat} {g : Ev → Mem → SO} (F : Fun K x qual st f fd) (S : FnScope N ps (defScope st))
    (hb : ∀ (cdv : Value) (A : Around) (outer : List PySem.Env) (s : Shared) (H : Hp) (E : XK), Room k (A.deeper (envOfC qual (defScope st) s.heap.objs.size f cdv)) →
      BX c (XB P w K mg base N qual (defScope st) f cdv A outer s H E) (fun cls d _ H => E cls d H) (defBody st) g) :
    FnOk P w K mg base (L2.CX P w) (k + 1) f fd ps (spD c ps.length (defSemK ps.length N.length g)) := by
  refine F.okX S (fun vs H Q E h => ?_) (fun cdv A outer s H vs Q E hr h => ?_)
  · obtain ⟨r, m, ds, h1, _⟩ := h
    exact h1
  · obtain ⟨r, m, ds, h1, hm, hq, hg⟩ := h
    obtain ⟨t, p, q⟩ := hb cdv A outer s H E hr
    refine ⟨t, p, ?_⟩
    unfold defSemK at hg
    split at hg
    · rename_i hl
      have hpl : ps.length ≤ N.length := by have := congrArg List.length S.pre; rw [List.length_take] at this; omega
      rw [← hl] at hg
      refine q r H m _ _ _ hm (env_start hq (by omega)) (finK_sound (s := []) hg)
    · exact hg.elim
theorem fn_mk3K {x qual : Str} {st : Stmt} {sc : Scope} {bd : List Stmt} {f : Addr} {fd : FuncData} {N ps : List Str} {k np nn : Nat} {g : Ev → Mem → SO} (F : Fun c.K x qual st f fd) (es : defScope st = sc) (eb : defBody st = bd) (S : FnScope N ps sc)
    (hb : ∀ (cdv : Value) (A : Around) (outer : List PySem.Env) (s : Shared) (H : Hp) (E : XK), Room k (A.deeper (envOfC qual sc s.heap.objs.size f cdv)) →
      BX c (XB P w c.K mg base N qual sc f cdv A outer s H E) (fun cls d _ H => E cls d H) bd g) (hp : ps.length = np := by rfl) (hn : N.length = nn := by rfl) :
    FnOk P w c.K mg base (L2.CX P w) (k + 1) f fd ps (spD c ps.length (defSemK np nn g)) := by
  subst es eb hp hn
  exact fn_semK F S hb
end
end Sz

namespace Sz
open PySem PySem.Spec PyProof.Rows L2
/-! ## a for over a list that is owned: its items are read anew in each turn -/
def forR (i : Nat) (g : Ev → D → Option Ev) (body : Ev → Mem → SO) : Nat → Nat → Ev → Mem → SO
  | 0, _, _, _ => .bad
  | k + 1, j, e, m => match m[i]? with
    | some (.lst l) => (match l[j]? with
      | none => .nx e m
      | some d => (match g e d with
        | none => .bad
        | some e1 => (match body e1 m with
          | .nx e2 m2 => forR i g body k (j + 1) e2 m2
          | .ct e2 m2 => forR i g body k (j + 1) e2 m2
          | .bk e2 m2 => .nx e2 m2
          | o => o)))
    | _ => .bad
def kForR (n : Nat) (fi : Ev → Mem → Out D) (g : Ev → D → Option Ev) (body : Ev → Mem → SO) : Ev → Mem → SO := fun e m => (fi e m).thn e fun d m1 => match d with
  | .ref i => forR i g body n 0 e m1
  | _ => .bad
section
variable {c : Cn} {X : Cx} {W : WX} {pos : Pos}
theorem sx_forR {n : Nat} {tg iter : Expr} {body : List Stmt} {fi : Ev → Mem → Out D} {f : Ev → Mem → SO} {gg : Ev → D → Option Ev} {isg : List Nat} (hp : PassesOwn (model X.prog X.w) X.A X.env X.xe) (hc : X.calm = true) (hi : EX c X W iter fi) (hg : TgX c X tg isg gg) (hb : BX c X W body f)
    (hs : ∀ x, foldedSetIterable iter X.env x = pure x := by intro _; rfl) : SX c X W (.For tg iter body [] pos) (kForR n fi gg f) := by
  obtain ⟨ti, pi, qi⟩ := hi
  obtain ⟨tg', pg, qg⟩ := hg
  obtain ⟨tb, pb, qb⟩ := hb
  refine ⟨_, ps_for hp hc (pi_list pi) pg pb hs, fun r H m env s Dn hm he hg => ?_⟩
  refine qi r H m env s _ hm he (G.thn he hg fun d0 m1 r1 H1 v x1 hm1 q1 hg1 => ?_)
  split at hg1
  case h_2 => exact hg1.elim
  rename_i io
  have st0 : ∃ l, m1[io]? = some (.lst l) := by
    cases n with
    | zero => exact hg1.elim
    | succ n =>
      unfold forR at hg1
      cases e : m1[io]? with
      | none => rw [e] at hg1; exact hg1.elim
      | some o =>
        rw [e] at hg1
        cases o with
        | lst l => exact ⟨l, rfl⟩
        | _ => exact hg1.elim
  obtain ⟨l0, el0⟩ := st0
  obtain ⟨a, vs0, ia, rfl, ha, hr0⟩ := ref_lst hm1 q1 el0
  refine ⟨a, rfl, ⟨vs0, SqL.of ha⟩, ?_⟩
  have now : ∀ {r2 : Rh} {H2 : Hp} {m2 : Mem} {l : List D}, Ext r1 H1 r2 H2 → MemOk c r2 H2 m2 → m2[io]? = some (.lst l) → ∃ us, H2 a = some (.lst us) ∧ Reps c r2 H2 l us := by
    intro r2 H2 m2 l x hm2 e
    obtain ⟨b, us, h1, h2, h3⟩ := hm2.lst e
    rcases x.ix io _ ia with z | z
    · rw [h1] at z
      cases z
      exact ⟨us, h2, h3⟩
    · rw [h1] at z
      cases z
  refine ⟨fun j k s1 H2 => ∃ r2 m2 e2, Ext r1 H1 r2 H2 ∧ MemOk c r2 H2 m2 ∧ EnvOk c r2 H2 e2 s1 ∧ GS c W r2 H2 (forR io gg f k j e2 m2) Dn, ⟨n, r1, m1, env, Ext.refl _ _, hm1, he.ext x1, hg1⟩, ?_⟩
  rintro j k s1 H2 ⟨r2, m2, e2, hx, hm2, he2, hg2⟩
  cases k with
  | zero => exact hg2.elim
  | succ k =>
    unfold forR at hg2
    cases em : m2[io]? with
    | none => rw [em] at hg2; exact hg2.elim
    | some o =>
      rw [em] at hg2
      cases o with
      | lst l =>
        obtain ⟨us, hu, hr⟩ := now hx hm2 em
        replace hg2 : GS c W r2 H2 (match l[j]? with
          | none => .nx e2 m2
          | some d => (match gg e2 d with
            | none => .bad
            | some e1 => (match f e1 m2 with
              | .nx e2 m2 => forR io gg f k (j + 1) e2 m2
              | .ct e2 m2 => forR io gg f k (j + 1) e2 m2
              | .bk e2 m2 => .nx e2 m2
              | o => o))) Dn := hg2
        cases ej : l[j]? with
        | none =>
          rw [ej] at hg2
          have hjl : us.length ≤ j := by
            rw [← hr.length]
            exact List.getElem?_eq_none_iff.mp ej
          exact .inl ⟨⟨us, SqL.of hu, hjl⟩, hg2 r2 H2 s1 (Ext.refl _ _) hm2 he2⟩
        | some d =>
          rw [ej] at hg2
          obtain ⟨w, hw, rw'⟩ := hr.get ej
          refine .inr ⟨⟨us, w, SqL.of hu, hw⟩, fun s' H' => ∃ r3 m3 e3, Ext r1 H1 r3 H' ∧ MemOk c r3 H' m3 ∧ EnvOk c r3 H' e3 s' ∧ GS c W r3 H' (forR io gg f k (j + 1) e3 m3) Dn, fun s' H' h => ⟨k, Nat.lt_succ_self k, h⟩, fun x H3 hy => ?_⟩
          obtain ⟨rfl, hy2⟩ := hy
          have ex : x = w := by
            have := hy2 us (SqL.of hu)
            rw [hw] at this
            exact (Option.some.inj this).symm
          subst ex
          replace hg2 : GS c W r2 H3 (match gg e2 d with
            | none => .bad
            | some e1 => (match f e1 m2 with
              | .nx e2 m2 => forR io gg f k (j + 1) e2 m2
              | .ct e2 m2 => forR io gg f k (j + 1) e2 m2
              | .bk e2 m2 => .nx e2 m2
              | o => o)) Dn := hg2
          cases qe : gg e2 d with
          | none => rw [qe] at hg2; exact hg2.elim
          | some e3 =>
            rw [qe] at hg2
            refine qg r2 H3 e2 e3 s1 d x _ he2 rw' qe fun s3 he3 _ => ?_
            refine qb r2 H3 m2 e3 s3 _ hm2 he3 ?_
            have hg3 : GS c W r2 H3 (match f e3 m2 with
              | .nx e2 m2 => forR io gg f k (j + 1) e2 m2
              | .ct e2 m2 => forR io gg f k (j + 1) e2 m2
              | .bk e2 m2 => .nx e2 m2
              | o => o) Dn := hg2
            cases q : f e3 m2 with
            | nx e4 m4 => rw [q] at hg3; exact fun r' H' s' x y z => ⟨r', m4, e4, hx.trans x, y, z, GS.mono x hg3⟩
            | ct e4 m4 => rw [q] at hg3; exact fun r' H' s' x y z => ⟨r', m4, e4, hx.trans x, y, z, GS.mono x hg3⟩
            | bk e4 m4 => rw [q] at hg3; exact hg3
            | rt d4 m4 => rw [q] at hg3; exact hg3
            | er x4 e4 m4 => rw [q] at hg3; exact hg3
            | bad => rw [q] at hg3; exact hg3
      | _ => exact hg2.elim
end
end Sz

namespace Sz
open PySem PySem.Spec PyProof.Rows L2
/-! ## tuple(zip(a text, a list)) -/
section
variable {prog : Program} {w : World} {A : Around} {E : Value → Shared → Prop} {s : Shared} {z TI TO T i1 i2 : Addr} {f : Bool} {oT : Obj} {fp1 fp2 : List Addr} {n1 n2 i : Nat} {P1 P2 : Nat → Value → Prop} {St1 St2 : Nat → Heap → Prop}
theorem zipD2_item_held {Q : Value → Shared → Prop} (S : ZipSep2 z TI TO i1 i2 fp1 fp2) (D1 : Draws prog w A i1 fp1 n1 P1 St1) (D2 : Draws prog w A i2 fp2 n2 P2 St2)
    (hz : IsZipHeld s.heap z TI TO T f) (hT : s.heap.get? T = some oT) (hTI : IsTupOf2 s.heap TI (.ref i1) (.ref i2)) (st1 : St1 i s.heap) (st2 : St2 i s.heap) (lt1 : i < n1) (lt2 : i < n2)
    (hQ : ∀ x1 x2 h' tk, P1 i x1 → P2 i x2 → IsZipHeld h' z TI TO T true → St1 (i + 1) h' → St2 (i + 1) h' → IsTupOf2 h' s.heap.objs.size x1 x2 → h'.objs.size = s.heap.objs.size + 1 →
      (∀ c o, c ≠ z → c ≠ i1 → c ≠ i2 → s.heap.get? c = some o → h'.get? c = some o) → Q (.ref s.heap.objs.size) { s with heap := h', toks := tk }) :
    wpAny (model prog w) A (Builtin.«zip.__next__» ⟨[.ref z], []⟩) (fun fin s' => ∃ v, fin = .done (.ret v) ∧ Q v s') E s := by
  obtain ⟨hp, g, d, tk0, os⟩ := s
  show wpAny _ _ (field (.ref z) 2 >>= _) _ _ _
  refine wpAny_bind (wpAny_field hz rfl (x := .bool false) rfl ?_)
  show wpAny _ _ (field (.ref z) 3 >>= _) _ _ _
  refine wpAny_bind (wpAny_field hz rfl (x := .ref TI) rfl ?_)
  refine wpAny_bind (wpAny_seqItems hTI rfl ?_)
  show wpAny _ _ (Builtin.SmallTypes.ownedTupleIsFree (.ref z) >>= _) _ _ _
  refine wpAny_bind (wpAny_tupleHeld_zip hz hT fun h₁ hz₁ hs₁ => ?_)
  simp only [Bool.false_eq_true, if_false]
  refine wpAny_bind ?_
  rw [← Array.forIn_toList]
  simp only [List.forIn_cons, List.forIn_nil]
  refine wpAny_bind (wpAny_bind (wpAny_holding ?_))
  show wpAny _ _ (Builtin.SmallTypes.nextOf (.ref i1) >>= _) _ _ ⟨h₁, g, d, tk0, os⟩
  refine wpAny_bind (D1.item i _ _ _ lt1 (D1.over st1 hs₁ S.zf1) fun x1 p1 tk1 hx1 sn1 hp1 => wpAny_pure ?_)
  replace hp1 : Heap.SameBut i1 h₁ p1 := hp1
  replace hs₁ : Heap.SameBut z hp h₁ := hs₁
  refine wpAny_pure ?_
  refine wpAny_bind (wpAny_bind (wpAny_holding ?_))
  show wpAny _ _ (Builtin.SmallTypes.nextOf (.ref i2) >>= _) _ _ ⟨p1, g, d, tk1, os⟩
  refine wpAny_bind (D2.item i _ _ _ lt2 (D2.over (D2.over st2 hs₁ S.zf2) hp1 S.sep1_2) fun x2 p2 tk2 hx2 sn2 hp2 => wpAny_pure ?_)
  replace hp2 : Heap.SameBut i2 p1 p2 := hp2
  refine wpAny_pure (wpAny_pure ?_)
  show wpAny _ _ (newTuple [x1, x2] >>= _) _ _ ⟨p2, g, d, tk2, os⟩
  refine wpAny_bind (wpAny_newTuple ?_)
  have hsz : p2.objs.size = hp.objs.size := by rw [hp2.1, hp1.1, hs₁.1]
  have hz₃ : IsZipHeld p2 z TI TO T true := hp2.extBut _ _ S.zi2 (hp1.extBut _ _ S.zi1 hz₁)
  have hk : ∀ c o, c ≠ z → c ≠ i1 → c ≠ i2 → hp.get? c = some o → p2.get? c = some o := fun c o c1 c2 c3 e => hp2.extBut _ _ c3 (hp1.extBut _ _ c2 (hs₁.extBut _ _ c1 e))
  have h1₃ : St1 (i + 1) p2 := D1.over sn1 hp2 S.sep2_1
  refine wpAny_pure ⟨_, rfl, ?_⟩
  show Q (.ref p2.objs.size) ⟨p2.push { cls := .type "tuple", data := .seq #[x1, x2] }, g, d, tk2, os⟩
  have hpr : IsTupOf2 (p2.push { cls := .type "tuple", data := .seq #[x1, x2] }) p2.objs.size x1 x2 := Heap.get?_push_size _ rfl
  have hz4 : (p2.push { cls := .type "tuple", data := .seq #[x1, x2] }).objs.size = p2.objs.size + 1 := Heap.size_push ..
  rw [hsz] at hpr hz4 ⊢
  exact hQ x1 x2 _ tk2 hx1 hx2 (Heap.get?_push_of_some _ hz₃) (D1.frame _ _ _ h1₃ fun b _ o e => Heap.get?_push_of_some _ e) (D2.frame _ _ _ sn2 fun b _ o e => Heap.get?_push_of_some _ e) hpr hz4 fun c o c1 c2 c3 e => Heap.get?_push_of_some _ (hk c o c1 c2 c3 e)
theorem zipD2_end_held {Q : Fin → Shared → Prop} (S : ZipSep2 z TI TO i1 i2 fp1 fp2) (D1 : Draws prog w A i1 fp1 n1 P1 St1) (D2 : Draws prog w A i2 fp2 n2 P2 St2)
    (hz : IsZipHeld s.heap z TI TO T f) (hT : s.heap.get? T = some oT) (hTI : IsTupOf2 s.heap TI (.ref i1) (.ref i2)) (st1 : St1 i s.heap) (st2 : St2 i s.heap) (le1 : i ≤ n1) (le2 : i ≤ n2) (hend : i = n1 ∨ i = n2)
    (hE : ∀ h' tk e, (∀ c o, c ≠ z → c ≠ i1 → c ≠ i2 → s.heap.get? c = some o → h'.get? c = some o) → (∃ o, h'.get? e = some o ∧ o.cls = .type "StopIteration") → E (.ref e) { s with heap := h', toks := tk }) :
    wpAny (model prog w) A (Builtin.«zip.__next__» ⟨[.ref z], []⟩) Q E s := by
  obtain ⟨hp, g, d, tk0, os⟩ := s
  show wpAny _ _ (field (.ref z) 2 >>= _) _ _ _
  refine wpAny_bind (wpAny_field hz rfl (x := .bool false) rfl ?_)
  show wpAny _ _ (field (.ref z) 3 >>= _) _ _ _
  refine wpAny_bind (wpAny_field hz rfl (x := .ref TI) rfl ?_)
  refine wpAny_bind (wpAny_seqItems hTI rfl ?_)
  show wpAny _ _ (Builtin.SmallTypes.ownedTupleIsFree (.ref z) >>= _) _ _ _
  refine wpAny_bind (wpAny_tupleHeld_zip hz hT fun h₁ hz₁ hs₁ => ?_)
  simp only [Bool.false_eq_true, if_false]
  refine wpAny_bind ?_
  rw [← Array.forIn_toList]
  simp only [List.forIn_cons, List.forIn_nil]
  replace hs₁ : Heap.SameBut z hp h₁ := hs₁
  refine wpAny_bind (wpAny_bind (wpAny_holding ?_))
  show wpAny _ _ (Builtin.SmallTypes.nextOf (.ref i1) >>= _) _ _ ⟨h₁, g, d, tk0, os⟩
  by_cases q1 : i = n1
  · refine wpAny_bind (D1.done ⟨h₁, g, d, tk0, os⟩ _ _ (q1 ▸ D1.over st1 hs₁ S.zf1) fun h₂ e hs₂ he => ?_)
    exact hE h₂ tk0 e (fun c o c1 c2 _ x => hs₂ _ _ c2 (hs₁.extBut _ _ c1 x)) he
  · refine wpAny_bind (D1.item i _ _ _ (by omega) (D1.over st1 hs₁ S.zf1) fun x1 p1 tk1 hx1 sn1 hp1 => wpAny_pure ?_)
    replace hp1 : Heap.SameBut i1 h₁ p1 := hp1
    refine wpAny_pure ?_
    refine wpAny_bind (wpAny_bind (wpAny_holding ?_))
    show wpAny _ _ (Builtin.SmallTypes.nextOf (.ref i2) >>= _) _ _ ⟨p1, g, d, tk1, os⟩
    have q2 : i = n2 := by omega
    refine wpAny_bind (D2.done ⟨p1, g, d, tk1, os⟩ _ _ (q2 ▸ D2.over (D2.over st2 hs₁ S.zf2) hp1 S.sep1_2) fun h₃ e hs₃ he => ?_)
    exact hE h₃ tk1 e (fun c o c1 c2 c3 x => hs₃ _ _ c3 (hp1.extBut _ _ c2 (hs₁.extBut _ _ c1 x))) he
theorem pyNext_zipD2_item_held {Q : Option Value → Shared → Prop} (S : ZipSep2 z TI TO i1 i2 fp1 fp2) (D1 : Draws prog w A.in1 i1 fp1 n1 P1 St1) (D2 : Draws prog w A.in1 i2 fp2 n2 P2 St2)
    (hz : IsZipHeld s.heap z TI TO T f) (hT : s.heap.get? T = some oT) (hTI : IsTupOf2 s.heap TI (.ref i1) (.ref i2)) (st1 : St1 i s.heap) (st2 : St2 i s.heap) (lt1 : i < n1) (lt2 : i < n2)
    (hQ : ∀ x1 x2 h' tk, P1 i x1 → P2 i x2 → IsZipHeld h' z TI TO T true → St1 (i + 1) h' → St2 (i + 1) h' → IsTupOf2 h' s.heap.objs.size x1 x2 → h'.objs.size = s.heap.objs.size + 1 →
      (∀ c o, c ≠ z → c ≠ i1 → c ≠ i2 → s.heap.get? c = some o → h'.get? c = some o) → Q (some (.ref s.heap.objs.size)) { s with heap := h', toks := tk }) :
    wpAny (model prog w) A (pyNext (.ref z)) Q E s := by
  have hTy : s.TypeIs (.ref z) "zip" := ⟨_, hz, rfl⟩
  unfold pyNext
  exact wpAny_bind (wpAny_attempt (wpAny_callSpecial?_slot (name := Str.ofString "__next__") hTy F.slot_zip_next
    (wpAny_call_entry F.slot_zip_next hTy F.entry_zip_next
      (zipD2_item_held S D1 D2 hz hT hTI st1 st2 lt1 lt2 fun x1 x2 h' tk a1 a2 a3 a4 a5 a6 a7 a8 => wpAny_pure (hQ x1 x2 h' tk a1 a2 a3 a4 a5 a6 a7 a8)) (F.args_zip_next_1 _))))
theorem pyNext_zipD2_end_held {Q : Option Value → Shared → Prop} (S : ZipSep2 z TI TO i1 i2 fp1 fp2) (D1 : Draws prog w A.in1 i1 fp1 n1 P1 St1) (D2 : Draws prog w A.in1 i2 fp2 n2 P2 St2)
    (hz : IsZipHeld s.heap z TI TO T f) (hT : s.heap.get? T = some oT) (hTI : IsTupOf2 s.heap TI (.ref i1) (.ref i2)) (st1 : St1 i s.heap) (st2 : St2 i s.heap) (le1 : i ≤ n1) (le2 : i ≤ n2) (hend : i = n1 ∨ i = n2)
    (hQ : ∀ h' tk, (∀ c o, c ≠ z → c ≠ i1 → c ≠ i2 → s.heap.get? c = some o → h'.get? c = some o) → Q none { s with heap := h', toks := tk }) : wpAny (model prog w) A (pyNext (.ref z)) Q E s := by
  have hTy : s.TypeIs (.ref z) "zip" := ⟨_, hz, rfl⟩
  unfold pyNext
  refine wpAny_bind (wpAny_attempt (wpAny_callSpecial?_slot (name := Str.ofString "__next__") hTy F.slot_zip_next
    (wpAny_call_entry F.slot_zip_next hTy F.entry_zip_next (zipD2_end_held S D1 D2 hz hT hTI st1 st2 le1 le2 hend fun h' tk e hk he => ?_) (F.args_zip_next_1 _))))
  obtain ⟨o, ho, hc⟩ := he
  refine wpAny_bind (wpAny_isInstance (T := "StopIteration") (b := true) ⟨o, ho, hc⟩ isSubtype_stop ?_)
  exact wpAny_pure (hQ _ _ hk)
end
/-! ## the state of such a zip -/
structure ZT (h : Heap) (z TI TO i1 i2 l2 : Addr) (x : Str) (t : Tok) (i : Nat) : Prop where
  zip : ZipSt h z TI TO
  pair : IsPair h TI (.ref i1) (.ref i2)
  a1 : h.IsStrIter i1 (strIterType x) x t i
  a2 : h.IsListIter i2 l2 i
  to : ∃ o, h.get? TO = some o
theorem strIt_at {h h' : Heap} {a : Addr} {ty : String} {x : Str} {t : Tok} {i : Nat} (y : h.IsStrIter a ty x t i) (k : ∀ o, h.get? a = some o → h'.get? a = some o) : h'.IsStrIter a ty x t i := by
  obtain ⟨o, ho, r⟩ := y
  exact ⟨o, k o ho, r⟩
theorem ZT.at {h h' : Heap} {z TI TO i1 i2 l2 S : Addr} {x : Str} {t : Tok} {i : Nat} (y : ZT h z TI TO i1 i2 l2 x t i) (k : ∀ b o, b ≠ S → h.get? b = some o → h'.get? b = some o) (kS : ∃ o, h'.get? S = some o) (n1 : S ≠ z) (n2 : S ≠ TI) (n3 : S ≠ TO) (n4 : S ≠ i1) (n5 : S ≠ i2) : ZT h' z TI TO i1 i2 l2 x t i where
  zip := by
    rcases y.zip with ⟨h1, u, v, h2⟩ | ⟨T, f, o, h1, h2⟩
    · exact .inl ⟨k _ _ (Ne.symm n1) h1, u, v, k _ _ (Ne.symm n3) h2⟩
    · by_cases e : T = S
      · obtain ⟨o', ho'⟩ := kS
        exact .inr ⟨T, f, o', k _ _ (Ne.symm n1) h1, e ▸ ho'⟩
      · exact .inr ⟨T, f, o, k _ _ (Ne.symm n1) h1, k _ _ e h2⟩
  pair := k _ _ (Ne.symm n2) y.pair
  a1 := strIt_at y.a1 fun o q => k _ _ (Ne.symm n4) q
  a2 := y.a2.at fun o q => k _ _ (Ne.symm n5) q
  to := y.to.imp fun o q => k _ _ (Ne.symm n3) q
section
variable {X : Cx} {pins : List (Addr × Obj)} {σ : L2.St}
theorem zipT_next1 {A : Around} {E : Value → Shared → Prop} {s : Shared} {z TI TO i1 i2 l2 : Addr} {x : Str} {t : Tok} {i ch : Nat} {vs : Array Value} {v : Value} {Q : Option Value → Shared → Prop} (hh : A.handled = none) (D : ZipSep2 z TI TO i1 i2 [i1] [i2, l2]) (nl : l2 ≠ i2) (Z : ZT s.heap z TI TO i1 i2 l2 x t i)
    (hl2 : s.heap.IsList l2 vs) (hu : x.cps[i]? = some ch) (hv : vs[i]? = some v)
    (hQ : ∀ h' tk u, ZT h' z TI TO i1 i2 l2 x t (i + 1) → IsPair h' s.heap.objs.size (.str ⟨#[ch]⟩ u) v → (∀ b o, b ∉ [z, TI, TO, i1, i2] → s.heap.get? b = some o → h'.get? b = some o) → Q (some (.ref s.heap.objs.size)) { s with heap := h', toks := tk }) :
    wpAny (model X.prog X.w) A (pyNext (.ref z)) Q E s := by
  have D1 := Draws.text (prog := X.prog) (w := X.w) (A := A.in1) hh i1 x t
  have D2 := Draws.list (prog := X.prog) (w := X.w) (A := A.in1) hh i2 l2 nl vs
  have lt1 : i < x.cps.size := by
    rcases Nat.lt_or_ge i x.cps.size with h | h
    · exact h
    · rw [Array.getElem?_eq_none h] at hu; cases hu
  have lt2 : i < vs.size := by
    rcases Nat.lt_or_ge i vs.size with h | h
    · exact h
    · rw [Array.getElem?_eq_none h] at hv; cases hv
  rcases Z.zip with ⟨h1, a, b, h2⟩ | ⟨T, f, o, h1, h2⟩
  · refine wpAny_pyNext_zipD2_item D D1 D2 h1 Z.pair h2 Z.a1 ⟨Z.a2, hl2⟩ lt1 lt2 fun x1 x2 h' tk p1 p2 z' TO' b1 b2 pr sz k => ?_
    obtain ⟨c, u, e1, rfl⟩ := p1
    rw [hu] at e1
    cases e1
    rw [hv] at p2
    cases p2
    refine hQ h' tk u ⟨.inr ⟨_, false, _, z', pr⟩, k _ _ D.TIz D.TITO D.TIi1 D.TIi2 Z.pair, b1, b2.1, _, TO'⟩ pr fun b ob hb q => ?_
    exact k b ob (fun w => hb (by simp [w])) (fun w => hb (by simp [w])) (fun w => hb (by simp [w])) (fun w => hb (by simp [w])) q
  · refine pyNext_zipD2_item_held D D1 D2 h1 h2 Z.pair Z.a1 ⟨Z.a2, hl2⟩ lt1 lt2 fun x1 x2 h' tk p1 p2 z' b1 b2 pr sz k => ?_
    obtain ⟨c, u, e1, rfl⟩ := p1
    rw [hu] at e1
    cases e1
    rw [hv] at p2
    cases p2
    refine hQ h' tk u ⟨.inr ?_, k _ _ D.TIz D.TIi1 D.TIi2 Z.pair, b1, b2.1, Z.to.imp fun o q => k _ _ D.TOz D.Ti1 D.Ti2 q⟩ pr fun b ob hb q => ?_
    · have : ∃ o, h'.get? T = some o := by
        by_cases e1 : T = z
        · rw [e1]; exact ⟨_, z'⟩
        · by_cases e2 : T = i1
          · obtain ⟨o, ho, _⟩ := b1; exact ⟨o, e2 ▸ ho⟩
          · by_cases e3 : T = i2
            · obtain ⟨o, ho, _⟩ := b2.1; exact ⟨o, e3 ▸ ho⟩
            · exact ⟨o, k _ _ e1 e2 e3 h2⟩
      obtain ⟨o', ho'⟩ := this
      exact ⟨T, true, o', z', ho'⟩
    · exact k b ob (fun w => hb (by simp [w])) (fun w => hb (by simp [w])) (fun w => hb (by simp [w])) q
theorem zipT_next0 {A : Around} {E : Value → Shared → Prop} {s : Shared} {z TI TO i1 i2 l2 : Addr} {x : Str} {t : Tok} {i : Nat} {vs : Array Value} {Q : Option Value → Shared → Prop} (hh : A.handled = none) (D : ZipSep2 z TI TO i1 i2 [i1] [i2, l2]) (nl : l2 ≠ i2) (Z : ZT s.heap z TI TO i1 i2 l2 x t i)
    (hl2 : s.heap.IsList l2 vs) (le1 : i ≤ x.cps.size) (le2 : i ≤ vs.size) (hend : i = x.cps.size ∨ i = vs.size)
    (hQ : ∀ h' tk, (∀ b o, b ∉ [z, TI, TO, i1, i2] → s.heap.get? b = some o → h'.get? b = some o) → Q none { s with heap := h', toks := tk }) :
    wpAny (model X.prog X.w) A (pyNext (.ref z)) Q E s := by
  have D1 := Draws.text (prog := X.prog) (w := X.w) (A := A.in1) hh i1 x t
  have D2 := Draws.list (prog := X.prog) (w := X.w) (A := A.in1) hh i2 l2 nl vs
  rcases Z.zip with ⟨h1, a, b, h2⟩ | ⟨T, f, o, h1, h2⟩
  · refine wpAny_pyNext_zipD2_end D D1 D2 h1 Z.pair h2 Z.a1 ⟨Z.a2, hl2⟩ le1 le2 hend fun h' tk k => hQ h' tk fun b ob hb q => ?_
    exact k b ob (fun w => hb (by simp [w])) (fun w => hb (by simp [w])) (fun w => hb (by simp [w])) (fun w => hb (by simp [w])) q
  · refine pyNext_zipD2_end_held D D1 D2 h1 h2 Z.pair Z.a1 ⟨Z.a2, hl2⟩ le1 le2 hend fun h' tk k => hQ h' tk fun b ob hb q => ?_
    exact k b ob (fun w => hb (by simp [w])) (fun w => hb (by simp [w])) (fun w => hb (by simp [w])) q
/-- a list takes all that a zip gives -/
theorem take_zipT {A : Around} {R : Result → Shared → Prop} {S z TI TO i1 i2 l2 : Addr} {x : Str} {tx : Tok} {xs ys : List V} {H0 : Hp} {res : Value} (hh : A.handled = none) (D : ZipSep2 z TI TO i1 i2 [i1] [i2, l2]) (nl : l2 ≠ i2) (hxs : xs = x.cps.toList.map fun c => V.str ⟨#[c]⟩) (d : S ∉ [z, TI, TO, i1, i2]) (hz : min xs.length ys.length ≤ sizeLine) :
    ∀ (k i : Nat) (s : Shared) (acc : Array Value) (cap : Nat) (H : Hp) (ws : List V), min xs.length ys.length - i = k → i ≤ min xs.length ys.length → Inv X pins σ H s → (∀ b ∈ S :: [z, TI, TO, i1, i2], FpOk X pins H b) → Grown xs ys H0 i H ws → Vals ws acc.toList →
      SqL X.K H l2 ys → ZT s.heap z TI TO i1 i2 l2 x tx i → s.heap.get? S = some { cls := .type "list", dict := none, data := .seq acc cap, slots := #[] } → acc.size = i →
      (∀ s' acc' cap' H' ws', Inv X pins σ H' s' → (∀ b ∈ S :: [z, TI, TO, i1, i2], FpOk X pins H' b) → Grown xs ys H0 (min xs.length ys.length) H' ws' → Vals ws' acc'.toList → s'.heap.get? S = some { cls := .type "list", dict := none, data := .seq acc' cap', slots := #[] } → acc'.size = min xs.length ys.length → R (.ok (.ret res)) s') →
      codeAny (model X.prog X.w) A (.builtin "list.extend.loop" ⟨[.ref S, .ref z, res], []⟩) R s := by
  have dS : S ≠ z ∧ S ≠ TI ∧ S ≠ TO ∧ S ≠ i1 ∧ S ≠ i2 := by simpa using d
  obtain ⟨d1, d2, d3, d4, d5⟩ := dS
  intro k
  induction k with
  | zero =>
    intro i s acc cap H ws hk hi I hf g rv q2 Z hS ha hR
    have hin : i = min xs.length ys.length := by omega
    refine codeAny_builtin F.entry_extend_loop ?_
    rw [Around.under_plainId F.plain_extend_loop _]
    obtain ⟨vs, r2, p2, _⟩ := I.list q2
    have e1 : xs.length = x.cps.size := by rw [hxs, List.length_map, Array.length_toList]
    have e2 := r2.length
    show wpAny _ A.in1 (pyNext (.ref z) >>= _) _ _ s
    have e3 : vs.toArray.size = vs.length := List.size_toArray ..
    refine wpAny_bind (zipT_next0 (A := A.in1) hh D nl Z p2.isList (by omega) (by omega) (by omega) fun h' tk kk => ?_)
    · refine wpAny_pure (hR _ acc cap H ws (I.turnedL (t' := tk) (ch := [z, TI, TO, i1, i2]) (fun b o hb q => kk b o hb q) fun b hb => hf b (List.mem_cons_of_mem _ hb)) hf (hin ▸ g) rv (kk S _ d hS) (by omega))
  | succ k ih =>
    intro i s acc cap H ws hk hi I hf g rv q2 Z hS ha hR
    refine codeAny_builtin F.entry_extend_loop ?_
    rw [Around.under_plainId F.plain_extend_loop _]
    obtain ⟨vs, r2, p2, _⟩ := I.list q2
    have e1 : xs.length = x.cps.size := by rw [hxs, List.length_map, Array.length_toList]
    have e2 := r2.length
    obtain ⟨ch, hch⟩ : ∃ ch, x.cps[i]? = some ch := ⟨_, Array.getElem?_eq_getElem (by omega)⟩
    have hx : xs[i]? = some (V.str ⟨#[ch]⟩) := by rw [hxs, List.getElem?_map, Array.getElem?_toList, hch]; rfl
    obtain ⟨y, hy⟩ : ∃ y, ys[i]? = some y := ⟨_, List.getElem?_eq_getElem (by omega)⟩
    obtain ⟨v, hv, rw'⟩ := r2.get hy
    show wpAny _ A.in1 (pyNext (.ref z) >>= _) _ _ s
    refine wpAny_bind (zipT_next1 (A := A.in1) hh D nl Z p2.isList hch (by simpa using hv) fun h1 tk u Z1 pr kk => ?_)
    have hp : H s.heap.objs.size = none := I.hok.fresh (Nat.le_refl _)
    have new : ObjOk X.prog X.w (upd H s.heap.objs.size (.tup [V.str ⟨#[ch]⟩, y])) h1 s.heap.objs.size (.tup [V.str ⟨#[ch]⟩, y]) := ⟨by show 2 ≤ sizeLine; decide, [.str ⟨#[ch]⟩ u, v], .cons ⟨_, rfl⟩ (.cons rw' .nil), ⟨_, pr, rfl, _, rfl⟩⟩
    have I1 : Inv X pins σ (upd H s.heap.objs.size (.tup [V.str ⟨#[ch]⟩, y])) { s with heap := h1, toks := tk } := I.turnedNew (t' := tk) (ch := [z, TI, TO, i1, i2]) (fun b o hb q => kk b o hb q) (fun b hb => hf b (List.mem_cons_of_mem _ hb)) (Nat.le_refl _) new
    have lt : ∀ b, b ∈ S :: [z, TI, TO, i1, i2] → b < s.heap.objs.size := fun b hb => by
      have e' : b = S ∨ b = z ∨ b = TI ∨ b = TO ∨ b = i1 ∨ b = i2 := by simpa using hb
      rcases e' with w | w | w | w | w | w
      · exact w ▸ Heap.lt_size hS
      · rw [w]; rcases Z.zip with ⟨q, _⟩ | ⟨_, _, _, q, _⟩ <;> exact Heap.lt_size q
      · exact w ▸ Heap.lt_size Z.pair
      · obtain ⟨o, q⟩ := Z.to; exact w ▸ Heap.lt_size q
      · obtain ⟨_, q, _⟩ := Z.a1; exact w ▸ Heap.lt_size q
      · obtain ⟨_, q, _⟩ := Z.a2; exact w ▸ Heap.lt_size q
    have hf1 : ∀ b ∈ S :: [z, TI, TO, i1, i2], FpOk X pins (upd H s.heap.objs.size (.tup [V.str ⟨#[ch]⟩, y])) b := fun b hb => ⟨by rw [upd_ne (Nat.ne_of_lt (lt b hb))]; exact (hf b hb).1, (hf b hb).2⟩
    have hS1 := kk S _ d hS
    show wpAny _ A.in1 (updateSeq S (·.push (Value.ref s.heap.objs.size)) >>= _) _ _ _
    refine wpAny_bind (wpAny_updateSeq (s := { s with heap := h1, toks := tk }) hS1 rfl (wpAny_pure ⟨plainId_quiet F.plain_extend_loop _, ?_⟩) (by omega) (by show (acc.push _).size ≤ sizeLine + 1; rw [Array.size_push]; omega))
    have ks : ∀ b o, b ≠ S → h1.get? b = some o → (h1.update S (Obj.mapSeq (·.push (Value.ref s.heap.objs.size)))).get? b = some o := fun b o nb q => (Heap.get?_update_other _ _ (Ne.symm nb)).trans q
    have hS2 := Heap.get?_update_self (Obj.mapSeq (·.push (Value.ref s.heap.objs.size))) hS1 rfl
    refine ih (i + 1) _ (acc.push (Value.ref s.heap.objs.size)) _ _ (ws ++ [.ref s.heap.objs.size]) (by omega) (by omega) (I1.turnedL (t' := tk) (ch := [S]) (fun b o hb q => ks b o (by simpa using hb) q) fun b hb => hf1 b (by simp at hb; simp [hb])) hf1 (.snoc g hp hx hy) (by rw [Array.toList_push]; exact rv.append (.cons rfl .nil))
      (sqL_upd q2 hp) (Z1.at ks ⟨_, hS2⟩ d1 d2 d3 d4 d5) hS2 (by rw [Array.size_push]; omega) hR
theorem collect_zipT {A : Around} {E : Value → Shared → Prop} {s : Shared} {H : Hp} {z TI TO i1 i2 l2 : Addr} {x : Str} {tx : Tok} {xs ys : List V} {Q : List Value → Shared → Prop} (hh : A.handled = none) (D : ZipSep2 z TI TO i1 i2 [i1] [i2, l2]) (nl : l2 ≠ i2) (hxs : xs = x.cps.toList.map fun c => V.str ⟨#[c]⟩) (hz : min xs.length ys.length ≤ sizeLine)
    (I : Inv X pins σ H s) (hf : ∀ b ∈ [z, TI, TO, i1, i2], FpOk X pins H b) (q2 : SqL X.K H l2 ys) (Z : ZT s.heap z TI TO i1 i2 l2 x tx 0)
    (hQ : ∀ s' (acc : Array Value) H' ws, Inv X pins σ H' s' → Grown xs ys H (min xs.length ys.length) H' ws → Vals ws acc.toList → acc.size = min xs.length ys.length → Q acc.toList s') : wpAny (model X.prog X.w) A (collect (.ref z)) Q E s := by
  have lt : ∀ b, b ∈ [z, TI, TO, i1, i2] → b < s.heap.objs.size := fun b hb => by
    have e' : b = z ∨ b = TI ∨ b = TO ∨ b = i1 ∨ b = i2 := by simpa using hb
    rcases e' with w | w | w | w | w
    · rw [w]; rcases Z.zip with ⟨q, _⟩ | ⟨_, _, _, q, _⟩ <;> exact Heap.lt_size q
    · exact w ▸ Heap.lt_size Z.pair
    · obtain ⟨o, q⟩ := Z.to; exact w ▸ Heap.lt_size q
    · obtain ⟨_, q, _⟩ := Z.a1; exact w ▸ Heap.lt_size q
    · obtain ⟨_, q, _⟩ := Z.a2; exact w ▸ Heap.lt_size q
  have d : s.heap.objs.size ∉ [z, TI, TO, i1, i2] := fun hm => Nat.lt_irrefl _ (lt _ hm)
  have dz : s.heap.objs.size ≠ z := fun e => d (by simp [e])
  unfold collect
  refine wpAny_bind (wpAny_runValue (codeAny_builtin F.entry_proto_collect ?_))
  rw [Around.under_plainId F.plain_proto_collect _]
  show wpAny _ A.in1 (newList [] >>= fun li => again (.builtin "list.__iadd__" ⟨[li, .ref z], []⟩)) _ _ s
  refine wpAny_bind (wpAny_newObj_type ?_)
  refine wpAny_pure ⟨plainId_quiet F.plain_list_iadd _, codeAny_builtin F.entry_list_iadd ?_⟩
  rw [Around.under_plainId F.plain_list_iadd _]
  generalize hh1 : s.heap.push { cls := .type "list", data := .seq ([] : List Value).toArray } = hp1
  have hS1 : hp1.get? s.heap.objs.size = some { cls := .type "list", data := .seq ([] : List Value).toArray } := by rw [← hh1]; exact Heap.get?_push_size _ rfl
  have kp : ∀ b o, s.heap.get? b = some o → hp1.get? b = some o := fun b o q => by rw [← hh1]; exact Heap.get?_push_of_some _ q
  have Z1 : ZT hp1 z TI TO i1 i2 l2 x tx 0 := Z.at (S := s.heap.objs.size) (fun b o _ q => kp b o q) ⟨_, hS1⟩ (fun e => d (by simp [e])) (fun e => d (by simp [e])) (fun e => d (by simp [e])) (fun e => d (by simp [e])) (fun e => d (by simp [e]))
  have zty : ∀ hp : Heap, ZipSt hp z TI TO → Shared.TypeIs { s with heap := hp } (.ref z) "zip" := fun hp q => by
    rcases q with ⟨q, _⟩ | ⟨_, _, _, q, _⟩ <;> exact ⟨_, q, rfl⟩
  have hT := zty hp1 Z1.zip
  have ns : Builtin.List.listSameRef (.ref s.heap.objs.size) (.ref z) = false := by simp [Builtin.List.listSameRef, dz]
  show wpAny _ A.in1 (Builtin.List.listExtendWith (.ref s.heap.objs.size) (.ref z) (.ref s.heap.objs.size)) _ _ _
  unfold Builtin.List.listExtendWith
  refine wpAny_bind (wpAny_typeOf hT ?_)
  rw [if_neg (by rw [ns]; decide)]
  have self : ∀ {A2 : Around} {E2 : Value → Shared → Prop} {Q2 : Value → Shared → Prop}, Q2 (.ref z) { s with heap := hp1 } → wpAny (model X.prog X.w) A2 (pyIter (.ref z)) Q2 E2 { s with heap := hp1 } := fun q => by
    refine wpAny_pyIter_slot hT F.slot_zip_iter (wpAny_call_entry F.slot_zip_iter hT F.entry_zip_iter ?_ (F.args_zip_iter_1 _))
    show wpAny _ _ (ret (.ref z)) _ _ _
    exact wpAny_pure ⟨_, rfl, "zip", _, hT, F.slot_zip_next.lookup, q⟩
  refine wpAny_bind (self ?_)
  refine wpAny_bind (wpAny_holding ?_)
  unfold Builtin.List.listLengthHint
  refine wpAny_bind (wpAny_specialOf hT no_len_zip ?_)
  show wpAny _ A.in1 (specialOf (Value.ref z) (Str.ofString "__length_hint__") >>= _) _ _ _
  refine wpAny_bind (wpAny_specialOf hT no_hint_zip ?_)
  refine wpAny_pure ?_
  show wpAny _ A.in1 (rule "list.extend.makes-room" >>= fun _ => Builtin.List.listTouch (.ref s.heap.objs.size) >>= fun _ => again (.builtin "list.extend.loop" ⟨[.ref s.heap.objs.size, .ref z, .ref s.heap.objs.size], []⟩)) _ _ _
  refine wpAny_bind (wpAny_rule (wpAny_bind ?_))
  show wpAny _ A.in1 (updateSeq s.heap.objs.size (·.push .none) >>= fun _ => updateSeq s.heap.objs.size (·.pop)) _ _ _
  refine wpAny_bind (wpAny_updateSeq (s := { s with heap := hp1 }) hS1 rfl ?_)
  have hS2 := Heap.get?_update_self (Obj.mapSeq (·.push Value.none)) hS1 rfl
  refine wpAny_updateSeq (s := { s with heap := hp1.update s.heap.objs.size (Obj.mapSeq (·.push Value.none)) }) hS2 rfl ?_
  have hS3 := Heap.get?_update_self (Obj.mapSeq (·.pop)) hS2 rfl
  have ko : ∀ b o, b ≠ s.heap.objs.size → hp1.get? b = some o → ((hp1.update s.heap.objs.size (Obj.mapSeq (·.push Value.none))).update s.heap.objs.size (Obj.mapSeq (·.pop))).get? b = some o :=
    fun b o nb q => (Heap.get?_update_other _ _ (Ne.symm nb)).trans ((Heap.get?_update_other _ _ (Ne.symm nb)).trans q)
  have I1 : Inv X pins σ H { s with heap := hp1 } := I.kept (t' := s.toks) kp
  have hfS : ∀ b ∈ s.heap.objs.size :: [z, TI, TO, i1, i2], FpOk X pins H b := fun b hb => by
    rcases List.mem_cons.mp hb with e | e
    · rw [e]; exact I.fpOk (Nat.le_refl _) (I.hok.fresh (Nat.le_refl _))
    · exact hf b e
  have I3 : Inv X pins σ H { s with heap := (hp1.update s.heap.objs.size (Obj.mapSeq (·.push Value.none))).update s.heap.objs.size (Obj.mapSeq (·.pop)) } := I1.turnedL (s := { s with heap := hp1 }) (t' := s.toks) (ch := [s.heap.objs.size]) (fun b o hb q => ko b o (by simpa using hb) q) fun b hb => hfS b (by simp at hb; simp [hb])
  refine wpAny_pure ⟨plainId_quiet F.plain_extend_loop _, take_zipT (pins := pins) (σ := σ) (x := x) (tx := tx) (xs := xs) (ys := ys) (H0 := H) hh D nl hxs d hz _ 0 _ _ _ H [] rfl (Nat.zero_le _) I3 hfS .nil .nil q2
    (Z1.at ko ⟨_, hS3⟩ (fun e => d (by simp [e])) (fun e => d (by simp [e])) (fun e => d (by simp [e])) (fun e => d (by simp [e])) (fun e => d (by simp [e]))) hS3 rfl fun s' acc' cap' H' ws' I' hf' g rv hS' hs' => ?_⟩
  show wpAny _ A (load s.heap.objs.size >>= _) _ _ s'
  refine wpAny_bind (wpAny_load hS' ?_)
  exact wpAny_pure (hQ s' acc' H' ws' I' g rv hs')
theorem call_tupleZipT {A : Around} {E : Value → Shared → Prop} {s : Shared} {H : Hp} {z TI TO i1 i2 l2 : Addr} {x : Str} {tx : Tok} {xs ys : List V} {Q : Value → Shared → Prop} (hh : A.handled = none) (D : ZipSep2 z TI TO i1 i2 [i1] [i2, l2]) (nl : l2 ≠ i2) (hxs : xs = x.cps.toList.map fun c => V.str ⟨#[c]⟩) (hz : min xs.length ys.length ≤ sizeLine)
    (I : Inv X pins σ H s) (hf : ∀ b ∈ [z, TI, TO, i1, i2], FpOk X pins H b) (q2 : SqL X.K H l2 ys) (Z : ZT s.heap z TI TO i1 i2 l2 x tx 0)
    (hQ : ∀ s' (acc : Array Value) H' ws, Inv X pins σ H' s' → Grown xs ys H (min xs.length ys.length) H' ws → Vals ws acc.toList → acc.size = min xs.length ys.length → Q (.ref s'.heap.objs.size) { s' with heap := s'.heap.push { cls := .type "tuple", data := .seq acc } }) :
    wpAny (model X.prog X.w) A (call (.type "tuple") [.ref z]) Q E s := by
  refine callType_codes (Q₁ := fun obj s1 => s1.TypeIs obj "tuple" ∧ Q obj s1) F.called_tuple (F.typeCall_tuple_1 _) F.entry_object_init ?_ fun obj s1 h1 => ⟨h1.1, F.args_object_init_2 obj _, object_init_meets F.called_tuple.init.lookup F.called_tuple.made (by decide) X.prog X.w A.in1 _ s1 ⟨h1.1, rfl, h1.2⟩⟩
  refine codeAny_of_tree ?_
  show wpAny _ A.in1.in1 (do checkBuiltinCall "tuple.__new__" ⟨[.type "tuple", .ref z], []⟩; again (.builtin "tuple.__new__" ⟨[.type "tuple", .ref z], []⟩)) _ _ s
  refine wpAny_bind (wpAny_of_eq (F.newCall_tuple_1 _) (wpAny_pure ⟨plainId_quiet F.plain_tuple_new _, codeAny_builtin F.entry_tuple_new ?_⟩))
  rw [Around.under_plainId F.plain_tuple_new _]
  have t1 := sub_tuple_self
  have t2 := init_tuple_lookup
  have t3 := madeHere_tuple
  have hT : s.TypeIs (.ref z) "zip" := by rcases Z.zip with ⟨q, _⟩ | ⟨_, _, _, q, _⟩ <;> exact ⟨_, q, rfl⟩
  wp_walk using wpAny_typeOf hT, collect_zipT (pins := pins) (σ := σ) (H := H) (x := x) (tx := tx) (xs := xs) (ys := ys) (A := A.in1.in1) hh D nl hxs hz I hf q2 Z
  intro s' acc H' ws I' g rv hs
  show wpAny _ _ (Builtin.Tuple.tupleExact acc.toList.toArray >>= fun v => ret v) _ _ _
  unfold Builtin.Tuple.tupleExact
  refine wpAny_bind (wpAny_newObj_type ?_ (by show acc.toList.toArray.size ≤ sizeLine; simp only [Array.toArray_toList]; omega))
  refine wpAny_pure ?_
  rw [show acc.toList.toArray = acc by simp]
  exact ⟨⟨_, Heap.get?_push_size _ rfl, rfl⟩, hQ s' acc H' ws I' g rv hs⟩
end
/-- tuple(zip(x, b)), x a text -/
def tTupZipT (K : PySem.W.Frag) (ta : TA) : TE := fun σ H Q => ta σ H fun vs H1 => ∃ x b ys, vs = [.str x, .ref b] ∧ SqL K H1 b ys ∧
  ∀ H2 ws p, Grown (x.cps.toList.map fun c => V.str ⟨#[c]⟩) ys H1 (min (x.cps.toList.map fun c => V.str ⟨#[c]⟩).length ys.length) H2 ws → H2 p = none → Q (.ref p) (upd H2 p (.tup ws))
theorem pe_tupZipT {X : Cx} {e e2 : Expr} {ta : TA} {p p2 pos pos2 : Pos} (hc : X.calm = true) (hg : Gl X "tuple") (hm : X.mg "tuple" = none) (hg2 : Gl X "zip") (hm2 : X.mg "zip" = none) (ha : PA X [e, e2] ta)
    (hs : starEach [e, e2] X.env = (false, eval e X.env) :: starEach [e2] X.env := by rfl) (hpl : (backTo pos2 (starEach [e2] X.env)).any (·.1) = false := by rfl)
    (hs2 : starEach [.Call (.Name "zip" p2) [e, e2] [] pos2] X.env = (false, eval (.Call (.Name "zip" p2) [e, e2] [] pos2) X.env) :: starEach [] X.env := by rfl) :
    PE X (.Call (.Name "tuple" p) [.Call (.Name "zip" p2) [e, e2] [] pos2] [] pos) (tTupZipT X.K ta) := by
  refine ⟨fun pins s σ H Q I h => ?_⟩
  refine Call_ (ld_blt I hg hm boot_tuple (PyProof.Rows.callWith_type1 (args_cons (Call_ (ld_blt I hg2 hm2 PyProof.Rows.boot_zip (PyProof.Rows.callWith_type1 (thn (ha.run pos2 pins s σ H _ I h) fun us s1 ⟨vs, H1, I1, r1, q1⟩ => ?_) hs hpl))) hs2) hs2 rfl))
  obtain ⟨x, b, ys, ex, hqy, q⟩ := q1
  subst ex
  cases r1 with
  | cons r rr =>
    cases rr with
    | cons r' rr =>
      cases rr
      obtain ⟨tx, rfl⟩ := r
      cases r'
      obtain ⟨its2, rv2, p3, z2⟩ := I1.list hqy
      refine zip_begins2 (begins_text x tx) (begins_list b its2.toArray) trivial p3.isList fun h' hz hTI hTO g1 g2 hsz hk => args_nil ?_
      have I2 : Inv X pins σ H1 { s1 with heap := h' } := I1.kept (t' := s1.toks) hk
      have nl : b ≠ s1.heap.objs.size + 1 := Nat.ne_of_lt (Nat.lt_succ_of_lt p3.lt)
      have D : ZipSep2 (s1.heap.objs.size + 4) (s1.heap.objs.size + 2) (s1.heap.objs.size + 3) s1.heap.objs.size (s1.heap.objs.size + 1) [s1.heap.objs.size] [s1.heap.objs.size + 1, b] := zip_sep2 (fp1 := []) (fp2 := [b]) (fun b hb => by cases hb) (fun c hc => by
        have : c = b := by simpa using hc
        rw [this]
        exact p3.lt)
      refine call_tupleZipT (s := { s1 with heap := h' }) (x := x) (tx := tx) (I2.ok.hd hc) D nl rfl (Nat.le_trans (Nat.min_le_right _ _) (by have := rv2.length; omega)) I2 (fun c hcm => ?_) hqy ⟨.inl ⟨hz, _, _, hTO⟩, hTI, ⟨_, g1, rfl, rfl⟩, ⟨_, g2, rfl, rfl⟩, _, hTO⟩ fun s' acc H' ws I' g rv hs => ?_
      · have hle : s1.heap.objs.size ≤ c := by
          have e' : c = s1.heap.objs.size + 4 ∨ c = s1.heap.objs.size + 2 ∨ c = s1.heap.objs.size + 3 ∨ c = s1.heap.objs.size ∨ c = s1.heap.objs.size + 1 := by simpa using hcm
          rcases e' with z | z | z | z | z <;> rw [z] <;> first | exact Nat.le_add_right _ _ | exact Nat.le_refl _
        exact I1.fpOk hle (I1.hok.fresh hle)
      · have nf := I'.hok.fresh (Nat.le_refl s'.heap.objs.size)
        have hl := rv.length
        have hl2 : acc.toList.length = acc.size := Array.length_toList ..
        rw [hl2, hs] at hl
        have nx : min (x.cps.toList.map fun c => V.str ⟨#[c]⟩).length ys.length ≤ sizeLine := Nat.le_trans (Nat.min_le_right _ _) (by have := rv2.length; omega)
        refine ⟨.ref s'.heap.objs.size, _, I'.laid (t' := s'.toks) (fun c o e => Heap.get?_push_of_some _ e) (Nat.le_refl _) (show ObjOk X.prog X.w _ _ _ (.tup ws) from ⟨by rw [hl]; exact nx, acc.toList, rv, ?_⟩), rfl, q H' ws _ g nf⟩
        rw [Array.toArray_toList]
        exact IsTup.new _ _
def gZipT : List D → Mem → Out D := fun l m => match l with
  | [.str a, b] => match rdL m b with
    | some ys => .ok (.tup (pairs (a.map fun k => D.str [k]) ys)) m
    | _ => .bad
  | _ => .bad
theorem reps_chars {c : Cn} {r : Rh} {H : Hp} : ∀ a : List Nat, Reps c r H (a.map fun k => D.str [k]) (a.map fun k => V.str ⟨#[k]⟩)
  | [] => .nil
  | k :: a => .cons (.str [k]) (reps_chars a)
section
variable {c : Cn} {X : Cx} {W : WX} {a b : Expr} {pos pos2 : Pos} {fl : Ev → Mem → Out (List D)}
theorem ex_tupZipT {p p2 : Pos} (hK : X.K = c.K) (hc : X.calm = true) (hg : Gl X "tuple") (hm : X.mg "tuple" = none) (hg2 : Gl X "zip") (hm2 : X.mg "zip" = none) (ha : AX c X W [a, b] fl)
    (hs : starEach [a, b] X.env = (false, eval a X.env) :: starEach [b] X.env := by rfl) (hpl : (backTo pos2 (starEach [b] X.env)).any (·.1) = false := by rfl)
    (hs2 : starEach [.Call (.Name "zip" p2) [a, b] [] pos2] X.env = (false, eval (.Call (.Name "zip" p2) [a, b] [] pos2) X.env) :: starEach [] X.env := by rfl) :
    EX c X W (.Call (.Name "tuple" p) [.Call (.Name "zip" p2) [a, b] [] pos2] [] pos) (sCB gZipT fl) := by
  obtain ⟨t, p, q⟩ := ha
  refine ⟨_, pe_tupZipT hc hg hm hg2 hm2 p hs hpl hs2, fun r H m env s Q hm he hg => ?_⟩
  refine q r H m env s _ hm he (G.bind hg fun l m1 r1 H1 vs x1 hm1 q1 hg1 => ?_)
  unfold gZipT at hg1
  split at hg1
  · rename_i a b
    cases q1 with
    | cons h1 h2 =>
      cases h2 with
      | cons h2 h3 =>
        cases h3
        cases h1
        split at hg1
        · rename_i ys e2
          obtain ⟨a2, vs, rfl, k3, k4⟩ := rdL_at hm1 h2 e2
          rw [hK]
          refine ⟨_, a2, vs, rfl, k3, fun H2 ws p g np => ?_⟩
          have k2 : Reps c r1 H1 (a.map fun k => D.str [k]) ((⟨a.toArray⟩ : Str).cps.toList.map fun c => V.str ⟨#[c]⟩) := reps_chars a
          obtain ⟨g1, g2, g3⟩ := grown_ok hm1 k2 k4 g
          rw [List.take_of_length_le (by rw [pairs_len, k2.length, k4.length]; exact Nat.le_refl _)] at g3
          exact hg1 r1 _ _ (g1.trans (Ext.new np)) (g2.new np) (.tup upd_same (g2.off np) (g3.ext (Ext.new np)))
        · exact hg1.elim
  · exact hg1.elim
/-- f() -/
theorem ex_callD0 {x : Str} {p : Pos} {lv k : Nat} {ps : List Str} {g : List D → Mem → Out D} (tk : Takes X W) (hK : X.K = c.K) (hr : Room k X.A) (D : Df X.prog X.w c X.mg X.base x lv ps g) (hle : lv ≤ k) (hp : ps.length = 0 := by rfl)
    (hg : Gl X x := by rfl) (hdb : (x == ("__debug__" : Str)) = false := by decide) : EX c X W (.Call (.Name x p) [] [] pos) (sCall 0 g sNil) := by
  obtain ⟨f, fd, F, gm, kp, bs⟩ := D
  rw [← hK] at F kp bs
  refine ⟨fun σ H Q => spD c ps.length g [] H Q (WE W σ), ⟨fun pins s σ H Q I h => wpAny_Call_Name_kw (ld_glob I hg gm ?_ hdb)⟩, fun r H mm env s Q hm he hgo => ?_⟩
  · exact PySem.W.callWith_K0 (first := []) I.kIn kp (run_fnS (us := []) (vs := []) F (hr.mono hle) bs (passAt tk σ) I .nil h)
  · refine ⟨r, mm, [], by rw [hp]; rfl, hm, .nil, ?_⟩
    have hg2 : G c W (Rep c) s r H (g [] mm) Q := hgo
    exact hg2
end
end Sz

namespace Sz
open PySem PySem.Spec PyProof.Rows L2

def topS (i : Nat) : Stmt := PySem.Challenge.pw_sizewords_k11_whole_formats.main.body.getD i (.Pass ⟨0, 0, 0, 0⟩)
/-! ## what each def does -/
def b__law_draw : Ev → Mem → SO := bCons (kIf (sTest (sBin gGt (sBin gIx (sVar 1) (sC (.int 1))) (sC (.int 0)))) (bCons (kSet 3 (sBin gMod (sBin gIx (sVar 1) (sC (.int 1))) (sVar 2))) (bCons (kSetIx (sBin gDiv (sBin gIx (sVar 1) (sC (.int 1))) (sVar 2)) (sVar 1) (sC (.int 1))) (kRet (sVar 3)))) (bNil)) (bCons (kSet 4 (sBin gIx (sVar 1) (sC (.int 0)))) (bCons (kAugIx (fun i j => i + j) (sVar 1) (sC (.int 0)) (sC (.int 1))) (bCons (kIf (sTest (sBin gEq (sVar 0) (sLst (sNil)))) (kRet (sBin gMod (sVar 4) (sVar 2))) (bNil)) (bCons (kIf (sAndT (sTest (sBin gLtI (sVar 4) (sCB gLen (sCons (sVar 0) (sNil))))) (sTest (sBin gGe (sBin gIx (sVar 0) (sVar 4)) (sBin gPow (sC (.int 10)) (sC (.int 18)))))) (bCons (kSetIx (sBin gMod (sBin gDiv (sBin gIx (sVar 0) (sVar 4)) (sVar 2)) (sBin gMul (sBin gPow (sC (.int 10)) (sC (.int 60))) (sBin gPow (sC (.int 10)) (sC (.int 60))))) (sVar 1) (sC (.int 1))) (kRet (sBin gMod (sBin gIx (sVar 0) (sVar 4)) (sVar 2)))) (bNil)) (bCons (kSet 5 (sBin gMod (sBin gAdd (sBin gAdd (sBin gMul (sBin gIx (sVar 0) (sBin gMod (sVar 4) (sCB gLen (sCons (sVar 0) (sNil))))) (sC (.int 1103515245))) (sBin gMul (sC (.int 7919)) (sVar 4))) (sC (.int 12345))) (sC (.int 2147483647)))) (kRet (sBin gMod (sBin gMod (sBin gMod (sBin gPow (sVar 5) (sC (.int 5))) (sC (.int 2147483647))) (sC (.int 999983))) (sVar 2))))))))
def m__law_draw : List D → Mem → Out D := defSem 3 6 (b__law_draw)
def b__law_pick : Ev → Mem → SO := kRet (sBin gIx (sVar 2) (sCall 3 m__law_draw (sCons (sVar 0) (sCons (sVar 1) (sCons (sCB gLen (sCons (sVar 2) (sNil))) (sNil))))))
def m__law_pick : List D → Mem → Out D := defSem 3 3 (b__law_pick)
def wb__law_style_1 : Ev → Mem → SO := bCons (kPar 6 7 (sCall 3 m__law_pick (sCons (sVar 0) (sCons (sVar 1) (sCons (sLst (sCons (sC (.int 2)) (sCons (sC (.int 3)) (sCons (sC (.int 4)) (sCons (sC (.int 5)) (sCons (sC (.int 7)) (sCons (sC (.int 10)) (sCons (sC (.int 12)) (sCons (sC (.int 16)) (sCons (sC (.int 1)) (sNil))))))))))) (sNil))))) (sCall 3 m__law_draw (sCons (sVar 0) (sCons (sVar 1) (sCons (sC (.int 4)) (sNil)))))) (bCons (kIf (sTest (sBin gEq (sCall 3 m__law_draw (sCons (sVar 0) (sCons (sVar 1) (sCons (sC (.int 2)) (sNil))))) (sC (.int 0)))) (kSet 7 (sC (.int 0))) (bNil)) (kIf (sTest (sBin gGt (sBin gAdd (sBin gMul (sBin gIx (sVar 3) (sUn gNeg (sC (.int 1)))) (sVar 6)) (sVar 7)) (sBin gIx (sVar 3) (sUn gNeg (sC (.int 1)))))) (kExpr (sBm "list" gAppend (sVar 3) (sCons (sBin gAdd (sBin gMul (sBin gIx (sVar 3) (sUn gNeg (sC (.int 1)))) (sVar 6)) (sVar 7)) (sNil)))) (bNil)))
def b__law_style : Ev → Mem → SO := bCons (kPar 3 4 (sLstO (sCons (sC (.int 1)) (sNil))) (sLst (sCons (sC (.str [])) (sCons (sC (.str [107])) (sCons (sC (.str [77])) (sCons (sC (.str [71, 105])) (sCons (sC (.str [116])) (sNil)))))))) (bCons (kFor (iRange1 (sCons (sCall 3 m__law_draw (sCons (sVar 0) (sCons (sVar 1) (sCons (sVar 2) (sNil))))) (sNil))) (gN 5) wb__law_style_1) (bCons (kSet 8 (sCall 3 m__law_draw (sCons (sVar 0) (sCons (sVar 1) (sCons (sC (.int 5)) (sNil)))))) (bCons (kSet 4 (sBin gAdd (sSl (sVar 4) (sPart (sVar 8)) (sNoP)) (sSl (sVar 4) (sNoP) (sPart (sVar 8))))) (bCons (kSet 9 (sCall 3 m__law_pick (sCons (sVar 0) (sCons (sVar 1) (sCons (sLst (sCons (sC (.str [100, 111, 119, 110])) (sCons (sC (.str [117, 112])) (sCons (sC (.str [104, 97, 108, 102])) (sCons (sC (.str [101, 118, 101, 110])) (sNil)))))) (sNil)))))) (bCons (kPar 10 11 (sBin gEq (sCall 3 m__law_draw (sCons (sVar 0) (sCons (sVar 1) (sCons (sC (.int 2)) (sNil))))) (sC (.int 0))) (sBin gEq (sCall 3 m__law_draw (sCons (sVar 0) (sCons (sVar 1) (sCons (sC (.int 2)) (sNil))))) (sC (.int 0)))) (kRet (sTup (sCons (sCB gZip (sCons (sVar 4) (sCons (sVar 3) (sNil)))) (sCons (sCall 3 m__law_draw (sCons (sVar 0) (sCons (sVar 1) (sCons (sC (.int 3)) (sNil))))) (sCons (sVar 9) (sCons (sVar 10) (sCons (sVar 11) (sNil)))))))))))))
def m__law_style : List D → Mem → Out D := defSem 3 12 (b__law_style)
def wb__law_form_1 : Ev → Mem → SO := kSet 1 (sBin gAdd (sBin gAdd (sBin gAdd (sBin gAdd (sVar 1) (sIfE (sTest (sBin gNe (sVar 1) (sC (.str [])))) (sC (.str [44])) (sC (.str [])))) (sCB gStr (sCons (sVar 3) (sNil)))) (sC (.str [58]))) (sVar 2))
def b__law_form : Ev → Mem → SO := bCons (kSet 1 (sC (.str []))) (bCons (kFor (iOf asT (sBin gIx (sVar 0) (sC (.int 0)))) (gT [2, 3]) wb__law_form_1) (bCons (kSet 1 (sBin gAdd (sBin gAdd (sBin gAdd (sBin gAdd (sVar 1) (sC (.str [32]))) (sCB gStr (sCons (sBin gIx (sVar 0) (sC (.int 1))) (sNil)))) (sC (.str [32]))) (sBin gIx (sVar 0) (sC (.int 2))))) (kRet (sBin gAdd (sBin gAdd (sVar 1) (sIfE (sTest (sBin gIx (sVar 0) (sC (.int 3)))) (sC (.str [32, 116, 114, 105, 109])) (sC (.str [])))) (sIfE (sTest (sBin gIx (sVar 0) (sC (.int 4)))) (sC (.str [32, 112, 114, 111, 109, 111, 116, 101])) (sC (.str [])))))))
def m__law_form : List D → Mem → Out D := defSem 1 4 (b__law_form)
def b_is_name : Ev → Mem → SO := kRet (sAnd (sCB (gIsi "str") (sCons (sVar 0) (sCons (sC (.val (.ty "str"))) (sNil)))) (sAnd (sBin gLe (sCB gLen (sCons (sVar 0) (sNil))) (sC (.int 3))) (sCB gAll (sCons (sLc [1] (iOf asCh (sVar 0)) (gN 1) (tYesS) (sBin gIn (sVar 1) (sC (.str [97, 98, 99, 100, 101, 102, 103, 104, 105, 106, 107, 108, 109, 110, 111, 112, 113, 114, 115, 116, 117, 118, 119, 120, 121, 122, 65, 66, 67, 68, 69, 70, 71, 72, 73, 74, 75, 76, 77, 78, 79, 80, 81, 82, 83, 84, 85, 86, 87, 88, 89, 90])))) (sNil)))))
def m_is_name : List D → Mem → Out D := defSem 1 2 (b_is_name)
def b_is_count : Ev → Mem → SO := kRet (sAnd (sCB (gIsi "int") (sCons (sVar 0) (sCons (sC (.val (.ty "int"))) (sNil)))) (sAnd (sNot (sCB (gIsi "bool") (sCons (sVar 0) (sCons (sC (.val (.ty "bool"))) (sNil))))) (sChain gLe gLe (sVar 1) (sVar 0) (sVar 2))))
def m_is_count : List D → Mem → Out D := defSem 3 3 (b_is_count)
def wb_is_scale_1 : Ev → Mem → SO := bCons (kIf (sNotT (sTest (sCall 3 m_is_count (sCons (sVar 3) (sCons (sIfE (sTest (sBin gIs (sVar 1) (sC .non))) (sC (.int 1)) (sBin gAdd (sVar 1) (sC (.int 1)))) (sCons (sIfE (sTest (sBin gIs (sVar 1) (sC .non))) (sC (.int 1)) (sBin gMul (sVar 1) (sC (.int 2000)))) (sNil))))))) (kRet (sC (.bl false))) (bNil)) (kSet 1 (sVar 3))
def b_is_scale : Ev → Mem → SO := bCons (kIf (sOrT (sNotT (sTest (sCB (gIsi "tuple") (sCons (sVar 0) (sCons (sC (.val (.ty "tuple"))) (sNil)))))) (sNotT (sTest (sChain gLe gLe (sC (.int 1)) (sCB gLen (sCons (sVar 0) (sNil))) (sC (.int 5)))))) (kRet (sC (.bl false))) (bNil)) (bCons (kIf (sNotT (sTest (sCB gAll (sCons (sLc [4] (iOf asT (sVar 0)) (gN 4) (tYesS) (sAnd (sCB (gIsi "tuple") (sCons (sVar 4) (sCons (sC (.val (.ty "tuple"))) (sNil)))) (sAnd (sBin gEq (sCB gLen (sCons (sVar 4) (sNil))) (sC (.int 2))) (sCall 1 m_is_name (sCons (sBin gIx (sVar 4) (sC (.int 0))) (sNil)))))) (sNil))))) (kRet (sC (.bl false))) (bNil)) (bCons (kSet 1 (sC .non)) (bCons (kFor (iOf asT (sVar 0)) (gT [2, 3]) wb_is_scale_1) (kRet (sBin gEq ((fun e m => ((sLc [2, 3] (iOf asT (sVar 0)) (gT [2, 3]) (tYesS) (sVar 2)) e m).bind gSetLen)) (sCB gLen (sCons (sVar 0) (sNil))))))))
def m_is_scale : List D → Mem → Out D := defSem 1 5 (b_is_scale)
def b_is_style : Ev → Mem → SO := bCons (kIf (sOrT (sNotT (sTest (sCB (gIsi "tuple") (sCons (sVar 0) (sCons (sC (.val (.ty "tuple"))) (sNil)))))) (sOrT (sTest (sBin gNe (sCB gLen (sCons (sVar 0) (sNil))) (sC (.int 5)))) (sOrT (sNotT (sTest (sCall 1 m_is_scale (sCons (sBin gIx (sVar 0) (sC (.int 0))) (sNil))))) (sNotT (sTest (sCall 3 m_is_count (sCons (sBin gIx (sVar 0) (sC (.int 1))) (sCons (sC (.int 0)) (sCons (sC (.int 2)) (sNil)))))))))) (kRet (sC (.bl false))) (bNil)) (bCons (kIf (sOrT (sNotT (sTest (sCB (gIsi "str") (sCons (sBin gIx (sVar 0) (sC (.int 2))) (sCons (sC (.val (.ty "str"))) (sNil)))))) (sTest (sUn (gNotInK [[100, 111, 119, 110], [117, 112], [104, 97, 108, 102], [101, 118, 101, 110]]) (sBin gIx (sVar 0) (sC (.int 2)))))) (kRet (sC (.bl false))) (bNil)) (kRet (sAnd (sCB (gIsi "bool") (sCons (sBin gIx (sVar 0) (sC (.int 3))) (sCons (sC (.val (.ty "bool"))) (sNil)))) (sCB (gIsi "bool") (sCons (sBin gIx (sVar 0) (sC (.int 4))) (sCons (sC (.val (.ty "bool"))) (sNil)))))))
def m_is_style : List D → Mem → Out D := defSem 1 1 (b_is_style)
def b_need_style : Ev → Mem → SO := kIf (sNotT (sTest (sCall 1 m_is_style (sCons (sVar 0) (sNil))))) (kRaise 1) (bNil)
def m_need_style : List D → Mem → Out D := defSem 1 1 (b_need_style)
def b_formatted : Ev → Mem → SO := bCons (kUnT [1, 2, 3, 4, 5] (sVar 0)) (bCons (kSet 6 (sBm "str" gJoin (sC (.str [44])) (sCons (sLc [7, 8] (iOf asT (sVar 1)) (gT [7, 8]) (tYesS) (sBin gAdd (sBin gAdd (sCB gStr (sCons (sVar 8) (sNil))) (sC (.str [58]))) (sVar 7))) (sNil)))) (kRet (sBin gAdd (sBin gAdd (sBin gAdd (sBin gAdd (sBin gAdd (sBin gAdd (sVar 6) (sC (.str [32]))) (sCB gStr (sCons (sVar 2) (sNil)))) (sC (.str [32]))) (sVar 3)) (sIfE (sTest (sVar 4)) (sC (.str [32, 116, 114, 105, 109])) (sC (.str [])))) (sIfE (sTest (sVar 5)) (sC (.str [32, 112, 114, 111, 109, 111, 116, 101])) (sC (.str []))))))
def m_formatted : List D → Mem → Out D := defSem 1 9 (b_formatted)
def b_format_style : Ev → Mem → SO := bCons (kExpr (sCall 1 m_need_style (sCons (sVar 0) (sNil)))) (kRet (sCall 1 m_formatted (sCons (sVar 0) (sNil))))
def m_format_style : List D → Mem → Out D := defSem 1 1 (b_format_style)
def b_is_digits : Ev → Mem → SO := kRet (sAnd (sChain gLe gLe (sC (.int 1)) (sCB gLen (sCons (sVar 0) (sNil))) (sC (.int 40))) (sCB gAll (sCons (sLc [1] (iOf asCh (sVar 0)) (gN 1) (tYesS) (sBin gIn (sVar 1) (sC (.str [48, 49, 50, 51, 52, 53, 54, 55, 56, 57])))) (sNil))))
def m_is_digits : List D → Mem → Out D := defSem 1 2 (b_is_digits)
def b_parsed_unit : Ev → Mem → SO := bCons (kUnT [1, 2, 3] (sBm "str" gPart (sVar 0) (sCons (sC (.str [58])) (sNil)))) (kRet (sTup (sCons (sVar 3) (sCons (sIfE (sTest (sCall 1 m_is_digits (sCons (sVar 1) (sNil)))) (sCB gInt (sCons (sVar 1) (sNil))) (sC .non)) (sNil)))))
def m_parsed_unit : List D → Mem → Out D := defSem 1 4 (b_parsed_unit)
def b_parse_style : Ev → Mem → SO := bCons (kIf (sNotT (sTest (sCB (gIsi "str") (sCons (sVar 0) (sCons (sC (.val (.ty "str"))) (sNil)))))) (kRaise 5) (bNil)) (bCons (kSet 1 (sBm "str" gSplit (sVar 0) (sCons (sC (.str [32])) (sNil)))) (bCons (kIf (sOrT (sTest (sBin gLtI (sCB gLen (sCons (sVar 1) (sNil))) (sC (.int 3)))) (sNotT (sTest (sCall 1 m_is_digits (sCons (sBin gIx (sVar 1) (sC (.int 1))) (sNil)))))) (kRaise 5) (bNil)) (bCons (kSet 2 (sCB gTuple (sCons (sLc [4] (iOf asLs (sBm "str" gSplit (sBin gIx (sVar 1) (sC (.int 0))) (sCons (sC (.str [44])) (sNil)))) (gN 4) (tYesS) (sCall 1 m_parsed_unit (sCons (sVar 4) (sNil)))) (sNil)))) (bCons (kSet 3 (sTup (sCons (sVar 2) (sCons (sCB gInt (sCons (sBin gIx (sVar 1) (sC (.int 1))) (sNil))) (sCons (sBin gIx (sVar 1) (sC (.int 2))) (sCons (sBin gIn (sC (.str [116, 114, 105, 109])) (sSl (sVar 1) (sPart (sC (.int 3))) (sNoP))) (sCons (sBin gIn (sC (.str [112, 114, 111, 109, 111, 116, 101])) (sSl (sVar 1) (sPart (sC (.int 3))) (sNoP))) (sNil)))))))) (bCons (kIf (sOrT (sNotT (sTest (sCall 1 m_is_style (sCons (sVar 3) (sNil))))) (sTest (sBin gNe (sCall 1 m_formatted (sCons (sVar 3) (sNil))) (sVar 0)))) (kRaise 5) (bNil)) (kRet (sVar 3)))))))
def m_parse_style : List D → Mem → Out D := defSem 1 5 (b_parse_style)
def b__law_which (n : Nat) (a : Addr) : Ev → Mem → SO := bCons (kSet 1 (sLstO (sCons (sIsZ a 0 (n == 1)) (sCons (sIsZ a 0 (n == 2)) (sNil))))) (bCons (kExpr (sBm "list" gExtend (sVar 1) (sCons (sLst (sCons (sIsZ a 0 (n == 3)) (sNil))) (sNil)))) (bCons (kExpr (sBm "list" gExtend (sVar 1) (sCons (sLst (sCons (sIsZ a 0 (n == 4)) (sCons (sIsZ a 0 (n == 5)) (sNil)))) (sNil)))) (bCons (kIf (sOrT (sTest (sBin gNe (sBm "list" gCountF (sVar 1) (sCons (sC (.bl true)) (sNil))) (sC (.int 1)))) (sNotT (sTest (sIsZ a 0 true)))) (kRet (sTup (sCons (sC (.str [114, 97, 105, 115, 101, 100])) (sCons (sUn gNeg (sC (.int 1))) (sNil))))) (bNil)) (kRet (sTup (sCons (sC (.str [114, 97, 105, 115, 101, 100])) (sCons (sBm "list" gIndexF (sVar 1) (sCons (sC (.bl true)) (sNil))) (sNil))))))))
def m__law_which (n : Nat) (a : Addr) : List D → Mem → Out D := defSem 1 2 (b__law_which n a)
def ok_which : Nat → Option D := fun k => List.lookup k [(1, .tup [.str [114, 97, 105, 115, 101, 100], .int 0]), (5, .tup [.str [114, 97, 105, 115, 101, 100], .int 4])]
def b__law_ask : Ev → Mem → SO := kTryW 2 (kRet (sSel 1 [m_format_style, m_parse_style] (sVar 0) (sCons (sVar 1) (sNil)))) ok_which
def m__law_ask : List D → Mem → Out D := defSem 2 3 (b__law_ask)
def wb_law_1 : Ev → Mem → SO := bCons (kSet 5 (sCall 3 m__law_draw (sCons (sVar 0) (sCons (sVar 1) (sCons (sBin gAdd (sCB gLen (sCons (sVar 3) (sNil))) (sC (.int 1))) (sNil)))))) (bCons (kSet 6 (sCall 3 m__law_pick (sCons (sVar 0) (sCons (sVar 1) (sCons (sLst (sCons (sC (.str [])) (sCons (sC (.str [48])) (sCons (sC (.str [49])) (sCons (sC (.str [44])) (sCons (sC (.str [58])) (sCons (sC (.str [32])) (sCons (sC (.str [107])) (sCons (sC (.str [32, 116, 114, 105, 109])) (sCons (sC (.str [51])) (sNil))))))))))) (sNil)))))) (bCons (kSet 7 (sBin gAdd (sBin gAdd (sSl (sVar 3) (sNoP) (sPart (sVar 5))) (sVar 6)) (sSl (sVar 3) (sPart (sBin gAdd (sVar 5) (sCall 3 m__law_draw (sCons (sVar 0) (sCons (sVar 1) (sCons (sC (.int 2)) (sNil))))))) (sNoP)))) (bCons (kSet 8 (sCall 2 m__law_ask (sCons (sC (.int 1)) (sCons (sVar 7) (sNil))))) (kIf (sAndT (sTest (sBin gNe (sVar 8) (sTup (sCons (sC (.str [114, 97, 105, 115, 101, 100])) (sCons (sC (.int 4)) (sNil)))))) (sOrT (sTest (sBin gIsNot (sCall 1 m_is_style (sCons (sVar 8) (sNil))) (sC (.bl true)))) (sTest (sBin gNe (sCall 1 m__law_form (sCons (sVar 8) (sNil))) (sVar 7))))) (kRet (sC (.bl false))) (bNil)))))
def b_law : Ev → Mem → SO := bCons (kSet 1 (sLstO (sCons (sC (.int 0)) (sCons (sC (.int 0)) (sNil))))) (bCons (kSet 2 (sCall 3 m__law_style (sCons (sVar 0) (sCons (sVar 1) (sCons (sC (.int 5)) (sNil)))))) (bCons (kSet 3 (sCall 1 m__law_form (sCons (sVar 2) (sNil)))) (bCons (kIf (sOrT (sTest (sBin gNe (sCall 2 m__law_ask (sCons (sC (.int 0)) (sCons (sVar 2) (sNil)))) (sVar 3))) (sTest (sBin gNe (sCall 2 m__law_ask (sCons (sC (.int 1)) (sCons (sVar 3) (sNil)))) (sVar 2)))) (kRet (sC (.bl false))) (bNil)) (bCons (kFor (iRange1 (sCons (sC (.int 8)) (sNil))) (gN 4) wb_law_1) (bCons (kSet 9 (sLstO (sCons (sC (.str [])) (sCons (sC (.str [49, 58])) (sCons (sC (.str [49, 58, 32, 49])) (sCons (sC (.str [49, 58, 32, 51, 32, 117, 112])) (sCons (sC (.str [49, 58, 32, 49, 32, 114, 111, 117, 110, 100])) (sCons (sC (.str [50, 58, 120, 32, 48, 32, 117, 112])) (sCons (sC (.str [49, 58, 44, 49, 58, 107, 32, 48, 32, 117, 112])) (sCons (sC (.str [49, 58, 44, 50, 48, 48, 49, 58, 107, 32, 48, 32, 117, 112])) (sNil))))))))))) (bCons (kExpr (sBm "list" gExtend (sVar 9) (sCons (sLst (sCons (sC (.str [49, 58, 44, 49, 48, 58, 32, 48, 32, 117, 112])) (sCons (sC (.str [49, 58, 107, 105, 108, 111, 32, 48, 32, 117, 112])) (sCons (sC (.str [48, 49, 58, 32, 48, 32, 117, 112])) (sCons (sC .non) (sCons (sC (.int 5)) (sNil))))))) (sNil)))) (bCons (kExpr (sBm "list" gExtend (sVar 9) (sCons (sLst (sCons (sC (.str [49, 58, 32, 48, 49, 32, 117, 112])) (sCons (sC (.str [49, 58, 32, 49, 32, 117, 112, 32, 112, 114, 111, 109, 111, 116, 101, 32, 116, 114, 105, 109])) (sCons (sC (.str [49, 58, 32, 49, 32, 117, 112, 32, 116, 114, 105, 109, 32, 116, 114, 105, 109])) (sCons (sC (.str [49, 58, 32, 49, 32, 117, 112, 32, 32, 116, 114, 105, 109])) (sCons (sC (.str [32, 49, 58, 32, 49, 32, 117, 112])) (sNil))))))) (sNil)))) (bCons (kExpr (sBm "list" gExtend (sVar 9) (sCons (sLst (sCons (sC (.str [49, 58, 32, 49, 32, 117, 112, 32])) (sCons (sC (.str [49, 32, 49, 32, 117, 112])) (sCons (sC (.str [49, 58, 44, 58, 32, 49, 32, 117, 112])) (sCons (sC (.str [120, 58, 32, 49, 32, 117, 112])) (sCons (sLst (sCons (sC (.str [49, 58, 32, 49, 32, 117, 112])) (sNil))) (sNil))))))) (sNil)))) (bCons (kIf (sTest (sBin gNe (sLcR 1000 [10] (sVar 9) (gN 10) (sCall 2 m__law_ask (sCons (sC (.int 1)) (sCons (sVar 10) (sNil))))) (sBin gMul (sLst (sCons (sTup (sCons (sC (.str [114, 97, 105, 115, 101, 100])) (sCons (sC (.int 4)) (sNil)))) (sNil))) (sCB gLen (sCons (sVar 9) (sNil)))))) (kRet (sC (.bl false))) (bNil)) (bCons (kIf (sTest (sBin gNe (sCall 2 m__law_ask (sCons (sC (.int 1)) (sCons (sC (.str [49, 58, 44, 49, 48, 48, 48, 58, 107, 32, 50, 32, 101, 118, 101, 110, 32, 116, 114, 105, 109, 32, 112, 114, 111, 109, 111, 116, 101])) (sNil)))) (sTup (sCons (sTup (sCons (sTup (sCons (sC (.str [])) (sCons (sC (.int 1)) (sNil)))) (sCons (sTup (sCons (sC (.str [107])) (sCons (sC (.int 1000)) (sNil)))) (sNil)))) (sCons (sC (.int 2)) (sCons (sC (.str [101, 118, 101, 110])) (sCons (sC (.bl true)) (sCons (sC (.bl true)) (sNil))))))))) (kRet (sC (.bl false))) (bNil)) (kRet (sBin gEq (sLc [10] (iOf asT (sTup (sCons (sC .non) (sCons (sTup (sNil)) (sCons (sVar 3) (sCons (sCB gList (sCons (sVar 2) (sNil))) (sCons (sSl (sVar 2) (sNoP) (sPart (sC (.int 4)))) (sNil)))))))) (gN 10) (tYesS) (sCall 2 m__law_ask (sCons (sC (.int 0)) (sCons (sVar 10) (sNil))))) (sBin gMul (sLst (sCons (sTup (sCons (sC (.str [114, 97, 105, 115, 101, 100])) (sCons (sC (.int 0)) (sNil)))) (sNil))) (sC (.int 5)))))))))))))))
def m_law : List D → Mem → Out D := defSem 1 11 (b_law)
theorem which_of {P : Nat → D → Prop} (h : ∀ k, k = 1 ∨ k = 5 → P k (.tup [.str [114, 97, 105, 115, 101, 100], .int ((k : Int) - 1)])) : ∀ k d, ok_which k = some d → P k d := fun k d e => by
  refine lookup_all (P := P) (L := [(1, .tup [.str [114, 97, 105, 115, 101, 100], .int 0]), (5, .tup [.str [114, 97, 105, 115, 101, 100], .int 4])]) (fun q hq => ?_) k d e
  simp only [List.mem_cons, List.not_mem_nil, or_false] at hq
  rcases hq with rfl | rfl
  · exact h 1 (by simp)
  · exact h 5 (by simp)
theorem which_e {n : Nat} (h : n = 1 ∨ n = 5) {a : Addr} {m : Mem} (mb : m.all (belowO m.length) = true) : m__law_which n a [.val (.ref a)] m = .ok (.tup [.str [114, 97, 105, 115, 101, 100], .int ((n : Int) - 1)]) m := by
  have sI : ∀ (x : Option D) (m' : Mem) (b : Bool), sIsZ a 0 b [some (.val (.ref a)), x] m' = .ok (.bl b) m' := fun _ _ _ => by simp [sIsZ]
  have td : ∀ l : List D, tyD "list" (m ++ [.lst l]) (.ref m.length) = true := fun l => by simp [tyD, rdL]
  have rd : ∀ l : List D, rdL (m ++ [.lst l]) (.ref m.length) = some l := fun l => by simp [rdL]
  have ge : ∀ l z : List D, l.length + z.length ≤ 10 → gExtend (.ref m.length) [.lst z] (m ++ [.lst l]) = .ok .non (m ++ [.lst (l ++ z)]) := fun l z q => by
    have e : sz (l.length + z.length) = true := by simp only [sz, decide_eq_true_eq]; omega
    simp [gExtend, rdO, e]
  rcases h with rfl | rfl
  · have gc : gCountF (.ref m.length) [.bl true] (m ++ [.lst [.bl true, .bl false, .bl false, .bl false, .bl false]]) = .ok (.int 1) (m ++ [.lst [.bl true, .bl false, .bl false, .bl false, .bl false]]) := by unfold gCountF; rw [rd]; rfl
    have gi : gIndexF (.ref m.length) [.bl true] (m ++ [.lst [.bl true, .bl false, .bl false, .bl false, .bl false]]) = .ok (.int 0) (m ++ [.lst [.bl true, .bl false, .bl false, .bl false, .bl false]]) := by unfold gIndexF; rw [rd]; rfl
    simp [m__law_which, b__law_which, sI, td, ge, gc, gi, pack, mb, below, belowL]
  · have gc : gCountF (.ref m.length) [.bl true] (m ++ [.lst [.bl false, .bl false, .bl false, .bl false, .bl true]]) = .ok (.int 1) (m ++ [.lst [.bl false, .bl false, .bl false, .bl false, .bl true]]) := by unfold gCountF; rw [rd]; rfl
    have gi : gIndexF (.ref m.length) [.bl true] (m ++ [.lst [.bl false, .bl false, .bl false, .bl false, .bl true]]) = .ok (.int 4) (m ++ [.lst [.bl false, .bl false, .bl false, .bl false, .bl true]]) := by unfold gIndexF; rw [rd]; rfl
    simp [m__law_which, b__law_which, sI, td, ge, gc, gi, pack, mb, below, belowL]
end Sz

namespace Sz
open PySem PySem.Spec PyProof.Rows L2
abbrev DOWN : List Nat := [100, 111, 119, 110]
abbrev UP : List Nat := [117, 112]
abbrev HALF : List Nat := [104, 97, 108, 102]
abbrev EVEN : List Nat := [101, 118, 101, 110]
theorem atI_nat {α : Type} {xs : List α} {n : Nat} : L2.atI xs (n : Int) = xs[n]? := by
  unfold L2.atI L2.ixN
  rw [if_pos (by omega)]
  split
  · simp
  · rename_i h
    rw [List.getElem?_eq_none (by omega)]; rfl
theorem atI_0 {α : Type} {xs : List α} : L2.atI xs 0 = xs[0]? := atI_nat (n := 0)
theorem atI_1 {α : Type} {xs : List α} : L2.atI xs 1 = xs[1]? := atI_nat (n := 1)
theorem atI_2 {α : Type} {xs : List α} : L2.atI xs 2 = xs[2]? := atI_nat (n := 2)
theorem atI_3 {α : Type} {xs : List α} : L2.atI xs 3 = xs[3]? := atI_nat (n := 3)
theorem atI_4 {α : Type} {xs : List α} : L2.atI xs 4 = xs[4]? := atI_nat (n := 4)
theorem atI_last {α : Type} {xs : List α} : L2.atI xs (-1) = xs.getLast? := by
  unfold L2.atI L2.ixN
  rw [if_neg (by omega)]
  cases xs with
  | nil => simp
  | cons x r =>
    rw [if_pos (by simp; omega), List.getLast?_eq_getElem?]
    simp only [Option.bind_some, List.length_cons]
    congr 1
    omega
def rnd (n s st : Int) (md : List Nat) : Int :=
  if n * st % s = 0 ∨ md = DOWN then n * st / s else if md = UP ∨ s < 2 * (n * st % s) then n * st / s + 1 else if 2 * (n * st % s) < s then n * st / s else if md = HALF then n * st / s + 1 else n * st / s + n * st / s % 2
theorem mulL {i j : Int} (h : -18446744073709551616 < i ∧ i < 18446744073709551616) : mulC i j = true := by
  unfold mulC
  rw [decide_eq_true h]
  rfl
theorem mulR {i j : Int} (h : -18446744073709551616 < j ∧ j < 18446744073709551616) : mulC i j = true := by
  unfold mulC
  rw [decide_eq_true h, Bool.or_true]
  rfl
@[simp] theorem mul2 {i : Int} : mulC 2 i = true := mulL (by omega)
theorem div_ok {i j : Int} (h1 : 0 < j) (h2 : j < 18446744073709551616) : divC i j = true := by simp [divC, h1, h2]
theorem mod_ok {i j : Int} (h1 : 0 < j) : modC i j = true := by simp [modC, h1]
@[simp] theorem mod2 {i : Int} : modC i 2 = true := mod_ok (by omega)
/-! ## a style -/
structure Sty where
  sc : List (List Nat × Int)
  pl : Nat
  md : List Nat
  tr : Bool
  pr : Bool
def unitD (u : List Nat × Int) : D := .tup [.str u.1, .int u.2]
def Sty.toD (s : Sty) : D := .tup [.tup (s.sc.map unitD), .int s.pl, .str s.md, .bl s.tr, .bl s.pr]
def stp : Nat → Int
  | 0 => 1
  | 1 => 10
  | _ => 100
theorem stp_pos (p : Nat) : 0 < stp p ∧ stp p ≤ 100 := by
  unfold stp
  split <;> omega
theorem tri {p : Nat} (h : p ≤ 2) : p = 0 ∨ p = 1 ∨ p = 2 := by omega
/-- the unit of a number -/
def own : List Int → Int → Nat
  | _ :: b :: r, n => if b ≤ n then own (b :: r) n + 1 else 0
  | _, _ => 0
theorem own_lt : ∀ (l : List Int) (n : Int), l ≠ [] → own l n < l.length
  | [], _, h => absurd rfl h
  | [_], _, _ => by simp [own]
  | a :: b :: r, n, _ => by
    unfold own
    split
    · have := own_lt (b :: r) n (by simp)
      simp at this ⊢
      omega
    · simp
/-- growing -/
def Inc : List Int → Prop
  | a :: b :: r => a < b ∧ Inc (b :: r)
  | _ => True
theorem Inc.tail {a : Int} : ∀ {l : List Int}, Inc (a :: l) → Inc l
  | [], _ => True.intro
  | _ :: _, h => h.2
theorem Inc.gt {a n : Int} : ∀ {l : List Int}, Inc (a :: l) → n < a → ∀ x ∈ l, n < x
  | [], _, _ => fun x h => by cases h
  | b :: r, h, k => fun x hx => by
    rcases List.mem_cons.mp hx with e | e
    · rw [e]; have := h.1; omega
    · exact Inc.gt h.2 (by have := h.1; omega) x e
def idxs (n : Int) (o : Nat) (l : List (List Nat × Int)) : List ((List Nat × Int) × Nat) := (l.zipIdx o).filter fun u => decide (u.1.2 ≤ n)
theorem idxs_nil {n : Int} : ∀ {l : List (List Nat × Int)} {o : Nat}, (∀ x ∈ l, n < x.2) → idxs n o l = []
  | [], _, _ => rfl
  | u :: l, o, h => by
    unfold idxs
    rw [List.zipIdx_cons, List.filter_cons_of_neg (by have := h u (by simp); simp; omega)]
    exact idxs_nil fun x hx => h x (by simp [hx])
theorem idxs_cons {n : Int} {u : List Nat × Int} {l : List (List Nat × Int)} {o : Nat} (h : u.2 ≤ n) : idxs n o (u :: l) = (u, o) :: idxs n (o + 1) l := by
  unfold idxs
  rw [List.zipIdx_cons, List.filter_cons_of_pos (by simpa using h)]
theorem max_idx {n : Int} : ∀ (l : List (List Nat × Int)) (o : Nat) (x : Int) (u : List Nat × Int), Inc ((u :: l).map (·.2)) → x ≤ o → u.2 ≤ n →
    maxL (x :: (idxs n o (u :: l)).map fun p => (p.2 : Int)) = some ((o : Int) + own ((u :: l).map (·.2)) n)
  | [], o, x, u, _, h, k => by
    rw [idxs_cons k]
    simp [idxs, maxL, own]
    omega
  | v :: l, o, x, u, hi, h, k => by
    rw [idxs_cons k]
    by_cases q : v.2 ≤ n
    · have ih := max_idx l (o + 1) o v hi.2 (by omega) q
      rw [List.map_cons, maxL, ih]
      simp [own, q]
      omega
    · have e : idxs n (o + 1) (v :: l) = [] := idxs_nil fun y hy => by
        rcases List.mem_cons.mp hy with z | z
        · rw [z]; omega
        · exact Inc.gt (a := v.2) (l := l.map (·.2)) hi.2 (by omega) y.2 (List.mem_map.mpr ⟨y, z, rfl⟩)
      rw [e]
      simp [maxL, own, q]
      omega
theorem pairs_zip (f : (List Nat × Int) → D) : ∀ (l : List (List Nat × Int)) (o : Nat), pairs (upto o l.length) (l.map f) = (l.zipIdx o).map fun p => D.tup [.int p.2, f p.1]
  | [], _ => by simp [upto, pairs]
  | u :: l, o => by
    have e : upto o (u :: l).length = .int o :: upto ((o + 1 : Nat) : Int) l.length := by
      unfold upto
      rw [List.length_cons, List.range_succ_eq_map]
      simp [Function.comp_def]
      intro a _
      omega
    rw [e, List.map_cons, List.zipIdx_cons, List.map_cons, pairs, pairs_zip f l (o + 1)]
end Sz

namespace Sz
open PySem PySem.Spec PyProof.Rows L2
/-- the unit's number and the value in steps -/
def sizeAt (sc : List (List Nat × Int)) (i : Nat) : Int := (sc.map (·.2)).getD i 0
def key (s : Sty) (n : Int) : Nat × Int :=
  let a := own (s.sc.map (·.2)) n
  let v := rnd n (sizeAt s.sc a) (stp s.pl) s.md
  if s.pr = true ∧ a + 1 < s.sc.length ∧ sizeAt s.sc (a + 1) * stp s.pl ≤ v * sizeAt s.sc a then (a + 1, rnd n (sizeAt s.sc (a + 1)) (stp s.pl) s.md) else (a, v)
def Sizes (sc : List (List Nat × Int)) : Prop := ∀ u ∈ sc, 0 < u.2 ∧ u.2 < 18446744073709551616
theorem size_of {sc : List (List Nat × Int)} {i : Nat} {u : List Nat × Int} (h : sc[i]? = some u) : sizeAt sc i = u.2 := by
  unfold sizeAt
  rw [List.getD_eq_getElem?_getD, List.getElem?_map, h]
  rfl
theorem atI_succ {α : Type} {xs : List α} {n : Nat} : L2.atI xs ((n : Int) + 1) = xs[n + 1]? := by
  have := atI_nat (xs := xs) (n := n + 1)
  simpa using this
/-- the scale that a style may have -/
structure ScOk (sc : List (List Nat × Int)) : Prop where
  first : ∃ u l, sc = u :: l ∧ u.2 = 1
  inc : Inc (sc.map (·.2))
  sizes : Sizes sc
  len : sc.length ≤ 5
end Sz

namespace Sz
open PySem PySem.Spec PyProof.Rows L2
def decs (p : Nat) (r : Int) : List Nat := if 0 < p then (List.replicate ((p : Int) - (digs r).length).toNat [48]).flatten ++ digs r else []
def trimZ (l : List Nat) : List Nat := (l.reverse.dropWhile (· == 48)).reverse
theorem dec_law : ∀ p, p ≤ 2 → ∀ r : Nat, (r : Int) < stp p → cutD (digs (stp p + r)) (some 1) none = decs p r := by
  have h0 : ∀ r : Nat, r < 1 → cutD (digs (stp 0 + r)) (some 1) none = decs 0 r := by decide +kernel
  have h1 : ∀ r : Nat, r < 10 → cutD (digs (stp 1 + r)) (some 1) none = decs 1 r := by decide +kernel
  have h2 : ∀ r : Nat, r < 100 → cutD (digs (stp 2 + r)) (some 1) none = decs 2 r := by decide +kernel
  intro p hp r hr
  rcases tri hp with e | e | e <;> subst e
  · exact h0 r (by simp [stp] at hr; omega)
  · exact h1 r (by simp [stp] at hr; omega)
  · exact h2 r (by simp [stp] at hr; omega)
theorem dec_trim : ∀ p, p ≤ 2 → ∀ r : Nat, (r : Int) < stp p → cd (Txt.rstripChars (tx (decs p r)) (tx [48])) = trimZ (decs p r) := by
  have h0 : ∀ r : Nat, r < 1 → cd (Txt.rstripChars (tx (decs 0 r)) (tx [48])) = trimZ (decs 0 r) := by decide +kernel
  have h1 : ∀ r : Nat, r < 10 → cd (Txt.rstripChars (tx (decs 1 r)) (tx [48])) = trimZ (decs 1 r) := by decide +kernel
  have h2 : ∀ r : Nat, r < 100 → cd (Txt.rstripChars (tx (decs 2 r)) (tx [48])) = trimZ (decs 2 r) := by decide +kernel
  intro p hp r hr
  rcases tri hp with e | e | e <;> subst e
  · exact h0 r (by simp [stp] at hr; omega)
  · exact h1 r (by simp [stp] at hr; omega)
  · exact h2 r (by simp [stp] at hr; omega)
theorem dec_len : ∀ p, p ≤ 2 → ∀ r : Nat, (r : Int) < stp p → (decs p r).length ≤ 2 ∧ (digs r).length ≤ 2 ∧ (digs (stp p + r)).length ≤ 3 := by
  have h0 : ∀ r : Nat, r < 1 → (decs 0 r).length ≤ 2 ∧ (digs r).length ≤ 2 ∧ (digs (stp 0 + r)).length ≤ 3 := by decide +kernel
  have h1 : ∀ r : Nat, r < 10 → (decs 1 r).length ≤ 2 ∧ (digs r).length ≤ 2 ∧ (digs (stp 1 + r)).length ≤ 3 := by decide +kernel
  have h2 : ∀ r : Nat, r < 100 → (decs 2 r).length ≤ 2 ∧ (digs r).length ≤ 2 ∧ (digs (stp 2 + r)).length ≤ 3 := by decide +kernel
  intro p hp r hr
  rcases tri hp with e | e | e <;> subst e
  · exact h0 r (by simp [stp] at hr; omega)
  · exact h1 r (by simp [stp] at hr; omega)
  · exact h2 r (by simp [stp] at hr; omega)
/-! ### lowest -/
theorem while_go {ft : Ev → Mem → Out Bool} {f : Ev → Mem → SO} {n : Nat} {e e2 : Ev} {m m2 : Mem} (h1 : ft e m = .ok true m) (h2 : f e m = .nx e2 m2) : whileN ft f (n + 1) e m = whileN ft f n e2 m2 := by
  rw [whileN, h1, thn_ok, if_pos rfl, h2]
theorem while_stop {ft : Ev → Mem → Out Bool} {f : Ev → Mem → SO} {n : Nat} {e : Ev} {m : Mem} (h1 : ft e m = .ok false m) : whileN ft f (n + 1) e m = .nx e m := by
  rw [whileN, h1, thn_ok, if_neg (by decide)]
end Sz

namespace Sz
open PySem PySem.Spec PyProof.Rows L2
theorem digs_list (i : Nat) : digs (i : Int) = (Nat.repr i).toList.map Char.toNat := by
  unfold digs cd
  rw [Str.ofString_eq_toList]
  rfl
theorem toDigits_len : ∀ (e f n : Nat) (l : List Char), 0 < e → n < 10 ^ e → (Nat.toDigitsCore 10 f n l).length ≤ e + l.length
  | _, 0, _, l, _, _ => by simp [Nat.toDigitsCore]
  | e, f + 1, n, l, he, h => by
    unfold Nat.toDigitsCore
    dsimp only
    split
    · simp; omega
    · rename_i q
      cases e with
      | zero => omega
      | succ e =>
        cases e with
        | zero => simp at h; omega
        | succ e =>
          have := toDigits_len (e + 1) f (n / 10) (Nat.digitChar (n % 10) :: l) (by omega) (by rw [Nat.div_lt_iff_lt_mul (by omega)]; exact h)
          rw [List.length_cons] at this
          omega
theorem digs_len {i e : Nat} (h0 : 0 < e) (h : i < 10 ^ e) : (digs (i : Int)).length ≤ e := by
  rw [digs_list, List.length_map]
  have := toDigits_len e (i + 1) i [] h0 h
  simpa [Nat.repr, Nat.toDigits] using this
/-! ### the checks -/
variable {i : Int} {m : Mem} {s : List Nat} {l : List D} {b : Bool}
@[simp] theorem isi_ii : gIsi "int" [.int i, .val (.ty "int")] m = .ok (.bl true) m := rfl
@[simp] theorem isi_bi : gIsi "bool" [.int i, .val (.ty "bool")] m = .ok (.bl false) m := rfl
@[simp] theorem isi_bb : gIsi "bool" [.bl b, .val (.ty "bool")] m = .ok (.bl true) m := rfl
@[simp] theorem isi_ss : gIsi "str" [.str s, .val (.ty "str")] m = .ok (.bl true) m := rfl
@[simp] theorem isi_tt : gIsi "tuple" [.tup l, .val (.ty "tuple")] m = .ok (.bl true) m := rfl
theorem m_is_count_eq {i a b : Int} : m_is_count [.int i, .int a, .int b] m = .ok (.bl (decide (a ≤ i ∧ i ≤ b))) m := by
  simp [m_is_count, b_is_count]
  by_cases h : a ≤ i <;> simp [h]
def LETTERS : List Nat := [97, 98, 99, 100, 101, 102, 103, 104, 105, 106, 107, 108, 109, 110, 111, 112, 113, 114, 115, 116, 117, 118, 119, 120, 121, 122, 65, 66, 67, 68, 69, 70, 71, 72, 73, 74, 75, 76, 77, 78, 79, 80, 81, 82, 83, 84, 85, 86, 87, 88, 89, 90]
def nameOk (s : List Nat) : Bool := decide (s.length ≤ 3) && s.all fun k => decide (k ∈ LETTERS)
theorem b_name : b_is_name = kRet (sAnd (sCB (gIsi "str") (sCons (sVar 0) (sCons (sC (.val (.ty "str"))) (sNil)))) (sAnd (sBin gLe (sCB gLen (sCons (sVar 0) (sNil))) (sC (.int 3))) (sCB gAll (sCons (sLc [1] (iOf asCh (sVar 0)) (gN 1) (tYesS) (sBin gIn (sVar 1) (sC (.str LETTERS)))) (sNil))))) := rfl
theorem m_is_name_eq (h : s.length ≤ 1000) : m_is_name [.str s] m = .ok (.bl (nameOk s)) m := by
  have sz1 : sz s.length = true := by simp [sz]; omega
  have lc := lc_pure (g := gN 1) (ft := tYesS) (f := sBin gIn (sVar 1) (sC (.str LETTERS))) (m := m) (e0 := [some (.str s), none]) (mk := fun k : Nat => D.str [k]) (keep := fun _ => true) (val := fun k => .bl (decide (k ∈ LETTERS))) s []
    (fun x hx => ⟨_, rfl, rfl, fun _ => by simp [gIn, inO]⟩) (by simp; omega)
  unfold nameOk
  by_cases h3 : s.length ≤ 3
  · have h3' : ((s.length : Nat) : Int) ≤ 3 := by omega
    simp [m_is_name, b_name, sz1, h3, h3']
    rw [lc]
    have z : (s.map fun k => D.bl (decide (k ∈ LETTERS))) = (s.map fun k => decide (k ∈ LETTERS)).map D.bl := by simp
    simp [gAll]
    rw [List.filter_eq_self.mpr (fun _ _ => rfl), z, boolsO_map]
    simp [List.all_map, Function.comp_def]
  · have h3' : ¬ ((s.length : Nat) : Int) ≤ 3 := by omega
    simp [m_is_name, b_name, sz1, h3, h3']
/-! ### is_scale -/
/-- each unit within its bounds, from the one before -/
def bnds : Option Int → List (List Nat × Int) → Prop
  | _, [] => True
  | none, u :: l => u.2 = 1 ∧ bnds (some u.2) l
  | some b, u :: l => b + 1 ≤ u.2 ∧ u.2 ≤ b * 2000 ∧ bnds (some u.2) l
def befD : Option Int → D
  | none => .non
  | some b => .int b
theorem scale_loop : ∀ (l : List (List Nat × Int)) (x : D) (b : Option Int) (y z v : Option D) (m : Mem), bnds b l → ∃ b' y' z', forL (gT [2, 3]) wb_is_scale_1 (l.map unitD) [some x, some (befD b), y, z, v] m = .nx [some x, b', y', z', v] m
  | [], x, b, y, z, v, m, _ => ⟨_, _, _, rfl⟩
  | u :: l, x, b, y, z, v, m, h => by
    have h2 : bnds (some u.2) l := by
      cases b with
      | none => exact h.2
      | some b => exact h.2.2
    obtain ⟨b', y', z', ih⟩ := scale_loop l x (some u.2) (some (.str u.1)) (some (.int u.2)) v m h2
    refine ⟨b', y', z', ?_⟩
    rw [List.map_cons, forL]
    have st : wb_is_scale_1 [some x, some (befD b), some (.str u.1), some (.int u.2), v] m = .nx [some x, some (.int u.2), some (.str u.1), some (.int u.2), v] m := by
      cases b with
      | none =>
        have e := h.1
        simp [wb_is_scale_1, befD, m_is_count_eq, e]
      | some b =>
        have e1 := h.1
        have e2 := h.2.1
        simp [wb_is_scale_1, befD, m_is_count_eq, mulR, e1, e2]
    have ge : gT [2, 3] [some x, some (befD b), y, z, v] (unitD u) = some [some x, some (befD b), some (.str u.1), some (.int u.2), v] := by simp [unitD]
    rw [ge]
    dsimp only
    rw [st]
    exact ih
end Sz

namespace Sz
open PySem PySem.Spec PyProof.Rows L2
variable {i : Int} {m : Mem} {s : List Nat} {l : List D} {b : Bool}
theorem dis_nodup {α : Type} [DecidableEq α] (l : List α) (h : l.Nodup) : dis l = l := by
  have : ∀ (l a : List α), (a ++ l).Nodup → l.foldl addNew a = a ++ l := fun l => by
    induction l with
    | nil => intro a _; simp
    | cons x l ih =>
      intro a ha
      have hx : x ∉ a := fun q => by
        have := (List.nodup_append.mp ha).2.2 x q x (by simp)
        exact this rfl
      rw [List.foldl_cons, addNew, if_neg hx, ih (a ++ [x]) (by simpa using ha)]
      simp
  simpa [dis] using this l [] (by simpa using h)
structure ScGood (sc : List (List Nat × Int)) : Prop where
  ne : 1 ≤ sc.length
  len : sc.length ≤ 5
  names : ∀ u ∈ sc, nameOk u.1 = true
  bnd : bnds none sc
  nd : (sc.map (·.1)).Nodup
theorem nameOk_len (h : nameOk s = true) : s.length ≤ 3 := by
  unfold nameOk at h
  simp at h
  exact h.1
theorem m_is_scale_eq {sc : List (List Nat × Int)} (g : ScGood sc) : m_is_scale [.tup (sc.map unitD)] m = .ok (.bl true) m := by
  have l1 : (1 : Int) ≤ (sc.length : Int) := by have := g.ne; omega
  have l2 : (sc.length : Int) ≤ 5 := by have := g.len; omega
  have lc := lc_pure (g := gN 4) (ft := tYesS) (f := sAnd (sCB (gIsi "tuple") (sCons (sVar 4) (sCons (sC (.val (.ty "tuple"))) (sNil)))) (sAnd (sBin gEq (sCB gLen (sCons (sVar 4) (sNil))) (sC (.int 2))) (sCall 1 m_is_name (sCons (sBin gIx (sVar 4) (sC (.int 0))) (sNil))))) (m := m) (e0 := [some (.tup (sc.map unitD)), none, none, none, none]) (mk := unitD) (keep := fun _ => true) (val := fun u => .bl true) sc []
    (fun x hx => ⟨_, rfl, rfl, fun _ => by
      have n1 := g.names x hx
      have n2 := nameOk_len n1
      simp [unitD, atI_0, m_is_name_eq (s := x.1) (by omega), n1]⟩) (by have := g.len; simp; omega)
  obtain ⟨b', y', z', fl⟩ := scale_loop sc (.tup (sc.map unitD)) none none none none m g.bnd
  have lc2 := lc_pure (g := gT [2, 3]) (ft := tYesS) (f := sVar 2) (m := m) (e0 := [some (.tup (sc.map unitD)), b', none, none, none]) (mk := unitD) (keep := fun _ => true) (val := fun u => .str u.1) sc []
    (fun x hx => ⟨_, rfl, rfl, fun _ => by simp⟩) (by have := g.len; simp; omega)
  simp [m_is_scale, b_is_scale, l1, l2]
  rw [lc]
  have z : (sc.map fun _ => D.bl true) = (sc.map fun _ => true).map D.bl := by simp
  simp [gAll]
  rw [List.filter_eq_self.mpr (fun _ _ => rfl)] at lc2 ⊢
  rw [z, boolsO_map]
  simp
  simp [befD] at fl
  rw [fl]
  simp
  rw [lc2]
  have z2 : (sc.map fun u => D.str u.1) = (sc.map (·.1)).map D.str := by simp
  simp
  rw [z2, texts_map]
  simp
  rw [if_pos (by have := g.len; omega), dis_nodup _ g.nd]
  simp
structure Good (s : Sty) : Prop where
  sc : ScGood s.sc
  pl : s.pl ≤ 2
  md : s.md ∈ [DOWN, UP, HALF, EVEN]
theorem m_is_style_eq {s : Sty} (g : Good s) : m_is_style [s.toD] m = .ok (.bl true) m := by
  have p1 : (s.pl : Int) ≤ 2 := by have := g.pl; omega
  have md := g.md
  simp at md
  unfold Sty.toD
  rcases md with e | e | e | e <;> simp [m_is_style, b_is_style, atI_0, atI_1, atI_2, atI_3, atI_4, m_is_scale_eq g.sc, m_is_count_eq, p1, e]
theorem m_need_style_eq {s : Sty} (g : Good s) : m_need_style [s.toD] m = .ok .non m := by simp [m_need_style, b_need_style, m_is_style_eq g]
end Sz

namespace Sz
open PySem PySem.Spec PyProof.Rows L2
variable {m : Mem} {b : Bool}
def nameAt (sc : List (List Nat × Int)) (i : Nat) : List Nat := (sc.map (·.1)).getD i []
theorem name_of {sc : List (List Nat × Int)} {i : Nat} {u : List Nat × Int} (h : sc[i]? = some u) : nameAt sc i = u.1 := by
  unfold nameAt
  rw [List.getD_eq_getElem?_getD, List.getElem?_map, h]
  rfl
/-- the decimals, as they are shown -/
def decT (s : Sty) (v : Int) : List Nat := if s.tr = true then trimZ (decs s.pl (v % stp s.pl)) else decs s.pl (v % stp s.pl)
def txt (s : Sty) (i : Nat) (v : Int) : List Nat := digs (v / stp s.pl) ++ (if decT s v = [] then [] else 46 :: decT s v) ++ nameAt s.sc i
theorem trim_len (l : List Nat) : (trimZ l).length ≤ l.length := by
  unfold trimZ
  rw [List.length_reverse]
  have := (List.dropWhile_suffix (· == 48) (l := l.reverse)).length_le
  simpa using this
theorem sz_ok {n : Nat} (h : n ≤ 1000) : sz n = true := by simp [sz]; omega
theorem nat_small {v : Int} (h0 : 0 ≤ v) (h : v < 10 ^ 60) : v.natAbs < 2 ^ 1000 := by
  have e : (10 : Int) ^ 60 ≤ ((2 ^ 200 : Nat) : Int) := by decide +kernel
  have e2 : (2 : Nat) ^ 200 ≤ 2 ^ 1000 := Nat.pow_le_pow_right (by omega) (by omega)
  omega
theorem str_ok {v : Int} (h0 : 0 ≤ v) (h : v < 10 ^ 60) : gStr [.int v] m = .ok (.str (digs v)) m := by
  rw [gStr_i, if_pos (by simpa using nat_small h0 h)]
theorem digs_60 {v : Int} (h0 : 0 ≤ v) (h : v < 10 ^ 60) : (digs v).length ≤ 60 := by
  obtain ⟨n, rfl⟩ := Int.eq_ofNat_of_zero_le h0
  refine digs_len (by omega) ?_
  have e : (10 : Int) ^ 60 = ((10 ^ 60 : Nat) : Int) := by decide +kernel
  rw [e] at h
  omega
end Sz

namespace Sz
open PySem PySem.Spec PyProof.Rows L2
variable {m : Mem} {b : Bool}
theorem steps_ix {p : Nat} (h : p ≤ 2) : ∀ m, (gIx (.lst [.int 1, .int 10, .int 100]) (.int (p : Int)) m) = .ok (.int (stp p)) m := fun m => by
  rcases tri h with e | e | e <;> subst e <;> simp [atI_0, atI_1, atI_2, stp]
end Sz

namespace Sz
open PySem PySem.Spec PyProof.Rows L2
variable {m : Mem} {b : Bool}
theorem own_at {s : Sty} (hs : ScOk s.sc) (n : Int) : ∃ u, s.sc[own (s.sc.map (·.2)) n]? = some u := by
  obtain ⟨u0, l0, e0, h0⟩ := hs.first
  have := own_lt (s.sc.map (·.2)) n (by rw [e0]; simp)
  exact ⟨_, List.getElem?_eq_getElem (by simpa using this)⟩
end Sz

namespace Sz
open PySem PySem.Spec PyProof.Rows L2
variable {m : Mem} {b : Bool}
theorem trim_nil : trimZ [] = [] := rfl
theorem trim_snoc (q : List Nat) (c : Nat) : trimZ (q ++ [c]) = if c = 48 then trimZ q else q ++ [c] := by
  unfold trimZ
  rw [List.reverse_append]
  simp only [List.reverse_cons, List.reverse_nil, List.nil_append, List.singleton_append, List.dropWhile_cons]
  by_cases h : c = 48
  · simp [h]
  · simp [h]
theorem cut_last (q : List Nat) (c : Nat) : cutD (q ++ [c]) none (some (-1)) = q := by
  unfold cutD
  simp [HT.sIx]
  have : (-1 + ((q.length : Int) + 1)).toNat = q.length := by omega
  rw [this]
  simp
theorem rnd_bnd {n z st : Int} {md : List Nat} (h0 : 0 ≤ n) (hz : 0 < z) (hs : 0 < st) : 0 ≤ rnd n z st md ∧ rnd n z st md ≤ n * st + 1 := by
  have p : 0 ≤ n * st := Int.mul_nonneg h0 (by omega)
  have a : 0 ≤ n * st / z := Int.ediv_nonneg p (by omega)
  have b : n * st / z ≤ n * st := Int.ediv_le_self _ p
  have q : n * st / z % 2 = 0 ∨ n * st / z % 2 = 1 := by omega
  unfold rnd
  generalize n * st / z = w at *
  generalize n * st = x at *
  constructor <;> (repeat' split) <;> omega
theorem key_at {s : Sty} (hs : ScOk s.sc) {n : Int} (h0 : 0 ≤ n) : (∃ u, s.sc[(key s n).1]? = some u) ∧ 0 ≤ (key s n).2 ∧ (key s n).2 ≤ n * stp s.pl + 1 := by
  obtain ⟨u, hu⟩ := own_at hs n
  have us := hs.sizes u (List.mem_of_getElem? hu)
  have sp := stp_pos s.pl
  unfold key
  dsimp only
  split
  · rename_i c
    obtain ⟨v, hv⟩ : ∃ v, s.sc[own (s.sc.map (·.2)) n + 1]? = some v := ⟨_, List.getElem?_eq_getElem c.2.1⟩
    have vs := hs.sizes v (List.mem_of_getElem? hv)
    rw [size_of hv]
    exact ⟨⟨v, hv⟩, rnd_bnd h0 vs.1 sp.1⟩
  · rw [size_of hu]
    exact ⟨⟨u, hu⟩, rnd_bnd h0 us.1 sp.1⟩
def amt (s : Sty) (n : Int) : Int := (key s n).2 * sizeAt s.sc (key s n).1
end Sz

namespace Sz
open PySem PySem.Spec PyProof.Rows L2
variable {m : Mem} {b : Bool}
theorem bnds_big : ∀ (l : List (List Nat × Int)) (b : Int), bnds (some b) l → 0 < b → ∀ u ∈ l, 0 < u.2 ∧ u.2 ≤ b * 2000 ^ l.length
  | [], _, _, _ => fun u hu => by cases hu
  | v :: l, b, h, hb => fun u hu => by
    obtain ⟨h1, h2, h3⟩ := h
    have p : (0 : Int) < 2000 ^ l.length := Int.pow_pos (by omega)
    have e : (2000 : Int) ^ (v :: l).length = 2000 * 2000 ^ l.length := by rw [List.length_cons, Int.pow_succ, Int.mul_comm]
    have q : v.2 * 2000 ^ l.length ≤ b * 2000 ^ (v :: l).length := by
      rw [e, ← Int.mul_assoc]
      exact Int.mul_le_mul_of_nonneg_right h2 (by omega)
    rcases List.mem_cons.mp hu with z | z
    · rw [z]
      have : v.2 * 1 ≤ v.2 * 2000 ^ l.length := Int.mul_le_mul_of_nonneg_left (by omega) (by omega)
      omega
    · obtain ⟨i1, i2⟩ := bnds_big l v.2 h3 (by omega) u z
      omega
theorem bnds_inc : ∀ (l : List (List Nat × Int)) (b : Int), bnds (some b) l → Inc (b :: l.map (·.2))
  | [], _, _ => True.intro
  | v :: l, b, h => ⟨show b < v.2 by have := h.1; omega, bnds_inc l v.2 h.2.2⟩
theorem ScGood.ok {sc : List (List Nat × Int)} (g : ScGood sc) : ScOk sc := by
  have hb := g.bnd
  have hl := g.len
  cases sc with
  | nil => have := g.ne; simp at this
  | cons u l =>
    have e : u.2 = 1 := hb.1
    refine ⟨⟨u, l, rfl, e⟩, bnds_inc l u.2 hb.2, fun v hv => ?_, hl⟩
    rcases List.mem_cons.mp hv with z | z
    · rw [z]; omega
    · obtain ⟨i1, i2⟩ := bnds_big l u.2 hb.2 (by omega) v z
      have p : (2000 : Int) ^ l.length ≤ 2000 ^ 4 := by
        have : l.length ≤ 4 := by simp at hl; omega
        exact_mod_cast Nat.pow_le_pow_right (n := 2000) (by omega) this
      rw [e] at i2
      omega
theorem Good.name {s : Sty} (g : Good s) : ∀ u ∈ s.sc, u.1.length ≤ 3 := fun u hu => nameOk_len (g.sc.names u hu)
/-- the amount in lowest terms -/
def lowG (s : Sty) (n : Int) : Nat := Nat.gcd (amt s n).toNat (stp s.pl).toNat
end Sz

namespace Sz
open PySem PySem.Spec PyProof.Rows L2
theorem gEq_scr0 {ns : List Int} {m : Mem} : gEq (.scr ns) (.lst []) m = .ok (.bl ns.isEmpty) m := by
  cases ns with
  | nil => rfl
  | cons n ns => rfl
theorem ixN0 : L2.ixN 2 0 = some 0 := rfl
theorem ixN1 : L2.ixN 2 1 = some 1 := rfl
theorem setTo {m : Mem} {k : Nat} {o p : Ob} (h : m[k]? = some o) : (m.set k p)[k]? = some p := by
  obtain ⟨hk, _⟩ := List.getElem?_eq_some_iff.mp h
  exact List.getElem?_set_self hk
theorem pow18 : powC 10 18 = true := by decide +kernel
theorem pow60 : powC 10 60 = true := by decide +kernel
theorem mul120 : mulC 1000000000000000000000000000000000000000000000000000000000000 1000000000000000000000000000000000000000000000000000000000000 = true := by decide +kernel
theorem bcons_nx {f g : Ev → Mem → SO} {e e1 : Ev} {m m1 : Mem} (h : f e m = .nx e1 m1) : bCons f g e m = g e1 m1 := by rw [bCons_e, h, seq_nx]
theorem bcons_rt {f g : Ev → Mem → SO} {e : Ev} {m m1 : Mem} {d : D} (h : f e m = .rt d m1) : bCons f g e m = .rt d m1 := by rw [bCons_e, h, seq_rt]
theorem def_eq {np nn : Nat} {f : Ev → Mem → SO} {ds : List D} {m : Mem} {o : Out D} (h1 : ds.length = np) (h2 : finD m.length (f (ds.map some ++ List.replicate (nn - np) none) m) = o) : defSem np nn f ds m = o := by
  unfold defSem
  rw [if_pos h1, h2]
theorem m_draw_all {ns : List Int} {a b many : Int} (ha : 0 ≤ a) (h0 : 0 < many) (h1 : many < 18446744073709551616) :
    ∃ d a' b', (∀ {m : Mem} {k : Nat}, m[k]? = some (.lst [.int a, .int b]) → m__law_draw [.scr ns, .ref k, .int many] m = .ok (.int d) (m.set k (.lst [.int a', .int b']))) ∧ 0 ≤ d ∧ d < many ∧ 0 ≤ a' := by
  have md := fun i => mod_ok (i := i) h0
  have dv := fun i => div_ok (i := i) h0 h1
  have r := fun i : Int => And.intro (Int.emod_nonneg i (show many ≠ 0 by omega)) (Int.emod_lt_of_pos i h0)
  by_cases hb : 0 < b
  · refine ⟨b % many, a, b / many, fun {m k} h => ?_, (r b).1, (r b).2, ha⟩
    simp [m__law_draw, b__law_draw, gIx_r h, atI_0, atI_1, hb, md, dv, h, ixN1]
  · have hs' := fun (m : Mem) (k : Nat) (h : m[k]? = some (.lst [.int a, .int b])) => setTo (p := .lst [.int (a + 1), .int b]) h
    cases ns with
    | nil =>
      refine ⟨a % many, a + 1, b, fun {m k} h => ?_, (r a).1, (r a).2, by omega⟩
      have h' := hs' m k h
      simp [m__law_draw, b__law_draw, gIx_r h, atI_0, atI_1, hb, md, dv, h, ixN0, h', gEq_scr0]
    | cons n0 nr =>
      have hlp : (0 : Int) < ((n0 :: nr).length : Int) := by simp
      generalize hns : n0 :: nr = ns at *
      have ne : ns.isEmpty = false := by rw [← hns]; rfl
      obtain ⟨an, rfl⟩ := Int.eq_ofNat_of_zero_le ha
      obtain ⟨d, d0, d1, dm⟩ : ∃ d, 0 ≤ d ∧ d < many ∧ ∀ (k : Nat) (m : Mem), (bCons (kSet 5 (sBin gMod (sBin gAdd (sBin gAdd (sBin gMul (sBin gIx (sVar 0) (sBin gMod (sVar 4) (sCB gLen (sCons (sVar 0) (sNil))))) (sC (.int 1103515245))) (sBin gMul (sC (.int 7919)) (sVar 4))) (sC (.int 12345))) (sC (.int 2147483647)))) (kRet (sBin gMod (sBin gMod (sBin gMod (sBin gPow (sVar 5) (sC (.int 5))) (sC (.int 2147483647))) (sC (.int 999983))) (sVar 2)))) [some (.scr ns), some (.ref k), some (.int many), none, some (.int (an : Int)), none] m = .rt (.int d) m := by
        obtain ⟨j, e1, lt⟩ : ∃ j : Nat, (an : Int) % (ns.length : Int) = (j : Int) ∧ j < ns.length := ⟨an % ns.length, by omega, Nat.mod_lt _ (by omega)⟩
        obtain ⟨x, g1⟩ : ∃ x, ns[j]? = some x := ⟨_, List.getElem?_eq_getElem lt⟩
        obtain ⟨_, hx⟩ := List.getElem?_eq_some_iff.mp g1
        have mx : 0 ≤ (x * 1103515245 + 7919 * (an : Int) + 12345) % 2147483647 ∧ (x * 1103515245 + 7919 * (an : Int) + 12345) % 2147483647 < 2147483647 := ⟨Int.emod_nonneg _ (by omega), Int.emod_lt_of_pos _ (by omega)⟩
        refine ⟨((x * 1103515245 + 7919 * (an : Int) + 12345) % 2147483647) ^ 5 % 2147483647 % 999983 % many, (r _).1, (r _).2, fun k m => ?_⟩
        have z1 := mod_ok (i := (an : Int)) hlp
        have z2 := fun i => mod_ok (i := i) (j := 2147483647) (by omega)
        have z3 := fun i => mod_ok (i := i) (j := 999983) (by omega)
        have z4 := fun i => mulR (i := i) (j := 1103515245) (by omega)
        have z5 := fun j => mulL (i := 7919) (j := j) (by omega)
        simp [z1, z2, z3, z4, z5, e1, atI_nat, List.getElem?_map, g1, hx, lt]
        generalize (x * 1103515245 + 7919 * (an : Int) + 12345) % 2147483647 = y at *
        have z6 : powC y 5 = true := by simp [powC]; omega
        simp [z6, z2, z3, md]
      have pre : ∀ (m : Mem) (k : Nat), m[k]? = some (.lst [.int (an : Int), .int b]) → ∀ o, finD m.length ((bCons (kIf (sAndT (sTest (sBin gLtI (sVar 4) (sCB gLen (sCons (sVar 0) (sNil))))) (sTest (sBin gGe (sBin gIx (sVar 0) (sVar 4)) (sBin gPow (sC (.int 10)) (sC (.int 18)))))) (bCons (kSetIx (sBin gMod (sBin gDiv (sBin gIx (sVar 0) (sVar 4)) (sVar 2)) (sBin gMul (sBin gPow (sC (.int 10)) (sC (.int 60))) (sBin gPow (sC (.int 10)) (sC (.int 60))))) (sVar 1) (sC (.int 1))) (kRet (sBin gMod (sBin gIx (sVar 0) (sVar 4)) (sVar 2)))) (bNil)) (bCons (kSet 5 (sBin gMod (sBin gAdd (sBin gAdd (sBin gMul (sBin gIx (sVar 0) (sBin gMod (sVar 4) (sCB gLen (sCons (sVar 0) (sNil))))) (sC (.int 1103515245))) (sBin gMul (sC (.int 7919)) (sVar 4))) (sC (.int 12345))) (sC (.int 2147483647)))) (kRet (sBin gMod (sBin gMod (sBin gMod (sBin gPow (sVar 5) (sC (.int 5))) (sC (.int 2147483647))) (sC (.int 999983))) (sVar 2)))))
          [some (.scr ns), some (.ref k), some (.int many), none, some (.int (an : Int)), none] (m.set k (.lst [.int ((an : Int) + 1), .int b]))) = o → m__law_draw [.scr ns, .ref k, .int many] m = o := fun m k h o ho => by
        refine def_eq rfl ?_
        unfold b__law_draw
        rw [bcons_nx (e1 := [some (.scr ns), some (.ref k), some (.int many), none, none, none]) (m1 := m) (by simp [gIx_r h, atI_1, hb])]
        rw [bcons_nx (e1 := [some (.scr ns), some (.ref k), some (.int many), none, some (.int (an : Int)), none]) (m1 := m) (by simp [gIx_r h, atI_0])]
        rw [bcons_nx (e1 := [some (.scr ns), some (.ref k), some (.int many), none, some (.int (an : Int)), none]) (m1 := m.set k (.lst [.int ((an : Int) + 1), .int b])) (by simp [h, ixN0])]
        rw [bcons_nx (e1 := [some (.scr ns), some (.ref k), some (.int many), none, some (.int (an : Int)), none]) (m1 := m.set k (.lst [.int ((an : Int) + 1), .int b])) (by simp [gEq_scr0, ne])]
        exact ho
      have e18 : ((10 : Int) ^ 18) = 1000000000000000000 := by decide +kernel
      by_cases hlt : an < ns.length
      · have hlt' : (an : Int) < (ns.length : Int) := by omega
        obtain ⟨x, g1⟩ : ∃ x, ns[an]? = some x := ⟨_, List.getElem?_eq_getElem hlt⟩
        obtain ⟨_, hx⟩ := List.getElem?_eq_some_iff.mp g1
        by_cases big : (1000000000000000000 : Int) ≤ x
        · refine ⟨x % many, (an : Int) + 1, x / many % 1000000000000000000000000000000000000000000000000000000000000000000000000000000000000000000000000000000000000000000000000, fun {m k} h => pre m k h _ ?_, (r _).1, (r _).2, by omega⟩
          have h' := hs' m k h
          have m120 : modC (x / many) 1000000000000000000000000000000000000000000000000000000000000000000000000000000000000000000000000000000000000000000000000 = true := mod_ok (by decide +kernel)
          rw [bcons_rt (d := .int (x % many)) (m1 := m.set k (.lst [.int ((an : Int) + 1), .int (x / many % 1000000000000000000000000000000000000000000000000000000000000000000000000000000000000000000000000000000000000000000000000)]))]
          · simp
          · simp [hlt', atI_nat, List.getElem?_map, g1, hx, hlt, pow18, e18, big, md, dv, pow60, h', ixN1, mul120, m120]
        · refine ⟨d, (an : Int) + 1, b, fun {m k} h => pre m k h _ ?_, d0, d1, by omega⟩
          rw [bcons_nx (e1 := [some (.scr ns), some (.ref k), some (.int many), none, some (.int (an : Int)), none]) (m1 := m.set k (.lst [.int ((an : Int) + 1), .int b])) (by simp [hlt', atI_nat, List.getElem?_map, g1, hx, hlt, pow18, e18, big]), dm]
          simp
      · refine ⟨d, (an : Int) + 1, b, fun {m k} h => pre m k h _ ?_, d0, d1, by omega⟩
        have hlt' : ¬ (an : Int) < (ns.length : Int) := by omega
        rw [bcons_nx (e1 := [some (.scr ns), some (.ref k), some (.int many), none, some (.int (an : Int)), none]) (m1 := m.set k (.lst [.int ((an : Int) + 1), .int b])) (by simp [hlt']), dm]
        simp
theorem m_draw_eq {ns : List Int} {k : Nat} {a b many : Int} {m : Mem} (h : m[k]? = some (.lst [.int a, .int b])) (ha : 0 ≤ a) (h0 : 0 < many) (h1 : many < 18446744073709551616) :
    ∃ d a' b', m__law_draw [.scr ns, .ref k, .int many] m = .ok (.int d) (m.set k (.lst [.int a', .int b'])) ∧ 0 ≤ d ∧ d < many ∧ 0 ≤ a' := by
  obtain ⟨d, a', b', e, q⟩ := m_draw_all (ns := ns) (a := a) (b := b) ha h0 h1
  exact ⟨d, a', b', e h, q⟩
end Sz

namespace Sz
open PySem PySem.Spec PyProof.Rows L2
theorem draw0 (ns : List Int) {a b : Int} (rest : Mem) (many : Int) (ha : 0 ≤ a) (h0 : 0 < many) (h1 : many < 18446744073709551616) :
    ∃ d a' b', m__law_draw [.scr ns, .ref 0, .int many] (.lst [.int a, .int b] :: rest) = .ok (.int d) (.lst [.int a', .int b'] :: rest) ∧ 0 ≤ d ∧ d < many ∧ 0 ≤ a' := by
  have := m_draw_eq (ns := ns) (k := 0) (m := .lst [.int a, .int b] :: rest) rfl ha h0 h1
  simpa using this
theorem pickL (ns : List Int) {a b : Int} (rest : Mem) (l : List D) (ha : 0 ≤ a) (h0 : l ≠ []) (h1 : l.length ≤ 1000) :
    ∃ x a' b', m__law_pick [.scr ns, .ref 0, .lst l] (.lst [.int a, .int b] :: rest) = .ok x (.lst [.int a', .int b'] :: rest) ∧ x ∈ l ∧ 0 ≤ a' := by
  have hp : 0 < l.length := List.length_pos_iff.mpr h0
  obtain ⟨d, a', b', e, d0, d1, a0⟩ := draw0 ns (a := a) (b := b) rest l.length ha (by omega) (by omega)
  obtain ⟨n, rfl⟩ := Int.eq_ofNat_of_zero_le d0
  have hn : n < l.length := by omega
  refine ⟨l[n], a', b', ?_, List.getElem_mem _, a0⟩
  refine def_eq rfl ?_
  simp [b__law_pick, e, atI_nat, hn]
  exact pack_le (by simp)
theorem pickT (ns : List Int) {a b : Int} (rest : Mem) (l : List D) (ha : 0 ≤ a) (h0 : l ≠ []) (h1 : l.length ≤ 1000) :
    ∃ x a' b', m__law_pick [.scr ns, .ref 0, .tup l] (.lst [.int a, .int b] :: rest) = .ok x (.lst [.int a', .int b'] :: rest) ∧ x ∈ l ∧ 0 ≤ a' := by
  have hp : 0 < l.length := List.length_pos_iff.mpr h0
  obtain ⟨d, a', b', e, d0, d1, a0⟩ := draw0 ns (a := a) (b := b) rest l.length ha (by omega) (by omega)
  obtain ⟨n, rfl⟩ := Int.eq_ofNat_of_zero_le d0
  have hn : n < l.length := by omega
  refine ⟨l[n], a', b', ?_, List.getElem_mem _, a0⟩
  refine def_eq rfl ?_
  simp [b__law_pick, e, atI_nat, hn]
  exact pack_le (by simp)
/-! ### the sizes -/
def bI : Int → List Int → Prop
  | _, [] => True
  | b, x :: l => b + 1 ≤ x ∧ x ≤ b * 19 ∧ bI x l
theorem bI_snoc : ∀ (l : List Int) (b y x : Int), bI b l → (b :: l).getLast? = some y → y + 1 ≤ x → x ≤ y * 19 → bI b (l ++ [x])
  | [], b, y, x, _, h, h1, h2 => by
    simp at h
    subst h
    exact ⟨h1, h2, True.intro⟩
  | z :: l, b, y, x, hb, h, h1, h2 => ⟨hb.1, hb.2.1, bI_snoc l z y x hb.2.2 (by simpa using h) h1 h2⟩
theorem bI_pos : ∀ (l : List Int) (b y : Int), 0 < b → bI b l → (b :: l).getLast? = some y → 0 < y
  | [], b, y, hb, _, h => by simp at h; omega
  | z :: l, b, y, hb, h, e => bI_pos l z y (by have := h.1; omega) h.2.2 (by simpa using e)
theorem bI_bnds : ∀ (l : List Int) (nm : List (List Nat)) (b : Int), 0 < b → bI b l → bnds (some b) (nm.zip l)
  | [], nm, _, _, _ => by simp [bnds]
  | x :: l, [], _, _, _ => True.intro
  | x :: l, n :: nm, b, hb, h => ⟨h.1, (by have := h.2.1; omega), bI_bnds l nm x (by have := h.1; omega) h.2.2⟩
theorem bI_big : ∀ (l : List Int) (b : Int), 0 < b → bI b l → ∀ x ∈ l, 0 < x ∧ x ≤ b * 19 ^ l.length
  | [], _, _, _ => fun x hx => by cases hx
  | y :: l, b, hb, h => fun x hx => by
    obtain ⟨h1, h2, h3⟩ := h
    have p : (0 : Int) < 19 ^ l.length := Int.pow_pos (by omega)
    have e : (19 : Int) ^ (y :: l).length = 19 * 19 ^ l.length := by rw [List.length_cons, Int.pow_succ, Int.mul_comm]
    have q : y * 19 ^ l.length ≤ b * 19 ^ (y :: l).length := by
      rw [e, ← Int.mul_assoc]
      exact Int.mul_le_mul_of_nonneg_right h2 (by omega)
    rcases List.mem_cons.mp hx with z | z
    · rw [z]
      have : y * 1 ≤ y * 19 ^ l.length := Int.mul_le_mul_of_nonneg_left (by omega) (by omega)
      omega
    · obtain ⟨i1, i2⟩ := bI_big l y (by omega) h3 x z
      omega
@[simp] theorem gIx_r1 {t : Ob} {l : List D} {i : Int} {r : Mem} : gIx (.ref 1) (.int i) (t :: .lst l :: r) = (match L2.atI l i with
  | some d => .ok d (t :: .lst l :: r)
  | none => .bad) := gIx_r rfl
theorem style_step (ns : List Int) {a b : Int} {szs : List Int} {y : Int} {most names : D} {x5 x6 x7 : Option D} (ha : 0 ≤ a) (hy : szs.getLast? = some y) (hp : 0 < y) (hl : szs.length ≤ 1000) :
    ∃ x6' x7' a' b' szs', wb__law_style_1 [some (.scr ns), some (.ref 0), some most, some (.ref 1), some names, x5, x6, x7, none, none, none, none] [.lst [.int a, .int b], .lst (szs.map D.int)] =
      .nx [some (.scr ns), some (.ref 0), some most, some (.ref 1), some names, x5, x6', x7', none, none, none, none] [.lst [.int a', .int b'], .lst (szs'.map D.int)] ∧ 0 ≤ a' ∧ (szs' = szs ∨ ∃ x, szs' = szs ++ [x] ∧ y + 1 ≤ x ∧ x ≤ y * 19) := by
  obtain ⟨f, a1, b1, e1, hf, h1⟩ := pickL ns (a := a) (b := b) [.lst (szs.map D.int)] [.int 2, .int 3, .int 4, .int 5, .int 7, .int 10, .int 12, .int 16, .int 1] ha (by simp) (by simp)
  obtain ⟨g, rfl, g0, g1⟩ : ∃ g : Int, f = .int g ∧ 1 ≤ g ∧ g ≤ 16 := by
    simp at hf
    rcases hf with e | e | e | e | e | e | e | e | e <;> exact ⟨_, e, by omega, by omega⟩
  obtain ⟨d, a2, b2, e2, d0, d1, h2⟩ := draw0 ns (a := a1) (b := b1) [.lst (szs.map D.int)] 4 h1 (by omega) (by omega)
  obtain ⟨c, a3, b3, e3, c0, c1, h3⟩ := draw0 ns (a := a2) (b := b2) [.lst (szs.map D.int)] 2 h2 (by omega) (by omega)
  have mg : mulC y g = true := mulR (by omega)
  have sz1 : sz szs.length = true := sz_ok hl
  have fin : ∀ (k : Int), 0 ≤ k → k < 4 → ∃ szs', (kIf (sTest (sBin gGt (sBin gAdd (sBin gMul (sBin gIx (sVar 3) (sUn gNeg (sC (.int 1)))) (sVar 6)) (sVar 7)) (sBin gIx (sVar 3) (sUn gNeg (sC (.int 1)))))) (kExpr (sBm "list" gAppend (sVar 3) (sCons (sBin gAdd (sBin gMul (sBin gIx (sVar 3) (sUn gNeg (sC (.int 1)))) (sVar 6)) (sVar 7)) (sNil)))) (bNil))
      [some (.scr ns), some (.ref 0), some most, some (.ref 1), some names, x5, some (.int g), some (.int k), none, none, none, none] [.lst [.int a3, .int b3], .lst (szs.map D.int)] =
      .nx [some (.scr ns), some (.ref 0), some most, some (.ref 1), some names, x5, some (.int g), some (.int k), none, none, none, none] [.lst [.int a3, .int b3], .lst (szs'.map D.int)] ∧ (szs' = szs ∨ ∃ x, szs' = szs ++ [x] ∧ y + 1 ≤ x ∧ x ≤ y * 19) := fun k k0 k1 => by
    have yg : y * g ≤ y * 16 := Int.mul_le_mul_of_nonneg_left g1 (by omega)
    by_cases c : y < y * g + k
    · refine ⟨szs ++ [y * g + k], ?_, .inr ⟨_, rfl, by omega, by omega⟩⟩
      simp [atI_last, List.getLast?_map, hy, mg, c, tyD, rdL, gAppend, sz1]
    · refine ⟨szs, ?_, .inl rfl⟩
      simp [atI_last, List.getLast?_map, hy, mg, c]
  by_cases cz : c = 0
  · obtain ⟨szs', fe, fr⟩ := fin 0 (by omega) (by omega)
    refine ⟨some (.int g), some (.int 0), a3, b3, szs', ?_, h3, fr⟩
    unfold wb__law_style_1
    rw [bcons_nx (e1 := [some (.scr ns), some (.ref 0), some most, some (.ref 1), some names, x5, some (.int g), some (.int d), none, none, none, none]) (m1 := [.lst [.int a2, .int b2], .lst (szs.map D.int)]) (by simp [e1, e2])]
    rw [bcons_nx (e1 := [some (.scr ns), some (.ref 0), some most, some (.ref 1), some names, x5, some (.int g), some (.int 0), none, none, none, none]) (m1 := [.lst [.int a3, .int b3], .lst (szs.map D.int)]) (by simp [e3, cz])]
    exact fe
  · obtain ⟨szs', fe, fr⟩ := fin d d0 d1
    refine ⟨some (.int g), some (.int d), a3, b3, szs', ?_, h3, fr⟩
    unfold wb__law_style_1
    rw [bcons_nx (e1 := [some (.scr ns), some (.ref 0), some most, some (.ref 1), some names, x5, some (.int g), some (.int d), none, none, none, none]) (m1 := [.lst [.int a2, .int b2], .lst (szs.map D.int)]) (by simp [e1, e2])]
    rw [bcons_nx (e1 := [some (.scr ns), some (.ref 0), some most, some (.ref 1), some names, x5, some (.int g), some (.int d), none, none, none, none]) (m1 := [.lst [.int a3, .int b3], .lst (szs.map D.int)]) (by simp [e3, cz])]
    exact fe
theorem style_loop (ns : List Int) {most names : D} : ∀ (l : List D) {a b : Int} {zs : List Int} {x5 x6 x7 : Option D}, 0 ≤ a → bI 1 zs → zs.length + l.length ≤ 900 →
    ∃ x5' x6' x7' a' b' zs', forL (gN 5) wb__law_style_1 l [some (.scr ns), some (.ref 0), some most, some (.ref 1), some names, x5, x6, x7, none, none, none, none] [.lst [.int a, .int b], .lst ((1 :: zs).map D.int)] =
      .nx [some (.scr ns), some (.ref 0), some most, some (.ref 1), some names, x5', x6', x7', none, none, none, none] [.lst [.int a', .int b'], .lst ((1 :: zs').map D.int)] ∧ 0 ≤ a' ∧ bI 1 zs' ∧ zs'.length ≤ zs.length + l.length
  | [], a, b, zs, x5, x6, x7, ha, hz, hl => ⟨x5, x6, x7, a, b, zs, rfl, ha, hz, by simp⟩
  | d :: l, a, b, zs, x5, x6, x7, ha, hz, hl => by
    simp only [List.length_cons] at hl
    obtain ⟨y, hy⟩ : ∃ y, (1 :: zs : List Int).getLast? = some y := by
      rw [List.getLast?_eq_some_getLast (by simp)]
      exact ⟨_, rfl⟩
    obtain ⟨x6', x7', a', b', szs', e, h1, h2⟩ := style_step ns (most := most) (names := names) (x5 := some d) (x6 := x6) (x7 := x7) (b := b) ha hy (bI_pos zs 1 y (by omega) hz hy) (by simp; omega)
    obtain ⟨zs2, hs, hb, hn⟩ : ∃ zs2, szs' = 1 :: zs2 ∧ bI 1 zs2 ∧ zs2.length ≤ zs.length + 1 := by
      rcases h2 with h2 | ⟨x, h2, h3, h4⟩
      · exact ⟨zs, h2, hz, by omega⟩
      · exact ⟨zs ++ [x], h2, bI_snoc zs 1 y x hz hy h3 h4, by simp⟩
    subst hs
    obtain ⟨y5, y6, y7, a2, b2, zs3, e2, i1, i2, i3⟩ := style_loop ns (most := most) (names := names) l (a := a') (b := b') (zs := zs2) (x5 := some d) (x6 := x6') (x7 := x7') h1 hb (by omega)
    refine ⟨y5, y6, y7, a2, b2, zs3, ?_, i1, i2, by simp; omega⟩
    rw [forL]
    have ge : gN 5 [some (.scr ns), some (.ref 0), some most, some (.ref 1), some names, x5, x6, x7, none, none, none, none] d = some [some (.scr ns), some (.ref 0), some most, some (.ref 1), some names, some d, x6, x7, none, none, none, none] := by simp
    rw [ge]
    dsimp only
    rw [e]
    exact e2
end Sz

namespace Sz
open PySem PySem.Spec PyProof.Rows L2
theorem below_units (n : Nat) : ∀ sc : List (List Nat × Int), belowL n (sc.map unitD) = true
  | [] => rfl
  | u :: sc => by
    rw [List.map_cons, belowL, below_units n sc]
    simp [unitD, below, belowL]
theorem below_sty (n : Nat) (s : Sty) : below n s.toD = true := by
  unfold Sty.toD
  simp [below, belowL, below_units]
theorem pairs_unit : ∀ (nm : List (List Nat)) (zs : List Int), pairs (nm.map D.str) (zs.map D.int) = (nm.zip zs).map unitD
  | [], _ => by simp [pairs]
  | _ :: _, [] => by simp [pairs]
  | n :: nm, z :: zs => by
    rw [List.map_cons, List.map_cons, pairs, pairs_unit nm zs]
    rfl
def NAMES : List (List Nat) := [[], [107], [77], [71, 105], [116]]
theorem rot (t : Int) (h0 : 0 ≤ t) (h1 : t < 5) : ∃ nm : List (List Nat), cutD (NAMES.map D.str) (some t) none ++ cutD (NAMES.map D.str) none (some t) = nm.map D.str ∧ (cutD (NAMES.map D.str) (some t) none).length + (cutD (NAMES.map D.str) none (some t)).length = 5 ∧ nm.length = 5 ∧ nm.Nodup ∧ (∀ x ∈ nm, nameOk x = true) ∧ ∀ x ∈ nm, x ≠ [122, 122] := by
  have : t = 0 ∨ t = 1 ∨ t = 2 ∨ t = 3 ∨ t = 4 := by omega
  rcases this with e | e | e | e | e <;> subst e
  · exact ⟨[[], [107], [77], [71, 105], [116]], rfl, rfl, rfl, by decide, by decide, by decide⟩
  · exact ⟨[[107], [77], [71, 105], [116], []], rfl, rfl, rfl, by decide, by decide, by decide⟩
  · exact ⟨[[77], [71, 105], [116], [], [107]], rfl, rfl, rfl, by decide, by decide, by decide⟩
  · exact ⟨[[71, 105], [116], [], [107], [77]], rfl, rfl, rfl, by decide, by decide, by decide⟩
  · exact ⟨[[116], [], [107], [77], [71, 105]], rfl, rfl, rfl, by decide, by decide, by decide⟩
theorem zip_good {nm : List (List Nat)} {zs : List Int} (h1 : 1 ≤ nm.length) (h5 : nm.length ≤ 5) (nd : nm.Nodup) (ok : ∀ x ∈ nm, nameOk x = true) (hb : bI 1 zs) : ScGood (nm.zip (1 :: zs)) := by
  cases nm with
  | nil => simp at h1
  | cons n nm =>
    refine ⟨by simp, ?_, ?_, ⟨rfl, bI_bnds zs nm 1 (by omega) hb⟩, ?_⟩
    · rw [List.length_zip]; omega
    · intro u hu
      exact ok u.1 (List.of_mem_zip (a := u.1) (b := u.2) hu).1
    · have : ((n :: nm).zip (1 :: zs)).map (·.1) = (n :: nm).take (1 :: zs).length := by
        have e : ∀ (a : List (List Nat)) (b : List Int), (a.zip b).map (·.1) = a.take b.length := fun a => by
          induction a with
          | nil => intro b; simp
          | cons x a ih => intro b; cases b with
            | nil => simp
            | cons y b => simp [ih b]
        exact e _ _
      rw [this]
      exact (List.take_sublist _ _).nodup nd
theorem gZip_lr {x : List D} {t : Ob} {l : List D} {r : Mem} : gZip [.lst x, .ref 1] (t :: .lst l :: r) = .ok (.tup (pairs x l)) (t :: .lst l :: r) := rfl
theorem gZip_ll {x l : List D} {m : Mem} : gZip [.lst x, .lst l] m = .ok (.tup (pairs x l)) m := rfl
/-- sizes that are drawn -/
def Grow (s : Sty) : Prop := ∀ u ∈ s.sc, 0 < u.2 ∧ u.2 ≤ 130321
theorem zip_grow {nm : List (List Nat)} {zs : List Int} {p : Nat} {md : List Nat} {x y : Bool} (hb : bI 1 zs) (hl : zs.length ≤ 4) : Grow ⟨nm.zip (1 :: zs), p, md, x, y⟩ := by
  intro u hu
  have m := (List.of_mem_zip (a := u.1) (b := u.2) hu).2
  rcases List.mem_cons.mp m with z | z
  · rw [z]; omega
  · obtain ⟨i1, i2⟩ := bI_big zs 1 (by omega) hb u.2 z
    have p : (19 : Int) ^ zs.length ≤ 19 ^ 4 := by exact_mod_cast Nat.pow_le_pow_right (n := 19) (by omega) hl
    have e : (19 : Int) ^ 4 = 130321 := by decide +kernel
    omega
/-- sizes that are drawn grow by small factors -/
def Rat (s : Sty) : Prop := ∀ (i : Nat) (u v : List Nat × Int), s.sc[i]? = some u → s.sc[i + 1]? = some v → v.2 ≤ u.2 * 19
theorem bI_next : ∀ (l : List Int) (b : Int) (i : Nat) (x y : Int), bI b l → (b :: l)[i]? = some x → (b :: l)[i + 1]? = some y → y ≤ x * 19
  | [], b, i, x, y, _, _, h => by simp at h
  | z :: l, b, 0, x, y, hb, h1, h2 => by
    have e1 : b = x := by simpa using h1
    have e2 : z = y := by simpa using h2
    have := hb.2.1
    omega
  | z :: l, b, i + 1, x, y, hb, h1, h2 => bI_next l z i x y hb.2.2 (by simpa using h1) (by simpa using h2)
theorem zip_rat {nm : List (List Nat)} {zs : List Int} {p : Nat} {md : List Nat} {x y : Bool} (hb : bI 1 zs) : Rat ⟨nm.zip (1 :: zs), p, md, x, y⟩ := by
  intro i u v hu hv
  have e1 := (List.getElem?_zip_eq_some.mp hu).2
  have e2 := (List.getElem?_zip_eq_some.mp hv).2
  exact bI_next zs 1 i u.2 v.2 hb e1 e2
theorem style_eq (ns : List Int) {a b many : Int} (ha : 0 ≤ a) (h0 : 0 < many) (h1 : many ≤ 5) : ∃ s a' b', m__law_style [.scr ns, .ref 0, .int many] [.lst [.int a, .int b]] = .ok (Sty.toD s) [.lst [.int a', .int b']] ∧ Good s ∧ 0 ≤ a' ∧ Grow s ∧ (s.sc.length : Int) ≤ many ∧ Rat s ∧ ∀ u ∈ s.sc, u.1 ≠ [122, 122] := by
  obtain ⟨d, a1, b1, e1, d0, d1, p1⟩ := draw0 ns (a := a) (b := b) [.lst [.int 1]] many ha h0 (by omega)
  obtain ⟨x5, x6, x7, a2, b2, zs, e2, p2, hz, hl⟩ := style_loop ns (most := .int many) (names := .lst (NAMES.map D.str)) (upto 0 d.toNat) (a := a1) (b := b1) (zs := []) (x5 := none) (x6 := none) (x7 := none) p1 True.intro (by simp [upto]; omega)
  have hl3 : zs.length ≤ d.toNat := by simpa [upto] using hl
  have hl2 : zs.length ≤ 4 := by omega
  obtain ⟨t, a3, b3, e3, t0, t1, p3⟩ := draw0 ns (a := a2) (b := b2) [.lst ((1 :: zs).map D.int)] 5 p2 (by omega) (by omega)
  obtain ⟨nm, r1, r2, r3, r4, r5, r6⟩ := rot t t0 t1
  obtain ⟨md, a4, b4, e4, hm, p4⟩ := pickL ns (a := a3) (b := b3) [.lst ((1 :: zs).map D.int)] [.str DOWN, .str UP, .str HALF, .str EVEN] p3 (by simp) (by simp)
  obtain ⟨mo, rfl, hmo⟩ : ∃ mo, md = .str mo ∧ mo ∈ [DOWN, UP, HALF, EVEN] := by
    simp at hm
    rcases hm with e | e | e | e
    · exact ⟨_, e, by simp⟩
    · exact ⟨_, e, by simp⟩
    · exact ⟨_, e, by simp⟩
    · exact ⟨_, e, by simp⟩
  obtain ⟨u, a5, b5, e5, u0, u1, p5⟩ := draw0 ns (a := a4) (b := b4) [.lst ((1 :: zs).map D.int)] 2 p4 (by omega) (by omega)
  obtain ⟨v, a6, b6, e6, v0, v1, p6⟩ := draw0 ns (a := a5) (b := b5) [.lst ((1 :: zs).map D.int)] 2 p5 (by omega) (by omega)
  obtain ⟨pl, a7, b7, e7, q0, q1, p7⟩ := draw0 ns (a := a6) (b := b6) [.lst ((1 :: zs).map D.int)] 3 p6 (by omega) (by omega)
  obtain ⟨p, rfl⟩ := Int.eq_ofNat_of_zero_le q0
  refine ⟨⟨nm.zip (1 :: zs), p, mo, u == 0, v == 0⟩, a7, b7, ?_, ⟨zip_good (by omega) (by omega) r4 r5 hz, by simp; omega, hmo⟩, p7, zip_grow (nm := nm) hz hl2, by simp [List.length_zip]; omega, zip_rat (nm := nm) hz, fun u hu => r6 u.1 (List.of_mem_zip (a := u.1) (b := u.2) hu).1⟩
  refine def_eq rfl ?_
  unfold b__law_style
  rw [bcons_nx (e1 := [some (.scr ns), some (.ref 0), some (.int many), some (.ref 1), some (.lst (NAMES.map D.str)), none, none, none, none, none, none, none]) (m1 := [.lst [.int a, .int b], .lst [.int 1]]) (by simp [NAMES])]
  rw [bcons_nx (e1 := [some (.scr ns), some (.ref 0), some (.int many), some (.ref 1), some (.lst (NAMES.map D.str)), x5, x6, x7, none, none, none, none]) (m1 := [.lst [.int a2, .int b2], .lst ((1 :: zs).map D.int)]) (by
    have rc : rngC d = true := by simp [rngC]; omega
    have e2' := e2
    simp only [List.map_cons, List.map_nil] at e2'
    simp only [kFor_e, iRange1_e, sCons_e, sCall_e, sVar_e, sNil_e, List.getElem?_cons_succ, List.getElem?_cons_zero, bind_ok, List.length_cons, List.length_nil, if_true, e1, rc, thn_ok, List.map_cons]
    exact e2')]
  rw [bcons_nx (e1 := [some (.scr ns), some (.ref 0), some (.int many), some (.ref 1), some (.lst (NAMES.map D.str)), x5, x6, x7, some (.int t), none, none, none]) (m1 := [.lst [.int a3, .int b3], .lst ((1 :: zs).map D.int)]) (by
    simp only [List.map_cons] at e3
    simp [e3])]
  have szn : sz ((cutD (NAMES.map D.str) (some t) none).length + (cutD (NAMES.map D.str) none (some t)).length) = true := sz_ok (by omega)
  rw [bcons_nx (e1 := [some (.scr ns), some (.ref 0), some (.int many), some (.ref 1), some (.lst (nm.map D.str)), x5, x6, x7, some (.int t), none, none, none]) (m1 := [.lst [.int a3, .int b3], .lst ((1 :: zs).map D.int)]) (by
    simp [szn, r1])]
  rw [bcons_nx (e1 := [some (.scr ns), some (.ref 0), some (.int many), some (.ref 1), some (.lst (nm.map D.str)), x5, x6, x7, some (.int t), some (.str mo), none, none]) (m1 := [.lst [.int a4, .int b4], .lst ((1 :: zs).map D.int)]) (by
    simp only [List.map_cons] at e4
    simp [e4])]
  rw [bcons_nx (e1 := [some (.scr ns), some (.ref 0), some (.int many), some (.ref 1), some (.lst (nm.map D.str)), x5, x6, x7, some (.int t), some (.str mo), some (.bl (u == 0)), some (.bl (v == 0))]) (m1 := [.lst [.int a6, .int b6], .lst ((1 :: zs).map D.int)]) (by
    simp only [List.map_cons] at e5 e6
    simp [e5, e6])]
  have fin : (kRet (sTup (sCons (sCB gZip (sCons (sVar 4) (sCons (sVar 3) (sNil)))) (sCons (sCall 3 m__law_draw (sCons (sVar 0) (sCons (sVar 1) (sCons (sC (.int 3)) (sNil))))) (sCons (sVar 9) (sCons (sVar 10) (sCons (sVar 11) (sNil)))))))) [some (.scr ns), some (.ref 0), some (.int many), some (.ref 1), some (.lst (nm.map D.str)), x5, x6, x7, some (.int t), some (.str mo), some (.bl (u == 0)), some (.bl (v == 0))] [.lst [.int a6, .int b6], .lst ((1 :: zs).map D.int)] =
      .rt (Sty.toD ⟨nm.zip (1 :: zs), p, mo, u == 0, v == 0⟩) [.lst [.int a7, .int b7], .lst ((1 :: zs).map D.int)] := by
    have pu := pairs_unit nm (1 :: zs)
    unfold Sty.toD
    simp only [List.map_cons] at e7 pu ⊢
    simp [gZip_lr, e7, pu]
  rw [fin, finD_rt]
  unfold pack
  simp [belowO, belowL, below, below_sty]
end Sz

namespace Sz
open PySem PySem.Spec PyProof.Rows L2
theorem ScGood.big {sc : List (List Nat × Int)} (g : ScGood sc) : ∀ u ∈ sc, 0 < u.2 ∧ u.2 ≤ 16000000000000 := by
  have hb := g.bnd
  have hl := g.len
  cases sc with
  | nil => intro u hu; cases hu
  | cons u l =>
    have e : u.2 = 1 := hb.1
    intro v hv
    rcases List.mem_cons.mp hv with z | z
    · rw [z]; omega
    · obtain ⟨i1, i2⟩ := bnds_big l u.2 hb.2 (by omega) v z
      have p : (2000 : Int) ^ l.length ≤ 2000 ^ 4 := by
        have : l.length ≤ 4 := by simp at hl; omega
        exact_mod_cast Nat.pow_le_pow_right (n := 2000) (by omega) this
      rw [e] at i2
      omega
theorem pow9 : powC 10 9 = true := by decide +kernel
theorem mod5 {i : Int} : modC i 5 = true := mod_ok (by omega)
theorem gNe_nil {m : Mem} : gNe (.lst []) (.lst []) m = .ok (.bl false) m := rfl
theorem cop {A B : Nat} (hB : 0 < B) (p : Nat) (hp : 1 < p) : ¬ (((A / Nat.gcd A B : Nat) : Int) % (p : Int) = 0 ∧ ((B / Nat.gcd A B : Nat) : Int) % (p : Int) = 0) := by
  rintro ⟨h1, h2⟩
  have g0 : 0 < Nat.gcd A B := Nat.gcd_pos_of_pos_right A hB
  have c : Nat.gcd (A / Nat.gcd A B) (B / Nat.gcd A B) = 1 := by
    rw [Nat.gcd_div (Nat.gcd_dvd_left A B) (Nat.gcd_dvd_right A B), Nat.div_self g0]
  have d1 : p ∣ A / Nat.gcd A B := by
    have : (p : Int) ∣ ((A / Nat.gcd A B : Nat) : Int) := Int.dvd_of_emod_eq_zero h1
    exact_mod_cast this
  have d2 : p ∣ B / Nat.gcd A B := by
    have : (p : Int) ∣ ((B / Nat.gcd A B : Nat) : Int) := Int.dvd_of_emod_eq_zero h2
    exact_mod_cast this
  have := Nat.dvd_gcd d1 d2
  rw [c] at this
  have := Nat.le_of_dvd (by omega) this
  omega
end Sz

namespace Sz
open PySem PySem.Spec PyProof.Rows L2
/-! ## keys grow with the number -/
theorem rnd_lo {n z st : Int} {md : List Nat} : n * st / z ≤ rnd n z st md := by
  unfold rnd
  have q : n * st / z % 2 = 0 ∨ n * st / z % 2 = 1 := by omega
  generalize n * st / z = w at *
  repeat' split
  all_goals omega
theorem rnd_hi {n z st : Int} {md : List Nat} : rnd n z st md ≤ n * st / z + 1 := by
  unfold rnd
  have q : n * st / z % 2 = 0 ∨ n * st / z % 2 = 1 := by omega
  generalize n * st / z = w at *
  repeat' split
  all_goals omega
theorem rnd_mono {n m z st : Int} {md : List Nat} (h : n ≤ m) (hz : 0 < z) (hs : 0 < st) : rnd n z st md ≤ rnd m z st md := by
  have hx : n * st ≤ m * st := Int.mul_le_mul_of_nonneg_right h (by omega)
  have l1 := rnd_lo (n := m) (z := z) (st := st) (md := md)
  have l2 := rnd_hi (n := n) (z := z) (st := st) (md := md)
  have hq : n * st / z ≤ m * st / z := Int.ediv_le_ediv hz hx
  by_cases e : n * st / z = m * st / z
  · have d1 := Int.mul_ediv_add_emod (n * st) z
    have d2 := Int.mul_ediv_add_emod (m * st) z
    rw [e] at d1
    unfold rnd
    rw [e]
    have r1 : 0 ≤ n * st % z := Int.emod_nonneg _ (by omega)
    have hr : n * st % z ≤ m * st % z := by omega
    have q : m * st / z % 2 = 0 ∨ m * st / z % 2 = 1 := by omega
    generalize m * st / z = w at *
    generalize n * st % z = a at *
    generalize m * st % z = b at *
    by_cases c1 : md = DOWN
    · simp [c1]
    · by_cases c2 : md = UP
      · by_cases c3 : a = 0
        · simp [c1, c2, c3]
          split <;> omega
        · have c4 : ¬ b = 0 := by omega
          simp [c1, c2, c3, c4]
      · by_cases c5 : md = HALF
        · simp only [c5, show ¬ HALF = DOWN by decide, show ¬ HALF = UP by decide, or_false, false_or, if_true]
          repeat' split
          all_goals omega
        · simp only [c1, c2, c5, or_false, false_or, if_false]
          repeat' split
          all_goals omega
  · omega
theorem own_mono : ∀ (l : List Int) {n m : Int}, n ≤ m → own l n ≤ own l m
  | [], _, _, _ => by simp [own]
  | [_], _, _, _ => by simp [own]
  | a :: b :: r, n, m, h => by
    have := own_mono (b :: r) h
    unfold own
    split
    · rw [if_pos (by omega)]; omega
    · omega
theorem own_next : ∀ (l : List Int) (n y : Int), l[own l n + 1]? = some y → n < y
  | [], _, _, h => by simp at h
  | [_], _, _, h => by simp [own] at h
  | a :: b :: r, n, y, h => by
    unfold own at h
    split at h
    · exact own_next (b :: r) n y (by simpa using h)
    · have : b = y := by simpa using h
      omega
theorem own_this : ∀ (l : List Int) (n y : Int), l[own l n]? = some y → 0 < own l n → y ≤ n
  | [], _, _, h, _ => by simp at h
  | [_], _, _, _, h => by simp [own] at h
  | a :: b :: r, n, y, h, h0 => by
    unfold own at h h0
    split at h
    · rename_i c
      rw [List.getElem?_cons_succ] at h
      by_cases q : 0 < own (b :: r) n
      · exact own_this (b :: r) n y h q
      · have e : own (b :: r) n = 0 := by omega
        rw [e] at h
        have : b = y := by simpa using h
        omega
    · rename_i c
      rw [if_neg c] at h0
      omega
def keyLe (a b : Nat × Int) : Prop := a.1 < b.1 ∨ (a.1 = b.1 ∧ a.2 ≤ b.2)
theorem key_mono {s : Sty} (hs : ScOk s.sc) {n m : Int} (h : n ≤ m) : keyLe (key s n) (key s m) := by
  obtain ⟨u, hu⟩ := own_at hs n
  obtain ⟨v, hv⟩ := own_at hs m
  have us := hs.sizes u (List.mem_of_getElem? hu)
  have vs := hs.sizes v (List.mem_of_getElem? hv)
  have sp := stp_pos s.pl
  have om := own_mono (s.sc.map (·.2)) h
  unfold keyLe key
  dsimp only
  rw [size_of hu, size_of hv]
  have rm := rnd_mono (md := s.md) h us.1 sp.1
  by_cases e : own (s.sc.map (·.2)) n = own (s.sc.map (·.2)) m
  · have uv : u = v := by rw [e, hv] at hu; exact (Option.some.inj hu).symm
    rw [← e, ← uv]
    by_cases c1 : s.pr = true ∧ own (s.sc.map (·.2)) n + 1 < s.sc.length ∧ sizeAt s.sc (own (s.sc.map (·.2)) n + 1) * stp s.pl ≤ rnd n u.2 (stp s.pl) s.md * u.2
    · obtain ⟨w, hw⟩ : ∃ w, s.sc[own (s.sc.map (·.2)) n + 1]? = some w := ⟨_, List.getElem?_eq_getElem c1.2.1⟩
      have ws := hs.sizes w (List.mem_of_getElem? hw)
      have c2 : sizeAt s.sc (own (s.sc.map (·.2)) n + 1) * stp s.pl ≤ rnd m u.2 (stp s.pl) s.md * u.2 := by
        have := Int.mul_le_mul_of_nonneg_right rm (show 0 ≤ u.2 by omega)
        omega
      rw [if_pos c1, if_pos ⟨c1.1, c1.2.1, c2⟩, size_of hw]
      exact .inr ⟨rfl, rnd_mono h ws.1 sp.1⟩
    · rw [if_neg c1]
      split
      · exact .inl (by simp)
      · exact .inr ⟨rfl, rm⟩
  · have lt : own (s.sc.map (·.2)) n < own (s.sc.map (·.2)) m := by omega
    split
    · rename_i c1
      obtain ⟨w, hw⟩ : ∃ w, s.sc[own (s.sc.map (·.2)) n + 1]? = some w := ⟨_, List.getElem?_eq_getElem c1.2.1⟩
      have ws := hs.sizes w (List.mem_of_getElem? hw)
      split
      · exact .inl (by simp; omega)
      · by_cases e2 : own (s.sc.map (·.2)) n + 1 = own (s.sc.map (·.2)) m
        · have wv : w = v := by rw [e2, hv] at hw; exact (Option.some.inj hw).symm
          rw [size_of hw, wv]
          exact .inr ⟨e2, rnd_mono h vs.1 sp.1⟩
        · exact .inl (by simp; omega)
    · split
      · exact .inl (by simp; omega)
      · exact .inl lt
end Sz

namespace Sz
open PySem PySem.Spec PyProof.Rows L2
/-! ## the least number from a key on -/
def kLt (a b : Nat × Int) : Bool := decide (a.1 < b.1 ∨ (a.1 = b.1 ∧ a.2 < b.2))
theorem lexLt2 {a b c d : Int} : HT.lexLt [a, b] [c, d] = decide (a < c ∨ (a = c ∧ b < d)) := by
  simp only [HT.lexLt]
  by_cases h1 : a = c
  · by_cases h2 : b = d
    · simp [h1, h2]
    · simp [h1, h2]
  · simp [h1]
theorem gLt_key {i j : Nat} {v w : Int} {m : Mem} : gLt (.tup [.int i, .int v]) (.tup [.int j, .int w]) m = .ok (.bl (kLt (i, v) (j, w))) m := by
  have e : gLt (.tup [.int i, .int v]) (.tup [.int j, .int w]) m = .ok (.bl (HT.lexLt [(i : Int), v] [(j : Int), w])) m := rfl
  rw [e, lexLt2]
  unfold kLt
  congr 2
  by_cases h : i = j <;> simp [h]; omega
theorem gGe_key {i j : Nat} {v w : Int} {m : Mem} : gGeA (.tup [.int i, .int v]) (.tup [.int j, .int w]) m = .ok (.bl (!kLt (i, v) (j, w))) m := by
  have e : gGeA (.tup [.int i, .int v]) (.tup [.int j, .int w]) m = .ok (.bl (lexGe [(i : Int), v] [(j : Int), w])) m := rfl
  rw [e]
  unfold kLt lexGe
  congr 2
  by_cases h1 : i = j
  · by_cases h2 : v = w
    · simp [h1, h2, Ob.lexAt_succ, Ob.lexAt_zero]
    · simp [h1, h2, Ob.lexAt_succ, Ob.lexAt_zero]
      by_cases h3 : w ≤ v
      · simp [h3]
      · simp [h3]; omega
  · have h3 : ¬ (i : Int) = j := by omega
    simp [h1, h3, Ob.lexAt_succ, Ob.lexAt_zero]
    by_cases h4 : j ≤ i
    · simp [h4]
    · simp [h4]; omega
theorem kLt_mono {s : Sty} (hs : ScOk s.sc) {n m : Int} {k : Nat × Int} (h : n ≤ m) (hm : kLt (key s m) k = true) : kLt (key s n) k = true := by
  have q := key_mono hs h
  unfold keyLe at q
  unfold kLt at hm ⊢
  simp at hm ⊢
  omega
end Sz

namespace Sz
open PySem PySem.Spec PyProof.Rows L2
theorem own_all : ∀ (l : List Int) (n : Int), (∀ x ∈ l, x ≤ n) → own l n = l.length - 1
  | [], _, _ => by simp [own]
  | [_], _, _ => by simp [own]
  | a :: b :: r, n, h => by
    have ih := own_all (b :: r) n fun x hx => h x (by simp [hx])
    rw [own, if_pos (h b (by simp)), ih]
    simp
/-- a number whose key is beyond -/
theorem key_far {s : Sty} (hs : ScOk s.sc) {i : Nat} {v B : Int} (hi : i < s.sc.length) (v0 : 0 ≤ v) (hB : ∀ u ∈ s.sc, u.2 ≤ B) : kLt (key s (B * (v + 1))) (i, v) = false := by
  obtain ⟨u0, l0, e0, h0⟩ := hs.first
  have B1 : 1 ≤ B := by
    have := hB u0 (by rw [e0]; simp)
    omega
  have big : ∀ x ∈ s.sc.map (·.2), x ≤ B * (v + 1) := fun x hx => by
    obtain ⟨u, hu, rfl⟩ := List.mem_map.mp hx
    have h1 := hB u hu
    have : B * 1 ≤ B * (v + 1) := Int.mul_le_mul_of_nonneg_left (by omega) (by omega)
    omega
  have oe := own_all (s.sc.map (·.2)) _ big
  rw [List.length_map] at oe
  obtain ⟨u, hu⟩ := own_at hs (B * (v + 1))
  have us := hs.sizes u (List.mem_of_getElem? hu)
  have ub := hB u (List.mem_of_getElem? hu)
  have sp := stp_pos s.pl
  unfold kLt key
  dsimp only
  rw [if_neg (by rw [oe]; omega), size_of hu, oe]
  have lo := rnd_lo (n := B * (v + 1)) (z := u.2) (st := stp s.pl) (md := s.md)
  have q : v ≤ B * (v + 1) * stp s.pl / u.2 := by
    rw [Int.le_ediv_iff_mul_le us.1]
    have z1 : v * u.2 ≤ v * B := Int.mul_le_mul_of_nonneg_left ub v0
    have z2 : B * (v + 1) * 1 ≤ B * (v + 1) * stp s.pl := Int.mul_le_mul_of_nonneg_left (by omega) (Int.mul_nonneg (by omega) (by omega))
    have z3 : B * (v + 1) = v * B + B := by rw [Int.mul_add, Int.mul_comm B v]; omega
    omega
  simp
  omega
theorem kLt_irr {a : Nat × Int} : kLt a a = false := by simp [kLt]
end Sz

namespace Sz
open PySem PySem.Spec PyProof.Rows L2
/-! ## stretches -/
abbrev Stt := Int × Option Int × Nat
def strD (t : Stt) : D := .tup [.int t.1, (match t.2.1 with
  | some c => .int c
  | none => .non), .int t.2.2]
/-- they lie side by side from a up to e, each in its unit -/
def StrTo (s : Sty) : Int → List Stt → Int → Prop
  | a, [], e => a = e
  | a, t :: r, e => t.1 = a ∧ ∃ c, t.2.1 = some c ∧ a ≤ c ∧ (∀ n, a ≤ n → n ≤ c → (key s n).1 = t.2.2) ∧ StrTo s (c + 1) r e
theorem StrTo.snoc {s : Sty} : ∀ {l : List Stt} {a e c : Int} {k : Nat}, StrTo s a l e → e ≤ c → (∀ n, e ≤ n → n ≤ c → (key s n).1 = k) → StrTo s a (l ++ [(e, some c, k)]) (c + 1)
  | [], a, e, c, k, h, h1, h2 => by
    have h' : a = e := h
    subst h'
    exact ⟨rfl, c, rfl, h1, h2, rfl⟩
  | t :: r, a, e, c, k, h, h1, h2 => by
    obtain ⟨q1, d, q2, q3, q4, q5⟩ := h
    exact ⟨q1, d, q2, q3, q4, q5.snoc h1 h2⟩
theorem apSet {m : Mem} {x y : Ob} : (m ++ [x]).set m.length y = m ++ [y] := by
  rw [List.set_append_right _ _ (Nat.le_refl _)]
  simp
theorem apGet {m : Mem} {x : Ob} : (m ++ [x])[m.length]? = some x := by simp
/-- where the unit k begins -/
def sta (s : Sty) (k : Nat) : Int := if k = 0 then 0 else sizeAt s.sc k
theorem own_is {s : Sty} (hs : ScOk s.sc) {k : Nat} {n : Int} (hk : k < s.sc.length) (h1 : sta s k ≤ n) (h2 : ∀ v, s.sc[k + 1]? = some v → n < v.2) : own (s.sc.map (·.2)) n = k := by
  obtain ⟨u, hu⟩ := own_at hs n
  have inc := hs.inc
  have nx := own_next (s.sc.map (·.2)) n
  have th := own_this (s.sc.map (·.2)) n
  generalize own (s.sc.map (·.2)) n = a at *
  have mono : ∀ (l : List Int) (i j : Nat) (x y : Int), Inc l → i < j → l[i]? = some x → l[j]? = some y → x < y := fun l => by
    induction l with
    | nil => intro i j x y _ _ h; simp at h
    | cons z l ih =>
      intro i j x y hi hij hx hy
      cases i with
      | zero =>
        have : z = x := by simpa using hx
        subst this
        cases j with
        | zero => omega
        | succ j =>
          have hm : y ∈ l := List.mem_of_getElem? (by simpa using hy)
          apply Int.lt_of_not_ge
          intro q
          by_cases e : y = z
          · have := Inc.gt (n := z - 1) hi (by omega) y hm
            have h3 : ∀ (l : List Int) (z : Int), Inc (z :: l) → ∀ y ∈ l, z < y := fun l => by
              induction l with
              | nil => intro z _ y hy; cases hy
              | cons w l ih2 =>
                intro z hz y hy
                rcases List.mem_cons.mp hy with e | e
                · rw [e]; exact hz.1
                · have := ih2 w hz.2 y e
                  have := hz.1
                  omega
            have := h3 l z hi y hm
            omega
          · have := Inc.gt (n := z - 1) hi (by omega) y hm
            omega
      | succ i =>
        cases j with
        | zero => omega
        | succ j => exact ih i j x y hi.tail (by omega) (by simpa using hx) (by simpa using hy)
  have gu : (s.sc.map (·.2))[a]? = some u.2 := by rw [List.getElem?_map, hu]; rfl
  obtain ⟨w, hw⟩ : ∃ w, s.sc[k]? = some w := ⟨_, List.getElem?_eq_getElem hk⟩
  have gw : (s.sc.map (·.2))[k]? = some w.2 := by rw [List.getElem?_map, hw]; rfl
  rcases Nat.lt_trichotomy a k with q | q | q
  · have kp : k ≠ 0 := by omega
    unfold sta at h1
    rw [if_neg kp, size_of hw] at h1
    obtain ⟨v, hv⟩ : ∃ v, s.sc[a + 1]? = some v := ⟨_, List.getElem?_eq_getElem (by omega)⟩
    have gv : (s.sc.map (·.2))[a + 1]? = some v.2 := by rw [List.getElem?_map, hv]; rfl
    have := nx v.2 gv
    by_cases e : a + 1 = k
    · rw [e, hw] at hv
      have : w = v := Option.some.inj hv
      rw [this] at h1
      omega
    · have := mono _ (a + 1) k v.2 w.2 inc (by omega) gv gw
      omega
  · exact q
  · obtain ⟨v, hv⟩ : ∃ v, s.sc[k + 1]? = some v := ⟨_, List.getElem?_eq_getElem (by
      obtain ⟨z, _⟩ := List.getElem?_eq_some_iff.mp hu
      omega)⟩
    have := h2 v hv
    have t := th u.2 gu (by omega)
    have gv : (s.sc.map (·.2))[k + 1]? = some v.2 := by rw [List.getElem?_map, hv]; rfl
    by_cases e : k + 1 = a
    · rw [e, hu] at hv
      have : u = v := Option.some.inj hv
      rw [this] at t
      omega
    · have := mono _ (k + 1) a v.2 u.2 inc (by omega) gv gu
      omega
/-- a number's unit is its own one or the next -/
theorem key_unit {s : Sty} (n : Int) : (key s n).1 = own (s.sc.map (·.2)) n ∨ ((key s n).1 = own (s.sc.map (·.2)) n + 1 ∧ s.pr = true) := by
  unfold key
  dsimp only
  split
  · rename_i c
    exact .inr ⟨rfl, c.1⟩
  · exact .inl rfl
end Sz

namespace Sz
open PySem PySem.Spec PyProof.Rows L2
theorem gAppend_ap {m : Mem} {l : List D} {x : D} (h : l.length ≤ 1000) : gAppend (.ref m.length) [x] (m ++ [.lst l]) = .ok .non (m ++ [.lst (l ++ [x])]) := by
  simp only [gAppend, apGet, sz_ok h, if_true, apSet]
theorem tyD_ap {m : Mem} {l : List D} : tyD "list" (m ++ [.lst l]) (.ref m.length) = true := by
  simp [tyD, rdL]
/-- least_from(style, (k + 1, 0)): between the unit's begin and the next one's -/
theorem turn_in {s : Sty} (hs : ScOk s.sc) {k : Nat} {v : List Nat × Int} (hv : s.sc[k + 1]? = some v) {h : Int} (h0 : 0 ≤ h) (h1 : kLt (key s h) (k + 1, 0) = false) (h2 : ∀ n, 0 ≤ n → n < h → kLt (key s n) (k + 1, 0) = true) : sta s k ≤ h ∧ h ≤ v.2 := by
  have kl : k + 1 < s.sc.length := by
    obtain ⟨z, _⟩ := List.getElem?_eq_some_iff.mp hv
    exact z
  have vs := hs.sizes v (List.mem_of_getElem? hv)
  constructor
  · by_cases kp : k = 0
    · unfold sta; rw [if_pos kp]; exact h0
    · apply Int.le_of_not_gt
      intro q
      obtain ⟨w, hw⟩ : ∃ w, s.sc[k]? = some w := ⟨_, List.getElem?_eq_getElem (by omega)⟩
      unfold sta at q
      rw [if_neg kp, size_of hw] at q
      obtain ⟨u, hu⟩ := own_at hs h
      have ok : own (s.sc.map (·.2)) h < k := by
        apply Nat.lt_of_not_ge
        intro z
        have t := own_this (s.sc.map (·.2)) h u.2 (by rw [List.getElem?_map, hu]; rfl) (by omega)
        have om := own_mono (s.sc.map (·.2)) (show h ≤ w.2 - 1 by omega)
        have e := own_is hs (k := k - 1) (n := w.2 - 1) (by omega) (by
          unfold sta
          split
          · have := hs.sizes w (List.mem_of_getElem? hw); omega
          · obtain ⟨x, hx⟩ : ∃ x, s.sc[k - 1]? = some x := ⟨_, List.getElem?_eq_getElem (by omega)⟩
            rw [size_of hx]
            have inc := hs.inc
            have st : ∀ (l : List Int) (i : Nat) (a b : Int), Inc l → l[i]? = some a → l[i + 1]? = some b → a < b := fun l => by
              induction l with
              | nil => intro i a b _ h; simp at h
              | cons y l ih =>
                intro i a b hi ha hb
                cases i with
                | zero =>
                  cases l with
                  | nil => simp at hb
                  | cons z l =>
                    have e1 : y = a := by simpa using ha
                    have e2 : z = b := by simpa using hb
                    rw [← e1, ← e2]
                    exact hi.1
                | succ i => exact ih i a b hi.tail (by simpa using ha) (by simpa using hb)
            have := st _ (k - 1) x.2 w.2 inc (by rw [List.getElem?_map, hx]; rfl) (by rw [show k - 1 + 1 = k by omega, List.getElem?_map, hw]; rfl)
            omega) (fun y hy => by
              rw [show k - 1 + 1 = k by omega, hw] at hy
              rw [← Option.some.inj hy]
              omega)
        omega
      have ku := key_unit (s := s) h
      unfold kLt at h1
      simp at h1
      omega
  · apply Int.le_of_not_gt
    intro q
    have t := h2 v.2 (by omega) q
    have o : k + 1 ≤ own (s.sc.map (·.2)) v.2 := by
      obtain ⟨u, hu⟩ := own_at hs v.2
      apply Nat.le_of_not_lt
      intro z
      have om := own_mono (s.sc.map (·.2)) (show v.2 ≤ v.2 by omega)
      by_cases e : own (s.sc.map (·.2)) v.2 = k
      · have := own_next (s.sc.map (·.2)) v.2 v.2 (by rw [e, List.getElem?_map, hv]; rfl)
        omega
      · obtain ⟨y, hy⟩ : ∃ y, s.sc[own (s.sc.map (·.2)) v.2 + 1]? = some y := ⟨_, List.getElem?_eq_getElem (by omega)⟩
        have nx := own_next (s.sc.map (·.2)) v.2 y.2 (by rw [List.getElem?_map, hy]; rfl)
        have st : ∀ (l : List Int) (i j : Nat) (a b : Int), Inc l → i ≤ j → l[i]? = some a → l[j]? = some b → a ≤ b := fun l => by
          induction l with
          | nil => intro i j a b _ _ h; simp at h
          | cons y l ih =>
            intro i j a b hi hij ha hb
            cases i with
            | zero =>
              have e1 : y = a := by simpa using ha
              cases j with
              | zero =>
                have e2 : y = b := by simpa using hb
                omega
              | succ j =>
                have := Inc.gt (n := y - 1) hi (by omega) b (List.mem_of_getElem? (by simpa using hb))
                omega
            | succ i =>
              cases j with
              | zero => omega
              | succ j => exact ih i j a b hi.tail (by omega) (by simpa using ha) (by simpa using hb)
        have := st _ (own (s.sc.map (·.2)) v.2 + 1) (k + 1) y.2 v.2 hs.inc (by omega) (by rw [List.getElem?_map, hy]; rfl) (by rw [List.getElem?_map, hv]; rfl)
        omega
    have ku := key_unit (s := s) v.2
    have kp : 0 ≤ (key s v.2).2 := (key_at hs (show 0 ≤ v.2 by omega)).2.1
    unfold kLt at t
    simp at t
    omega
end Sz

namespace Sz
open PySem PySem.Spec PyProof.Rows L2
theorem sta_nn {s : Sty} (hs : ScOk s.sc) {k : Nat} (hk : k < s.sc.length) : 0 ≤ sta s k := by
  unfold sta
  split
  · omega
  · obtain ⟨w, hw⟩ : ∃ w, s.sc[k]? = some w := ⟨_, List.getElem?_eq_getElem hk⟩
    rw [size_of hw]
    have := hs.sizes w (List.mem_of_getElem? hw)
    omega
end Sz

namespace Sz
open PySem PySem.Spec PyProof.Rows L2
/-- all stretches of a style -/
def StrAll (s : Sty) (l : List Stt) : Prop := ∃ l0 e, l = l0 ++ [(e, none, s.sc.length - 1)] ∧ StrTo s 0 l0 e ∧ e = sta s (s.sc.length - 1)
/-- a memory that speaks of itself alone -/
def MB (m : Mem) : Prop := m.all (belowO m.length) = true
theorem strD_below (n : Nat) : ∀ l : List Stt, belowL n (l.map strD) = true
  | [] => rfl
  | (a, none, k) :: l => by rw [List.map_cons, belowL, strD_below n l]; simp [strD, below, belowL]
  | (a, some c, k) :: l => by rw [List.map_cons, belowL, strD_below n l]; simp [strD, below, belowL]
end Sz

namespace Sz
open PySem PySem.Spec PyProof.Rows L2
def isOver (s : Sty) (n : Int) : Bool := decide ((key s n).1 + 1 < s.sc.length) && decide (sizeAt s.sc ((key s n).1 + 1) * stp s.pl ≤ (key s n).2 * sizeAt s.sc (key s n).1)
/-- within a stretch of one unit a greater number overflows as well -/
theorem over_mono {s : Sty} (hs : ScOk s.sc) {n m : Int} (h0 : 0 ≤ n) (h : n ≤ m) (e : (key s n).1 = (key s m).1) (o : isOver s n = true) : isOver s m = true := by
  have q := key_mono hs h
  obtain ⟨⟨u, hu⟩, _⟩ := key_at hs h0
  have us := hs.sizes u (List.mem_of_getElem? hu)
  unfold isOver at o ⊢
  rw [← e]
  rw [size_of hu] at o ⊢
  unfold keyLe at q
  have le : (key s n).2 ≤ (key s m).2 := by omega
  have ml : (key s n).2 * u.2 ≤ (key s m).2 * u.2 := Int.mul_le_mul_of_nonneg_right le (by omega)
  simp at o ⊢
  exact ⟨o.1, by omega⟩
end Sz

namespace Sz
open PySem PySem.Spec PyProof.Rows L2
theorem over_small {s : Sty} (hs : ScOk s.sc) {n : Int} (o : isOver s n = true) : n < 18446744073709551616 := by
  have ku := key_unit (s := s) n
  unfold isOver at o
  simp at o
  obtain ⟨v, hv⟩ : ∃ v, s.sc[own (s.sc.map (·.2)) n + 1]? = some v := ⟨_, List.getElem?_eq_getElem (by omega)⟩
  have := own_next (s.sc.map (·.2)) n v.2 (by rw [List.getElem?_map, hv]; rfl)
  have := (hs.sizes v (List.mem_of_getElem? hv)).2
  omega
def optI : Option Int → D
  | some h => .int h
  | none => .non
/-- the least number that overflows, or none -/
def OvIs (s : Sty) : Option Int → Prop
  | some h => 0 ≤ h ∧ isOver s h = true ∧ ∀ n, 0 ≤ n → n < h → isOver s n = false
  | none => ∀ n, 0 ≤ n → isOver s n = false
end Sz

namespace Sz
open PySem PySem.Spec PyProof.Rows L2
end Sz

namespace Sz
open PySem PySem.Spec PyProof.Rows L2
def textOf (s : Sty) (n : Int) : List Nat := txt s (key s n).1 (key s n).2
end Sz

namespace Sz
open PySem PySem.Spec PyProof.Rows L2
/-! ## draws by functions -/
structure Tn where
  a : Int
  b : Int
  h : 0 ≤ a
def tn (t : Tn) : Ob := .lst [.int t.a, .int t.b]
theorem draw_ex (ns : List Int) (t : Tn) (many : Int) : ∃ (d : Int) (t' : Tn), 0 < many → many < 18446744073709551616 → (0 ≤ d ∧ d < many) ∧ ∀ rest, m__law_draw [.scr ns, .ref 0, .int many] (tn t :: rest) = .ok (.int d) (tn t' :: rest) := by
  by_cases h0 : 0 < many
  · by_cases h1 : many < 18446744073709551616
    · obtain ⟨d, a', b', e, d0, d1, p⟩ := m_draw_all (ns := ns) (a := t.a) (b := t.b) t.h h0 h1
      exact ⟨d, ⟨a', b', p⟩, fun _ _ => ⟨⟨d0, d1⟩, fun rest => by simpa [tn] using e (m := tn t :: rest) (k := 0) rfl⟩⟩
    · exact ⟨0, t, fun _ h => absurd h h1⟩
  · exact ⟨0, t, fun h => absurd h h0⟩
noncomputable def dv (ns : List Int) (t : Tn) (many : Int) : Int := Classical.choose (draw_ex ns t many)
noncomputable def dn (ns : List Int) (t : Tn) (many : Int) : Tn := Classical.choose (Classical.choose_spec (draw_ex ns t many))
theorem dv_b {ns : List Int} {t : Tn} {many : Int} (h0 : 0 < many) (h1 : many < 18446744073709551616) : 0 ≤ dv ns t many ∧ dv ns t many < many := (Classical.choose_spec (Classical.choose_spec (draw_ex ns t many)) h0 h1).1
theorem draw_e {ns : List Int} {t : Tn} {many : Int} {rest : Mem} (h0 : 0 < many) (h1 : many < 18446744073709551616) : m__law_draw [.scr ns, .ref 0, .int many] (tn t :: rest) = .ok (.int (dv ns t many)) (tn (dn ns t many) :: rest) :=
  (Classical.choose_spec (Classical.choose_spec (draw_ex ns t many)) h0 h1).2 rest
/-- what is picked -/
noncomputable def pk (ns : List Int) (t : Tn) (l : List D) : D := l.getD (dv ns t l.length).toNat .non
theorem pk_mem {ns : List Int} {t : Tn} {l : List D} (h0 : 0 < l.length) (h1 : l.length ≤ 1000) : pk ns t l ∈ l := by
  have b := dv_b (ns := ns) (t := t) (many := l.length) (by omega) (by omega)
  have hn : (dv ns t l.length).toNat < l.length := by omega
  unfold pk
  rw [List.getD_eq_getElem?_getD, List.getElem?_eq_getElem hn]
  exact List.getElem_mem _
theorem pickL_e {ns : List Int} {t : Tn} {l : List D} {rest : Mem} (h0 : 0 < l.length) (h1 : l.length ≤ 1000) : m__law_pick [.scr ns, .ref 0, .lst l] (tn t :: rest) = .ok (pk ns t l) (tn (dn ns t l.length) :: rest) := by
  have b := dv_b (ns := ns) (t := t) (many := l.length) (by omega) (by omega)
  have e := draw_e (ns := ns) (t := t) (many := l.length) (rest := rest) (by omega) (by omega)
  have hn : (dv ns t l.length).toNat < l.length := by omega
  obtain ⟨n, hn2⟩ := Int.eq_ofNat_of_zero_le b.1
  refine def_eq rfl ?_
  unfold pk
  rw [hn2] at e hn ⊢
  simp at hn
  simp [b__law_pick, e, atI_nat, hn]
  exact pack_le (by simp)
theorem pickT_e {ns : List Int} {t : Tn} {l : List D} {rest : Mem} (h0 : 0 < l.length) (h1 : l.length ≤ 1000) : m__law_pick [.scr ns, .ref 0, .tup l] (tn t :: rest) = .ok (pk ns t l) (tn (dn ns t l.length) :: rest) := by
  have b := dv_b (ns := ns) (t := t) (many := l.length) (by omega) (by omega)
  have e := draw_e (ns := ns) (t := t) (many := l.length) (rest := rest) (by omega) (by omega)
  have hn : (dv ns t l.length).toNat < l.length := by omega
  obtain ⟨n, hn2⟩ := Int.eq_ofNat_of_zero_le b.1
  refine def_eq rfl ?_
  unfold pk
  rw [hn2] at e hn ⊢
  simp at hn
  simp [b__law_pick, e, atI_nat, hn]
  exact pack_le (by simp)
/-- the style that is drawn -/
theorem style_ex (ns : List Int) (t : Tn) (many : Int) : ∃ (s : Sty) (t' : Tn), 0 < many → many ≤ 5 → m__law_style [.scr ns, .ref 0, .int many] [tn t] = .ok (Sty.toD s) [tn t'] ∧ Good s ∧ Grow s ∧ (s.sc.length : Int) ≤ many ∧ Rat s ∧ ∀ u ∈ s.sc, u.1 ≠ [122, 122] := by
  by_cases h0 : 0 < many
  · by_cases h1 : many ≤ 5
    · obtain ⟨s, a', b', e, g, p, q, r⟩ := style_eq ns (a := t.a) (b := t.b) t.h h0 h1
      exact ⟨s, ⟨a', b', p⟩, fun _ _ => ⟨e, g, q, r⟩⟩
    · exact ⟨⟨[], 0, [], true, true⟩, t, fun _ h => absurd h h1⟩
  · exact ⟨⟨[], 0, [], true, true⟩, t, fun h => absurd h h0⟩
noncomputable def sty (ns : List Int) (t : Tn) (many : Int) : Sty := Classical.choose (style_ex ns t many)
noncomputable def stn (ns : List Int) (t : Tn) (many : Int) : Tn := Classical.choose (Classical.choose_spec (style_ex ns t many))
theorem style_e {ns : List Int} {t : Tn} {many : Int} (h0 : 0 < many) (h1 : many ≤ 5) : m__law_style [.scr ns, .ref 0, .int many] [tn t] = .ok (Sty.toD (sty ns t many)) [tn (stn ns t many)] := (Classical.choose_spec (Classical.choose_spec (style_ex ns t many)) h0 h1).1
theorem sty_good {ns : List Int} {t : Tn} {many : Int} (h0 : 0 < many) (h1 : many ≤ 5) : Good (sty ns t many) := (Classical.choose_spec (Classical.choose_spec (style_ex ns t many)) h0 h1).2.1
theorem sty_grow {ns : List Int} {t : Tn} {many : Int} (h0 : 0 < many) (h1 : many ≤ 5) : Grow (sty ns t many) := (Classical.choose_spec (Classical.choose_spec (style_ex ns t many)) h0 h1).2.2.1
theorem sty_len {ns : List Int} {t : Tn} {many : Int} (h0 : 0 < many) (h1 : many ≤ 5) : ((sty ns t many).sc.length : Int) ≤ many := (Classical.choose_spec (Classical.choose_spec (style_ex ns t many)) h0 h1).2.2.2.1
theorem sty_rat {ns : List Int} {t : Tn} {many : Int} (h0 : 0 < many) (h1 : many ≤ 5) : Rat (sty ns t many) := (Classical.choose_spec (Classical.choose_spec (style_ex ns t many)) h0 h1).2.2.2.2.1
theorem sty_zz {ns : List Int} {t : Tn} {many : Int} (h0 : 0 < many) (h1 : many ≤ 5) : ∀ u ∈ (sty ns t many).sc, u.1 ≠ [122, 122] := (Classical.choose_spec (Classical.choose_spec (style_ex ns t many)) h0 h1).2.2.2.2.2
end Sz

namespace Sz
open PySem PySem.Spec PyProof.Rows L2
/-! ## the least number with a property -/
theorem least_ex {P : Int → Prop} (h : ∃ n, 0 ≤ n ∧ P n) : ∃ n, 0 ≤ n ∧ P n ∧ ∀ k, 0 ≤ k → k < n → ¬ P k := by
  obtain ⟨n, h0, hn⟩ := h
  obtain ⟨k, rfl⟩ := Int.eq_ofNat_of_zero_le h0
  clear h0
  induction k using Nat.strongRecOn with
  | ind k ih =>
    by_cases q : ∃ j : Nat, j < k ∧ P (j : Int)
    · obtain ⟨j, h1, h2⟩ := q
      exact ih j h1 h2
    · exact ⟨(k : Int), by omega, hn, fun i i0 i1 pi => q ⟨i.toNat, by omega, by rwa [Int.toNat_of_nonneg i0]⟩⟩
def IsL (P : Int → Prop) : Option Int → Prop
  | some h => 0 ≤ h ∧ P h ∧ ∀ n, 0 ≤ n → n < h → ¬ P n
  | none => ∀ n, 0 ≤ n → ¬ P n
theorem isL_ex (P : Int → Prop) : ∃ o, IsL P o := by
  by_cases h : ∃ n, 0 ≤ n ∧ P n
  · obtain ⟨n, a, b, c⟩ := least_ex h
    exact ⟨some n, a, b, c⟩
  · exact ⟨none, fun n hn hp => h ⟨n, hn, hp⟩⟩
noncomputable def leastN (P : Int → Prop) : Option Int := Classical.choose (isL_ex P)
theorem leastN_is (P : Int → Prop) : IsL P (leastN P) := Classical.choose_spec (isL_ex P)
theorem isL_uniq {P : Int → Prop} {o p : Option Int} (h : IsL P o) (k : IsL P p) : o = p := by
  cases o with
  | none =>
    cases p with
    | none => rfl
    | some b => exact absurd k.2.1 (h b k.1)
  | some a =>
    cases p with
    | none => exact absurd h.2.1 (k a h.1)
    | some b =>
      rcases Int.lt_trichotomy a b with q | q | q
      · exact absurd h.2.1 (k.2.2 a h.1 q)
      · rw [q]
      · exact absurd k.2.1 (h.2.2 b k.1 q)
theorem leastN_eq {P : Int → Prop} {o : Option Int} (h : IsL P o) : leastN P = o := isL_uniq (leastN_is P) h
theorem isL_congr {P Q : Int → Prop} (h : ∀ n, 0 ≤ n → (P n ↔ Q n)) {o : Option Int} (k : IsL P o) : IsL Q o := by
  cases o with
  | none => exact fun n hn q => k n hn ((h n hn).mpr q)
  | some a => exact ⟨k.1, (h a k.1).mp k.2.1, fun n hn hl q => k.2.2 n hn hl ((h n hn).mpr q)⟩
theorem leastN_congr {P Q : Int → Prop} (h : ∀ n, 0 ≤ n → (P n ↔ Q n)) : leastN P = leastN Q := isL_uniq (isL_congr h (leastN_is P)) (leastN_is Q)
/-! ## the classes of a key -/
theorem kLt_iff {a b : Nat × Int} : kLt a b = true ↔ a.1 < b.1 ∨ (a.1 = b.1 ∧ a.2 < b.2) := by simp [kLt]
theorem kLt_not {a b : Nat × Int} : kLt a b = false ↔ ¬ (a.1 < b.1 ∨ (a.1 = b.1 ∧ a.2 < b.2)) := by simp [kLt]
noncomputable def lf (s : Sty) (k : Nat × Int) : Int := (leastN fun n => kLt (key s n) k = false).getD 0
theorem lf_spec {s : Sty} (hs : ScOk s.sc) {i : Nat} {v : Int} (hi : i < s.sc.length) (v0 : 0 ≤ v) : 0 ≤ lf s (i, v) ∧ kLt (key s (lf s (i, v))) (i, v) = false ∧ ∀ n, 0 ≤ n → n < lf s (i, v) → kLt (key s n) (i, v) = true := by
  have far := key_far (B := 18446744073709551616) hs hi v0 fun u hu => by have := (hs.sizes u hu).2; omega
  have q := leastN_is fun n => kLt (key s n) (i, v) = false
  unfold lf
  cases e : leastN fun n => kLt (key s n) (i, v) = false with
  | none =>
    rw [e] at q
    exact absurd far (q _ (by omega))
  | some h =>
    rw [e] at q
    refine ⟨q.1, q.2.1, fun n h0 h1 => ?_⟩
    cases z : kLt (key s n) (i, v) with
    | true => rfl
    | false => exact absurd z (q.2.2 n h0 h1)
theorem lf_is {s : Sty} {k : Nat × Int} {h : Int} (a : 0 ≤ h) (b : kLt (key s h) k = false) (c : ∀ n, 0 ≤ n → n < h → kLt (key s n) k = true) : lf s k = h := by
  unfold lf
  rw [leastN_eq (o := some h) ⟨a, b, fun n h0 h1 z => by rw [c n h0 h1] at z; cases z⟩]
  rfl
noncomputable def nx (s : Sty) (n : Int) : Int := lf s ((key s n).1, (key s n).2 + 1)
noncomputable def fs (s : Sty) (n : Int) : Int := lf s (key s n)
theorem key_lt {s : Sty} (hs : ScOk s.sc) {n : Int} (h0 : 0 ≤ n) : (key s n).1 < s.sc.length := by
  obtain ⟨⟨u, hu⟩, _⟩ := key_at hs h0
  exact (List.getElem?_eq_some_iff.mp hu).1
theorem nx_spec {s : Sty} (hs : ScOk s.sc) {n : Int} (h0 : 0 ≤ n) : n < nx s n ∧ (∀ j, n ≤ j → j < nx s n → key s j = key s n) ∧ kLt (key s n) (key s (nx s n)) = true := by
  obtain ⟨_, v0, v1⟩ := key_at hs h0
  obtain ⟨a, b, c⟩ := lf_spec hs (key_lt hs h0) (v := (key s n).2 + 1) (by omega)
  unfold nx
  generalize lf s ((key s n).1, (key s n).2 + 1) = h at *
  have nh : n < h := by
    apply Int.lt_of_not_ge
    intro z
    have q : kLt (key s n) ((key s n).1, (key s n).2 + 1) = true := by simp [kLt]; omega
    have := kLt_mono hs z q
    rw [this] at b
    cases b
  refine ⟨nh, fun j j0 j1 => ?_, ?_⟩
  · have q := c j (by omega) j1
    have km := key_mono hs j0
    unfold kLt at q
    unfold keyLe at km
    simp at q
    refine Prod.ext ?_ ?_ <;> omega
  · have km := key_mono hs (show n ≤ h by omega)
    rw [kLt_not] at b
    unfold keyLe at km
    rw [kLt_iff]
    simp only at b
    omega
theorem fs_spec {s : Sty} (hs : ScOk s.sc) {n : Int} (h0 : 0 ≤ n) : 0 ≤ fs s n ∧ fs s n ≤ n ∧ key s (fs s n) = key s n ∧ ∀ j, 0 ≤ j → j < fs s n → kLt (key s j) (key s n) = true := by
  obtain ⟨_, v0, v1⟩ := key_at hs h0
  obtain ⟨a, b, c⟩ := lf_spec hs (key_lt hs h0) (v := (key s n).2) (by omega)
  unfold fs
  change 0 ≤ lf s (key s n) at a
  change kLt (key s (lf s (key s n))) (key s n) = false at b
  change ∀ j, 0 ≤ j → j < lf s (key s n) → kLt (key s j) (key s n) = true at c
  have le : lf s (key s n) ≤ n := by
    apply Int.le_of_not_gt
    intro z
    have := c n h0 z
    rw [kLt_irr] at this
    cases this
  refine ⟨a, le, ?_, c⟩
  have km := key_mono hs le
  rw [kLt_not] at b
  unfold keyLe at km
  refine Prod.ext ?_ ?_ <;> omega
theorem cls_iff {s : Sty} (hs : ScOk s.sc) {n j : Int} (h0 : 0 ≤ n) (j0 : 0 ≤ j) : key s j = key s n ↔ fs s n ≤ j ∧ j < nx s n := by
  obtain ⟨a1, a2, a3⟩ := nx_spec hs h0
  obtain ⟨b1, b2, b3, b4⟩ := fs_spec hs h0
  constructor
  · intro e
    constructor
    · apply Int.le_of_not_gt
      intro z
      have := b4 j j0 z
      rw [e, kLt_irr] at this
      cases this
    · apply Int.lt_of_not_ge
      intro z
      have km := key_mono hs z
      rw [e] at km
      rw [kLt_iff] at a3
      unfold keyLe at km
      omega
  · rintro ⟨c1, c2⟩
    by_cases q : n ≤ j
    · exact a2 j q c2
    · have k1 := key_mono hs c1
      have k2 := key_mono hs (show j ≤ n by omega)
      rw [b3] at k1
      unfold keyLe at k1 k2
      refine Prod.ext ?_ ?_ <;> omega
theorem nx_congr {s : Sty} {n j : Int} (e : key s n = key s j) : nx s n = nx s j := by unfold nx; rw [e]
theorem fs_congr {s : Sty} {n j : Int} (e : key s n = key s j) : fs s n = fs s j := by unfold fs; rw [e]
theorem key_small {s : Sty} (hs : ScOk s.sc) {n : Int} (h0 : 0 ≤ n) (h1 : n ≤ 10 ^ 36) : 0 ≤ (key s n).2 ∧ (key s n).2 + 1 ≤ 10 ^ 44 := by
  obtain ⟨_, v0, v1⟩ := key_at hs h0
  have sp := stp_pos s.pl
  have e : (10 : Int) ^ 36 * 100 + 2 ≤ 10 ^ 44 := by decide +kernel
  have : n * stp s.pl ≤ 10 ^ 36 * 100 := Int.mul_le_mul h1 sp.2 (by omega) (by decide +kernel)
  omega
/-! ## what a walk over the stretches brings about -/
def endS : SO → SO
  | .nx e m => .nx e m
  | .ct e m => .nx e m
  | .bk e m => .nx e m
  | o => o
theorem forL_one {g : Ev → D → Option Ev} {body : Ev → Mem → SO} {d : D} {e e1 : Ev} {m : Mem} (h : g e d = some e1) : forL g body [d] e m = endS (body e1 m) := by
  rw [forL, h]
  dsimp only
  cases body e1 m <;> rfl
theorem StrTo.le {s : Sty} : ∀ {l : List Stt} {a b : Int}, StrTo s a l b → a ≤ b
  | [], a, b, h => by have h' : a = b := h; omega
  | t :: l, a, b, h => by
    obtain ⟨q1, d, q2, q3, q4, q5⟩ := h
    have := StrTo.le q5
    omega
theorem for_strs {s : Sty} {g : Ev → D → Option Ev} {body : Ev → Mem → SO} {L : Nat} {P : Int → Ev → Mem → Prop} {R : SO → Prop}
    (step : ∀ (a c : Int) (k : Nat) (e : Ev) (m : Mem), 0 ≤ a → a ≤ c → c < 16000000000001 → (∀ n, a ≤ n → n ≤ c → (key s n).1 = k) → P a e m → ∃ e1, g e (strD (a, some c, k)) = some e1 ∧ ((∃ e2 m2, (body e1 m = .nx e2 m2 ∨ body e1 m = .ct e2 m2) ∧ P (c + 1) e2 m2) ∨ ((∃ d m2, body e1 m = .rt d m2 ∧ R (.rt d m2)) ∨ ∃ e2 m2, body e1 m = .bk e2 m2 ∧ R (.nx e2 m2))))
    (last : ∀ (a : Int) (e : Ev) (m : Mem), 0 ≤ a → a < 16000000000001 → (∀ n, a ≤ n → (key s n).1 = L) → P a e m → ∃ e1, g e (strD (a, none, L)) = some e1 ∧ R (endS (body e1 m))) :
    ∀ (l0 : List Stt) (a b : Int) (e : Ev) (m : Mem), StrTo s a l0 b → 0 ≤ a → b < 16000000000001 → (∀ n, b ≤ n → (key s n).1 = L) → P a e m → R (forL g body ((l0 ++ [(b, none, L)]).map strD) e m)
  | [], a, b, e, m, h, ha, hB, hb, hP => by
    have h' : a = b := h
    subst h'
    obtain ⟨e1, h1, h2⟩ := last a e m ha hB hb hP
    rw [List.nil_append, List.map_cons, List.map_nil, forL_one h1]
    exact h2
  | (x, c, k) :: l, a, b, e, m, h, ha, hB, hb, hP => by
    obtain ⟨q1, d, q2, q3, q4, q5⟩ := h
    simp only at q1 q2 q4
    subst q1 q2
    obtain ⟨e1, h1, h2⟩ := step x d k e m ha q3 (by have := StrTo.le q5; omega) q4 hP
    rw [List.cons_append, List.map_cons, forL, h1]
    dsimp only
    rcases h2 with ⟨e2, m2, h2, h3⟩ | ⟨e2, m2, h2, h3⟩ | ⟨e2, m2, h2, h3⟩
    · have ih := for_strs step last l (d + 1) b e2 m2 q5 (by omega) hB hb h3
      rcases h2 with h2 | h2
      · rw [h2]
        exact ih
      · rw [h2]
        exact ih
    · rw [h2]
      exact h3
    · rw [h2]
      exact h3
/-- the last unit has all great numbers -/
theorem last_unit {s : Sty} (g : Good s) {n : Int} (h : sta s (s.sc.length - 1) ≤ n) : (key s n).1 = s.sc.length - 1 := by
  have hs := g.sc.ok
  have ln := g.sc.ne
  have oi := own_is hs (k := s.sc.length - 1) (n := n) (by omega) h fun v hv => by
    obtain ⟨z, _⟩ := List.getElem?_eq_some_iff.mp hv
    omega
  rcases key_unit (s := s) n with q | q
  · omega
  · have n0 : 0 ≤ n := by
      have := sta_nn hs (k := s.sc.length - 1) (by omega)
      omega
    have := key_lt hs n0
    omega
/-- nor does any number come behind the end -/
theorem below_end {s : Sty} (hs : ScOk s.sc) {c : Int} {k : Nat} (h0 : 0 ≤ c) (h : (key s c).1 = k) (hk : k + 1 < s.sc.length) : c < 18446744073709551616 := by
  rcases key_unit (s := s) c with q | q
  · obtain ⟨v, hv⟩ : ∃ v, s.sc[own (s.sc.map (·.2)) c + 1]? = some v := ⟨_, List.getElem?_eq_getElem (by omega)⟩
    have := own_next (s.sc.map (·.2)) c v.2 (by rw [List.getElem?_map, hv]; rfl)
    have := (hs.sizes v (List.mem_of_getElem? hv)).2
    omega
  · obtain ⟨v, hv⟩ : ∃ v, s.sc[own (s.sc.map (·.2)) c + 1]? = some v := ⟨_, List.getElem?_eq_getElem (by omega)⟩
    have := own_next (s.sc.map (·.2)) c v.2 (by rw [List.getElem?_map, hv]; rfl)
    have := (hs.sizes v (List.mem_of_getElem? hv)).2
    omega
/-- the value is the number, rounded in its unit -/
theorem key_rnd {s : Sty} {n : Int} : (key s n).2 = rnd n (sizeAt s.sc (key s n).1) (stp s.pl) s.md := by
  unfold key
  dsimp only
  split <;> rfl
theorem unit_size {s : Sty} (hs : ScOk s.sc) {k : Nat} (h : k < s.sc.length) : 0 < sizeAt s.sc k ∧ sizeAt s.sc k < 18446744073709551616 := by
  obtain ⟨u, hu⟩ : ∃ u, s.sc[k]? = some u := ⟨_, List.getElem?_eq_getElem h⟩
  rw [size_of hu]
  exact hs.sizes u (List.mem_of_getElem? hu)
/-- rounding repeats -/
theorem rnd_add {n z st q : Int} {md : List Nat} (hz : 0 < z) : rnd (n + 2 * z * q) z st md = rnd n z st md + 2 * st * q := by
  have e : (n + 2 * z * q) * st = n * st + z * (2 * st * q) := by
    rw [Int.add_mul]
    congr 1
    rw [Int.mul_assoc 2 z q, Int.mul_assoc, Int.mul_assoc, Int.mul_left_comm 2 z, Int.mul_assoc 2 st q, Int.mul_comm q st]
  unfold rnd
  rw [e, Int.add_mul_emod_self_left, Int.add_mul_ediv_left _ _ (by omega)]
  have p : (n * st / z + 2 * st * q) % 2 = n * st / z % 2 := by
    rw [Int.mul_assoc, Int.add_mul_emod_self_left]
  rw [p]
  repeat' split
  all_goals omega
end Sz

namespace Sz
open PySem PySem.Spec PyProof.Rows L2
theorem amt_mono {s : Sty} (hs : ScOk s.sc) {n m : Int} (h0 : 0 ≤ n) (h : n ≤ m) (e : (key s n).1 = (key s m).1) : amt s n ≤ amt s m := by
  have km := key_mono hs h
  have us := unit_size hs (key_lt hs h0)
  unfold keyLe at km
  unfold amt
  rw [← e]
  exact Int.mul_le_mul_of_nonneg_right (by omega) (by omega)
/-- a number that falls -/
def fallsAt (s : Sty) (n : Int) : Prop := amt s (n + 1) < amt s n
end Sz

namespace Sz
open PySem PySem.Spec PyProof.Rows L2
/-- a class is not longer than two of its unit's sizes -/
theorem nx_le {s : Sty} (hs : ScOk s.sc) {n : Int} (h0 : 0 ≤ n) : nx s n ≤ n + 2 * sizeAt s.sc (key s n).1 := by
  have us := unit_size hs (key_lt hs h0)
  have sp := stp_pos s.pl
  apply Int.le_of_not_gt
  intro z
  have e := (nx_spec hs h0).2.1 (n + 2 * sizeAt s.sc (key s n).1) (by omega) z
  have r := key_rnd (s := s) (n := n + 2 * sizeAt s.sc (key s n).1)
  rw [e] at r
  have r2 := key_rnd (s := s) (n := n)
  have a := rnd_add (n := n) (z := sizeAt s.sc (key s n).1) (st := stp s.pl) (q := 1) (md := s.md) us.1
  simp only [Int.mul_one] at a
  omega
theorem nx_le2 {s : Sty} (hs : ScOk s.sc) {n : Int} (h0 : 0 ≤ n) : nx s n ≤ n + 36893488147419103232 := by
  have := nx_le hs h0
  have := unit_size hs (key_lt hs h0)
  omega
def inS : Option Int → Int → Prop
  | none, _ => True
  | some c, n => n ≤ c
/-- the starts of a stretch's classes -/
structure StI (s : Sty) (a : Int) (stop : Option Int) (F : List Int) (p : Int) : Prop where
  ge : a ≤ p
  bd : p ≤ a + F.length * 36893488147419103232
  mem : ∀ y ∈ F, a ≤ y ∧ inS stop y ∧ y ≤ p
  cov : ∀ x, a ≤ x → x < p → ∃ y ∈ F, key s y = key s x
  val : inS stop p → (key s a).2 + F.length ≤ (key s p).2
theorem below_ints (n : Nat) : ∀ l : List Int, belowL n (l.map D.int) = true
  | [] => rfl
  | _ :: l => by
    rw [List.map_cons, belowL, below_ints n l]
    rfl
end Sz

namespace Sz
open PySem PySem.Spec PyProof.Rows L2
/-! ## the widest class -/
noncomputable def wd (s : Sty) (n : Int) : Int := nx s n - fs s n
theorem wd_congr {s : Sty} {n j : Int} (e : key s n = key s j) : wd s n = wd s j := by unfold wd; rw [nx_congr e, fs_congr e]
/-- no greater than the best, and not ahead of it if equal -/
def Dom (s : Sty) (c l n : Int) : Prop := wd s n < c ∨ (wd s n = c ∧ l ≤ fs s n)
def bestD : Option (Int × Int) → D
  | none => .non
  | some (c, l) => .tup [.int c, .int l]
def WI (s : Sty) (V : Int → Prop) : Option (Int × Int) → Prop
  | none => ∀ n, ¬ V n
  | some (c, l) => 0 ≤ l ∧ fs s l = l ∧ wd s l = c ∧ ∀ n, V n → Dom s c l n
theorem WI.imp {s : Sty} {V V' : Int → Prop} {b : Option (Int × Int)} (h : WI s V b) (k : ∀ n, V' n → V n) : WI s V' b := by
  cases b with
  | none => exact fun n hn => h n (k n hn)
  | some p => exact ⟨h.1, h.2.1, h.2.2.1, fun n hn => h.2.2.2 n (k n hn)⟩
theorem fs_fs {s : Sty} (hs : ScOk s.sc) {n : Int} (h0 : 0 ≤ n) : fs s (fs s n) = fs s n := fs_congr (fs_spec hs h0).2.2.1
/-- a class far from the start is no longer than one that was looked at -/
theorem wd_shift {s : Sty} (hs : ScOk s.sc) {a : Int} {stop : Option Int} {k : Nat} (h0 : 0 ≤ a) (hk : ∀ n, a ≤ n → inS stop n → (key s n).1 = k) {M : Int} (hM : 2 * stp s.pl + 1 ≤ M) {x : Int} (xa : a ≤ x) (hx : inS stop x) (hn : inS stop (nx s x)) (hv : (key s a).2 + M ≤ (key s x).2) :
    ∃ y, a ≤ y ∧ inS stop y ∧ (key s y).2 < (key s a).2 + M ∧ wd s x ≤ wd s y ∧ fs s y ≤ fs s x := by
  have sp := stp_pos s.pl
  have k0 : (key s a).1 = k := hk a (Int.le_refl _) (by
    cases stop with
    | none => trivial
    | some c => exact Int.le_trans xa hx)
  have us := unit_size hs (key_lt hs h0)
  rw [k0] at us
  have x0 : 0 ≤ x := by omega
  obtain ⟨f0, f1, f2, f3⟩ := fs_spec hs x0
  obtain ⟨n1, n2, n3⟩ := nx_spec hs x0
  have ra := key_rnd (s := s) (n := a)
  rw [k0] at ra
  have fa : a < fs s x := by
    apply Int.lt_of_not_ge
    intro z
    have km := key_mono hs z
    rw [f2, ] at km
    have kx := hk x xa hx
    unfold keyLe at km
    omega
  -- the shift
  obtain ⟨q, w, hq, w0, w1, q0⟩ : ∃ q w, (key s x).2 = w + 2 * stp s.pl * q ∧ (key s a).2 + 1 ≤ w ∧ w ≤ (key s a).2 + 2 * stp s.pl ∧ 0 ≤ q := by
    have d := Int.mul_ediv_add_emod ((key s x).2 - (key s a).2 - 1) (2 * stp s.pl)
    have r0 := Int.emod_nonneg ((key s x).2 - (key s a).2 - 1) (show 2 * stp s.pl ≠ 0 by omega)
    have r1 := Int.emod_lt_of_pos ((key s x).2 - (key s a).2 - 1) (show 0 < 2 * stp s.pl by omega)
    have dq : 0 ≤ ((key s x).2 - (key s a).2 - 1) / (2 * stp s.pl) := Int.ediv_nonneg (by omega) (by omega)
    exact ⟨((key s x).2 - (key s a).2 - 1) / (2 * stp s.pl), (key s a).2 + 1 + ((key s x).2 - (key s a).2 - 1) % (2 * stp s.pl), by omega, by omega, by omega, dq⟩
  have d0 : 0 ≤ 2 * sizeAt s.sc k * q := Int.mul_nonneg (by omega) q0
  have sh : ∀ j, fs s x ≤ j → j < nx s x → a < j - 2 * sizeAt s.sc k * q ∧ inS stop (j - 2 * sizeAt s.sc k * q) ∧ key s (j - 2 * sizeAt s.sc k * q) = (k, w) := fun j j0 j1 => by
    have je := (cls_iff hs x0 (show 0 ≤ j by omega)).mpr ⟨j0, j1⟩
    have jS : inS stop j := by
      cases stop with
      | none => trivial
      | some c =>
        have hn' : nx s x ≤ c := hn
        show j ≤ c
        omega
    have jr := key_rnd (s := s) (n := j)
    rw [hk j (by omega) jS, je] at jr
    have ad := rnd_add (n := j - 2 * sizeAt s.sc k * q) (z := sizeAt s.sc k) (st := stp s.pl) (q := q) (md := s.md) us.1
    rw [Int.sub_add_cancel] at ad
    have rw' : rnd (j - 2 * sizeAt s.sc k * q) (sizeAt s.sc k) (stp s.pl) s.md = w := by omega
    have ga : a < j - 2 * sizeAt s.sc k * q := by
      apply Int.lt_of_not_ge
      intro z
      have := rnd_mono (md := s.md) z us.1 sp.1
      omega
    have sS : inS stop (j - 2 * sizeAt s.sc k * q) := by
      cases stop with
      | none => trivial
      | some c =>
        have hn' : nx s x ≤ c := hn
        show _ ≤ c
        omega
    refine ⟨ga, sS, Prod.ext (hk _ (by omega) sS) ?_⟩
    have yr := key_rnd (s := s) (n := j - 2 * sizeAt s.sc k * q)
    rw [hk _ (by omega) sS] at yr
    rw [yr, rw']
  obtain ⟨y1, y2, y3⟩ := sh (fs s x) (Int.le_refl _) (by omega)
  obtain ⟨z1, z2, z3⟩ := sh (nx s x - 1) (by omega) (by omega)
  refine ⟨fs s x - 2 * sizeAt s.sc k * q, by omega, y2, by rw [y3]; show w < _; omega, ?_, ?_⟩
  · have c1 := (cls_iff hs (n := fs s x - 2 * sizeAt s.sc k * q) (j := fs s x - 2 * sizeAt s.sc k * q) (by omega) (by omega)).mp rfl
    have c2 := (cls_iff hs (n := fs s x - 2 * sizeAt s.sc k * q) (j := nx s x - 1 - 2 * sizeAt s.sc k * q) (by omega) (by omega)).mp (by rw [y3, z3])
    unfold wd
    omega
  · have := (fs_spec hs (n := fs s x - 2 * sizeAt s.sc k * q) (by omega)).2.1
    omega
/-- what widest tells -/
def IsW (s : Sty) (c l : Int) : Prop := 0 ≤ l ∧ fs s l = l ∧ wd s l = c ∧ ∀ n, 0 ≤ n → Dom s c l n
theorem isW_uniq {s : Sty} {c l c' l' : Int} (h : IsW s c l) (h' : IsW s c' l') : c = c' ∧ l = l' := by
  obtain ⟨a1, a2, a3, a4⟩ := h
  obtain ⟨b1, b2, b3, b4⟩ := h'
  have q1 := a4 l' b1
  have q2 := b4 l a1
  unfold Dom at q1 q2
  omega
open Classical in
noncomputable def wid (s : Sty) : Int × Int := if h : ∃ p : Int × Int, IsW s p.1 p.2 then Classical.choose h else (0, 0)
theorem wid_of {s : Sty} {c l : Int} (h : IsW s c l) : wid s = (c, l) := by
  have ex : ∃ p : Int × Int, IsW s p.1 p.2 := ⟨(c, l), h⟩
  unfold wid
  rw [dif_pos ex]
  have q := isW_uniq (Classical.choose_spec ex) h
  exact Prod.ext q.1 q.2
end Sz

namespace Sz
open PySem PySem.Spec PyProof.Rows L2
/-! ## the worst error -/
theorem mulB {i j : Int} (h1 : -(10 ^ 100) < i ∧ i < 10 ^ 100) (h2 : -(10 ^ 100) < j ∧ j < 10 ^ 100) : mulC i j = true := by
  unfold mulC
  have e : (10 : Int) ^ 100 ≤ ((2 ^ 400 : Nat) : Int) := by decide +kernel
  rw [decide_eq_true (show i.natAbs < 2 ^ 400 by omega), decide_eq_true (show j.natAbs < 2 ^ 400 by omega)]
  simp
/-- the distance of what is shown, in steps -/
def er (s : Sty) (n : Int) : Int := if amt s n - n * stp s.pl < 0 then -(amt s n - n * stp s.pl) else amt s n - n * stp s.pl
theorem er_nn {s : Sty} {n : Int} : 0 ≤ er s n := by unfold er; split <;> omega
theorem amt_near {s : Sty} (hs : ScOk s.sc) {n : Int} (h0 : 0 ≤ n) : 0 ≤ amt s n ∧ n * stp s.pl - sizeAt s.sc (key s n).1 < amt s n ∧ amt s n ≤ n * stp s.pl + sizeAt s.sc (key s n).1 := by
  have us := unit_size hs (key_lt hs h0)
  obtain ⟨_, v0, _⟩ := key_at hs h0
  have r := key_rnd (s := s) (n := n)
  unfold amt
  generalize sizeAt s.sc (key s n).1 = z at *
  generalize (key s n).2 = v at *
  subst r
  have lo := rnd_lo (n := n) (z := z) (st := stp s.pl) (md := s.md)
  have hi := rnd_hi (n := n) (z := z) (st := stp s.pl) (md := s.md)
  have d := Int.mul_ediv_add_emod (n * stp s.pl) z
  have r0 := Int.emod_nonneg (n * stp s.pl) (show z ≠ 0 by omega)
  have r1 := Int.emod_lt_of_pos (n * stp s.pl) us.1
  have m1 := Int.mul_le_mul_of_nonneg_right lo (show 0 ≤ z by omega)
  have m2 := Int.mul_le_mul_of_nonneg_right hi (show 0 ≤ z by omega)
  have m3 : n * stp s.pl / z * z = z * (n * stp s.pl / z) := Int.mul_comm _ _
  have m4 : (n * stp s.pl / z + 1) * z = z * (n * stp s.pl / z) + z := by rw [Int.add_mul, Int.one_mul, Int.mul_comm]
  refine ⟨Int.mul_nonneg v0 (by omega), by omega, by omega⟩
theorem er_le {s : Sty} (hs : ScOk s.sc) {n : Int} (h0 : 0 ≤ n) : er s n ≤ sizeAt s.sc (key s n).1 := by
  have := amt_near hs h0
  unfold er
  split <;> omega
theorem er_big {s : Sty} (g : Good s) {n : Int} (h0 : 0 ≤ n) : er s n ≤ 16000000000000 := by
  have hs := g.sc.ok
  have := er_le hs h0
  obtain ⟨⟨u, hu⟩, _⟩ := key_at hs h0
  rw [size_of hu] at this
  have := (g.sc.big u (List.mem_of_getElem? hu)).2
  omega
theorem nst_b {s : Sty} {n : Int} (h0 : 0 ≤ n) (h1 : n ≤ 10 ^ 36) : 0 ≤ n * stp s.pl ∧ n * stp s.pl ≤ 10 ^ 38 ∧ n ≤ n * stp s.pl := by
  have sp := stp_pos s.pl
  have e : (10 : Int) ^ 36 * 100 ≤ 10 ^ 38 := by decide +kernel
  have := Int.mul_le_mul h1 sp.2 (by omega) (by decide +kernel)
  have := Int.mul_nonneg h0 (show 0 ≤ stp s.pl by omega)
  have : n * 1 ≤ n * stp s.pl := Int.mul_le_mul_of_nonneg_left (by omega) h0
  omega
def bestE : Option (Int × Int × Int) → D
  | none => .non
  | some (n, e, d) => .tup [.int n, .tup [.int e, .int d]]
def XD (s : Sty) (n e d j : Int) : Prop := er s j * d < e * (j * stp s.pl) ∨ (er s j * d = e * (j * stp s.pl) ∧ n ≤ j)
def XI (s : Sty) (V : Int → Prop) : Option (Int × Int × Int) → Prop
  | none => ∀ j, V j → er s j = 0
  | some (n, e, d) => V n ∧ 1 ≤ n ∧ e = er s n ∧ d = n * stp s.pl ∧ 0 < e ∧ ∀ j, V j → XD s n e d j
theorem XI.iff {s : Sty} {V V' : Int → Prop} {b : Option (Int × Int × Int)} (h : XI s V b) (k : ∀ n, V' n ↔ V n) : XI s V' b := by
  have : V' = V := funext fun n => propext (k n)
  rw [this]
  exact h
/-- more numbers, none worse -/
theorem XI.more {s : Sty} {V V' : Int → Prop} {b : Option (Int × Int × Int)} (h : XI s V b) (k : ∀ n, V n → V' n) (k0 : b = none → ∀ j, V' j → er s j = 0) (k1 : ∀ n e d, b = some (n, e, d) → ∀ j, V' j → XD s n e d j) : XI s V' b := by
  cases b with
  | none => exact k0 rfl
  | some p => exact ⟨k _ h.1, h.2.1, h.2.2.1, h.2.2.2.1, h.2.2.2.2.1, k1 _ _ _ rfl⟩
def XBd (b : Option (Int × Int × Int)) : Prop := ∀ n e d, b = some (n, e, d) → 0 < e ∧ 0 < d ∧ e ≤ 16000000000000 ∧ d ≤ 10 ^ 38 ∧ d ≤ e * 10 ^ 18
/-- within a class the ends are the worst -/
theorem cls_worst {s : Sty} (hs : ScOk s.sc) {p q j : Int} (p1 : 1 ≤ p) (pj : p ≤ j) (jq : j ≤ q) (e1 : key s j = key s p) (e2 : key s q = key s p) :
    er s j * (p * stp s.pl) ≤ er s p * (j * stp s.pl) ∨ (er s j * (q * stp s.pl) < er s q * (j * stp s.pl)) ∨ j = q := by
  have sp := stp_pos s.pl
  have a0 := (amt_near hs (show 0 ≤ p by omega)).1
  have aj : amt s j = amt s p := by unfold amt; rw [e1]
  have aq : amt s q = amt s p := by unfold amt; rw [e2]
  unfold er
  rw [aj, aq]
  generalize amt s p = A at *
  have m1 : p * stp s.pl ≤ j * stp s.pl := Int.mul_le_mul_of_nonneg_right pj (by omega)
  have m2 : j * stp s.pl ≤ q * stp s.pl := Int.mul_le_mul_of_nonneg_right jq (by omega)
  have m3 : j = q ∨ j * stp s.pl < q * stp s.pl := by
    by_cases z : j = q
    · exact .inl z
    · exact .inr (Int.mul_lt_mul_of_pos_right (by omega) sp.1)
  have m0 : 0 < p * stp s.pl := Int.mul_pos (by omega) sp.1
  generalize p * stp s.pl = u at *
  generalize j * stp s.pl = v at *
  generalize q * stp s.pl = w at *
  by_cases c : v ≤ A
  · left
    rw [if_neg (by omega), if_neg (by omega), Int.sub_mul, Int.sub_mul]
    have : A * u ≤ A * v := Int.mul_le_mul_of_nonneg_left m1 a0
    have : v * u = u * v := Int.mul_comm _ _
    omega
  · by_cases c2 : A = 0
    · left
      subst c2
      rw [if_pos (by omega), if_pos (by omega)]
      have : v * u = u * v := Int.mul_comm _ _
      simp [this]
    · rcases m3 with m3 | m3
      · exact .inr (.inr m3)
      · right; left
        rw [if_pos (by omega), if_pos (by omega)]
        have : A * v < A * w := Int.mul_lt_mul_of_pos_left m3 (by omega)
        have : v * w = w * v := Int.mul_comm _ _
        simp only [Int.neg_mul, Int.sub_mul]
        omega
end Sz

namespace Sz
open PySem PySem.Spec PyProof.Rows L2
theorem inS_le {stop : Option Int} {x y : Int} (h : inS stop y) (k : x ≤ y) : inS stop x := by
  cases stop with
  | none => trivial
  | some c =>
    have h' : y ≤ c := h
    show x ≤ c
    omega
theorem er_shift {s : Sty} (hs : ScOk s.sc) {k : Nat} {j : Int} (hk : k < s.sc.length) (e1 : (key s j).1 = k) (e2 : (key s (j - 2 * sizeAt s.sc k)).1 = k) : er s j = er s (j - 2 * sizeAt s.sc k) := by
  have us := unit_size hs hk
  have r1 := key_rnd (s := s) (n := j)
  have r2 := key_rnd (s := s) (n := j - 2 * sizeAt s.sc k)
  rw [e1] at r1
  rw [e2] at r2
  have ad := rnd_add (n := j - 2 * sizeAt s.sc k) (z := sizeAt s.sc k) (st := stp s.pl) (q := 1) (md := s.md) us.1
  simp only [Int.mul_one, Int.sub_add_cancel] at ad
  have a : amt s j - j * stp s.pl = amt s (j - 2 * sizeAt s.sc k) - (j - 2 * sizeAt s.sc k) * stp s.pl := by
    unfold amt
    rw [e1, e2, r1, r2, ad, Int.add_mul, Int.sub_mul]
    have : 2 * stp s.pl * sizeAt s.sc k = 2 * sizeAt s.sc k * stp s.pl := by ac_rfl
    omega
  unfold er
  rw [a]
/-- all errors of a stretch are nought if those of its first period are -/
theorem er_zero {s : Sty} (hs : ScOk s.sc) {a1 p : Int} {stop : Option Int} {k : Nat} (h1 : 1 ≤ a1) (hl : k < s.sc.length) (hk : ∀ n, a1 ≤ n → inS stop n → (key s n).1 = k) (hp : a1 + 2 * sizeAt s.sc k < p) (hz : ∀ j, a1 ≤ j → j < p → inS stop j → er s j = 0) : ∀ (n : Nat) (j : Int), j ≤ n → a1 ≤ j → inS stop j → er s j = 0
  | 0, j, h, hj, hS => by omega
  | n + 1, j, h, hj, hS => by
    by_cases q : j < p
    · exact hz j hj q hS
    · have us := unit_size hs hl
      have S2 : inS stop (j - 2 * sizeAt s.sc k) := inS_le hS (by omega)
      rw [er_shift hs hl (hk j hj hS) (hk _ (by omega) S2)]
      exact er_zero hs h1 hl hk hp hz n _ (by omega) (by omega) S2
def XV (a : Int) (stop : Option Int) (p j : Int) : Prop := 1 ≤ j ∧ j < p ∧ (j < a ∨ inS stop j)
def doneB (s : Sty) (k : Nat) (p l : Int) : Option (Int × Int × Int) → Bool
  | none => decide (2 * stp s.pl + 3 < l)
  | some (_, e, d) => decide (sizeAt s.sc k * d ≤ e * p * stp s.pl)
section
variable {s : Sty} {a a1 : Int} {stop : Option Int} {k : Nat}
/-- what holds at the head of the loop -/
structure WH (s : Sty) (a a1 : Int) (stop : Option Int) (k : Nat) (p l : Int) (b : Option (Int × Int × Int)) : Prop where
  p1 : a1 ≤ p
  l0 : 0 ≤ l
  xi : XI s (XV a stop p) b
  xb : XBd b
  hn : b = none → l ≤ 2 * stp s.pl + 3
  hd : l = 0 ∨ ∀ n e d, b = some (n, e, d) → e * p * stp s.pl < sizeAt s.sc k * d
  val : inS stop p → (key s a1).2 + l ≤ (key s p).2
  pb : p ≤ a1 + l * 32000000000000
theorem WH.small (h : WH s a a1 stop k p l b) (hz : 0 < sizeAt s.sc k ∧ sizeAt s.sc k ≤ 16000000000000) (ha : 1 ≤ a1) (ha1 : a1 ≤ 16000000000001) : p ≤ 16000000000000 * 10 ^ 18 := by
  have sp := stp_pos s.pl
  have e1 : (16000000000001 : Int) + 203 * 32000000000000 ≤ 16000000000000 * 10 ^ 18 := by decide
  cases b with
  | none =>
    have := h.hn rfl
    have := h.pb
    omega
  | some x =>
    obtain ⟨n, e, d⟩ := x
    rcases h.hd with q | q
    · have := h.pb
      rw [q] at this
      omega
    · have q := q n e d rfl
      obtain ⟨b1, b2, b3, b4, b5⟩ := h.xb n e d rfl
      have p0 : 0 ≤ p := by have := h.p1; omega
      have c1 : e * p * 1 ≤ e * p * stp s.pl := Int.mul_le_mul_of_nonneg_left (by omega) (Int.mul_nonneg (by omega) p0)
      have c2 : sizeAt s.sc k * d ≤ 16000000000000 * d := Int.mul_le_mul_of_nonneg_right hz.2 (by omega)
      have c3 : 16000000000000 * d ≤ 16000000000000 * (e * 10 ^ 18) := by omega
      have c4 : (16000000000000 : Int) * (e * 10 ^ 18) = e * (16000000000000 * 10 ^ 18) := by ac_rfl
      exact Int.le_of_lt (Int.lt_of_mul_lt_mul_left (show e * p < e * (16000000000000 * 10 ^ 18) by omega) (by omega))
end
end Sz

namespace Sz
open PySem PySem.Spec PyProof.Rows L2
def IsX (s : Sty) (b : Option (Int × Int × Int)) : Prop := XI s (fun j => 1 ≤ j) b
theorem isX_uniq {s : Sty} {b c : Option (Int × Int × Int)} (h : IsX s b) (k : IsX s c) : b = c := by
  have sp := stp_pos s.pl
  cases b with
  | none =>
    cases c with
    | none => rfl
    | some y =>
      obtain ⟨n, e, d⟩ := y
      obtain ⟨k1, k2, k3, k4, k5, _⟩ := k
      have := h n k1
      omega
  | some x =>
    obtain ⟨n, e, d⟩ := x
    obtain ⟨h1, h2, h3, h4, h5, h6⟩ := h
    cases c with
    | none =>
      have := k n h1
      omega
    | some y =>
      obtain ⟨n', e', d'⟩ := y
      obtain ⟨k1, k2, k3, k4, k5, k6⟩ := k
      have q1 := h6 n' k1
      have q2 := k6 n h1
      unfold XD at q1 q2
      rw [← k3, ← k4] at q1
      rw [← h3, ← h4] at q2
      have : n = n' := by omega
      subst this
      rw [h3, h4, k3, k4]
/-- what worst tells -/
def worD : Option (Int × Int × Int) → D
  | none => .non
  | some (n, e, d) => .tup [.int n, .tup [.int ((e.toNat / Nat.gcd e.toNat d.toNat : Nat) : Int), .int ((d.toNat / Nat.gcd e.toNat d.toNat : Nat) : Int)]]
open Classical in
noncomputable def wor (s : Sty) : Option (Int × Int × Int) := if h : ∃ b, IsX s b then Classical.choose h else none
theorem wor_of {s : Sty} {b : Option (Int × Int × Int)} (h : IsX s b) : wor s = b := by
  have ex : ∃ b, IsX s b := ⟨b, h⟩
  unfold wor
  rw [dif_pos ex]
  exact isX_uniq (Classical.choose_spec ex) h
end Sz

namespace Sz
open PySem PySem.Spec PyProof.Rows L2
/-! ## counting -/
def cntN (s : Sty) : Nat → Int
  | 0 => 1
  | n + 1 => cntN s n + if key s ((n + 1 : Nat) : Int) = key s (n : Int) then 0 else 1
def cnt (s : Sty) (n : Int) : Int := cntN s n.toNat
theorem cnt_zero {s : Sty} : cnt s 0 = 1 := rfl
theorem cnt_succ {s : Sty} {n : Int} (h : 0 ≤ n) : cnt s (n + 1) = cnt s n + if key s (n + 1) = key s n then 0 else 1 := by
  obtain ⟨k, rfl⟩ := Int.eq_ofNat_of_zero_le h
  unfold cnt
  have e : ((k : Int) + 1).toNat = k + 1 := by omega
  have e2 : ((k : Int)).toNat = k := by omega
  rw [e, e2, cntN]
  rfl
theorem rnd_step1 {n z st : Int} {md : List Nat} (hz : 0 < z) (h : z ≤ st) : rnd n z st md < rnd (n + 1) z st md := by
  have hi := rnd_hi (n := n) (z := z) (st := st) (md := md)
  have lo := rnd_lo (n := n + 1) (z := z) (st := st) (md := md)
  have d1 := Int.mul_ediv_add_emod (n * st) z
  have d2 := Int.mul_ediv_add_emod ((n + 1) * st) z
  have a1 := Int.emod_nonneg (n * st) (show z ≠ 0 by omega)
  have a2 := Int.emod_lt_of_pos (n * st) hz
  have b1 := Int.emod_nonneg ((n + 1) * st) (show z ≠ 0 by omega)
  have b2 := Int.emod_lt_of_pos ((n + 1) * st) hz
  have e : (n + 1) * st = n * st + st := by rw [Int.add_mul, Int.one_mul]
  have eqz : st = z → n * st % z = 0 := fun q => by rw [q]; simp
  have w2 : n * st / z < (n + 1) * st / z := by
    apply Int.lt_of_not_ge
    intro q
    have := Int.mul_le_mul_of_nonneg_left q (show 0 ≤ z by omega)
    omega
  by_cases q : n * st / z + 2 ≤ (n + 1) * st / z
  · omega
  · have q1 : (n + 1) * st / z = n * st / z + 1 := by omega
    have q2 : z * ((n + 1) * st / z) = z * (n * st / z) + z := by rw [q1, Int.mul_add, Int.mul_one]
    clear hi lo
    unfold rnd
    rw [q1]
    generalize n * st / z = w at *
    generalize n * st % z = r at *
    generalize (n + 1) * st % z = r' at *
    have p : w % 2 = 0 ∨ w % 2 = 1 := by omega
    by_cases c1 : md = DOWN
    · simp [c1]
      omega
    · by_cases c2 : md = UP
      · by_cases c3 : r = 0
        · simp [c1, c2, c3]
          split <;> omega
        · have : ¬ r' = 0 := by omega
          simp [c1, c2, c3, this]
          omega
      · by_cases c5 : md = HALF
        · simp only [c5, show ¬ HALF = DOWN by decide, show ¬ HALF = UP by decide, or_false, false_or, if_true]
          repeat' split
          all_goals omega
        · simp only [c1, c2, c5, or_false, false_or, if_false]
          repeat' split
          all_goals omega
theorem rnd_step2 {n z st : Int} {md : List Nat} (hs : 0 < st) (h : st < z) : rnd (n + 1) z st md ≤ rnd n z st md + 1 := by
  have hz : 0 < z := by omega
  have hi := rnd_hi (n := n + 1) (z := z) (st := st) (md := md)
  have lo := rnd_lo (n := n) (z := z) (st := st) (md := md)
  have d1 := Int.mul_ediv_add_emod (n * st) z
  have d2 := Int.mul_ediv_add_emod ((n + 1) * st) z
  have a1 := Int.emod_nonneg (n * st) (show z ≠ 0 by omega)
  have a2 := Int.emod_lt_of_pos (n * st) hz
  have b1 := Int.emod_nonneg ((n + 1) * st) (show z ≠ 0 by omega)
  have b2 := Int.emod_lt_of_pos ((n + 1) * st) hz
  have e : (n + 1) * st = n * st + st := by rw [Int.add_mul, Int.one_mul]
  have w2 : (n + 1) * st / z ≤ n * st / z + 1 := by
    apply Int.le_of_not_gt
    intro q
    have := Int.mul_le_mul_of_nonneg_left (show n * st / z + 2 ≤ (n + 1) * st / z by omega) (show 0 ≤ z by omega)
    rw [Int.mul_add] at this
    omega
  by_cases q : (n + 1) * st / z ≤ n * st / z
  · omega
  · have q1 : (n + 1) * st / z = n * st / z + 1 := by omega
    have q2 : z * ((n + 1) * st / z) = z * (n * st / z) + z := by rw [q1, Int.mul_add, Int.mul_one]
    clear hi lo
    unfold rnd
    rw [q1]
    generalize n * st / z = w at *
    generalize n * st % z = r at *
    generalize (n + 1) * st % z = r' at *
    have p : w % 2 = 0 ∨ w % 2 = 1 := by omega
    by_cases c1 : md = DOWN
    · simp [c1]
    · by_cases c2 : md = UP
      · by_cases c3 : r = 0
        · exfalso; omega
        · simp [c1, c2, c3]
          split <;> omega
      · by_cases c5 : md = HALF
        · simp only [c5, show ¬ HALF = DOWN by decide, show ¬ HALF = UP by decide, or_false, false_or, if_true]
          repeat' split
          all_goals omega
        · simp only [c1, c2, c5, or_false, false_or, if_false]
          repeat' split
          all_goals omega
/-- how many numbers with another key than the one before in a stretch -/
def chg (s : Sty) (k : Nat) (a b : Int) : Int := if sizeAt s.sc k ≤ stp s.pl then b - a else (key s b).2 - (key s a).2
theorem cnt_stretch {s : Sty} (hs : ScOk s.sc) {a : Int} {k : Nat} (h0 : 0 ≤ a) (hl : k < s.sc.length) : ∀ (d : Nat), (∀ n, a ≤ n → n ≤ a + d → (key s n).1 = k) → cnt s (a + d) = cnt s a + chg s k a (a + d)
  | 0, _ => by
    unfold chg
    split <;> simp
  | d + 1, hk => by
    have us := unit_size hs hl
    have sp := stp_pos s.pl
    have ih := cnt_stretch hs h0 hl d fun n n0 n1 => hk n n0 (by omega)
    have e : a + ((d + 1 : Nat) : Int) = a + (d : Int) + 1 := by omega
    rw [e, cnt_succ (by omega), ih]
    have k1 := hk (a + d) (by omega) (by omega)
    have k2 := hk (a + d + 1) (by omega) (by omega)
    have r1 := key_rnd (s := s) (n := a + d)
    have r2 := key_rnd (s := s) (n := a + d + 1)
    rw [k1] at r1
    rw [k2] at r2
    unfold chg
    by_cases c : sizeAt s.sc k ≤ stp s.pl
    · have q := rnd_step1 (n := a + d) (md := s.md) us.1 c
      rw [if_pos c, if_pos c, if_neg (fun z => by rw [z] at r2; omega)]
      omega
    · have q := rnd_step2 (n := a + d) (md := s.md) sp.1 (show stp s.pl < sizeAt s.sc k by omega)
      have q2 := rnd_mono (n := a + d) (m := a + d + 1) (md := s.md) (by omega) us.1 sp.1
      rw [if_neg c, if_neg c]
      by_cases z : key s (a + d + 1) = key s (a + d)
      · rw [if_pos z, z]
        omega
      · have : (key s (a + d + 1)).2 ≠ (key s (a + d)).2 := fun w => z (Prod.ext (by omega) w)
        rw [if_neg z]
        omega
theorem gEq_kk {a b c d : Int} {m : Mem} : gEq (.tup [.int a, .int b]) (.tup [.int c, .int d]) m = .ok (.bl (a == c && b == d)) m := by
  have e : gEq (.tup [.int a, .int b]) (.tup [.int c, .int d]) m = .ok (.bl (a == c && (b == d && true))) m := rfl
  rw [e, Bool.and_true]
theorem gEq_kn {a b : Int} {m : Mem} : gEq (.tup [.int a, .int b]) .non m = .ok (.bl false) m := rfl
def keyD (k : Nat × Int) : D := .tup [.int k.1, .int k.2]
theorem gEq_key {k l : Nat × Int} {m : Mem} : gEq (.tup [.int k.1, .int k.2]) (keyD l) m = .ok (.bl (decide (k = l))) m := by
  unfold keyD
  rw [gEq_kk]
  congr 2
  obtain ⟨i, v⟩ := k
  obtain ⟨j, w⟩ := l
  simp only
  by_cases h : i = j
  · by_cases h2 : v = w
    · simp [h, h2]
    · simp [h, h2]
  · have : ¬ (i : Int) = j := by omega
    simp [h, this]
/-- what stands in total and before at a stretch's start -/
def CI (s : Sty) (a most : Int) (t : Int) (b : D) : Prop := (a = 0 → t = 0 ∧ b = .non) ∧ (0 < a → t = cnt s (if a - 1 < most then a - 1 else most) ∧ b = keyD (key s (if a - 1 < most then a - 1 else most)))
def capS (most : Int) : Option Int → Int
  | none => most
  | some c => if c < most then c else most
theorem need1 {h : List D → Mem → Out D} {i : Nat} {e : Ev} {d : D} {m : Mem} (he : e[i]? = some (some d)) (ne : h [d] m = .ok .non m) : (kExpr (sCall 1 h (sCons (sVar i) (sNil)))) e m = .nx e m := by simp [he, ne]
theorem ret2 {h : List D → Mem → Out D} {i j : Nat} {e : Ev} {a b c : D} {m m2 : Mem} (hi : e[i]? = some (some a)) (hj : e[j]? = some (some b)) (ne : h [a, b] m = .ok c m2) : (kRet (sCall 2 h (sCons (sVar i) (sCons (sVar j) (sNil))))) e m = .rt c m2 := by simp [hi, hj, ne]
end Sz

namespace Sz
open PySem PySem.Spec PyProof.Rows L2
/-! ## what laws have in common -/
def t0 : Tn := ⟨0, 0, by decide⟩
theorem tn0 : tn t0 = .lst [.int 0, .int 0] := rfl
def lastZ (s : Sty) : Int := sizeAt s.sc (s.sc.length - 1)
def mostOf (s : Sty) : Int := if 5 * lastZ s + 20 < 700 then 5 * lastZ s + 20 else 700
theorem last_of {s : Sty} (g : Good s) : ∃ u, s.sc.getLast? = some u ∧ s.sc[s.sc.length - 1]? = some u ∧ lastZ s = u.2 := by
  have := g.sc.ne
  obtain ⟨u, hu⟩ : ∃ u, s.sc[s.sc.length - 1]? = some u := ⟨_, List.getElem?_eq_getElem (by omega)⟩
  exact ⟨u, by rw [List.getLast?_eq_getElem?]; exact hu, hu, size_of hu⟩
theorem lastZ_pos {s : Sty} (g : Good s) : 0 < lastZ s ∧ lastZ s ≤ 16000000000000 := by
  obtain ⟨u, _, h, e⟩ := last_of g
  rw [e]
  exact g.sc.big u (List.mem_of_getElem? h)
theorem most_b {s : Sty} (g : Good s) : 25 ≤ mostOf s ∧ mostOf s ≤ 700 ∧ mostOf s ≤ 5 * lastZ s + 20 := by
  have := lastZ_pos g
  unfold mostOf
  split <;> omega
/-- a loop over whole numbers -/
theorem for_upto {g : Ev → D → Option Ev} {body : Ev → Mem → SO} {P : Int → Ev → Mem → Prop} : ∀ (n : Nat) (i : Int) (e : Ev) (m : Mem),
    (∀ j e m, i ≤ j → j < i + n → P j e m → ∃ e1, g e (.int j) = some e1 ∧ ∃ e2 m2, body e1 m = .nx e2 m2 ∧ P (j + 1) e2 m2) → P i e m → ∃ e2 m2, forL g body (upto i n) e m = .nx e2 m2 ∧ P (i + n) e2 m2
  | 0, i, e, m, _, h => ⟨e, m, rfl, by simpa using h⟩
  | n + 1, i, e, m, step, h => by
    obtain ⟨e1, h1, e2, m2, h2, h3⟩ := step i e m (Int.le_refl _) (by omega) h
    have up : upto i (n + 1) = .int i :: upto (i + 1) n := by
      unfold upto
      rw [List.range_succ_eq_map]
      simp [Function.comp_def]
      intro a _
      omega
    obtain ⟨e3, m3, h4, h5⟩ := for_upto n (i + 1) e2 m2 (fun j e m j0 j1 hp => step j e m (by omega) (by omega) hp) h3
    refine ⟨e3, m3, ?_, by rw [show i + ((n + 1 : Nat) : Int) = i + 1 + (n : Int) by omega]; exact h5⟩
    rw [up, forL, h1]
    dsimp only
    rw [h2]
    exact h4
theorem rng_ok {i : Int} (h : -1000000000000000000 < i ∧ i < 1000000000000000000) : rngC i = true := by simp [rngC, h]
/-- range(a, b) -/
theorem for_range2 {g : Ev → D → Option Ev} {body : Ev → Mem → SO} {P : Int → Ev → Mem → Prop} {fl : Ev → Mem → Out (List D)} {i j : Int} {e : Ev} {m m1 : Mem} (he : fl e m = .ok [.int i, .int j] m1) (hi : -1000000000000000000 < i ∧ i < 1000000000000000000) (hj : -1000000000000000000 < j ∧ j < 1000000000000000000) (hij : i ≤ j)
    (step : ∀ k e m, i ≤ k → k < j → P k e m → ∃ e1, g e (.int k) = some e1 ∧ ∃ e2 m2, body e1 m = .nx e2 m2 ∧ P (k + 1) e2 m2) (h : P i e m1) : ∃ e2 m2, kFor (iRange2 fl) g body e m = .nx e2 m2 ∧ P j e2 m2 := by
  obtain ⟨e2, m2, h1, h2⟩ := for_upto (j - i).toNat i e m1 (fun k e m k0 k1 hp => step k e m k0 (by omega) hp) h
  refine ⟨e2, m2, ?_, by rw [show i + ((j - i).toNat : Int) = j by omega] at h2; exact h2⟩
  rw [kFor_e, iRange2_e, he, bind_ok]
  simp only [rng_ok hi, rng_ok hj, Bool.and_self, if_true, thn_ok]
  exact h1
theorem for_range1 {g : Ev → D → Option Ev} {body : Ev → Mem → SO} {P : Int → Ev → Mem → Prop} {fl : Ev → Mem → Out (List D)} {j : Int} {e : Ev} {m m1 : Mem} (he : fl e m = .ok [.int j] m1) (hj : 0 ≤ j ∧ j < 1000000000000000000)
    (step : ∀ k e m, 0 ≤ k → k < j → P k e m → ∃ e1, g e (.int k) = some e1 ∧ ∃ e2 m2, body e1 m = .nx e2 m2 ∧ P (k + 1) e2 m2) (h : P 0 e m1) : ∃ e2 m2, kFor (iRange1 fl) g body e m = .nx e2 m2 ∧ P j e2 m2 := by
  obtain ⟨e2, m2, h1, h2⟩ := for_upto j.toNat 0 e m1 (fun k e m k0 k1 hp => step k e m k0 (by omega) hp) h
  refine ⟨e2, m2, ?_, by rw [show (0 : Int) + (j.toNat : Int) = j by omega] at h2; exact h2⟩
  rw [kFor_e, iRange1_e, he, bind_ok]
  simp only [rng_ok (show -1000000000000000000 < j ∧ j < 1000000000000000000 by omega), if_true, thn_ok]
  exact h1
theorem fin_bl {b : Bool} {e : Ev} {m : Mem} : finD ([] : Mem).length (.rt (.bl b) m) = .ok (.bl b) [] := by
  unfold finD pack
  cases m with
  | nil => rfl
  | cons o m => simp [below]
theorem MB_tn {t : Tn} : MB [tn t] := rfl
theorem ne_e {a b : Int} (h : a = b) {m : Mem} : gNe (.int a) (.int b) m = .ok (.bl false) m := by rw [gNe_i, h]; simp
end Sz

namespace Sz
open PySem PySem.Spec PyProof.Rows L2
/-! ## reading a text: signs -/
def isDg (c : Nat) : Bool := decide (c ∈ [48, 49, 50, 51, 52, 53, 54, 55, 56, 57])
def isDP (c : Nat) : Bool := decide (c ∈ [48, 49, 50, 51, 52, 53, 54, 55, 56, 57, 46])
theorem isDg_iff {c : Nat} : isDg c = true ↔ 48 ≤ c ∧ c ≤ 57 := by
  unfold isDg
  rw [decide_eq_true_eq]
  simp only [List.mem_cons, List.not_mem_nil, or_false]
  omega
theorem isDP_iff {c : Nat} : isDP c = true ↔ (48 ≤ c ∧ c ≤ 57) ∨ c = 46 := by
  unfold isDP
  rw [decide_eq_true_eq]
  simp only [List.mem_cons, List.not_mem_nil, or_false]
  omega
theorem lstrip_eq (a b : List Nat) : cd (Txt.lstripChars (tx a) (tx b)) = a.dropWhile fun c => b.contains c := by
  unfold Txt.lstripChars
  rw [PyProof.Rows.stripBy_eq]
  show cd (Builtin.Str.strSub (tx a) ((tx a).cps.toList.takeWhile (tx b).cps.contains).length (tx a).length) = _
  unfold Builtin.Str.strSub
  have e1 : (tx a).cps = a.toArray := rfl
  have e2 : ((tx b).cps.contains : Nat → Bool) = fun c => b.contains c := by
    funext c
    show b.toArray.contains c = _
    simp
  have e3 : (tx a).length = a.length := by
    show a.toArray.size = _
    simp
  rw [e1, e2, e3]
  show (a.toArray.extract _ _).toList = _
  have : ∀ (l : List Nat) (p : Nat → Bool), l.drop (l.takeWhile p).length = l.dropWhile p := fun l p => by
    induction l with
    | nil => rfl
    | cons x l ih =>
      rw [List.takeWhile_cons, List.dropWhile_cons]
      split
      · rw [List.length_cons, List.drop_succ_cons, ih]
      · rfl
  simp [this]
  refine List.take_of_length_le ?_
  have := congrArg List.length (List.takeWhile_append_dropWhile (p := fun c => decide (c ∈ b)) (l := a))
  rw [List.length_append] at this
  omega
theorem lstripDP (a : List Nat) : cd (Txt.lstripChars (tx a) (tx [48, 49, 50, 51, 52, 53, 54, 55, 56, 57, 46])) = a.dropWhile isDP := by
  rw [lstrip_eq]
  congr 1
  funext c
  unfold isDP
  simp [List.contains_eq_any_beq, List.any_cons]
theorem cut_front {α : Type} (a b : List α) : cutD (a ++ b) none (some (((a ++ b).length : Int) - (b.length : Int))) = a := by
  have e : (((a ++ b).length : Int) - (b.length : Int)) = ((a.length : Nat) : Int) := by simp
  unfold cutD
  rw [e]
  simp only [HT.sIx, Int.toNat_natCast, List.drop_zero, Nat.sub_zero]
  rw [if_neg (by omega), List.length_append, Nat.min_eq_left (by omega)]
  simp
theorem tw_dw (p : Nat → Bool) (l : List Nat) : l.takeWhile p ++ l.dropWhile p = l := List.takeWhile_append_dropWhile
theorem tx_app (a b : List Nat) : tx (a ++ b) = tx a ++ tx b := by
  show (⟨(a ++ b).toArray⟩ : Str) = ⟨a.toArray ++ b.toArray⟩
  simp
/-- the parts ahead of and behind the first point -/
theorem part_some {w d : List Nat} (h : 46 ∉ w) : Txt.partition (tx (w ++ 46 :: d)) (tx [46]) = (tx w, tx [46], tx d) := by
  have e : tx (w ++ 46 :: d) = tx w ++ tx [46] ++ tx d := by
    rw [← tx_app, ← tx_app]
    simp
  rw [e]
  refine TL.partition_app (s := 46) (S := []) (y := tx [46]) rfl ?_
  show 46 ∉ (tx w).cps.toList
  simpa [tx] using h
theorem part_none {w : List Nat} (h : 46 ∉ w) : Txt.partition (tx w) (tx [46]) = (tx w, tx [], tx []) := by
  have e := TL.partition_none (s := 46) (S := []) (y := tx [46]) rfl (a := tx w) (by
    show 46 ∉ (tx w).cps.toList
    simpa [tx] using h)
  rw [e]
  rfl
/-- the parts -/
def whole (l : List Nat) : List Nat := l.takeWhile (fun c => decide (c ≠ 46))
def decml (l : List Nat) : List Nat := (l.dropWhile (fun c => decide (c ≠ 46))).drop 1
def pnt (l : List Nat) : List Nat := (l.dropWhile (fun c => decide (c ≠ 46))).take 1
theorem part_eq (l : List Nat) : Txt.partition (tx l) (tx [46]) = (tx (whole l), tx (pnt l), tx (decml l)) := by
  have e := tw_dw (fun c => decide (c ≠ 46)) l
  have nw : 46 ∉ whole l := fun h => by
    have := List.all_eq_true.mp (List.all_takeWhile (p := fun c => decide (c ≠ 46)) (l := l)) 46 h
    simp at this
  unfold pnt decml
  have hd : ∀ x r, l.dropWhile (fun c => decide (c ≠ 46)) = x :: r → x = 46 := fun x r h => by
    have := List.head?_dropWhile_not (fun c => decide (c ≠ 46)) l
    rw [h] at this
    simpa using this
  cases q : l.dropWhile (fun c => decide (c ≠ 46)) with
  | nil =>
    rw [q, List.append_nil] at e
    have e' : whole l = l := e
    conv => lhs; rw [← e']
    rw [part_none nw]
    simp
  | cons x r =>
    have := hd x r q
    subst this
    rw [q] at e
    have e' : whole l ++ 46 :: r = l := e
    conv => lhs; rw [← e']
    rw [part_some nw]
    simp
theorem gPart_eq {a : List Nat} {m : Mem} (h : a.length ≤ 1000) : gPart (.str a) [.str [46]] m = .ok (.tup [.str (whole a), .str (pnt a), .str (decml a)]) m := by
  unfold gPart
  simp only [sz_ok h, List.isEmpty_cons, Bool.not_false, Bool.and_self, if_true, part_eq, cd_tx]
/-! ### digits -/
def isDs (w : List Nat) : Bool := decide (1 ≤ w.length) && decide (w.length ≤ 40) && w.all isDg
def dval (w : List Nat) : Nat := NumText.digitsVal w
theorem allD {w : List Nat} (h : w.all isDg = true) : NumText.AllDigits w := fun c hc => isDg_iff.mp (List.all_eq_true.mp h c hc)
theorem int_eq {w : List Nat} {m : Mem} (h : w.all isDg = true) (h0 : w ≠ []) (hl : w.length ≤ 600) : gInt [.str w] m = .ok (.int (dval w)) m := by
  have e := intText_digits (x := tx w) (by
    show NumText.AllDigits w.toArray.toList
    simpa using allD h) (by
    show w.toArray.toList ≠ []
    simpa using h0) (by
    show w.toArray.size ≤ _
    simp
    omega)
  unfold gInt
  have e' : PySem.intText? (tx w) = some ((dval w : Nat) : Int) := by
    rw [e]
    show some ((NumText.digitsVal w.toArray.toList : Nat) : Int) = _
    rfl
  simp only [decide_eq_true (show w.length ≤ 640 by omega), if_true, e']
theorem m_is_digits_e {w : List Nat} {m : Mem} (h : w.length ≤ 1000) : m_is_digits [.str w] m = .ok (.bl (isDs w)) m := by
  have sz1 : sz w.length = true := sz_ok h
  have lc := lc_pure (g := gN 1) (ft := tYesS) (f := sBin gIn (sVar 1) (sC (.str [48, 49, 50, 51, 52, 53, 54, 55, 56, 57]))) (m := m) (e0 := [some (.str w), none]) (mk := fun k : Nat => D.str [k]) (keep := fun _ => true) (val := fun k => .bl (isDg k)) w []
    (fun x hx => ⟨_, rfl, rfl, fun _ => by simp [gIn, inO, isDg]⟩) (by simp; omega)
  unfold isDs
  by_cases h1 : 1 ≤ w.length
  · have h1' : (1 : Int) ≤ (w.length : Int) := by omega
    by_cases h3 : w.length ≤ 40
    · have h3' : ((w.length : Nat) : Int) ≤ 40 := by omega
      simp [m_is_digits, b_is_digits, sz1, h1, h1', h3, h3']
      rw [lc]
      have z : (w.map fun k => D.bl (isDg k)) = (w.map isDg).map D.bl := by simp
      simp [gAll]
      rw [List.filter_eq_self.mpr (fun _ _ => rfl), z, boolsO_map]
      simp [List.all_map, Function.comp_def]
    · have h3' : ¬ ((w.length : Nat) : Int) ≤ 40 := by omega
      simp [m_is_digits, b_is_digits, sz1, h1, h1', h3, h3']
  · have h1' : ¬ (1 : Int) ≤ (w.length : Int) := by omega
    simp [m_is_digits, b_is_digits, sz1, h1, h1']
/-! ### the figures of a number read back -/
theorem digs_numL (n : Nat) : digs (n : Int) = TL.numL n := by
  exact TL.tl_num n
theorem digs_dg (n : Nat) : (digs (n : Int)).all isDg = true := by
  rw [digs_numL, List.all_eq_true]
  intro c hc
  exact isDg_iff.mpr (TL.numL_digits n c hc)
theorem digs_ne (n : Nat) : digs (n : Int) ≠ [] := by rw [digs_numL]; exact TL.numL_ne n
theorem digs_val (n : Nat) : dval (digs (n : Int)) = n := by rw [digs_numL]; exact TL.numL_val n
theorem dval_lt : ∀ (w : List Nat) (a : Nat), w.all isDg = true → w.foldl (fun acc c => acc * 10 + (c - 48)) a < (a + 1) * 10 ^ w.length
  | [], a, _ => by simp
  | c :: w, a, h => by
    rw [List.all_cons, Bool.and_eq_true] at h
    have c1 := isDg_iff.mp h.1
    have := dval_lt w (a * 10 + (c - 48)) h.2
    rw [List.foldl_cons, List.length_cons, Nat.pow_succ]
    have : (a * 10 + (c - 48) + 1) * 10 ^ w.length ≤ (a + 1) * 10 * 10 ^ w.length := Nat.mul_le_mul_right _ (by omega)
    have e : (a + 1) * (10 ^ w.length * 10) = (a + 1) * 10 * 10 ^ w.length := by ac_rfl
    omega
theorem dval_b {w : List Nat} {k : Nat} (h : w.all isDg = true) (hk : w.length ≤ k) : dval w < 10 ^ k := by
  have := dval_lt w 0 h
  have p : 10 ^ w.length ≤ 10 ^ k := Nat.pow_le_pow_right (by omega) hk
  show w.foldl _ 0 < _
  omega
/-- the decimals read back -/
theorem dec_back : ∀ p, p ≤ 2 → ∀ (tr : Bool) (r : Nat), (r : Int) < stp p → (if tr = true then trimZ (decs p r) else decs p r).length ≤ p ∧ (if tr = true then trimZ (decs p r) else decs p r).all isDg = true ∧
    dval ((if tr = true then trimZ (decs p r) else decs p r) ++ List.replicate (p - (if tr = true then trimZ (decs p r) else decs p r).length) 48) = r := by
  have h0 : ∀ (tr : Bool) (r : Nat), r < 1 → (if tr = true then trimZ (decs 0 r) else decs 0 r).length ≤ 0 ∧ (if tr = true then trimZ (decs 0 r) else decs 0 r).all isDg = true ∧
    dval ((if tr = true then trimZ (decs 0 r) else decs 0 r) ++ List.replicate (0 - (if tr = true then trimZ (decs 0 r) else decs 0 r).length) 48) = r := by decide +kernel
  have h1 : ∀ (tr : Bool) (r : Nat), r < 10 → (if tr = true then trimZ (decs 1 r) else decs 1 r).length ≤ 1 ∧ (if tr = true then trimZ (decs 1 r) else decs 1 r).all isDg = true ∧
    dval ((if tr = true then trimZ (decs 1 r) else decs 1 r) ++ List.replicate (1 - (if tr = true then trimZ (decs 1 r) else decs 1 r).length) 48) = r := by decide +kernel
  have h2 : ∀ (tr : Bool) (r : Nat), r < 100 → (if tr = true then trimZ (decs 2 r) else decs 2 r).length ≤ 2 ∧ (if tr = true then trimZ (decs 2 r) else decs 2 r).all isDg = true ∧
    dval ((if tr = true then trimZ (decs 2 r) else decs 2 r) ++ List.replicate (2 - (if tr = true then trimZ (decs 2 r) else decs 2 r).length) 48) = r := by decide +kernel
  intro p hp tr r hr
  rcases tri hp with e | e | e <;> subst e
  · exact h0 tr r (by simp [stp] at hr; omega)
  · exact h1 tr r (by simp [stp] at hr; omega)
  · exact h2 tr r (by simp [stp] at hr; omega)
end Sz

namespace Sz
open PySem PySem.Spec PyProof.Rows L2
/-! ## reading a text: the key -/
def plIx (nm : List Nat) (o : Nat) (sc : List (List Nat × Int)) : List ((List Nat × Int) × Nat) := (sc.zipIdx o).filter fun p => p.1.1 == nm
def keyIn (s : Sty) (text : List Nat) : Option (Nat × Int) :=
  match plIx (text.dropWhile isDP) 0 s.sc with
  | [] => none
  | p :: _ => if isDs (whole (text.takeWhile isDP)) = true ∧ (decml (text.takeWhile isDP)).length ≤ s.pl ∧ (pnt (text.takeWhile isDP) = [] ∨ isDs (decml (text.takeWhile isDP)) = true) then
      some (p.2, dval (whole (text.takeWhile isDP)) * stp s.pl + dval (decml (text.takeWhile isDP) ++ List.replicate (s.pl - (decml (text.takeWhile isDP)).length) 48)) else none
def keyO : Option (Nat × Int) → D
  | none => .non
  | some k => keyD k
theorem shp_ints {k : Nat} : ∀ l : List Int, (l.map D.int).all (shp k) = true
  | [] => rfl
  | x :: l => by
    rw [List.map_cons, List.all_cons, shp_ints l]
    cases k <;> rfl
theorem gEq_nil {l : List Int} {m : Mem} : gEq (.lst (l.map D.int)) (.lst []) m = .ok (.bl l.isEmpty) m := by
  have e : eqO (.lst (l.map D.int)) (.lst []) m = some (l.isEmpty) := by
    have h1 : shp 8 (.lst (l.map D.int)) = true := shp_ints l
    have h2 : shp 8 (.lst []) = true := rfl
    have e : eqO (.lst (l.map D.int)) (.lst []) m = (if (shp 8 (.lst (l.map D.int)) && shp 8 (.lst [])) = true then some (eqD 8 (.lst (l.map D.int)) (.lst [])) else none) := rfl
    rw [e, if_pos (by rw [h1, h2]; rfl)]
    cases l <;> rfl
  unfold gEq
  rw [e]
theorem zeros_flat (n : Nat) : (List.replicate n [48]).flatten = List.replicate n 48 := by
  induction n with
  | zero => rfl
  | succ n ih => rw [List.replicate_succ, List.flatten_cons, ih]; rfl
theorem dec_all (n : Nat) : (List.replicate n 48).all isDg = true := by
  rw [List.all_eq_true]
  intro c hc
  rw [(List.mem_replicate.mp hc).2]
  rfl
theorem len_parts (l : List Nat) : (whole l).length ≤ l.length ∧ (decml l).length ≤ l.length := by
  have e := congrArg List.length (tw_dw (fun c => decide (c ≠ 46)) l)
  rw [List.length_append] at e
  have e' : (whole l).length + (l.dropWhile fun c => decide (c ≠ 46)).length = l.length := e
  unfold decml
  rw [List.length_drop]
  omega
theorem ki1 {sd : D} {text nm : List Nat} {m : Mem} (ht : text.length ≤ 40) (ls : cd (Txt.lstripChars (tx text) (tx [48, 49, 50, 51, 52, 53, 54, 55, 56, 57, 46])) = nm) : (kSet 2 (sBm "str" gLstrip (sVar 1) (sCons (sBin gAdd (sC (.str [48, 49, 50, 51, 52, 53, 54, 55, 56, 57])) (sC (.str [46]))) (sNil)))) [some sd, some (.str text), none, none, none, none, none, none, none, none] m = .nx [some sd, some (.str text), some (.str nm), none, none, none, none, none, none, none] m := by
  have sz11 : sz (10 + 1) = true := by decide
  simp [sz11, tyD, gSS, lenC, sz_ok (show text.length ≤ 1000 by omega), ls]
theorem ki2 {sd : D} {text nm dg : List Nat} {m : Mem} (ht : text.length ≤ 40) (hn : nm.length ≤ 40) (cf : cutD text none (some ((text.length : Int) - (nm.length : Int))) = dg) : (kSet 3 (sSl (sVar 1) (sNoP) (sPart (sBin gSub (sCB gLen (sCons (sVar 1) (sNil))) (sCB gLen (sCons (sVar 2) (sNil))))))) [some sd, some (.str text), some (.str nm), none, none, none, none, none, none, none] m = .nx [some sd, some (.str text), some (.str nm), some (.str dg), none, none, none, none, none, none] m := by
  simp [sz_ok (show text.length ≤ 1000 by omega), sz_ok (show nm.length ≤ 1000 by omega), cf]
theorem ki4 {sd pl : D} {text nm dg w p d : List Nat} {m : Mem} (gp : ∀ m, gPart (.str dg) [.str [46]] m = .ok (.tup [.str w, .str p, .str d]) m) : (kUnT [5, 6, 7] (sBm "str" gPart (sVar 3) (sCons (sC (.str [46])) (sNil)))) [some sd, some (.str text), some (.str nm), some (.str dg), some pl, none, none, none, none, none] m = .nx [some sd, some (.str text), some (.str nm), some (.str dg), some pl, some (.str w), some (.str p), some (.str d), none, none] m := by
  simp [tyD, gp]
def tst5 : Ev → Mem → Out Bool := sOrT (sTest (sBin gEq (sVar 4) (sLst (sNil)))) (sOrT (sNotT (sTest (sCall 1 m_is_digits (sCons (sVar 5) (sNil))))) (sOrT (sTest (sBin gGt (sCB gLen (sCons (sVar 7) (sNil))) (sBin gIx (sVar 0) (sC (.int 1))))) (sAndT (sTest (sBin gNe (sVar 6) (sC (.str [])))) (sNotT (sTest (sCall 1 m_is_digits (sCons (sVar 7) (sNil))))))))
theorem ki5 {sd pl : D} {text nm dg w p d : List Nat} {m : Mem} {B W Dd : Bool} {L P : Int} (ge : ∀ m, gEq pl (.lst []) m = .ok (.bl B) m) (dw : ∀ m, m_is_digits [.str w] m = .ok (.bl W) m) (dd : ∀ m, m_is_digits [.str d] m = .ok (.bl Dd) m) (hl : ∀ m, gLen [.str d] m = .ok (.int L) m) (pix : ∀ m, gIx sd (.int 1) m = .ok (.int P) m) :
    tst5 [some sd, some (.str text), some (.str nm), some (.str dg), some pl, some (.str w), some (.str p), some (.str d), none, none] m = .ok (B || !W || decide (P < L) || (decide (p ≠ []) && !Dd)) m := by
  unfold tst5
  generalize m_is_digits = F at *
  cases B
  · cases W
    · simp [ge, dw]
    · by_cases c : P < L
      · simp [ge, dw, -gLen_s, hl, pix, c]
      · by_cases e : p = []
        · simp [ge, dw, -gLen_s, hl, pix, c, e]
        · simp [ge, dw, -gLen_s, hl, pix, c, e, dd]
  · simp [ge]
theorem ki6 {sd pl : D} {text nm dg w p d : List Nat} {m : Mem} {j L P : Int} (hl : ∀ m, gLen [.str d] m = .ok (.int L) m) (pix : ∀ m, gIx sd (.int 1) m = .ok (.int P) m) (hj : P - L = j) (j0 : 0 ≤ j) (j1 : j ≤ 100) (dl : d.length ≤ 40) :
    (kSet 7 (sBin gAdd (sVar 7) (sBin gMul (sC (.str [48])) (sBin gSub (sBin gIx (sVar 0) (sC (.int 1))) (sCB gLen (sCons (sVar 7) (sNil))))))) [some sd, some (.str text), some (.str nm), some (.str dg), some pl, some (.str w), some (.str p), some (.str d), none, none] m = .nx [some sd, some (.str text), some (.str nm), some (.str dg), some pl, some (.str w), some (.str p), some (.str (d ++ List.replicate j.toNat 48)), none, none] m := by
  have q1 : j ≤ 1000000 := by omega
  have q2 : -1000000 ≤ j := by omega
  have q3 : sz (1 * j.toNat) = true := sz_ok (by omega)
  have q4 : sz (d.length + j.toNat) = true := sz_ok (by omega)
  have gm : ∀ m, gMul (.str [48]) (.int j) m = .ok (.str (List.replicate j.toNat 48)) m := fun m => by
    rw [gMul_s, decide_eq_true q1, decide_eq_true q2, ← zeros_flat]
    simp only [List.length_cons, List.length_nil, Nat.zero_add, q3]
    rfl
  have ga : ∀ m, gAdd (.str d) (.str (List.replicate j.toNat 48)) m = .ok (.str (d ++ List.replicate j.toNat 48)) m := fun m => by
    rw [gAdd_s, List.length_replicate, q4]
    rfl
  simp only [kSet_e, sBin_e, sVar_e, sC_e, sCB_e, sCons_e, sNil_e, List.getElem?_cons_succ, List.getElem?_cons_zero, bind_ok, pix, hl, sI2_i, if_true, hj, gm, ga, thn_ok, List.set_cons_succ, List.set_cons_zero]
end Sz

namespace Sz
open PySem PySem.Spec PyProof.Rows L2
/-! ## a text and its key -/
theorem tw_app {p : Nat → Bool} {a b : List Nat} (h : a.all p = true) (hb : ∀ x ∈ b.head?, p x = false) : (a ++ b).takeWhile p = a ∧ (a ++ b).dropWhile p = b := by
  induction a with
  | nil =>
    cases b with
    | nil => exact ⟨rfl, rfl⟩
    | cons x b =>
      have := hb x (by simp)
      simp [List.takeWhile_cons, List.dropWhile_cons, this]
  | cons x a ih =>
    rw [List.all_cons, Bool.and_eq_true] at h
    obtain ⟨i1, i2⟩ := ih h.2
    simp only [List.cons_append, List.takeWhile_cons, List.dropWhile_cons, h.1, if_true]
    exact ⟨by rw [i1], i2⟩
theorem letters_dp : ∀ c ∈ LETTERS, isDP c = false := by decide
theorem plIx_nd : ∀ (sc : List (List Nat × Int)) (o i : Nat) (u : List Nat × Int), (sc.map (·.1)).Nodup → sc[i]? = some u → plIx u.1 o sc = [(u, o + i)]
  | [], _, i, _, _, h => by simp at h
  | x :: sc, o, i, u, nd, h => by
    have nd' : x.1 ∉ sc.map (·.1) ∧ (sc.map (·.1)).Nodup := by simpa using nd
    have none_in : ∀ (sc : List (List Nat × Int)) (o : Nat) (nm : List Nat), nm ∉ sc.map (·.1) → plIx nm o sc = [] := fun sc => by
      induction sc with
      | nil => intro o nm _; rfl
      | cons y sc ih =>
        intro o nm hn
        have hn' : ¬ nm = y.1 ∧ nm ∉ sc.map (·.1) := by simpa using hn
        unfold plIx
        rw [List.zipIdx_cons, List.filter_cons_of_neg (by simp; exact fun z => hn'.1 z.symm)]
        exact ih (o + 1) nm hn'.2
    cases i with
    | zero =>
      have : x = u := by simpa using h
      subst this
      unfold plIx
      rw [List.zipIdx_cons, List.filter_cons_of_pos (by simp)]
      have e := none_in sc (o + 1) x.1 nd'.1
      unfold plIx at e
      rw [e]
      rfl
    | succ i =>
      have h' : sc[i]? = some u := by simpa using h
      have um : u.1 ∈ sc.map (·.1) := List.mem_map.mpr ⟨u, List.mem_of_getElem? h', rfl⟩
      unfold plIx
      rw [List.zipIdx_cons, List.filter_cons_of_neg (by simp; exact fun z => nd'.1 (z ▸ um))]
      have := plIx_nd sc (o + 1) i u nd'.2 h'
      unfold plIx at this
      rw [this]
      congr 2
      omega
theorem whole_app {a b : List Nat} (h : a.all isDg = true) (hb : ∀ x ∈ b.head?, x = 46) : whole (a ++ b) = a ∧ decml (a ++ b) = b.drop 1 ∧ pnt (a ++ b) = b.take 1 := by
  have q := tw_app (p := fun c => decide (c ≠ 46)) (a := a) (b := b) (by
    rw [List.all_eq_true] at h ⊢
    intro c hc
    have := isDg_iff.mp (h c hc)
    simp
    omega) (fun x hx => by simp [hb x hx])
  unfold whole decml pnt
  rw [q.1, q.2]
  exact ⟨rfl, rfl, rfl⟩
/-- the key of the text of a key -/
theorem keyIn_txt {s : Sty} (g : Good s) {i : Nat} {v : Int} (hi : i < s.sc.length) (v0 : 0 ≤ v) (v1 : v < 10 ^ 40) : keyIn s (txt s i v) = some (i, v) := by
  have sp := stp_pos s.pl
  obtain ⟨u, hu⟩ : ∃ u, s.sc[i]? = some u := ⟨_, List.getElem?_eq_getElem hi⟩
  have nok := g.sc.names u (List.mem_of_getElem? hu)
  have q0 : 0 ≤ v / stp s.pl := Int.ediv_nonneg v0 (by omega)
  have q1 : v / stp s.pl ≤ v := Int.ediv_le_self _ v0
  have r0 : 0 ≤ v % stp s.pl := Int.emod_nonneg _ (by omega)
  have r1 : v % stp s.pl < stp s.pl := Int.emod_lt_of_pos _ sp.1
  have dm := Int.mul_ediv_add_emod v (stp s.pl)
  obtain ⟨q, hq⟩ := Int.eq_ofNat_of_zero_le q0
  obtain ⟨r, hr⟩ := Int.eq_ofNat_of_zero_le r0
  obtain ⟨d1, d2, d3⟩ := dec_back s.pl g.pl s.tr r (by omega)
  have dT : decT s v = (if s.tr = true then trimZ (decs s.pl r) else decs s.pl r) := by
    unfold decT
    rw [hr]
  rw [← dT] at d1 d2 d3
  have ql : (digs (q : Int)).length ≤ 40 := digs_len (by omega) (by
    have e : (10 : Int) ^ 40 = ((10 ^ 40 : Nat) : Int) := by decide +kernel
    omega)
  have qa := digs_dg q
  have qn := digs_ne q
  have qv := digs_val q
  unfold keyIn txt
  rw [hq, name_of hu]
  generalize decT s v = d at *
  obtain ⟨b, hb⟩ : ∃ b : List Nat, b = (if d = [] then [] else 46 :: d) := ⟨_, rfl⟩
  rw [← hb]
  have b46 : ∀ x ∈ b.head?, x = 46 := fun x hx => by
    rw [hb] at hx
    split at hx
    · simp at hx
    · simpa using hx.symm
  have bDP : b.all isDP = true := by
    rw [hb]
    split
    · rfl
    · rw [List.all_cons]
      have : d.all isDP = true := by
        rw [List.all_eq_true] at d2 ⊢
        exact fun c hc => isDP_iff.mpr (.inl (isDg_iff.mp (d2 c hc)))
      rw [this]
      rfl
  have qDP : (digs (q : Int)).all isDP = true := by
    rw [List.all_eq_true] at qa ⊢
    exact fun c hc => isDP_iff.mpr (.inl (isDg_iff.mp (qa c hc)))
  have nh : ∀ x ∈ u.1.head?, isDP x = false := fun x hx => by
    refine letters_dp x ?_
    unfold nameOk at nok
    rw [Bool.and_eq_true, List.all_eq_true] at nok
    exact of_decide_eq_true (nok.2 x (List.mem_of_mem_head? hx))
  obtain ⟨t1, t2⟩ := tw_app (p := isDP) (a := digs (q : Int) ++ b) (b := u.1) (by rw [List.all_append, qDP, bDP]; rfl) nh
  rw [t1, t2, plIx_nd s.sc 0 i u g.sc.nd hu]
  dsimp only
  obtain ⟨w1, w2, w3⟩ := whole_app qa b46
  have bd : b.drop 1 = d := by
    rw [hb]
    split
    · rename_i e; rw [e]; rfl
    · rfl
  rw [w1, w2, w3, bd, d3, qv, if_pos]
  · congr 1
    refine Prod.ext (by simp) ?_
    simp only
    rw [Int.mul_comm]
    rw [hq] at dm
    omega
  · refine ⟨?_, d1, ?_⟩
    · unfold isDs
      have l1 : 1 ≤ (digs (q : Int)).length := List.length_pos_iff.mpr qn
      simp [ql, l1, qa]
      all_goals omega
    · by_cases e : d = []
      · left; rw [hb, if_pos e]; rfl
      · right
        unfold isDs
        have l1 : 1 ≤ d.length := List.length_pos_iff.mpr e
        have := g.pl
        simp [d2]
        all_goals omega
theorem keyIn_b {s : Sty} (g : Good s) {text : List Nat} {k : Nat × Int} (h : keyIn s text = some k) : k.1 < s.sc.length ∧ 0 ≤ k.2 ∧ k.2 + 1 ≤ 10 ^ 44 := by
  have sp := stp_pos s.pl
  unfold keyIn at h
  split at h
  · cases h
  · rename_i p r hp
    have pm : p ∈ plIx (text.dropWhile isDP) 0 s.sc := by rw [hp]; simp
    unfold plIx at pm
    have pz := (List.mem_filter.mp pm).1
    have := List.mem_zipIdx pz
    split at h
    · rename_i c
      cases h
      obtain ⟨c1, c2, c3⟩ := c
      unfold isDs at c1
      rw [Bool.and_eq_true, Bool.and_eq_true, decide_eq_true_eq, decide_eq_true_eq] at c1
      have b1 := dval_b c1.2 c1.1.2
      have dall : (decml (text.takeWhile isDP)).all isDg = true := by
        rcases c3 with c3 | c3
        · have : decml (text.takeWhile isDP) = [] := by
            unfold pnt at c3
            unfold decml
            cases z : (text.takeWhile isDP).dropWhile (fun c => decide (c ≠ 46)) with
            | nil => rfl
            | cons a b => rw [z] at c3; simp at c3
          rw [this]
          rfl
        · unfold isDs at c3
          rw [Bool.and_eq_true] at c3
          exact c3.2
      have b2 := dval_b (w := decml (text.takeWhile isDP) ++ List.replicate (s.pl - (decml (text.takeWhile isDP)).length) 48) (k := 2) (by rw [List.all_append, dall, dec_all]; rfl) (by
        rw [List.length_append, List.length_replicate]
        have := g.pl
        omega)
      have e40 : (10 : Int) ^ 40 = ((10 ^ 40 : Nat) : Int) := by decide +kernel
      have e44 : (10 : Int) ^ 40 * 100 + 200 ≤ 10 ^ 44 := by decide +kernel
      generalize dval (decml (text.takeWhile isDP) ++ List.replicate (s.pl - (decml (text.takeWhile isDP)).length) 48) = B at *
      generalize dval (whole (text.takeWhile isDP)) = A at *
      have m1 : (A : Int) * stp s.pl ≤ 10 ^ 40 * 100 := Int.mul_le_mul (by omega) sp.2 (by omega) (by decide +kernel)
      have m0 : 0 ≤ (A : Int) * stp s.pl := Int.mul_nonneg (by omega) (by omega)
      refine ⟨by omega, ?_, ?_⟩
      · simp only; omega
      · simp only; omega
    · cases h
noncomputable def rng (s : Sty) (text : List Nat) : Option (Int × Int) :=
  match keyIn s text with
  | none => none
  | some k => if txt s k.1 k.2 = text ∧ key s (lf s k) = k then some (lf s k, lf s (k.1, k.2 + 1) - 1) else none
def rngD : Option (Int × Int) → D
  | none => .non
  | some p => .tup [.int p.1, .int p.2]
/-- what range_of tells of a number's text -/
theorem key_v40 {s : Sty} (hs : ScOk s.sc) {n : Int} (h0 : 0 ≤ n) (h1 : n ≤ 10 ^ 36) : (key s n).2 < 10 ^ 40 := by
  obtain ⟨_, v0, v1⟩ := key_at hs h0
  have sp := stp_pos s.pl
  have e : (10 : Int) ^ 36 * 100 + 2 ≤ 10 ^ 40 := by decide +kernel
  have : n * stp s.pl ≤ 10 ^ 36 * 100 := Int.mul_le_mul h1 sp.2 (by omega) (by decide +kernel)
  omega
theorem keyIn_text {s : Sty} (g : Good s) {n : Int} (h0 : 0 ≤ n) (h1 : n ≤ 10 ^ 36) : keyIn s (textOf s n) = some (key s n) :=
  keyIn_txt g (key_lt g.sc.ok h0) (key_at g.sc.ok h0).2.1 (key_v40 g.sc.ok h0 h1)
theorem text_inj {s : Sty} (g : Good s) {n j : Int} (h0 : 0 ≤ n) (h1 : n ≤ 10 ^ 36) (j0 : 0 ≤ j) (j1 : j ≤ 10 ^ 36) : textOf s n = textOf s j ↔ key s n = key s j := by
  constructor
  · intro e
    have a := keyIn_text g h0 h1
    rw [e, keyIn_text g j0 j1] at a
    exact (Option.some.inj a).symm
  · intro e
    unfold textOf
    rw [e]
theorem rng_text {s : Sty} (g : Good s) {n : Int} (h0 : 0 ≤ n) (h1 : n ≤ 10 ^ 36) : rng s (textOf s n) = some (fs s n, nx s n - 1) := by
  unfold rng
  rw [keyIn_text g h0 h1]
  dsimp only
  rw [if_pos ⟨rfl, (fs_spec g.sc.ok h0).2.2.1⟩]
  rfl
theorem rng_is {s : Sty} (g : Good s) {text : List Nat} {a b : Int} (h : rng s text = some (a, b)) : ∃ n, 0 ≤ n ∧ textOf s n = text ∧ a = fs s n ∧ b = nx s n - 1 := by
  unfold rng at h
  split at h
  · cases h
  · rename_i k hk
    obtain ⟨b1, b2, b3⟩ := keyIn_b g hk
    split at h
    · rename_i c
      have ls := lf_spec g.sc.ok b1 (v := k.2) b2
      refine ⟨lf s k, ls.1, ?_, ?_, ?_⟩
      · unfold textOf
        rw [c.2]
        exact c.1
      · unfold fs
        rw [c.2]
        exact (Prod.ext_iff.mp (Option.some.inj h)).1.symm
      · unfold nx
        rw [c.2]
        exact (Prod.ext_iff.mp (Option.some.inj h)).2.symm
    · cases h
theorem rng_none {s : Sty} (g : Good s) {text : List Nat} (h : rng s text = none) {n : Int} (h0 : 0 ≤ n) (h1 : n ≤ 10 ^ 36) : textOf s n ≠ text := fun e => by
  rw [← e, rng_text g h0 h1] at h
  cases h
theorem text_len {s : Sty} (g : Good s) {n : Int} (h0 : 0 ≤ n) (h1 : n ≤ 1000000000000000000) : (textOf s n).length ≤ 28 := by
  have sp := stp_pos s.pl
  obtain ⟨⟨u, hu⟩, v0, v1⟩ := key_at g.sc.ok h0
  have nl := g.name u (List.mem_of_getElem? hu)
  have q0 : 0 ≤ (key s n).2 / stp s.pl := Int.ediv_nonneg v0 (by omega)
  have q1 : (key s n).2 / stp s.pl ≤ (key s n).2 := Int.ediv_le_self _ v0
  have r0 : 0 ≤ (key s n).2 % stp s.pl := Int.emod_nonneg _ (by omega)
  have r1 : (key s n).2 % stp s.pl < stp s.pl := Int.emod_lt_of_pos _ sp.1
  have : n * stp s.pl ≤ 1000000000000000000 * 100 := Int.mul_le_mul h1 sp.2 (by omega) (by omega)
  unfold textOf txt decT
  rw [name_of hu]
  obtain ⟨r, hr⟩ := Int.eq_ofNat_of_zero_le r0
  obtain ⟨q, hq⟩ := Int.eq_ofNat_of_zero_le q0
  rw [hr, hq]
  obtain ⟨dl1, dl2, dl3⟩ := dec_len s.pl g.pl r (by omega)
  have tl := trim_len (decs s.pl r)
  have ql : (digs (q : Int)).length ≤ 21 := digs_len (by omega) (by
    have e : (100000000000000000002 : Nat) < 10 ^ 21 := by decide +kernel
    omega)
  have k3 : ∀ l : List Nat, l.length ≤ 2 → (if l = [] then [] else 46 :: l : List Nat).length ≤ 3 := fun l hl => by
    split
    · simp
    · rw [List.length_cons]
      omega
  have d2 : (if s.tr = true then trimZ (decs s.pl r) else decs s.pl r).length ≤ 2 := by
    split <;> omega
  have := k3 _ d2
  rw [List.length_append, List.length_append]
  omega
end Sz

namespace Sz
open PySem PySem.Spec PyProof.Rows L2
/-! ## two styles -/
/-- the decimals with their point -/
def dpt (s : Sty) (v : Int) : List Nat := if decT s v = [] then [] else 46 :: decT s v
theorem txt_eq {s : Sty} {i : Nat} {v : Int} : txt s i v = digs (v / stp s.pl) ++ dpt s v ++ nameAt s.sc i := rfl
/-- decimals, in hundredths -/
theorem dec_hund : ∀ p, p ≤ 2 → ∀ (tr : Bool) (r : Nat), (r : Int) < stp p → ((dval ((if tr = true then trimZ (decs p r) else decs p r) ++ List.replicate (2 - (if tr = true then trimZ (decs p r) else decs p r).length) 48) : Nat) : Int) = r * (100 / stp p) := by
  have h0 : ∀ (tr : Bool) (r : Nat), r < 1 → ((dval ((if tr = true then trimZ (decs 0 r) else decs 0 r) ++ List.replicate (2 - (if tr = true then trimZ (decs 0 r) else decs 0 r).length) 48) : Nat) : Int) = r * (100 / stp 0) := by decide +kernel
  have h1 : ∀ (tr : Bool) (r : Nat), r < 10 → ((dval ((if tr = true then trimZ (decs 1 r) else decs 1 r) ++ List.replicate (2 - (if tr = true then trimZ (decs 1 r) else decs 1 r).length) 48) : Nat) : Int) = r * (100 / stp 1) := by decide +kernel
  have h2 : ∀ (tr : Bool) (r : Nat), r < 100 → ((dval ((if tr = true then trimZ (decs 2 r) else decs 2 r) ++ List.replicate (2 - (if tr = true then trimZ (decs 2 r) else decs 2 r).length) 48) : Nat) : Int) = r * (100 / stp 2) := by decide +kernel
  intro p hp tr r hr
  rcases tri hp with e | e | e <;> subst e
  · exact h0 tr r (by simp [stp] at hr; omega)
  · exact h1 tr r (by simp [stp] at hr; omega)
  · exact h2 tr r (by simp [stp] at hr; omega)
theorem dpt_ok {s : Sty} (g : Good s) {v : Int} (v0 : 0 ≤ v) : (dpt s v).all isDP = true ∧ (∀ x ∈ (dpt s v).head?, x = 46) ∧ (dpt s v).drop 1 = decT s v := by
  have sp := stp_pos s.pl
  have r0 : 0 ≤ v % stp s.pl := Int.emod_nonneg _ (by omega)
  have r1 : v % stp s.pl < stp s.pl := Int.emod_lt_of_pos _ sp.1
  obtain ⟨r, hr⟩ := Int.eq_ofNat_of_zero_le r0
  obtain ⟨d1, d2, d3⟩ := dec_back s.pl g.pl s.tr r (by omega)
  have dT : decT s v = (if s.tr = true then trimZ (decs s.pl r) else decs s.pl r) := by
    unfold decT
    rw [hr]
  rw [← dT] at d2
  unfold dpt
  generalize decT s v = d at *
  refine ⟨?_, fun x hx => ?_, ?_⟩
  · split
    · rfl
    · rw [List.all_cons]
      have : d.all isDP = true := by
        rw [List.all_eq_true] at d2 ⊢
        exact fun c hc => isDP_iff.mpr (.inl (isDg_iff.mp (d2 c hc)))
      rw [this]
      rfl
  · split at hx
    · simp at hx
    · simpa using hx.symm
  · split
    · rename_i e; rw [e]; rfl
    · rfl
theorem name_dp {s : Sty} (g : Good s) {i : Nat} (hi : i < s.sc.length) : ∀ x ∈ (nameAt s.sc i).head?, isDP x = false := by
  obtain ⟨u, hu⟩ : ∃ u, s.sc[i]? = some u := ⟨_, List.getElem?_eq_getElem hi⟩
  rw [name_of hu]
  have nok := g.sc.names u (List.mem_of_getElem? hu)
  intro x hx
  refine letters_dp x ?_
  unfold nameOk at nok
  rw [Bool.and_eq_true, List.all_eq_true] at nok
  exact of_decide_eq_true (nok.2 x (List.mem_of_mem_head? hx))
/-- equal texts have equal parts -/
theorem txt_split {s t : Sty} (g : Good s) (h : Good t) {i j : Nat} {v w : Int} (hi : i < s.sc.length) (hj : j < t.sc.length) (v0 : 0 ≤ v) (w0 : 0 ≤ w) : txt s i v = txt t j w ↔ v / stp s.pl = w / stp t.pl ∧ dpt s v = dpt t w ∧ nameAt s.sc i = nameAt t.sc j := by
  constructor
  · intro e
    rw [txt_eq, txt_eq] at e
    have sp := stp_pos s.pl
    have tp := stp_pos t.pl
    have q0 : 0 ≤ v / stp s.pl := Int.ediv_nonneg v0 (by omega)
    have q1 : 0 ≤ w / stp t.pl := Int.ediv_nonneg w0 (by omega)
    obtain ⟨q, hq⟩ := Int.eq_ofNat_of_zero_le q0
    obtain ⟨r, hr⟩ := Int.eq_ofNat_of_zero_le q1
    rw [hq, hr] at e ⊢
    obtain ⟨a1, a2, a3⟩ := dpt_ok g v0
    obtain ⟨b1, b2, b3⟩ := dpt_ok h w0
    have dDP : ∀ q : Nat, (digs (q : Int)).all isDP = true := fun q => by
      have qa := digs_dg q
      rw [List.all_eq_true] at qa ⊢
      exact fun c hc => isDP_iff.mpr (.inl (isDg_iff.mp (qa c hc)))
    obtain ⟨t1, t2⟩ := tw_app (p := isDP) (a := digs (q : Int) ++ dpt s v) (b := nameAt s.sc i) (by rw [List.all_append, dDP, a1]; rfl) (name_dp g hi)
    obtain ⟨u1, u2⟩ := tw_app (p := isDP) (a := digs (r : Int) ++ dpt t w) (b := nameAt t.sc j) (by rw [List.all_append, dDP, b1]; rfl) (name_dp h hj)
    rw [e] at t1 t2
    rw [u1] at t1
    rw [u2] at t2
    obtain ⟨w1, w2, w3⟩ := whole_app (digs_dg q) a2
    obtain ⟨x1, x2, x3⟩ := whole_app (digs_dg r) b2
    rw [← t1, x1] at w1
    have qr : q = r := by
      have := congrArg dval w1
      rw [digs_val, digs_val] at this
      exact this.symm
    subst qr
    exact ⟨rfl, (List.append_cancel_left t1).symm, t2.symm⟩
  · rintro ⟨e1, e2, e3⟩
    rw [txt_eq, txt_eq, e1, e2, e3]
/-- what is shown, in hundredths -/
theorem hund {s t : Sty} (g : Good s) (h : Good t) {v w : Int} (v0 : 0 ≤ v) (w0 : 0 ≤ w) (e1 : v / stp s.pl = w / stp t.pl) (e2 : dpt s v = dpt t w) : v * (100 / stp s.pl) = w * (100 / stp t.pl) := by
  have d1 := (dpt_ok g v0).2.2
  have d2 := (dpt_ok h w0).2.2
  rw [e2, d2] at d1
  have one : ∀ {s : Sty} (g : Good s) {v : Int}, 0 ≤ v → v * (100 / stp s.pl) = 100 * (v / stp s.pl) + ((dval (decT s v ++ List.replicate (2 - (decT s v).length) 48) : Nat) : Int) := fun {s} g {v} v0 => by
    have sp := stp_pos s.pl
    have r0 : 0 ≤ v % stp s.pl := Int.emod_nonneg _ (by omega)
    have r1 : v % stp s.pl < stp s.pl := Int.emod_lt_of_pos _ sp.1
    obtain ⟨r, hr⟩ := Int.eq_ofNat_of_zero_le r0
    have dh := dec_hund s.pl g.pl s.tr r (by omega)
    have dT : decT s v = (if s.tr = true then trimZ (decs s.pl r) else decs s.pl r) := by
      unfold decT
      rw [hr]
    rw [← dT] at dh
    rw [dh, ← hr]
    have dm := Int.mul_ediv_add_emod v (stp s.pl)
    have c : stp s.pl * (100 / stp s.pl) = 100 := by
      rcases tri g.pl with e | e | e <;> rw [e] <;> rfl
    have : v * (100 / stp s.pl) = (stp s.pl * (v / stp s.pl) + v % stp s.pl) * (100 / stp s.pl) := by rw [dm]
    rw [this, Int.add_mul]
    have a : stp s.pl * (v / stp s.pl) * (100 / stp s.pl) = stp s.pl * (100 / stp s.pl) * (v / stp s.pl) := by ac_rfl
    rw [a, c]
  rw [one g v0, one h w0, e1, d1]
def Pt (s t : Sty) (n : Int) : Prop := textOf s n ≠ textOf t n
/-- texts repeat together -/
theorem pt_shift {s t : Sty} (g : Good s) (h : Good t) {n z : Int} {k j : Nat} (hn : 0 ≤ n) (k1 : (key s n).1 = k) (k2 : (key s (n + 2 * z)).1 = k) (j1 : (key t n).1 = j) (j2 : (key t (n + 2 * z)).1 = j) (hz : 0 < z) (z1 : sizeAt s.sc k = z) (z2 : sizeAt t.sc j = z) (e : ¬ Pt s t n) : ¬ Pt s t (n + 2 * z) := by
  have e' : textOf s n = textOf t n := Classical.byContradiction e
  intro c
  refine c ?_
  unfold textOf at e' ⊢
  have hs := g.sc.ok
  have ht := h.sc.ok
  have sp := stp_pos s.pl
  have tp := stp_pos t.pl
  have kl := key_lt hs hn
  have jl := key_lt ht hn
  have n2 : 0 ≤ n + 2 * z := by omega
  have v0 := (key_at hs hn).2.1
  have w0 := (key_at ht hn).2.1
  have v1 := (key_at hs n2).2.1
  have w1 := (key_at ht n2).2.1
  rw [k1] at kl
  rw [j1] at jl
  have a1 := key_rnd (s := s) (n := n)
  have a2 := key_rnd (s := s) (n := n + 2 * z)
  have b1 := key_rnd (s := t) (n := n)
  have b2 := key_rnd (s := t) (n := n + 2 * z)
  rw [k1, z1] at a1
  rw [k2, z1] at a2
  rw [j1, z2] at b1
  rw [j2, z2] at b2
  have ad := rnd_add (n := n) (z := z) (st := stp s.pl) (q := 1) (md := s.md) hz
  have bd := rnd_add (n := n) (z := z) (st := stp t.pl) (q := 1) (md := t.md) hz
  simp only [Int.mul_one] at ad bd
  rw [k1, j1, txt_split g h kl jl v0 w0] at e'
  rw [k2, j2, txt_split g h kl jl v1 w1]
  obtain ⟨e1, e2, e3⟩ := e'
  have va : (key s (n + 2 * z)).2 = (key s n).2 + stp s.pl * 2 := by omega
  have wa : (key t (n + 2 * z)).2 = (key t n).2 + stp t.pl * 2 := by omega
  have dd : ∀ {s : Sty} {v : Int}, 0 < stp s.pl → dpt s (v + stp s.pl * 2) = dpt s v := fun {s} {v} hp => by
    unfold dpt decT
    rw [Int.add_mul_emod_self_left]
  rw [va, wa, dd sp.1, dd tp.1, Int.add_mul_ediv_left _ _ (by omega), Int.add_mul_ediv_left _ _ (by omega), e1]
  exact ⟨rfl, e2, e3⟩
/-- different units part -/
theorem pt_far {s t : Sty} (g : Good s) (h : Good t) {n : Int} {k j : Nat} (hn : 0 ≤ n) (k1 : (key s n).1 = k) (j1 : (key t n).1 = j) (e : ¬ Pt s t n) : nameAt s.sc k = nameAt t.sc j ∧ (sizeAt s.sc k = sizeAt t.sc j ∨ n ≤ 10 ^ 30) := by
  have e' : textOf s n = textOf t n := Classical.byContradiction e
  unfold textOf at e'
  have hs := g.sc.ok
  have ht := h.sc.ok
  have kl := key_lt hs hn
  have jl := key_lt ht hn
  have v0 := (key_at hs hn).2.1
  have w0 := (key_at ht hn).2.1
  rw [txt_split g h kl jl v0 w0] at e'
  obtain ⟨e1, e2, e3⟩ := e'
  rw [k1, j1] at e3
  refine ⟨e3, ?_⟩
  have hu := hund g h v0 w0 e1 e2
  have n1 := amt_near hs hn
  have n2 := amt_near ht hn
  have c1 : 100 / stp s.pl * stp s.pl = 100 ∧ 1 ≤ 100 / stp s.pl ∧ 100 / stp s.pl ≤ 100 := by
    rcases tri g.pl with e | e | e <;> rw [e] <;> decide
  have c2 : 100 / stp t.pl * stp t.pl = 100 ∧ 1 ≤ 100 / stp t.pl ∧ 100 / stp t.pl ≤ 100 := by
    rcases tri h.pl with e | e | e <;> rw [e] <;> decide
  obtain ⟨u, hu1⟩ : ∃ u, s.sc[k]? = some u := ⟨_, List.getElem?_eq_getElem (by omega)⟩
  obtain ⟨u', hu2⟩ : ∃ u, t.sc[j]? = some u := ⟨_, List.getElem?_eq_getElem (by omega)⟩
  have s1 := g.sc.big u (List.mem_of_getElem? hu1)
  have s2 := h.sc.big u' (List.mem_of_getElem? hu2)
  rw [← size_of hu1] at s1
  rw [← size_of hu2] at s2
  unfold amt at n1 n2
  rw [k1] at n1
  rw [j1] at n2
  generalize sizeAt s.sc k = z1 at *
  generalize sizeAt t.sc j = z2 at *
  generalize (key s n).2 = v at *
  generalize (key t n).2 = w at *
  generalize 100 / stp s.pl = c at *
  generalize 100 / stp t.pl = d at *
  -- in hundredths
  have near : ∀ {v z c st : Int}, c * st = 100 → 1 ≤ c → c ≤ 100 → 0 < z → n * st - z < v * z → v * z ≤ n * st + z → 100 * n - 100 * z ≤ v * c * z ∧ v * c * z ≤ 100 * n + 100 * z := fun {v z c st} h1 h2 h3 hz h4 h5 => by
    have q1 := Int.mul_le_mul_of_nonneg_left (show n * st - z ≤ v * z by omega) (show 0 ≤ c by omega)
    have q2 := Int.mul_le_mul_of_nonneg_left h5 (show 0 ≤ c by omega)
    have f1 : c * (v * z) = v * c * z := by ac_rfl
    have f2 : c * (n * st) = 100 * n := by rw [← h1]; ac_rfl
    have f3 : c * z ≤ 100 * z := Int.mul_le_mul_of_nonneg_right h3 (by omega)
    rw [Int.mul_sub, f1, f2] at q1
    rw [Int.mul_add, f1, f2] at q2
    omega
  have a := near c1.1 c1.2.1 c1.2.2 s1.1 n1.2.1 n1.2.2
  have b := near c2.1 c2.2.1 c2.2.2 s2.1 n2.2.1 n2.2.2
  rw [← hu] at b
  have V0 : 0 ≤ v * c := Int.mul_nonneg v0 (by omega)
  generalize v * c = V at *
  have cs : ∀ {z1 z2 : Int}, 0 < z1 → z1 ≤ 16000000000000 → z2 ≤ 16000000000000 → z1 < z2 → 100 * n - 100 * z1 ≤ V * z1 → V * z2 ≤ 100 * n + 100 * z2 → n ≤ 10 ^ 30 := fun {z1 z2} p1 p2 p3 lt q1 q2 => by
    have r1 := Int.mul_le_mul_of_nonneg_left (show z1 + 1 ≤ z2 by omega) V0
    rw [Int.mul_add, Int.mul_one] at r1
    have r2 : V ≤ 3200000000000000 := by omega
    have r3 : V * z1 ≤ 3200000000000000 * 16000000000000 := Int.mul_le_mul r2 p2 (by omega) (by omega)
    have e28 : (3200000000000000 : Int) * 16000000000000 + 1600000000000000 ≤ 10 ^ 30 := by decide +kernel
    omega
  rcases Int.lt_trichotomy z1 z2 with q | q | q
  · exact .inr (cs s1.1 s1.2 s2.2 q a.1 b.2)
  · exact .inl q
  · exact .inr (cs s2.1 s2.2 s1.2 q b.1 a.2)
end Sz

namespace Sz
open PySem PySem.Spec PyProof.Rows L2
theorem inS_dec (stop : Option Int) (n : Int) : inS stop n ∨ ¬ inS stop n := Classical.em _
theorem strC_name {nm : List Nat} (h : nameOk nm = true) : strC nm = true := by
  unfold nameOk at h
  rw [Bool.and_eq_true, List.all_eq_true] at h
  unfold strC
  rw [List.all_eq_true]
  intro c hc
  have := of_decide_eq_true (h.2 c hc)
  have all : ∀ c ∈ LETTERS, decide (c < 1114112) = true := by decide
  exact all c this
theorem gEq_unit {u v : List Nat × Int} (h1 : nameOk u.1 = true) (h2 : nameOk v.1 = true) {m : Mem} : gEq (unitD u) (unitD v) m = .ok (.bl (u.1 == v.1 && u.2 == v.2)) m := by
  have e : eqO (unitD u) (unitD v) m = some (u.1 == v.1 && u.2 == v.2) := by
    have s1 : shp 8 (unitD u) = true := by
      show (strC u.1 && (true && true)) = true
      rw [strC_name h1]
      rfl
    have s2 : shp 8 (unitD v) = true := by
      show (strC v.1 && (true && true)) = true
      rw [strC_name h2]
      rfl
    have e : eqO (unitD u) (unitD v) m = (if (shp 8 (unitD u) && shp 8 (unitD v)) = true then some (eqD 8 (unitD u) (unitD v)) else none) := rfl
    rw [e, if_pos (by rw [s1, s2]; rfl)]
    have e2 : eqD 8 (unitD u) (unitD v) = (u.1 == v.1 && (u.2 == v.2 && true)) := rfl
    rw [e2, Bool.and_true]
  unfold gEq
  rw [e]
def minO : Option Int → Option Int → Option Int
  | a, none => a
  | none, b => b
  | some a, some b => some (if b < a then b else a)
theorem inS_min {a b : Option Int} {n : Int} : inS (minO a b) n ↔ inS a n ∧ inS b n := by
  cases a with
  | none => cases b <;> simp [minO, inS]
  | some x =>
    cases b with
    | none => simp [minO, inS]
    | some y =>
      unfold minO inS
      simp only
      split <;> omega
end Sz

namespace Sz
open PySem PySem.Spec PyProof.Rows L2
end Sz

namespace Sz
open PySem PySem.Spec PyProof.Rows L2
/-! ## counts grow -/
theorem cnt_mono' {s : Sty} {n : Int} (h0 : 0 ≤ n) : ∀ d : Nat, cnt s n ≤ cnt s (n + d)
  | 0 => by simp
  | d + 1 => by
    have ih := cnt_mono' (s := s) h0 d
    have e : n + ((d + 1 : Nat) : Int) = n + (d : Int) + 1 := by omega
    rw [e, cnt_succ (by omega)]
    split <;> omega
theorem cnt_mono {s : Sty} {n m : Int} (h0 : 0 ≤ n) (h : n ≤ m) : cnt s n ≤ cnt s m := by
  have := cnt_mono' (s := s) h0 (m - n).toNat
  rw [show n + ((m - n).toNat : Int) = m by omega] at this
  exact this
theorem cnt_pos {s : Sty} {n : Int} (h0 : 0 ≤ n) : 1 ≤ cnt s n := by
  have := cnt_mono (s := s) (Int.le_refl 0) h0
  rw [cnt_zero] at this
  exact this
theorem key_between {s : Sty} (hs : ScOk s.sc) {a j b : Int} (h1 : a ≤ j) (h2 : j ≤ b) (e : key s a = key s b) : key s j = key s a := by
  have k1 := key_mono hs h1
  have k2 := key_mono hs h2
  rw [← e] at k2
  unfold keyLe at k1 k2
  refine Prod.ext ?_ ?_ <;> omega
theorem cnt_eq {s : Sty} (hs : ScOk s.sc) {n m : Int} (h0 : 0 ≤ n) (h : n ≤ m) : cnt s n = cnt s m ↔ key s n = key s m := by
  obtain ⟨d, hd⟩ := Int.eq_ofNat_of_zero_le (show 0 ≤ m - n by omega)
  have : m = n + (d : Int) := by omega
  subst this
  clear h hd
  induction d with
  | zero => simp
  | succ d ih =>
    have e : n + ((d + 1 : Nat) : Int) = n + (d : Int) + 1 := by omega
    have c := cnt_succ (s := s) (n := n + d) (by omega)
    have mo := cnt_mono (s := s) h0 (show n ≤ n + (d : Int) by omega)
    rw [e]
    constructor
    · intro q
      by_cases k : key s (n + d + 1) = key s (n + d)
      · rw [if_pos k] at c
        rw [k]
        exact ih.mp (by omega)
      · rw [if_neg k] at c
        omega
    · intro q
      have k1 := key_between hs (show n ≤ n + (d : Int) by omega) (show n + (d : Int) ≤ n + (d : Int) + 1 by omega) q
      rw [if_pos (by rw [← q, k1])] at c
      have := ih.mpr k1.symm
      omega
theorem cnt_fs {s : Sty} (hs : ScOk s.sc) {n : Int} (h0 : 0 ≤ n) : cnt s (fs s n) = cnt s n := by
  obtain ⟨a, b, c, _⟩ := fs_spec hs h0
  exact (cnt_eq hs a b).mpr c
theorem cnt_nx {s : Sty} (hs : ScOk s.sc) {n : Int} (h0 : 0 ≤ n) : cnt s (nx s n) = cnt s n + 1 := by
  obtain ⟨a, b, c⟩ := nx_spec hs h0
  have e := (cnt_eq hs h0 (show n ≤ nx s n - 1 by omega)).mpr (b (nx s n - 1) (by omega) (by omega)).symm
  have q := cnt_succ (s := s) (n := nx s n - 1) (by omega)
  rw [show nx s n - 1 + 1 = nx s n by omega, if_neg (fun z => by
    rw [b (nx s n - 1) (by omega) (by omega)] at z
    rw [z, kLt_irr] at c
    cases c)] at q
  omega
theorem cnt_big {s : Sty} (g : Good s) : ∀ p : Nat, (p : Int) < cnt s (lastZ s * (1 + 2 * p))
  | 0 => by
    have := lastZ_pos g
    have := cnt_pos (s := s) (n := lastZ s * (1 + 2 * (0 : Nat))) (by simp; omega)
    simp at this ⊢
    omega
  | p + 1 => by
    have ih := cnt_big g p
    have hs := g.sc.ok
    have lz := lastZ_pos g
    have q0 : 0 ≤ lastZ s * (1 + 2 * (p : Int)) := Int.mul_nonneg (by omega) (by omega)
    have e : lastZ s * (1 + 2 * ((p + 1 : Nat) : Int)) = lastZ s * (1 + 2 * p) + 2 * lastZ s := by
      rw [show (1 + 2 * ((p + 1 : Nat) : Int)) = (1 + 2 * p) + 2 by omega, Int.mul_add, Int.mul_comm _ 2]
    rw [e]
    have big : sta s (s.sc.length - 1) ≤ lastZ s * (1 + 2 * (p : Int)) := by
      have q1 : lastZ s * 1 ≤ lastZ s * (1 + 2 * (p : Int)) := Int.mul_le_mul_of_nonneg_left (by omega) (by omega)
      unfold sta
      split
      · omega
      · have e' : sizeAt s.sc (s.sc.length - 1) = lastZ s := rfl
        rw [e']
        omega
    have u1 := last_unit g big
    generalize lastZ s * (1 + 2 * (p : Int)) = n at *
    have ne : cnt s n ≠ cnt s (n + 2 * lastZ s) := fun z => by
      have k := (cnt_eq hs q0 (by omega)).mp z
      have l1 := nx_le hs q0
      rw [u1] at l1
      have l2 : nx s n ≤ n + 2 * lastZ s := l1
      have c := (nx_spec hs q0).2.2
      have km := key_mono hs l2
      rw [← k] at km
      rw [kLt_iff] at c
      unfold keyLe at km
      omega
    have mo := cnt_mono (s := s) q0 (show n ≤ n + 2 * lastZ s by omega)
    omega
noncomputable def beg (s : Sty) (p : Int) : Int := (leastN fun n => p < cnt s n).getD 0
theorem beg_is {s : Sty} {p h : Int} (a : 0 ≤ h) (b : p < cnt s h) (c : ∀ n, 0 ≤ n → n < h → cnt s n ≤ p) : beg s p = h := by
  unfold beg
  rw [leastN_eq (o := some h) ⟨a, b, fun n n0 n1 z => by have := c n n0 n1; have z' : p < cnt s n := z; omega⟩]
  rfl
theorem beg_spec {s : Sty} (g : Good s) {p : Int} (h0 : 0 ≤ p) : 0 ≤ beg s p ∧ cnt s (beg s p) = p + 1 ∧ (∀ n, 0 ≤ n → n < beg s p → cnt s n ≤ p) ∧ beg s p ≤ lastZ s * (1 + 2 * p) := by
  have hs := g.sc.ok
  have lz := lastZ_pos g
  have B := cnt_big g p.toNat
  have pe : ((p.toNat : Nat) : Int) = p := by omega
  rw [pe] at B
  have q0 : 0 ≤ lastZ s * (1 + 2 * p) := Int.mul_nonneg (by omega) (by omega)
  have q := leastN_is fun n => p < cnt s n
  unfold beg
  cases e : leastN fun n => p < cnt s n with
  | none => rw [e] at q; exact absurd B (q _ q0)
  | some h =>
    rw [e] at q
    obtain ⟨a, b, c⟩ := q
    have c' : ∀ n, 0 ≤ n → n < h → cnt s n ≤ p := fun n n0 n1 => by
      have := c n n0 n1
      simp only at this
      omega
    have b' : p < cnt s h := b
    refine ⟨a, ?_, c', ?_⟩
    · show cnt s h = p + 1
      by_cases z : h = 0
      · rw [z, cnt_zero] at b ⊢
        omega
      · have c1 := c' (h - 1) (by omega) (by omega)
        have cs := cnt_succ (s := s) (n := h - 1) (by omega)
        rw [show h - 1 + 1 = h by omega] at cs
        split at cs <;> omega
    · show h ≤ _
      apply Int.le_of_not_gt
      intro z
      have := c' _ q0 z
      omega
theorem beg_lt {s : Sty} (g : Good s) {p n : Int} (h0 : 0 ≤ p) (n0 : 0 ≤ n) : beg s p ≤ n ↔ p < cnt s n := by
  obtain ⟨a, b, c, d⟩ := beg_spec g h0
  constructor
  · intro h
    have := cnt_mono (s := s) a h
    omega
  · intro h
    apply Int.le_of_not_gt
    intro z
    have := c n n0 z
    omega
/-- the first of a number's class, by its place -/
theorem beg_fs {s : Sty} (g : Good s) {n : Int} (h0 : 0 ≤ n) : beg s (cnt s n - 1) = fs s n := by
  have hs := g.sc.ok
  obtain ⟨a, b, c, d⟩ := fs_spec hs h0
  have e := cnt_fs hs h0
  refine beg_is a (by omega) fun j j0 j1 => ?_
  have mo := cnt_mono (s := s) j0 (show j ≤ fs s n by omega)
  have ne : cnt s j ≠ cnt s (fs s n) := fun z => by
    have k := (cnt_eq hs j0 (show j ≤ fs s n by omega)).mp z
    have q := d j j0 j1
    rw [k, c, kLt_irr] at q
    cases q
  omega
theorem bt1 {F : List D → Mem → Out D} {sd : D} {p h c : Int} {x3 x4 : Option D} {m : Mem} (ce : F [sd, .int h] m = .ok (.int c) m) : (sTest (sBin gLe (sCall 2 F (sCons (sVar 0) (sCons (sVar 2) (sNil)))) (sVar 1))) [some sd, some (.int p), some (.int h), x3, x4] m = .ok (decide (c ≤ p)) m := by simp [ce]
theorem bt2 {F : List D → Mem → Out D} {sd : D} {p h l c mid : Int} {x4 : Option D} {m : Mem} (ce : F [sd, .int mid] m = .ok (.int c) m) (hm : (l + h) / 2 = mid) :
    (bCons (kSet 4 (sBin gDiv (sBin gAdd (sVar 3) (sVar 2)) (sC (.int 2)))) (kIf (sTest (sBin gLe (sCall 2 F (sCons (sVar 0) (sCons (sVar 4) (sNil)))) (sVar 1))) (kSet 3 (sVar 4)) (kSet 2 (sVar 4)))) [some sd, some (.int p), some (.int h), some (.int l), x4] m =
      .nx (if c ≤ p then [some sd, some (.int p), some (.int h), some (.int mid), some (.int mid)] else [some sd, some (.int p), some (.int mid), some (.int l), some (.int mid)]) m := by
  have d2 : ∀ i, divC i 2 = true := fun i => div_ok (by omega) (by omega)
  by_cases q : c ≤ p
  · simp [d2, hm, ce, q]
  · simp [d2, hm, ce, q]
end Sz

namespace Sz
open PySem PySem.Spec PyProof.Rows L2
/-! ## the functions, so that nobody looks into them -/
noncomputable def M_is_style : List D → Mem → Out D := Classical.choose (⟨m_is_style, rfl⟩ : ∃ f, f = m_is_style)
theorem seal_is_style : M_is_style = m_is_style := Classical.choose_spec (⟨m_is_style, rfl⟩ : ∃ f, f = m_is_style)
/-- what is shown, in lowest terms -/
def shN (s : Sty) (n : Int) : Int := (((amt s n).toNat / lowG s n : Nat) : Int)
def shD (s : Sty) (n : Int) : Int := (((stp s.pl).toNat / lowG s n : Nat) : Int)
theorem sh_spec {s : Sty} (hs : ScOk s.sc) {n : Int} (h0 : 0 ≤ n) : ∃ G : Int, 0 < G ∧ amt s n = shN s n * G ∧ stp s.pl = shD s n * G ∧ 0 ≤ shN s n ∧ 0 < shD s n ∧ shD s n ≤ 100 := by
  have sp := stp_pos s.pl
  have a0 := (amt_near hs h0).1
  unfold shN shD lowG
  obtain ⟨A, hA⟩ := Int.eq_ofNat_of_zero_le a0
  obtain ⟨B, hB⟩ := Int.eq_ofNat_of_zero_le (show 0 ≤ stp s.pl by omega)
  rw [hA, hB]
  simp only [Int.toNat_natCast]
  have gp : 0 < Nat.gcd A B := Nat.gcd_pos_of_pos_right A (by omega)
  have e1 := Nat.div_mul_cancel (Nat.gcd_dvd_left A B)
  have e2 := Nat.div_mul_cancel (Nat.gcd_dvd_right A B)
  refine ⟨(Nat.gcd A B : Nat), by omega, by exact_mod_cast e1.symm, by exact_mod_cast e2.symm, Int.natCast_nonneg _, ?_, ?_⟩
  · have : 0 < B / Nat.gcd A B := Nat.div_pos (Nat.le_of_dvd (by omega) (Nat.gcd_dvd_right A B)) gp
    omega
  · have : B / Nat.gcd A B ≤ B := Nat.div_le_self _ _
    omega
theorem shN_le {s : Sty} (hs : ScOk s.sc) {n : Int} (h0 : 0 ≤ n) : shN s n ≤ amt s n := by
  obtain ⟨G, g0, e1, e2, n0, d0, d1⟩ := sh_spec hs h0
  have : shN s n * 1 ≤ shN s n * G := Int.mul_le_mul_of_nonneg_left (by omega) n0
  omega
theorem M_is_style_e {s : Sty} (g : Good s) (m : Mem) : M_is_style [s.toD] m = .ok (.bl true) m := by
  rw [seal_is_style]
  exact m_is_style_eq g
end Sz

namespace Sz
open PySem PySem.Spec PyProof.Rows L2
/-! ## other names, another trim: the same keys -/
/-- two styles that show all numbers in the same units with the same values -/
structure Same (s t : Sty) : Prop where
  sz : s.sc.map (·.2) = t.sc.map (·.2)
  pl : s.pl = t.pl
  md : s.md = t.md
  pr : s.pr = t.pr
theorem Same.len {s t : Sty} (h : Same s t) : s.sc.length = t.sc.length := by
  have := congrArg List.length h.sz
  simpa using this
theorem Same.size {s t : Sty} (h : Same s t) (i : Nat) : sizeAt s.sc i = sizeAt t.sc i := by unfold sizeAt; rw [h.sz]
theorem Same.key {s t : Sty} (h : Same s t) (n : Int) : key s n = key t n := by
  unfold Sz.key
  simp only [h.sz, h.pl, h.md, h.pr, h.size, h.len]
theorem Same.amt {s t : Sty} (h : Same s t) (n : Int) : amt s n = amt t n := by unfold Sz.amt; rw [h.key, h.size]
theorem Same.over {s t : Sty} (h : Same s t) (n : Int) : isOver s n = isOver t n := by unfold isOver; rw [h.key, h.size, h.size, h.len, h.pl]
theorem Same.falls {s t : Sty} (h : Same s t) (n : Int) : fallsAt s n ↔ fallsAt t n := by unfold fallsAt; rw [h.amt, h.amt]
theorem Same.lf {s t : Sty} (h : Same s t) (k : Nat × Int) : lf s k = lf t k := by
  unfold Sz.lf
  congr 2
  funext n
  rw [h.key]
theorem Same.fs {s t : Sty} (h : Same s t) (n : Int) : fs s n = fs t n := by unfold Sz.fs; rw [h.key, h.lf]
theorem Same.nx {s t : Sty} (h : Same s t) (n : Int) : nx s n = nx t n := by unfold Sz.nx; rw [h.key, h.lf]
theorem Same.wd {s t : Sty} (h : Same s t) (n : Int) : wd s n = wd t n := by unfold Sz.wd; rw [h.nx, h.fs]
theorem Same.er {s t : Sty} (h : Same s t) (n : Int) : er s n = er t n := by unfold Sz.er; rw [h.amt, h.pl]
theorem Same.cnt {s t : Sty} (h : Same s t) (n : Int) : cnt s n = cnt t n := by
  have : ∀ k, cntN s k = cntN t k := fun k => by
    induction k with
    | zero => rfl
    | succ k ih => rw [cntN, cntN, ih, h.key, h.key]
  exact this _
theorem Same.shN {s t : Sty} (h : Same s t) (n : Int) : shN s n = shN t n := by unfold Sz.shN lowG; rw [h.amt, h.pl]
theorem Same.shD {s t : Sty} (h : Same s t) (n : Int) : shD s n = shD t n := by unfold Sz.shD lowG; rw [h.amt, h.pl]
theorem bnds_sz : ∀ (a b : List (List Nat × Int)) (o : Option Int), a.map (·.2) = b.map (·.2) → bnds o b → bnds o a
  | [], [], _, _, _ => by simp [bnds]
  | [], _ :: _, _, h, _ => by simp at h
  | _ :: _, [], _, h, _ => by simp at h
  | x :: a, y :: b, o, h, hb => by
    rw [List.map_cons, List.map_cons, List.cons.injEq] at h
    cases o with
    | none =>
      obtain ⟨h1, h2⟩ := hb
      exact ⟨by rw [h.1]; exact h1, by rw [h.1]; exact bnds_sz a b _ h.2 h2⟩
    | some z =>
      obtain ⟨h1, h2, h3⟩ := hb
      exact ⟨by rw [h.1]; exact h1, by rw [h.1]; exact h2, by rw [h.1]; exact bnds_sz a b _ h.2 h3⟩
theorem gNe_opt {o : Option Int} {m : Mem} : gNe (optI o) (optI o) m = .ok (.bl false) m := by
  cases o with
  | none => rfl
  | some a => simp [optI]
theorem gNe_pair {a b : Int} {m : Mem} : gNe (.tup [.int a, .int b]) (.tup [.int a, .int b]) m = .ok (.bl false) m := by
  have e : gNe (.tup [.int a, .int b]) (.tup [.int a, .int b]) m = .ok (.bl (!(a == a && (b == b && true)))) m := rfl
  rw [e]
  simp
theorem gNe_rng {o : Option (Int × Int)} {m : Mem} : gNe (rngD o) (rngD o) m = .ok (.bl false) m := by
  cases o with
  | none => rfl
  | some a => exact gNe_pair
theorem gNe_wor {o : Option (Int × Int × Int)} {m : Mem} : gNe (worD o) (worD o) m = .ok (.bl false) m := by
  cases o with
  | none => rfl
  | some a =>
    obtain ⟨n, e, d⟩ := a
    unfold worD
    dsimp only
    generalize ((e.toNat / Nat.gcd e.toNat d.toNat : Nat) : Int) = x
    generalize ((d.toNat / Nat.gcd e.toNat d.toNat : Nat) : Int) = y
    have e : gNe (.tup [.int n, .tup [.int x, .int y]]) (.tup [.int n, .tup [.int x, .int y]]) m = .ok (.bl (!(n == n && ((x == x && (y == y && true)) && true)))) m := rfl
    rw [e]
    simp
end Sz

namespace Sz
open PySem PySem.Spec PyProof.Rows L2
abbrev RS : List Nat := [114, 97, 105, 115, 101, 100]
theorem cnt_no {d : D} {a b : Int} {m : Mem} (h : gIsi "int" [d, .val (.ty "int")] m = .ok (.bl false) m) : m_is_count [d, .int a, .int b] m = .ok (.bl false) m := by
  simp [m_is_count, b_is_count, h]
/-! ## styles as they are read, before they are looked at -/
abbrev RU := List Nat × Option Int
def ruD (u : RU) : D := .tup [.str u.1, optI u.2]
theorem raw_loop : ∀ (U : List RU) (x : D) (b : Option Int) (y z v : Option D) (m : Mem),
    forL (gT [2, 3]) wb_is_scale_1 (U.map ruD) [some x, some (befD b), y, z, v] m = .rt (.bl false) m ∨
    ∃ (sc : List (List Nat × Int)) (b' y' z' : Option D), U = sc.map (fun u => (u.1, some u.2)) ∧ bnds b sc ∧ forL (gT [2, 3]) wb_is_scale_1 (U.map ruD) [some x, some (befD b), y, z, v] m = .nx [some x, b', y', z', v] m
  | [], x, b, y, z, v, m => .inr ⟨[], some (befD b), y, z, rfl, by cases b <;> trivial, rfl⟩
  | (nm, o) :: U, x, b, y, z, v, m => by
    have ge : gT [2, 3] [some x, some (befD b), y, z, v] (ruD (nm, o)) = some [some x, some (befD b), some (.str nm), some (optI o), v] := by simp [ruD]
    rw [List.map_cons, forL, ge]
    dsimp only
    have mu : ∀ i, mulC i 2000 = true := fun i => mulR (by omega)
    cases o with
    | none =>
      left
      have c : ∀ i j, m_is_count [.non, .int i, .int j] m = .ok (.bl false) m := fun i j => cnt_no rfl
      have st : wb_is_scale_1 [some x, some (befD b), some (.str nm), some (optI none), v] m = .rt (.bl false) m := by
        cases b with
        | none => simp [wb_is_scale_1, befD, optI, c]
        | some b => simp [wb_is_scale_1, befD, optI, c, mu]
      rw [st]
    | some i =>
      by_cases q : (match b with
        | none => i = 1
        | some b => b + 1 ≤ i ∧ i ≤ b * 2000)
      · have st : wb_is_scale_1 [some x, some (befD b), some (.str nm), some (optI (some i)), v] m = .nx [some x, some (befD (some i)), some (.str nm), some (optI (some i)), v] m := by
          cases b with
          | none =>
            have q : i = 1 := q
            simp [wb_is_scale_1, befD, optI, m_is_count_eq, q]
          | some b =>
            obtain ⟨e1, e2⟩ := (show b + 1 ≤ i ∧ i ≤ b * 2000 from q)
            simp [wb_is_scale_1, befD, optI, m_is_count_eq, mu, e1, e2]
        rw [st]
        rcases raw_loop U x (some i) (some (.str nm)) (some (optI (some i))) v m with h | ⟨sc, b', y', z', h1, h2, h3⟩
        · exact .inl h
        · refine .inr ⟨(nm, i) :: sc, b', y', z', by rw [h1]; rfl, ?_, h3⟩
          cases b with
          | none => exact ⟨q, h2⟩
          | some b => exact ⟨(show b + 1 ≤ i ∧ i ≤ b * 2000 from q).1, (show b + 1 ≤ i ∧ i ≤ b * 2000 from q).2, h2⟩
      · left
        have st : wb_is_scale_1 [some x, some (befD b), some (.str nm), some (optI (some i)), v] m = .rt (.bl false) m := by
          cases b with
          | none =>
            have q : ¬ i = 1 := q
            have q' : ¬ (1 ≤ i ∧ i ≤ 1) := by omega
            simp [wb_is_scale_1, befD, optI, m_is_count_eq, q']
          | some b =>
            have q' : ¬ (b + 1 ≤ i ∧ i ≤ b * 2000) := q
            simp [wb_is_scale_1, befD, optI, m_is_count_eq, mu, q']
        rw [st]
theorem dis_le {α : Type} [DecidableEq α] : ∀ l a : List α, (l.foldl addNew a).length ≤ a.length + l.length ∧ ((l.foldl addNew a).length = a.length + l.length → a.Nodup → (a ++ l).Nodup)
  | [], a => ⟨by simp, fun _ h => by simpa using h⟩
  | x :: l, a => by
    rw [List.foldl_cons]
    obtain ⟨i1, i2⟩ := dis_le l (addNew a x)
    by_cases q : x ∈ a
    · have e : addNew a x = a := by rw [addNew, if_pos q]
      rw [e] at i1 i2 ⊢
      exact ⟨by rw [List.length_cons]; omega, fun h => by rw [List.length_cons] at h; omega⟩
    · have e : addNew a x = a ++ [x] := by rw [addNew, if_neg q]
      rw [e] at i1 i2 ⊢
      rw [List.length_append, List.length_singleton] at i1 i2
      refine ⟨by rw [List.length_cons]; omega, fun h ha => ?_⟩
      rw [List.length_cons] at h
      have nd : (a ++ [x]).Nodup := by
        rw [List.nodup_append]
        refine ⟨ha, by simp, fun y hy z hz => ?_⟩
        have : z = x := by simpa using hz
        rw [this]
        exact fun w => q (w ▸ hy)
      have := i2 (by omega) nd
      simpa using this
theorem raw_scale {U : List RU} (hl : U.length ≤ 1000) (hn : ∀ u ∈ U, u.1.length ≤ 1000) (m : Mem) : m_is_scale [.tup (U.map ruD)] m = .ok (.bl false) m ∨ ∃ sc, U = sc.map (fun u => (u.1, some u.2)) ∧ ScGood sc := by
  by_cases h5 : 1 ≤ U.length ∧ U.length ≤ 5
  · have l1 : (1 : Int) ≤ (U.length : Int) := by omega
    have l2 : (U.length : Int) ≤ 5 := by omega
    have lc := lc_pure (g := gN 4) (ft := tYesS) (f := sAnd (sCB (gIsi "tuple") (sCons (sVar 4) (sCons (sC (.val (.ty "tuple"))) (sNil)))) (sAnd (sBin gEq (sCB gLen (sCons (sVar 4) (sNil))) (sC (.int 2))) (sCall 1 m_is_name (sCons (sBin gIx (sVar 4) (sC (.int 0))) (sNil))))) (m := m) (e0 := [some (.tup (U.map ruD)), none, none, none, none]) (mk := ruD) (keep := fun _ => true) (val := fun u => .bl (nameOk u.1)) U []
      (fun x hx => ⟨_, rfl, rfl, fun _ => by simp [ruD, atI_0, m_is_name_eq (s := x.1) (hn x hx)]⟩) (by simp; omega)
    rw [List.filter_eq_self.mpr (fun _ _ => rfl), List.nil_append] at lc
    have z : (U.map fun u => D.bl (nameOk u.1)) = (U.map fun u => nameOk u.1).map D.bl := by simp
    rw [z] at lc
    have ga : gAll [.lst ((U.map fun u => nameOk u.1).map D.bl)] m = .ok (.bl ((U.map fun u => nameOk u.1).all id)) m := by
      unfold gAll
      rw [gBools_l, boolsO_map]
    by_cases hall : (U.map fun u => nameOk u.1).all id = true
    · rcases raw_loop U (.tup (U.map ruD)) none none none none m with fl | ⟨sc, b', y', z', h1, h2, fl⟩
      · left
        simp only [befD] at fl
        generalize (U.map fun u => nameOk u.1).map D.bl = BB at *
        refine def_eq rfl ?_
        unfold b_is_scale
        generalize hUU : U.map ruD = UU at *
        have lU : (UU.length : Int) = (U.length : Int) := by rw [← hUU, List.length_map]
        rw [bcons_nx (e1 := [some (.tup UU), none, none, none, none]) (m1 := m) (by simp [lU, l1, l2])]
        rw [bcons_nx (e1 := [some (.tup UU), none, none, none, none]) (m1 := m) (by simp [lc, ga, hall])]
        rw [bcons_nx (e1 := [some (.tup UU), some .non, none, none, none]) (m1 := m) (by simp)]
        have fe : (kFor (iOf asT (sVar 0)) (gT [2, 3]) wb_is_scale_1) [some (.tup UU), some .non, none, none, none] m = .rt (.bl false) m := by rw [← fl]; simp
        rw [bcons_rt fe]
        exact pack_le (by simp)
      · by_cases nd : (U.map (·.1)).Nodup
        · right
          refine ⟨sc, h1, ?_, ?_, ?_, h2, ?_⟩
          · rw [h1, List.length_map] at h5
            exact h5.1
          · rw [h1, List.length_map] at h5
            exact h5.2
          · intro u hu
            rw [List.all_map, List.all_eq_true] at hall
            exact hall (u.1, some u.2) (by rw [h1]; exact List.mem_map.mpr ⟨u, hu, rfl⟩)
          · rw [h1, List.map_map] at nd
            exact nd
        · left
          simp only [befD] at fl
          have lc2 := lc_pure (g := gT [2, 3]) (ft := tYesS) (f := sVar 2) (m := m) (e0 := [some (.tup (U.map ruD)), b', none, none, none]) (mk := ruD) (keep := fun _ => true) (val := fun u : RU => .str u.1) U [] (fun x hx => ⟨_, rfl, rfl, fun _ => by simp [ruD]⟩) (by simp; omega)
          rw [List.filter_eq_self.mpr (fun _ _ => rfl), List.nil_append] at lc2
          have z2 : (U.map fun u => D.str u.1) = (U.map (·.1)).map D.str := by simp
          rw [z2] at lc2
          have dl := dis_le (U.map (·.1)) []
          have dn : ¬ ((dis (U.map (·.1))).length : Int) = (U.length : Int) := fun e => nd (by
            have := dl.2 (by show (dis (U.map (·.1))).length = 0 + _; rw [List.length_map]; omega) List.nodup_nil
            simpa using this)
          have gs : gSetLen (.lst ((U.map (·.1)).map D.str)) m = .ok (.int (dis (U.map (·.1))).length) m := by
            rw [gSetLen_l, texts_map]
            dsimp only
            rw [if_pos (by rw [List.length_map]; omega)]
          generalize (U.map fun u => nameOk u.1).map D.bl = BB at *
          generalize ((dis (U.map (·.1))).length : Int) = DL at *
          generalize (U.map (·.1)).map D.str = NS at *
          refine def_eq rfl ?_
          unfold b_is_scale
          generalize hUU : U.map ruD = UU at *
          have lU : (UU.length : Int) = (U.length : Int) := by rw [← hUU, List.length_map]
          rw [bcons_nx (e1 := [some (.tup UU), none, none, none, none]) (m1 := m) (by simp [lU, l1, l2])]
          rw [bcons_nx (e1 := [some (.tup UU), none, none, none, none]) (m1 := m) (by simp [lc, ga, hall])]
          rw [bcons_nx (e1 := [some (.tup UU), some .non, none, none, none]) (m1 := m) (by simp)]
          have fe : (kFor (iOf asT (sVar 0)) (gT [2, 3]) wb_is_scale_1) [some (.tup UU), some .non, none, none, none] m = .nx [some (.tup UU), b', y', z', none] m := by rw [← fl]; simp
          rw [bcons_nx fe]
          simp [lc2, gs, lU, dn]
    · left
      rw [Bool.not_eq_true] at hall
      generalize (U.map fun u => nameOk u.1).map D.bl = BB at *
      refine def_eq rfl ?_
      unfold b_is_scale
      generalize hUU : U.map ruD = UU at *
      have lU : (UU.length : Int) = (U.length : Int) := by rw [← hUU, List.length_map]
      rw [bcons_nx (e1 := [some (.tup UU), none, none, none, none]) (m1 := m) (by simp [lU, l1, l2])]
      simp [lc, ga, hall]
  · left
    have h5' : ¬ ((1 : Int) ≤ (U.length : Int) ∧ (U.length : Int) ≤ 5) := by omega
    refine def_eq rfl ?_
    unfold b_is_scale
    by_cases q : (1 : Int) ≤ (U.length : Int)
    · have q2 : ¬ (U.length : Int) ≤ 5 := fun w => h5' ⟨q, w⟩
      simp [q, q2]
    · simp [q]
def rawD (U : List RU) (p : Int) (md : List Nat) (tr pr : Bool) : D := .tup [.tup (U.map ruD), .int p, .str md, .bl tr, .bl pr]
theorem raw_style {U : List RU} {p : Int} {md : List Nat} {tr pr : Bool} (hl : U.length ≤ 1000) (hn : ∀ u ∈ U, u.1.length ≤ 1000) (m : Mem) : m_is_style [rawD U p md tr pr] m = .ok (.bl false) m ∨ ∃ s, Good s ∧ rawD U p md tr pr = s.toD := by
  rcases raw_scale hl hn m with h | ⟨sc, h1, h2⟩
  · left
    generalize hUU : U.map ruD = UU at *
    unfold rawD
    rw [hUU]
    simp [m_is_style, b_is_style, atI_0, h]
  · have hs := m_is_scale_eq (m := m) h2
    have e : U.map ruD = sc.map unitD := by
      rw [h1, List.map_map]
      rfl
    by_cases c1 : 0 ≤ p ∧ p ≤ 2
    · by_cases c2 : md ∈ [DOWN, UP, HALF, EVEN]
      · right
        refine ⟨⟨sc, p.toNat, md, tr, pr⟩, ⟨h2, by show p.toNat ≤ 2; omega, c2⟩, ?_⟩
        unfold rawD Sty.toD
        dsimp only
        rw [e, Int.toNat_of_nonneg c1.1]
      · left
        unfold rawD
        rw [e]
        generalize sc.map unitD = UU at *
        simp only [List.mem_cons, List.not_mem_nil, or_false, not_or] at c2
        obtain ⟨q1, q2, q3, q4⟩ := c2
        have b1 : (DOWN == md) = false := by rw [beq_eq_false_iff_ne]; exact fun z => q1 z.symm
        have b2 : (UP == md) = false := by rw [beq_eq_false_iff_ne]; exact fun z => q2 z.symm
        have b3 : (HALF == md) = false := by rw [beq_eq_false_iff_ne]; exact fun z => q3 z.symm
        have b4 : (EVEN == md) = false := by rw [beq_eq_false_iff_ne]; exact fun z => q4 z.symm
        have nk : ∀ m, gNotInK [[100, 111, 119, 110], [117, 112], [104, 97, 108, 102], [101, 118, 101, 110]] (.str md) m = .ok (.bl true) m := fun m => by
          rw [gNotInK_s]
          simp only [List.any_cons, List.any_nil]
          rw [b1, b2, b3, b4]
          rfl
        simp [-gNotInK_s, m_is_style, b_is_style, atI_0, atI_1, atI_2, hs, m_is_count_eq, c1, nk]
    · left
      unfold rawD
      rw [e]
      generalize sc.map unitD = UU at *
      have c1' : ¬ ((0 : Int) ≤ p ∧ p ≤ 2) := c1
      simp [m_is_style, b_is_style, atI_0, atI_1, hs, m_is_count_eq, c1']
/-! ## the text of a style -/
def piece (u : List Nat × Int) : List Nat := digs u.2 ++ [58] ++ u.1
def tail1 (tr pr : Bool) : List Nat := (if tr = true then [32, 116, 114, 105, 109] else []) ++ (if pr = true then [32, 112, 114, 111, 109, 111, 116, 101] else [])
def units (s : Sty) : List Nat := TL.joinL [44] (s.sc.map piece)
def form (s : Sty) : List Nat := units s ++ [32] ++ digs s.pl ++ [32] ++ s.md ++ (if s.tr = true then [32, 116, 114, 105, 109] else []) ++ (if s.pr = true then [32, 112, 114, 111, 109, 111, 116, 101] else [])
theorem joinL_len (c : Nat) (k : Nat) : ∀ L : List (List Nat), (∀ w ∈ L, w.length ≤ k) → (TL.joinL [c] L).length ≤ L.length * (k + 1)
  | [], _ => by simp [TL.joinL]
  | [p], h => by
    have := h p List.mem_cons_self
    simp [TL.joinL]
    omega
  | p :: q :: r, h => by
    have h1 := h p List.mem_cons_self
    have ih := joinL_len c k (q :: r) fun w hw => h w (List.mem_cons_of_mem _ hw)
    rw [TL.joinL, List.length_append, List.length_append, List.length_cons (as := q :: r), Nat.add_mul]
    simp only [List.length_cons, List.length_nil] at ih ⊢
    omega
theorem gStr_e {v : Int} (h0 : 0 ≤ v) (h1 : v ≤ 16000000000000) (m : Mem) : gStr [.int v] m = .ok (.str (digs v)) m := by
  have : (16000000000000 : Int) < 10 ^ 60 := by decide +kernel
  exact str_ok h0 (by omega)
theorem digs_14 {v : Int} (h0 : 0 ≤ v) (h1 : v ≤ 16000000000000) : (digs v).length ≤ 14 := by
  obtain ⟨k, rfl⟩ := Int.eq_ofNat_of_zero_le h0
  exact digs_len (by omega) (by have : (10 : Nat) ^ 14 = 100000000000000 := by decide +kernel
                                omega)
theorem piece_len {s : Sty} (g : Good s) : ∀ u ∈ s.sc, (piece u).length ≤ 18 := fun u hu => by
  have := g.sc.big u hu
  have := digs_14 (v := u.2) (by omega) (by omega)
  have := g.name u hu
  unfold piece
  simp
  omega
theorem units_len {s : Sty} (g : Good s) : (units s).length ≤ 95 := by
  have := joinL_len 44 18 (s.sc.map piece) (fun w hw => by
    obtain ⟨u, hu, rfl⟩ := List.mem_map.mp hw
    exact piece_len g u hu)
  have := g.sc.len
  rw [List.length_map] at *
  unfold units
  have : s.sc.length * (18 + 1) ≤ 5 * 19 := Nat.mul_le_mul_right _ (by omega)
  omega
theorem gaS {a b : List Nat} {m : Mem} (h : a.length + b.length ≤ 1000) : gAdd (.str a) (.str b) m = .ok (.str (a ++ b)) m := by rw [gAdd_s, if_pos (sz_ok h)]
theorem strsO_map : ∀ L : List (List Nat), strsO (L.map D.str) = some (L.map tx)
  | [] => rfl
  | x :: L => by
    rw [List.map_cons, strsO, strsO_map L]
    rfl
theorem map_tx_tl : ∀ l : List (List Nat), (l.map tx).map TL.tl = l
  | [] => rfl
  | x :: l => by rw [List.map_cons, List.map_cons, map_tx_tl l]; rfl
theorem join_tx (a : List Nat) (ys : List (List Nat)) : Txt.join (tx a) (ys.map tx) = tx (TL.joinL a ys) := by
  have e := TL.tl_join (tx a) (ys.map tx)
  rw [map_tx_tl] at e
  exact TL.ext_tl ((congrArg TL.tl (TL.join_eq (tx a) (ys.map tx))).trans e)
theorem gJoin_e {L : List (List Nat)} (h : ∀ w ∈ L, w.length ≤ 1000) (hl : L.length ≤ 400) (m : Mem) : gJoin (.str [44]) [.lst (L.map D.str)] m = .ok (.str (TL.joinL [44] L)) m := by
  have sm : ((L.map tx).map (fun x : Str => x.length)).sum + (L.map tx).length * ([44] : List Nat).length ≤ 1000000 := by
    have : ∀ K : List (List Nat), (∀ w ∈ K, w.length ≤ 1000) → ((K.map tx).map (fun x : Str => x.length)).sum ≤ K.length * 1000 := fun K => by
      induction K with
      | nil => intro _; simp
      | cons x K ih =>
        intro hK
        have e : (tx x).length = x.length := by show x.toArray.size = _; simp
        have := ih fun w hw => hK w (List.mem_cons_of_mem _ hw)
        have := hK x List.mem_cons_self
        simp only [List.map_cons, List.sum_cons, List.length_cons, e]
        omega
    have := this L h
    rw [List.length_map]
    simp only [List.length_cons, List.length_nil]
    omega
  unfold gJoin
  show (match strsO (L.map D.str) with
      | some ts => if decide ((ts.map (fun x : Str => x.length)).sum + ts.length * ([44] : List Nat).length ≤ 1000000) then (Out.ok (D.str (cd (Txt.join (tx [44]) ts))) m : Out D) else Out.bad
      | none => Out.bad) = _
  rw [strsO_map]
  dsimp only
  rw [if_pos (decide_eq_true sm)]
  have j : Txt.join (tx [44]) (L.map tx) = tx (TL.joinL [44] L) := join_tx [44] L
  rw [j, cd_tx]
theorem md_len {s : Sty} (g : Good s) : s.md.length ≤ 4 := by
  have := g.md
  simp only [List.mem_cons, List.not_mem_nil, or_false] at this
  rcases this with h | h | h | h <;> rw [h] <;> decide
theorem pl_dig {s : Sty} (g : Good s) : (digs (s.pl : Int)).length ≤ 1 := digs_len (e := 1) (by omega) (by have := g.pl; omega)
theorem formatted_e {s : Sty} (g : Good s) (m : Mem) : m_formatted [s.toD] m = .ok (.str (form s)) m := by
  have lc := lc_pure (g := gT [7, 8]) (ft := tYesS) (f := sBin gAdd (sBin gAdd (sCB gStr (sCons (sVar 8) (sNil))) (sC (.str [58]))) (sVar 7)) (m := m) (e0 := [some s.toD, some (.tup (s.sc.map unitD)), some (.int (s.pl : Int)), some (.str s.md), some (.bl s.tr), some (.bl s.pr), none, none, none]) (mk := unitD) (keep := fun _ => true) (val := fun u => .str (piece u)) s.sc []
    (fun u hu => ⟨_, rfl, rfl, fun _ => by
      have b := g.sc.big u hu
      have d := digs_14 (v := u.2) (by omega) (by omega)
      have n := g.name u hu
      have e := gStr_e (v := u.2) (by omega) (by omega) m
      have a1 : gAdd (.str (digs u.2)) (.str [58]) m = .ok (.str (digs u.2 ++ [58])) m := gaS (by simp; omega)
      have a2 : gAdd (.str (digs u.2 ++ [58])) (.str u.1) m = .ok (.str (digs u.2 ++ [58] ++ u.1)) m := gaS (by simp; omega)
      simp [-gAdd_s, e, a1, a2, piece]⟩) (by have := g.sc.len; simp; omega)
  rw [List.filter_eq_self.mpr (fun _ _ => rfl), List.nil_append] at lc
  have z : (s.sc.map fun u => D.str (piece u)) = (s.sc.map piece).map D.str := by rw [List.map_map]; rfl
  rw [z] at lc
  have gj := gJoin_e (L := s.sc.map piece) (fun w hw => by
    obtain ⟨u, hu, rfl⟩ := List.mem_map.mp hw
    have := piece_len g u hu
    omega) (by rw [List.length_map]; have := g.sc.len; omega) m
  have ul := units_len g
  have ml := md_len g
  have pd := pl_dig g
  have gp := gStr_e (v := (s.pl : Int)) (by omega) (by have := g.pl; omega) m
  have gj : gJoin (.str [44]) [.lst ((s.sc.map piece).map D.str)] m = .ok (.str (units s)) m := gj
  unfold form
  generalize (s.sc.map piece).map D.str = PS at *
  have t1 : gAdd (.str (units s)) (.str [32]) m = .ok (.str (units s ++ [32])) m := gaS (by simp; omega)
  have t2 : gAdd (.str (units s ++ [32])) (.str (digs s.pl)) m = .ok (.str (units s ++ [32] ++ digs s.pl)) m := gaS (by simp; omega)
  have t3 : gAdd (.str (units s ++ [32] ++ digs s.pl)) (.str [32]) m = .ok (.str (units s ++ [32] ++ digs s.pl ++ [32])) m := gaS (by simp; omega)
  have t4 : gAdd (.str (units s ++ [32] ++ digs s.pl ++ [32])) (.str s.md) m = .ok (.str (units s ++ [32] ++ digs s.pl ++ [32] ++ s.md)) m := gaS (by simp; omega)
  have l4 : (units s ++ [32] ++ digs s.pl ++ [32] ++ s.md).length ≤ 105 := by simp; omega
  generalize hT4 : units s ++ [32] ++ digs s.pl ++ [32] ++ s.md = T4 at *
  generalize units s ++ [32] ++ digs s.pl ++ [32] = T3 at *
  generalize units s ++ [32] ++ digs s.pl = T2 at *
  generalize units s ++ [32] = T1 at *
  generalize units s = T0 at *
  have t5 : ∀ w : List Nat, w.length ≤ 9 → gAdd (.str T4) (.str w) m = .ok (.str (T4 ++ w)) m := fun w hw => gaS (by omega)
  have t6 : ∀ w v : List Nat, w.length ≤ 9 → v.length ≤ 9 → gAdd (.str (T4 ++ w)) (.str v) m = .ok (.str (T4 ++ w ++ v)) m := fun w v hw hv => gaS (by rw [List.length_append]; omega)
  have t5a := t5 [32, 116, 114, 105, 109] (by simp)
  have t5b := t5 [] (by simp)
  have t6a := t6 [32, 116, 114, 105, 109] [32, 112, 114, 111, 109, 111, 116, 101] (by simp) (by simp)
  have t6b := t6 [32, 116, 114, 105, 109] [] (by simp) (by simp)
  have t6c := t6 [] [32, 112, 114, 111, 109, 111, 116, 101] (by simp) (by simp)
  have t6d := t6 [] [] (by simp) (by simp)
  generalize hXa : T4 ++ [32, 116, 114, 105, 109] = Xa at *
  generalize hXb : T4 ++ [] = Xb at *
  have eD : s.toD = .tup [.tup (s.sc.map unitD), .int (s.pl : Int), .str s.md, .bl s.tr, .bl s.pr] := rfl
  generalize s.sc.map unitD = US at *
  generalize (s.pl : Int) = P at *
  generalize s.md = MD at *
  generalize digs P = DP at *
  obtain ⟨sd, hsd⟩ : ∃ d, d = s.toD := ⟨_, rfl⟩
  rw [← hsd] at eD lc ⊢
  refine def_eq rfl ?_
  unfold b_formatted
  show finD m.length (bCons _ _ [some sd, none, none, none, none, none, none, none, none] m) = _
  rw [bcons_nx (e1 := [some sd, some (.tup US), some (.int P), some (.str MD), some (.bl s.tr), some (.bl s.pr), none, none, none]) (m1 := m) (by rw [eD]; simp)]
  rw [bcons_nx (e1 := [some sd, some (.tup US), some (.int P), some (.str MD), some (.bl s.tr), some (.bl s.pr), some (.str T0), none, none]) (m1 := m) (by simp [lc, tyD, gj])]
  clear lc gj eD hsd z
  generalize s.tr = tr at *
  generalize s.pr = pr at *
  have fin : (kRet (sBin gAdd (sBin gAdd (sBin gAdd (sBin gAdd (sBin gAdd (sBin gAdd (sVar 6) (sC (.str [32]))) (sCB gStr (sCons (sVar 2) (sNil)))) (sC (.str [32]))) (sVar 3)) (sIfE (sTest (sVar 4)) (sC (.str [32, 116, 114, 105, 109])) (sC (.str [])))) (sIfE (sTest (sVar 5)) (sC (.str [32, 112, 114, 111, 109, 111, 116, 101])) (sC (.str []))))) [some sd, some (.tup US), some (.int P), some (.str MD), some (.bl tr), some (.bl pr), some (.str T0), none, none] m = .rt (.str (T4 ++ (if tr = true then [32, 116, 114, 105, 109] else []) ++ (if pr = true then [32, 112, 114, 111, 109, 111, 116, 101] else []))) m := by
    cases tr <;> cases pr <;> simp only [Bool.false_eq_true, if_false, if_true, hXa, hXb] <;> simp only [kRet_e, sBin_e, sVar_e, sC_e, sCB_e, sCons_e, sNil_e, sIfE_e, sTest_e, List.getElem?_cons_succ, List.getElem?_cons_zero, bind_ok, asB_e, Bool.false_eq_true, if_false, if_true, gp, t1, t2, t3, t4, t5a, t5b, t6a, t6b, t6c, t6d, thn_ok]
  rw [fin]
  exact pack_le (Nat.le_refl _)
/-! ## the law's own text of a style -/
def foldJ : List (List Nat × Int) → List Nat → List Nat
  | [], acc => acc
  | u :: l, acc => foldJ l (acc ++ (if acc = [] then [] else [44]) ++ digs u.2 ++ [58] ++ u.1)
theorem foldJ_eq : ∀ (l : List (List Nat × Int)) (acc : List Nat), foldJ l acc = if acc = [] then TL.joinL [44] (l.map piece) else if l = [] then acc else acc ++ ([44] ++ TL.joinL [44] (l.map piece))
  | [], acc => by
    unfold foldJ
    by_cases h : acc = []
    · rw [if_pos h, h]; rfl
    · rw [if_neg h, if_pos rfl]
  | u :: l, acc => by
    have ne : ∀ a : List Nat, ¬ (a ++ digs u.2 ++ [58] ++ u.1 = []) := fun a => by simp
    have cc : ∀ (p q : List Nat) (r : List (List Nat)), TL.joinL [44] (p :: q :: r) = p ++ ([44] ++ TL.joinL [44] (q :: r)) := fun _ _ _ => rfl
    have c1 : ∀ p : List Nat, TL.joinL [44] [p] = p := fun _ => rfl
    rw [foldJ, foldJ_eq l, if_neg (ne _)]
    by_cases h : acc = []
    · rw [if_pos h, if_pos h, h]
      cases l with
      | nil =>
        rw [if_pos rfl, List.map_cons, List.map_nil, c1]
        simp [piece]
      | cons v l =>
        rw [if_neg (show ¬ (v :: l = []) by simp), List.map_cons, List.map_cons, List.map_cons, cc]
        simp [piece]
    · rw [if_neg h, if_neg h, if_neg (show ¬ (u :: l = []) by simp)]
      cases l with
      | nil =>
        rw [if_pos rfl, List.map_cons, List.map_nil, c1]
        simp [piece]
      | cons v l =>
        rw [if_neg (show ¬ (v :: l = []) by simp), List.map_cons, List.map_cons, List.map_cons, cc]
        simp [piece]
theorem form_loop {sd : D} {m : Mem} : ∀ (l : List (List Nat × Int)) (acc : List Nat) (x2 x3 : Option D), (∀ u ∈ l, 0 ≤ u.2 ∧ u.2 ≤ 16000000000000 ∧ u.1.length ≤ 3) → acc.length + 20 * l.length ≤ 900 →
    ∃ y2 y3, forL (gT [2, 3]) wb__law_form_1 (l.map unitD) [some sd, some (.str acc), x2, x3] m = .nx [some sd, some (.str (foldJ l acc)), y2, y3] m
  | [], acc, x2, x3, _, _ => ⟨x2, x3, rfl⟩
  | u :: l, acc, x2, x3, h, hl => by
    rw [List.length_cons] at hl
    obtain ⟨u0, u1, u2⟩ := h u List.mem_cons_self
    have d := digs_14 u0 u1
    have e := gStr_e u0 u1 m
    obtain ⟨sep, hsep⟩ : ∃ sep : List Nat, sep = if acc = [] then [] else [44] := ⟨_, rfl⟩
    have sl : sep.length ≤ 1 := by rw [hsep]; split <;> simp
    have a1 : gAdd (.str acc) (.str sep) m = .ok (.str (acc ++ sep)) m := gaS (by omega)
    have a2 : gAdd (.str (acc ++ sep)) (.str (digs u.2)) m = .ok (.str (acc ++ sep ++ digs u.2)) m := gaS (by simp; omega)
    have a3 : gAdd (.str (acc ++ sep ++ digs u.2)) (.str [58]) m = .ok (.str (acc ++ sep ++ digs u.2 ++ [58])) m := gaS (by simp; omega)
    have a4 : gAdd (.str (acc ++ sep ++ digs u.2 ++ [58])) (.str u.1) m = .ok (.str (acc ++ sep ++ digs u.2 ++ [58] ++ u.1)) m := gaS (by simp; omega)
    obtain ⟨y2, y3, ih⟩ := form_loop (sd := sd) (m := m) l (acc ++ sep ++ digs u.2 ++ [58] ++ u.1) (some (.str u.1)) (some (.int u.2)) (fun v hv => h v (List.mem_cons_of_mem _ hv)) (by simp; omega)
    refine ⟨y2, y3, ?_⟩
    rw [List.map_cons, forL]
    have ge : gT [2, 3] [some sd, some (.str acc), x2, x3] (unitD u) = some [some sd, some (.str acc), some (.str u.1), some (.int u.2)] := by simp [unitD]
    rw [ge]
    dsimp only
    have st : wb__law_form_1 [some sd, some (.str acc), some (.str u.1), some (.int u.2)] m = .nx [some sd, some (.str (acc ++ sep ++ digs u.2 ++ [58] ++ u.1)), some (.str u.1), some (.int u.2)] m := by
      unfold wb__law_form_1
      by_cases c : acc = []
      · have hs : sep = [] := by rw [hsep, if_pos c]
        rw [hs] at a1 a2 a3 a4 ⊢
        have nb : (!(acc == [])) = false := by rw [c]; rfl
        simp only [kSet_e, sBin_e, sVar_e, sC_e, sCB_e, sCons_e, sNil_e, sIfE_e, sTest_e, List.getElem?_cons_succ, List.getElem?_cons_zero, bind_ok, gNe_s, nb, asB_e, Bool.false_eq_true, if_false, a1, e, a2, a3, a4, thn_ok, List.length_cons, List.length_nil]
        simp
      · have hs : sep = [44] := by rw [hsep, if_neg c]
        rw [hs] at a1 a2 a3 a4 ⊢
        have nb : (!(acc == [])) = true := by
          rw [Bool.not_eq_true', beq_eq_false_iff_ne]
          exact c
        simp only [kSet_e, sBin_e, sVar_e, sC_e, sCB_e, sCons_e, sNil_e, sIfE_e, sTest_e, List.getElem?_cons_succ, List.getElem?_cons_zero, bind_ok, gNe_s, nb, asB_e, if_true, a1, e, a2, a3, a4, thn_ok, List.length_cons, List.length_nil]
        simp
    rw [st]
    dsimp only
    rw [ih, foldJ, ← hsep]
theorem law_form_e {s : Sty} (g : Good s) (m : Mem) : m__law_form [s.toD] m = .ok (.str (form s)) m := by
  have ul := units_len g
  have ml := md_len g
  have pd := pl_dig g
  have gp := gStr_e (v := (s.pl : Int)) (by omega) (by have := g.pl; omega) m
  obtain ⟨y2, y3, fl⟩ := form_loop (sd := s.toD) (m := m) s.sc [] none none (fun u hu => ⟨by have := g.sc.big u hu; omega, by have := g.sc.big u hu; omega, g.name u hu⟩) (by have := g.sc.len; simp; omega)
  rw [foldJ_eq, if_pos rfl] at fl
  have fl : forL (gT [2, 3]) wb__law_form_1 (s.sc.map unitD) [some s.toD, some (.str []), none, none] m = .nx [some s.toD, some (.str (units s)), y2, y3] m := fl
  have i0 : ∀ m, gIx s.toD (.int 0) m = .ok (.tup (s.sc.map unitD)) m := fun m => rfl
  have i1 : ∀ m, gIx s.toD (.int 1) m = .ok (.int (s.pl : Int)) m := fun m => rfl
  have i2 : ∀ m, gIx s.toD (.int 2) m = .ok (.str s.md) m := fun m => rfl
  have i3 : ∀ m, gIx s.toD (.int 3) m = .ok (.bl s.tr) m := fun m => rfl
  have i4 : ∀ m, gIx s.toD (.int 4) m = .ok (.bl s.pr) m := fun m => rfl
  unfold form
  have t1 : gAdd (.str (units s)) (.str [32]) m = .ok (.str (units s ++ [32])) m := gaS (by simp; omega)
  have t2 : gAdd (.str (units s ++ [32])) (.str (digs s.pl)) m = .ok (.str (units s ++ [32] ++ digs s.pl)) m := gaS (by simp; omega)
  have t3 : gAdd (.str (units s ++ [32] ++ digs s.pl)) (.str [32]) m = .ok (.str (units s ++ [32] ++ digs s.pl ++ [32])) m := gaS (by simp; omega)
  have t4 : gAdd (.str (units s ++ [32] ++ digs s.pl ++ [32])) (.str s.md) m = .ok (.str (units s ++ [32] ++ digs s.pl ++ [32] ++ s.md)) m := gaS (by simp; omega)
  have l4 : (units s ++ [32] ++ digs s.pl ++ [32] ++ s.md).length ≤ 105 := by simp; omega
  generalize hT4 : units s ++ [32] ++ digs s.pl ++ [32] ++ s.md = T4 at *
  generalize units s ++ [32] ++ digs s.pl ++ [32] = T3 at *
  generalize units s ++ [32] ++ digs s.pl = T2 at *
  generalize units s ++ [32] = T1 at *
  generalize units s = T0 at *
  have t5 : ∀ w : List Nat, w.length ≤ 9 → gAdd (.str T4) (.str w) m = .ok (.str (T4 ++ w)) m := fun w hw => gaS (by omega)
  have t6 : ∀ w v : List Nat, w.length ≤ 9 → v.length ≤ 9 → gAdd (.str (T4 ++ w)) (.str v) m = .ok (.str (T4 ++ w ++ v)) m := fun w v hw hv => gaS (by rw [List.length_append]; omega)
  have t5a := t5 [32, 116, 114, 105, 109] (by simp)
  have t5b := t5 [] (by simp)
  have t6a := t6 [32, 116, 114, 105, 109] [32, 112, 114, 111, 109, 111, 116, 101] (by simp) (by simp)
  have t6b := t6 [32, 116, 114, 105, 109] [] (by simp) (by simp)
  have t6c := t6 [] [32, 112, 114, 111, 109, 111, 116, 101] (by simp) (by simp)
  have t6d := t6 [] [] (by simp) (by simp)
  generalize hXa : T4 ++ [32, 116, 114, 105, 109] = Xa at *
  generalize hXb : T4 ++ [] = Xb at *
  generalize s.sc.map unitD = US at *
  generalize (s.pl : Int) = P at *
  generalize s.md = MD at *
  generalize digs P = DP at *
  generalize s.tr = tr at *
  generalize s.pr = pr at *
  generalize s.toD = sd at *
  refine def_eq rfl ?_
  unfold b__law_form
  show finD m.length (bCons _ _ [some sd, none, none, none] m) = _
  rw [bcons_nx (e1 := [some sd, some (.str []), none, none]) (m1 := m) (by simp)]
  have fe : (kFor (iOf asT (sBin gIx (sVar 0) (sC (.int 0)))) (gT [2, 3]) wb__law_form_1) [some sd, some (.str []), none, none] m = .nx [some sd, some (.str T0), y2, y3] m := by
    rw [← fl]
    generalize wb__law_form_1 = WB at *
    simp [i0]
  rw [bcons_nx fe]
  rw [bcons_nx (e1 := [some sd, some (.str T4), y2, y3]) (m1 := m) (by
    simp only [kSet_e, sBin_e, sVar_e, sC_e, sCB_e, sCons_e, sNil_e, List.getElem?_cons_succ, List.getElem?_cons_zero, bind_ok, i1, i2, gp, t1, t2, t3, t4, thn_ok]
    simp)]
  have fin : (kRet (sBin gAdd (sBin gAdd (sVar 1) (sIfE (sTest (sBin gIx (sVar 0) (sC (.int 3)))) (sC (.str [32, 116, 114, 105, 109])) (sC (.str [])))) (sIfE (sTest (sBin gIx (sVar 0) (sC (.int 4)))) (sC (.str [32, 112, 114, 111, 109, 111, 116, 101])) (sC (.str []))))) [some sd, some (.str T4), y2, y3] m = .rt (.str (T4 ++ (if tr = true then [32, 116, 114, 105, 109] else []) ++ (if pr = true then [32, 112, 114, 111, 109, 111, 116, 101] else []))) m := by
    cases tr <;> cases pr <;> simp only [Bool.false_eq_true, if_false, if_true, hXa, hXb] <;> simp only [kRet_e, sBin_e, sVar_e, sC_e, sIfE_e, sTest_e, List.getElem?_cons_succ, List.getElem?_cons_zero, bind_ok, asB_e, Bool.false_eq_true, if_false, if_true, i3, i4, t5a, t5b, t6a, t6b, t6c, t6d, thn_ok]
  rw [fin]
  exact pack_le (Nat.le_refl _)
/-! ## reading a text -/
def wrd (c : Nat) (x : List Nat) : List (List Nat) := (Txt.split (tx x) (tx [c])).map cd
theorem spl_b (S : List Nat) : ∀ (l : List Nat) (k : Nat) (acc : List Nat), (TL.spl S k acc l).length ≤ l.length + 1 ∧ ∀ w ∈ TL.spl S k acc l, w.length ≤ acc.length + l.length
  | [], k, acc => by
    rw [TL.spl_nil]
    exact ⟨by simp, fun w hw => by
      have : w = acc := by simpa using hw
      rw [this]
      simp⟩
  | c :: r, 0, acc => by
    by_cases h : TL.pre S (c :: r) = true
    · rw [TL.spl_hit h]
      obtain ⟨i1, i2⟩ := spl_b S r (S.length - 1) []
      refine ⟨by simp; omega, fun w hw => ?_⟩
      rcases List.mem_cons.mp hw with e | e
      · rw [e]; simp
      · have := i2 w e
        simp at this ⊢
        omega
    · rw [Bool.not_eq_true] at h
      rw [TL.spl_miss h]
      obtain ⟨i1, i2⟩ := spl_b S r 0 (acc ++ [c])
      refine ⟨by simp; omega, fun w hw => ?_⟩
      have := i2 w hw
      simp at this ⊢
      omega
  | c :: r, k + 1, acc => by
    obtain ⟨i1, i2⟩ := spl_b S r k acc
    show (TL.spl S k acc r).length ≤ _ ∧ ∀ w ∈ TL.spl S k acc r, _
    refine ⟨by simp; omega, fun w hw => ?_⟩
    have := i2 w hw
    simp
    omega
theorem wrd_spl {c : Nat} (hc : c < 256) (x : List Nat) : wrd c x = TL.spl [c] 0 [] x := by
  have e := TL.split_spl (tx x) (tx [c]) (by show (tx [c]).cps.toList ≠ []; simp [tx]) (TL.kind_ok (by show (#[c] : Array Nat).all (· < 256) = true; simp [hc]))
  exact e
theorem wrd_b {c : Nat} (hc : c < 256) (x : List Nat) : (wrd c x).length ≤ x.length + 1 ∧ ∀ w ∈ wrd c x, w.length ≤ x.length := by
  rw [wrd_spl hc]
  have := spl_b [c] x 0 []
  simpa using this
theorem wrd_join {c : Nat} (hc : c < 256) {ws : List (List Nat)} (h0 : ws ≠ []) (h : ∀ w ∈ ws, c ∉ w) : wrd c (TL.joinL [c] ws) = ws := by
  rw [wrd_spl hc]
  exact TL.spl_join h0 h
theorem gSplit_e {c : Nat} {x : List Nat} (hx : x.length ≤ 1000) (m : Mem) : gSplit (.str x) [.str [c]] m = .ok (.lst ((wrd c x).map D.str)) m := by
  show (if (decide (x.length ≤ 1000) && !([c] : List Nat).isEmpty) = true then (Out.ok (D.lst ((Txt.split (tx x) (tx [c])).map fun y => D.str (cd y))) m : Out D) else Out.bad) = _
  rw [decide_eq_true hx]
  unfold wrd
  rw [List.map_map]
  rfl
theorem par_b (S : List Nat) : ∀ (l acc : List Nat) (a b : List Nat), TL.par S acc l = some (a, b) → a.length ≤ acc.length + l.length ∧ b.length ≤ l.length
  | [], acc, a, b, h => by cases h
  | c :: r, acc, a, b, h => by
    unfold TL.par at h
    split at h
    · cases h
      refine ⟨by simp, ?_⟩
      rw [List.length_drop]
      omega
    · have := par_b S r (acc ++ [c]) a b h
      simp at this ⊢
      omega
def pA (w : List Nat) : List Nat := cd (Txt.partition (tx w) (tx [58])).1
def pB (w : List Nat) : List Nat := cd (Txt.partition (tx w) (tx [58])).2.1
def pC (w : List Nat) : List Nat := cd (Txt.partition (tx w) (tx [58])).2.2
theorem pAC_b (w : List Nat) : (pA w).length ≤ w.length ∧ (pC w).length ≤ w.length := by
  have e := TL.partition_par (tx w) (tx [58]) (by show (tx [58]).cps.toList ≠ []; simp [tx])
  unfold pA pC
  rw [e]
  cases h : TL.par (TL.tl (tx [58])) [] (TL.tl (tx w)) with
  | none =>
    have z : cd Str.empty = [] := rfl
    exact ⟨by rw [cd_tx]; exact Nat.le_refl _, by rw [z]; simp⟩
  | some p =>
    obtain ⟨a, b⟩ := p
    have := par_b _ _ _ _ _ h
    have tl : (TL.tl (tx w)).length = w.length := rfl
    have ca : cd (⟨a.toArray⟩ : Str) = a := cd_tx a
    have cb : cd (⟨b.toArray⟩ : Str) = b := cd_tx b
    dsimp only
    rw [ca, cb]
    rw [tl, List.length_nil, Nat.zero_add] at this
    exact this
def parseU (w : List Nat) : RU := (pC w, if isDs (pA w) = true then some ((dval (pA w) : Nat) : Int) else none)
theorem isDs_int {w : List Nat} (h : isDs w = true) (m : Mem) : gInt [.str w] m = .ok (.int (dval w)) m := by
  unfold isDs at h
  simp only [Bool.and_eq_true, decide_eq_true_eq] at h
  exact int_eq h.2 (fun z => by rw [z] at h; simp at h) (by omega)
theorem parsed_e {w : List Nat} (hw : w.length ≤ 900) (m : Mem) : m_parsed_unit [.str w] m = .ok (ruD (parseU w)) m := by
  have b := pAC_b w
  have gp : gPart (.str w) [.str [58]] m = .ok (.tup [.str (pA w), .str (pB w), .str (pC w)]) m := by
    show (if (sz w.length && !([58] : List Nat).isEmpty) = true then _ else _) = _
    rw [sz_ok (by omega)]
    rfl
  have dg := m_is_digits_e (w := pA w) (m := m) (by omega)
  refine def_eq rfl ?_
  unfold b_parsed_unit
  show finD m.length (bCons _ _ [some (.str w), none, none, none] m) = _
  rw [bcons_nx (e1 := [some (.str w), some (.str (pA w)), some (.str (pB w)), some (.str (pC w))]) (m1 := m) (by simp [tyD, gp])]
  unfold ruD parseU
  cases q : isDs (pA w) with
  | false =>
    rw [q] at dg
    simp [dg, optI]
  | true =>
    rw [q] at dg
    have gi := isDs_int q m
    simp [dg, optI, gi]
def trimW : List Nat := [116, 114, 105, 109]
def promW : List Nat := [112, 114, 111, 109, 111, 116, 101]
def w0 (x : List Nat) : List Nat := (wrd 32 x).getD 0 []
def w1 (x : List Nat) : List Nat := (wrd 32 x).getD 1 []
def w2 (x : List Nat) : List Nat := (wrd 32 x).getD 2 []
def hasW (x w : List Nat) : Bool := ((wrd 32 x).drop 3).any fun y => y == w
def rawU (x : List Nat) : List RU := (wrd 44 (w0 x)).map parseU
def rawX (x : List Nat) : D := rawD (rawU x) ((dval (w1 x) : Nat) : Int) (w2 x) (hasW x trimW) (hasW x promW)
theorem cut3 (L : List D) : cutD L (some 3) none = L.drop 3 := by
  unfold cutD
  have e : HT.sIx L.length 0 (some 3) = min 3 L.length := HT.sIx_nat L.length 0 3
  rw [e, HT.sIx_none]
  by_cases h : 3 ≤ L.length
  · rw [Nat.min_eq_left h]
    exact List.take_of_length_le (by rw [List.length_drop]; exact Nat.le_refl _)
  · rw [Nat.min_eq_right (by omega), List.drop_length, List.drop_of_length_le (by omega)]
    simp
theorem gIn_w {w : List Nat} (hw : w = trimW ∨ w = promW) (K : List (List Nat)) (m : Mem) : gIn (.str w) (.lst (K.map D.str)) m = .ok (.bl (K.any fun y => y == w)) m := by
  have fl : (K.map D.str).all flatD = true := by
    rw [List.all_map, List.all_eq_true]
    exact fun x _ => rfl
  have an : ((K.map D.str).any fun y => eqD 8 y (.str w)) = K.any fun y => y == w := by
    rw [List.any_map]
    rfl
  have e : inO (.str w) (.lst (K.map D.str)) m = if flatD (.str w) && (K.map D.str).all flatD then some ((K.map D.str).any fun y => eqD 8 y (.str w)) else none := by
    rcases hw with rfl | rfl <;> rfl
  unfold gIn
  rw [e, fl, an]
  rfl
theorem w_len (x : List Nat) : (w0 x).length ≤ x.length ∧ (w1 x).length ≤ x.length := by
  have b := (wrd_b (c := 32) (by decide) x).2
  have one : ∀ k, ((wrd 32 x).getD k []).length ≤ x.length := fun k => by
    rw [List.getD_eq_getElem?_getD]
    cases h : (wrd 32 x)[k]? with
    | none => simp
    | some w => exact b w (List.mem_of_getElem? h)
  exact ⟨one 0, one 1⟩
theorem rawU_b {x : List Nat} (hx : x.length ≤ 300) : (rawU x).length ≤ 1000 ∧ ∀ u ∈ rawU x, u.1.length ≤ 1000 := by
  have b := wrd_b (c := 44) (by decide) (w0 x)
  have l := (w_len x).1
  unfold rawU
  rw [List.length_map]
  refine ⟨by omega, fun u hu => ?_⟩
  obtain ⟨w, hw, rfl⟩ := List.mem_map.mp hu
  have := b.2 w hw
  have := (pAC_b w).2
  show (pC w).length ≤ 1000
  omega
abbrev PT : Ev → Mem → SO := bCons (kIf (sOrT (sNotT (sTest (sCall 1 m_is_style (sCons (sVar 3) (sNil))))) (sTest (sBin gNe (sCall 1 m_formatted (sCons (sVar 3) (sNil))) (sVar 0)))) (kRaise 5) (bNil)) (kRet (sVar 3))
theorem parse_head {x : List Nat} (hx : x.length ≤ 300) (m : Mem) : (¬ (3 ≤ (wrd 32 x).length ∧ isDs (w1 x) = true) ∧ m_parse_style [.str x] m = .er 5 m) ∨
    ((3 ≤ (wrd 32 x).length ∧ isDs (w1 x) = true) ∧ m_parse_style [.str x] m = finD m.length (PT [some (.str x), some (.lst ((wrd 32 x).map D.str)), some (.tup ((rawU x).map ruD)), some (rawX x), none] m)) := by
  have wb := wrd_b (c := 32) (by decide) x
  have wl := w_len x
  have gs := gSplit_e (c := 32) (x := x) (by omega) m
  have gs0 := gSplit_e (c := 44) (x := w0 x) (by omega) m
  have dg := m_is_digits_e (w := w1 x) (m := m) (by omega)
  have gl : gLen [.lst ((wrd 32 x).map D.str)] m = .ok (.int (wrd 32 x).length) m := by rw [gLen_l, List.length_map]
  have ix : ∀ (k : Nat) m, k < (wrd 32 x).length → gIx (.lst ((wrd 32 x).map D.str)) (.int (k : Int)) m = .ok (.str ((wrd 32 x).getD k [])) m := fun k m hk => by
    rw [gIx_l, atI_nat, List.getElem?_map, List.getElem?_eq_getElem hk, List.getD_eq_getElem?_getD, List.getElem?_eq_getElem hk]
    rfl
  have un : m_parse_style [.str x] m = finD m.length (b_parse_style [some (.str x), none, none, none, none] m) := rfl
  rw [un]
  unfold b_parse_style
  rw [bcons_nx (e1 := [some (.str x), none, none, none, none]) (m1 := m) (by simp)]
  rw [bcons_nx (e1 := [some (.str x), some (.lst ((wrd 32 x).map D.str)), none, none, none]) (m1 := m) (by simp [tyD, gs])]
  by_cases h3 : 3 ≤ (wrd 32 x).length
  · have i0 := ix 0 m (by omega)
    have i1 := ix 1 m (by omega)
    have i2 := ix 2 m (by omega)
    have c3 : ¬ ((wrd 32 x).length : Int) < 3 := by omega
    have i0 : gIx (.lst ((wrd 32 x).map D.str)) (.int 0) m = .ok (.str (w0 x)) m := i0
    have i1 : gIx (.lst ((wrd 32 x).map D.str)) (.int 1) m = .ok (.str (w1 x)) m := i1
    have i2 : gIx (.lst ((wrd 32 x).map D.str)) (.int 2) m = .ok (.str (w2 x)) m := i2
    cases hd : isDs (w1 x) with
    | false =>
      left
      rw [hd] at dg
      refine ⟨fun z => Bool.noConfusion z.2, ?_⟩
      generalize (wrd 32 x).map D.str = WW at *
      generalize ((wrd 32 x).length : Int) = NL at *
      generalize m_is_digits = FD at *
      have ke : (kIf (sOrT (sTest (sBin gLtI (sCB gLen (sCons (sVar 1) (sNil))) (sC (.int 3)))) (sNotT (sTest (sCall 1 FD (sCons (sBin gIx (sVar 1) (sC (.int 1))) (sNil)))))) (kRaise 5) (bNil)) [some (.str x), some (.lst WW), none, none, none] m = .er 5 [some (.str x), some (.lst WW), none, none, none] m := by
        simp [-gLen_l, -gIx_l, gl, c3, i1, dg]
      rw [bCons_e, ke, seq_er]
      simp
    | true =>
      right
      rw [hd] at dg
      refine ⟨⟨h3, rfl⟩, ?_⟩
      have gi := isDs_int hd m
      have b44 := wrd_b (c := 44) (by decide) (w0 x)
      have lc := fun e0 h => lc_pure (g := gN 4) (ft := tYesS) (f := sCall 1 m_parsed_unit (sCons (sVar 4) (sNil))) (m := m) (e0 := e0) (mk := D.str) (keep := fun _ => true) (val := fun w => ruD (parseU w)) (wrd 44 (w0 x)) [] h (by simp; omega)
      have lc1 := lc [some (.str x), some (.lst ((wrd 32 x).map D.str)), none, none, none] (fun w hw => ⟨_, rfl, rfl, fun _ => by
        have p := parsed_e (w := w) (by have := b44.2 w hw; omega) m
        simp [p]⟩)
      rw [List.filter_eq_self.mpr (fun _ _ => rfl), List.nil_append] at lc1
      have mm : ((wrd 44 (w0 x)).map fun w => ruD (parseU w)) = (rawU x).map ruD := by unfold rawU; rw [List.map_map]; rfl
      rw [mm] at lc1
      have gt : gTuple [.lst ((rawU x).map ruD)] m = .ok (.tup ((rawU x).map ruD)) m := rfl
      have sl : gSl (.lst ((wrd 32 x).map D.str)) (some 3) none m = .ok (.lst (((wrd 32 x).drop 3).map D.str)) m := by rw [gSl_l, cut3, List.map_drop]
      have gi1 := gIn_w (.inl rfl) ((wrd 32 x).drop 3) m
      have gi2 := gIn_w (.inr rfl) ((wrd 32 x).drop 3) m
      have gi1 : gIn (.str [116, 114, 105, 109]) (.lst (((wrd 32 x).drop 3).map D.str)) m = .ok (.bl (hasW x trimW)) m := gi1
      have gi2 : gIn (.str [112, 114, 111, 109, 111, 116, 101]) (.lst (((wrd 32 x).drop 3).map D.str)) m = .ok (.bl (hasW x promW)) m := gi2
      have rx : rawX x = .tup [.tup ((rawU x).map ruD), .int ((dval (w1 x) : Nat) : Int), .str (w2 x), .bl (hasW x trimW), .bl (hasW x promW)] := rfl
      rw [rx]
      generalize ((wrd 32 x).drop 3).map D.str = DR at *
      generalize (wrd 32 x).map D.str = WW at *
      generalize (rawU x).map ruD = RR at *
      generalize (wrd 44 (w0 x)).map D.str = W4 at *
      generalize ((wrd 32 x).length : Int) = NL at *
      generalize ((dval (w1 x) : Nat) : Int) = DV at *
      generalize hasW x trimW = B1 at *
      generalize hasW x promW = B2 at *
      generalize m_is_digits = FD at *
      generalize m_parsed_unit = FP at *
      rw [bcons_nx (e1 := [some (.str x), some (.lst WW), none, none, none]) (m1 := m) (by simp [-gLen_l, -gIx_l, gl, c3, i1, dg])]
      rw [bcons_nx (e1 := [some (.str x), some (.lst WW), some (.tup RR), none, none]) (m1 := m) (by simp [-gIx_l, i0, tyD, gs0, lc1, gt])]
      rw [bcons_nx (e1 := [some (.str x), some (.lst WW), some (.tup RR), some (.tup [.tup RR, .int DV, .str (w2 x), .bl B1, .bl B2]), none]) (m1 := m) (by simp [-gIx_l, -gSl_l, i1, gi, i2, sl, gi1, gi2])]
  · left
    have c3 : ((wrd 32 x).length : Int) < 3 := by omega
    refine ⟨fun z => h3 z.1, ?_⟩
    generalize (wrd 32 x).map D.str = WW at *
    generalize ((wrd 32 x).length : Int) = NL at *
    have ke : (kIf (sOrT (sTest (sBin gLtI (sCB gLen (sCons (sVar 1) (sNil))) (sC (.int 3)))) (sNotT (sTest (sCall 1 m_is_digits (sCons (sBin gIx (sVar 1) (sC (.int 1))) (sNil)))))) (kRaise 5) (bNil)) [some (.str x), some (.lst WW), none, none, none] m = .er 5 [some (.str x), some (.lst WW), none, none, none] m := by
      simp [-gLen_l, gl, c3]
    rw [bCons_e, ke, seq_er]
    simp
theorem pt_er {x : List Nat} {W R X : D} {m : Mem} (h : m_is_style [X] m = .ok (.bl false) m) : finD m.length (PT [some (.str x), some W, some R, some X, none] m) = .er 5 m := by
  simp [PT, h]
theorem pt_good {x : List Nat} {W R : D} {s : Sty} {m : Mem} (g : Good s) : finD m.length (PT [some (.str x), some W, some R, some s.toD, none] m) = if form s = x then .ok s.toD m else .er 5 m := by
  have h := m_is_style_eq (m := m) g
  have f := formatted_e g m
  generalize s.toD = sd at *
  by_cases q : form s = x
  · rw [if_pos q]
    rw [q] at f
    simp [PT, h, f]
  · rw [if_neg q]
    have nb : (form s == x) = false := by rw [beq_eq_false_iff_ne]; exact q
    simp [PT, h, f, nb]
theorem parse_e {x : List Nat} (hx : x.length ≤ 300) (m : Mem) : m_parse_style [.str x] m = .er 5 m ∨ ∃ s, Good s ∧ form s = x ∧ m_parse_style [.str x] m = .ok s.toD m := by
  rcases parse_head hx m with ⟨_, h⟩ | ⟨_, h⟩
  · exact .inl h
  · have b := rawU_b hx
    rcases raw_style (U := rawU x) (p := ((dval (w1 x) : Nat) : Int)) (md := w2 x) (tr := hasW x trimW) (pr := hasW x promW) b.1 b.2 m with q | ⟨s, g, e⟩
    · left
      rw [h]
      exact pt_er q
    · have e : rawX x = s.toD := e
      rw [e, pt_good g] at h
      by_cases q : form s = x
      · rw [if_pos q] at h
        exact .inr ⟨s, g, q, h⟩
      · rw [if_neg q] at h
        exact .inl h
/-! ## the text of a style is read back -/
def wordsOf (s : Sty) : List (List Nat) := [units s, digs s.pl, s.md] ++ ((if s.tr = true then [trimW] else []) ++ (if s.pr = true then [promW] else []))
theorem form_words (s : Sty) : form s = TL.joinL [32] (wordsOf s) := by
  unfold form wordsOf
  cases s.tr <;> cases s.pr <;> simp [TL.joinL, trimW, promW]
theorem dg_no {c : Nat} (hc : c < 48 ∨ 57 < c) {v : Int} (h0 : 0 ≤ v) : c ∉ digs v := fun h => by
  obtain ⟨k, rfl⟩ := Int.eq_ofNat_of_zero_le h0
  have := isDg_iff.mp (List.all_eq_true.mp (digs_dg k) c h)
  omega
theorem nm_no {c : Nat} (hc : c < 65) {w : List Nat} (h : nameOk w = true) : c ∉ w := fun q => by
  unfold nameOk at h
  simp only [Bool.and_eq_true, List.all_eq_true, decide_eq_true_eq] at h
  have := h.2 c q
  have lt : ∀ k ∈ LETTERS, 65 ≤ k := by decide
  have := lt c this
  omega
theorem piece_no {s : Sty} (g : Good s) {c : Nat} (hc : c < 48) : ∀ w ∈ s.sc.map piece, c ∉ w := fun w hw => by
  obtain ⟨u, hu, rfl⟩ := List.mem_map.mp hw
  have b := g.sc.big u hu
  have n := g.sc.names u hu
  unfold piece
  simp only [List.mem_append, List.mem_singleton, not_or]
  exact ⟨⟨dg_no (.inl hc) (by omega), by omega⟩, nm_no (by omega) n⟩
theorem joinL_no {c d : Nat} (hcd : c ≠ d) : ∀ L : List (List Nat), (∀ w ∈ L, c ∉ w) → c ∉ TL.joinL [d] L
  | [], _ => by simp [TL.joinL]
  | [p], h => h p List.mem_cons_self
  | p :: q :: r, h => by
    have ih := joinL_no hcd (q :: r) fun w hw => h w (List.mem_cons_of_mem _ hw)
    rw [TL.joinL]
    simp only [List.mem_append, List.mem_singleton, not_or]
    exact ⟨h p List.mem_cons_self, hcd, ih⟩
theorem words_no {s : Sty} (g : Good s) : ∀ w ∈ wordsOf s, 32 ∉ w := fun w hw => by
  unfold wordsOf at hw
  simp only [List.mem_append, List.mem_cons, List.not_mem_nil, or_false] at hw
  rcases hw with (rfl | rfl | rfl) | h | h
  · exact joinL_no (by decide) _ (piece_no g (by decide))
  · exact dg_no (.inl (by decide)) (by omega)
  · have := g.md
    simp only [List.mem_cons, List.not_mem_nil, or_false] at this
    rcases this with h | h | h | h <;> rw [h] <;> decide
  · split at h
    · have : w = trimW := by simpa using h
      rw [this]
      decide
    · cases h
  · split at h
    · have : w = promW := by simpa using h
      rw [this]
      decide
    · cases h
theorem parseU_piece {s : Sty} (g : Good s) : ∀ u ∈ s.sc, parseU (piece u) = (u.1, some u.2) := fun u hu => by
  have b := g.sc.big u hu
  have n58 : 58 ∉ digs u.2 := dg_no (.inr (by decide)) (by omega)
  have e : Txt.partition (tx (piece u)) (tx [58]) = (tx (digs u.2), tx [58], tx u.1) := by
    have p := TL.partition_app (y := tx [58]) (s := 58) (S := []) rfl (a := tx (digs u.2)) (b := tx u.1) n58
    rw [← p]
    unfold piece
    rw [tx_app, tx_app]
  have a : pA (piece u) = digs u.2 := by unfold pA; rw [e]; exact cd_tx _
  have c : pC (piece u) = u.1 := by unfold pC; rw [e]; exact cd_tx _
  have dl := digs_14 (v := u.2) (by omega) (by omega)
  obtain ⟨k, hk⟩ := Int.eq_ofNat_of_zero_le (show 0 ≤ u.2 by omega)
  have ds : isDs (digs u.2) = true := by
    rw [hk] at dl ⊢
    unfold isDs
    rw [digs_dg]
    have := List.length_pos_iff.mpr (digs_ne k)
    simp only [Bool.and_eq_true, decide_eq_true_eq, and_true]
    omega
  unfold parseU
  rw [a, c, if_pos ds, hk, digs_val]
theorem form_len {s : Sty} (g : Good s) : (form s).length ≤ 120 := by
  have := units_len g
  have := md_len g
  have := pl_dig g
  unfold form
  cases s.tr <;> cases s.pr <;> simp <;> omega
theorem parse_form {s : Sty} (g : Good s) (m : Mem) : m_parse_style [.str (form s)] m = .ok s.toD m := by
  have fl := form_len g
  have W : wrd 32 (form s) = wordsOf s := by rw [form_words]; exact wrd_join (by decide) (by unfold wordsOf; simp) (words_no g)
  have e0 : w0 (form s) = units s := by unfold w0; rw [W]; rfl
  have e1 : w1 (form s) = digs s.pl := by unfold w1; rw [W]; rfl
  have e2 : w2 (form s) = s.md := by unfold w2; rw [W]; rfl
  have ne : s.sc.map piece ≠ [] := by
    have := g.sc.ne
    intro z
    rw [List.map_eq_nil_iff] at z
    rw [z] at this
    simp at this
  have U : (rawU (form s)).map ruD = s.sc.map unitD := by
    unfold rawU
    rw [e0]
    unfold units
    rw [wrd_join (by decide) ne (piece_no g (by decide)), List.map_map, List.map_map]
    refine List.map_congr_left fun u hu => ?_
    show ruD (parseU (piece u)) = unitD u
    rw [parseU_piece g u hu]
    rfl
  have t1 : hasW (form s) trimW = s.tr := by
    unfold hasW
    rw [W]
    unfold wordsOf
    cases s.tr <;> cases s.pr <;> rfl
  have t2 : hasW (form s) promW = s.pr := by
    unfold hasW
    rw [W]
    unfold wordsOf
    cases s.tr <;> cases s.pr <;> rfl
  have rx : rawX (form s) = s.toD := by
    unfold rawX rawD
    rw [U, e1, e2, t1, t2, digs_val]
    rfl
  have ds : isDs (w1 (form s)) = true := by
    rw [e1]
    have := pl_dig g
    unfold isDs
    rw [digs_dg]
    have := List.length_pos_iff.mpr (digs_ne s.pl)
    simp only [Bool.and_eq_true, decide_eq_true_eq, and_true]
    omega
  rcases parse_head (x := form s) (by omega) m with ⟨q, _⟩ | ⟨_, h⟩
  · exact absurd ⟨by rw [W]; unfold wordsOf; simp, ds⟩ q
  · rw [h, rx, pt_good g, if_pos rfl]
/-! ## the law's own call -/
def askF : Ev → Mem → SO := kRet (sSel 1 [m_format_style, m_parse_style] (sVar 0) (sCons (sVar 1) (sNil)))
theorem ask_def : b__law_ask = kTryW 2 askF ok_which := rfl
theorem ask_ok {w d r : D} {m : Mem} (hf : askF [some w, some d, none] m = .rt r m) : m__law_ask [w, d] m = .ok r m := by
  refine def_eq rfl ?_
  rw [ask_def]
  show finD m.length (kTryW 2 askF ok_which [some w, some d, none] m) = _
  unfold kTryW
  rw [hf]
  exact pack_le (Nat.le_refl _)
theorem ask_er {k : Nat} {w d r : D} {m : Mem} (hn : ok_which k = some r) (mb : m.all (belowO m.length) = true) (hf : askF [some w, some d, none] m = .er k [some w, some d, none] m) : m__law_ask [w, d] m = .ok r m := by
  refine def_eq rfl ?_
  rw [ask_def]
  show finD m.length (kTryW 2 askF ok_which [some w, some d, none] m) = _
  unfold kTryW
  rw [hf]
  dsimp only
  rw [if_pos ⟨by simp, mb⟩, hn]
  exact pack_le (Nat.le_refl _)
def RA (k : Int) : D := .tup [.str RS, .int k]
theorem ask1_er {d : D} {m : Mem} (mb : m.all (belowO m.length) = true) (h : m_parse_style [d] m = .er 5 m) : m__law_ask [.int 1, d] m = .ok (RA 4) m :=
  ask_er (k := 5) rfl mb (by unfold askF; generalize m_parse_style = FP at *; simp [sSel, atI_1, h])
theorem ask1_ok {d r : D} {m : Mem} (h : m_parse_style [d] m = .ok r m) : m__law_ask [.int 1, d] m = .ok r m :=
  ask_ok (by unfold askF; generalize m_parse_style = FP at *; simp [sSel, atI_1, h])
theorem ask0_ok {s : Sty} (g : Good s) (m : Mem) : m__law_ask [.int 0, s.toD] m = .ok (.str (form s)) m := by
  have f : m_format_style [s.toD] m = .ok (.str (form s)) m := by
    have ne := m_need_style_eq (m := m) g
    have fo := formatted_e g m
    simp [m_format_style, b_format_style, ne, fo]
  exact ask_ok (by unfold askF; generalize m_format_style = FP at *; simp [sSel, atI_0, f])
theorem ask0_er {d : D} {m : Mem} (mb : m.all (belowO m.length) = true) (h : m_is_style [d] m = .ok (.bl false) m) : m__law_ask [.int 0, d] m = .ok (RA 0) m := by
  have f : m_format_style [d] m = .er 1 m := by
    have ne : m_need_style [d] m = .er 1 m := by simp [m_need_style, b_need_style, h]
    simp [m_format_style, b_format_style, ne]
  exact ask_er (k := 1) rfl mb (by unfold askF; generalize m_format_style = FP at *; simp [sSel, atI_0, f])
/-! ## styles compared -/
theorem strC_nm {w : List Nat} (h : nameOk w = true) : strC w = true := strC_name h
theorem shp_sty {s : Sty} (g : Good s) : shp 8 s.toD = true := by
  have u : (s.sc.map unitD).all (shp 6) = true := by
    rw [List.all_map, List.all_eq_true]
    intro u hu
    show (strC u.1 && (true && true)) = true
    rw [strC_nm (g.sc.names u hu)]
    rfl
  have md : strC s.md = true := by
    have := g.md
    simp only [List.mem_cons, List.not_mem_nil, or_false] at this
    rcases this with h | h | h | h <;> rw [h] <;> decide
  show (((s.sc.map unitD).all (shp 6)) && (true && (strC s.md && (true && (true && true))))) = true
  rw [u, md]
  rfl
theorem eqD_units (l : List (List Nat × Int)) : eqAll (eqD 6) (l.map unitD) (l.map unitD) = true := by
  induction l with
  | nil => rfl
  | cons u l ih =>
    rw [List.map_cons, eqAll, ih]
    show (((u.1 == u.1) && ((u.2 == u.2) && true)) && true) = true
    simp
theorem gNe_sty {s : Sty} (g : Good s) (m : Mem) : gNe s.toD s.toD m = .ok (.bl false) m := by
  have sh := shp_sty g
  have e : eqD 8 s.toD s.toD = true := by
    show (eqAll (eqD 6) (s.sc.map unitD) (s.sc.map unitD) && (((s.pl : Int) == (s.pl : Int)) && ((s.md == s.md) && ((s.tr == s.tr) && ((s.pr == s.pr) && true))))) = true
    rw [eqD_units]
    simp
  show (match (if shp 8 s.toD && shp 8 s.toD then some (eqD 8 s.toD s.toD) else none) with
    | some k => (Out.ok (D.bl (!k)) m : Out D)
    | none => Out.bad) = _
  rw [sh, e]
  rfl
theorem gNe_ra {s : Sty} (g : Good s) (m : Mem) : gNe s.toD (RA 4) m = .ok (.bl true) m := by
  have sh := shp_sty g
  have e : eqD 8 s.toD (RA 4) = false := rfl
  have s2 : shp 8 (RA 4) = true := rfl
  show (match (if shp 8 s.toD && shp 8 (RA 4) then some (eqD 8 s.toD (RA 4)) else none) with
    | some k => (Out.ok (D.bl (!k)) m : Out D)
    | none => Out.bad) = _
  rw [sh, e, s2]
  rfl
theorem cut_len {α : Type} (xs : List α) (lo hi : Option Int) : (cutD xs lo hi).length ≤ xs.length := by
  unfold cutD
  rw [List.length_take, List.length_drop]
  omega
theorem k11_turn {s : Sty} (g : Good s) (ns : List Int) (k : Int) (x5 x6 x7 x8 : Option D) (t : Tn) : ∃ t' y5 y6 y7 y8, wb_law_1 [some (.scr ns), some (.ref 0), some s.toD, some (.str (form s)), some (.int k), x5, x6, x7, x8, none, none] [tn t] = .nx [some (.scr ns), some (.ref 0), some s.toD, some (.str (form s)), some (.int k), y5, y6, y7, y8, none, none] [tn t'] := by
  have fl := form_len g
  obtain ⟨N, hN⟩ : ∃ N : Int, N = ((form s).length : Int) := ⟨_, rfl⟩
  have d1 := draw_e (ns := ns) (t := t) (many := N + 1) (rest := []) (by omega) (by omega)
  have d1b := dv_b (ns := ns) (t := t) (many := N + 1) (by omega) (by omega)
  generalize dv ns t (N + 1) = a at *
  generalize dn ns t (N + 1) = t1 at *
  obtain ⟨l, hl⟩ : ∃ l : List D, l = [.str [], .str [48], .str [49], .str [44], .str [58], .str [32], .str [107], .str [32, 116, 114, 105, 109], .str [51]] := ⟨_, rfl⟩
  have ll : l.length = 9 := by rw [hl]; rfl
  have pe := pickL_e (ns := ns) (t := t1) (l := l) (rest := []) (by omega) (by omega)
  have pm := pk_mem (ns := ns) (t := t1) (l := l) (by omega) (by omega)
  obtain ⟨ch, hv, cl⟩ : ∃ ch : List Nat, pk ns t1 l = .str ch ∧ ch.length ≤ 5 := by
    rw [hl] at pm ⊢
    simp only [List.mem_cons, List.not_mem_nil, or_false] at pm
    rcases pm with e | e | e | e | e | e | e | e | e <;> exact ⟨_, e, by decide⟩
  rw [hv] at pe
  generalize dn ns t1 (l.length : Nat) = t2 at *
  rw [hl] at pe
  have d2 := draw_e (ns := ns) (t := t2) (many := 2) (rest := []) (by decide) (by decide)
  have d2b := dv_b (ns := ns) (t := t2) (many := 2) (by decide) (by decide)
  generalize dv ns t2 2 = b at *
  generalize dn ns t2 2 = t3 at *
  have gl : ∀ m, gLen [.str (form s)] m = .ok (.int N) m := fun m => by rw [gLen_s, if_pos (sz_ok (by omega)), hN]
  have s1 : ∀ m, gSl (.str (form s)) none (some a) m = .ok (.str (cutD (form s) none (some a))) m := fun m => by rw [gSl_s, if_pos (sz_ok (by omega))]
  have s2 : ∀ m, gSl (.str (form s)) (some (a + b)) none m = .ok (.str (cutD (form s) (some (a + b)) none)) m := fun m => by rw [gSl_s, if_pos (sz_ok (by omega))]
  have c1 := cut_len (form s) none (some a)
  have c2 := cut_len (form s) (some (a + b)) none
  generalize cutD (form s) none (some a) = A1 at *
  generalize cutD (form s) (some (a + b)) none = A2 at *
  have g1 : ∀ m, gAdd (.str A1) (.str ch) m = .ok (.str (A1 ++ ch)) m := fun m => gaS (by omega)
  have l1 : (A1 ++ ch).length ≤ 125 := by rw [List.length_append]; omega
  have g2 : ∀ m, gAdd (.str (A1 ++ ch)) (.str A2) m = .ok (.str (A1 ++ ch ++ A2)) m := fun m => gaS (by omega)
  have l2 : (A1 ++ ch ++ A2).length ≤ 300 := by rw [List.length_append]; omega
  have told : (∃ d, m__law_ask [.int 1, .str (A1 ++ ch ++ A2)] [tn t3] = .ok d [tn t3] ∧ ((d = RA 4) ∨ ∃ s', Good s' ∧ form s' = A1 ++ ch ++ A2 ∧ d = s'.toD)) := by
    rcases parse_e l2 [tn t3] with h | ⟨s', g', f', h⟩
    · exact ⟨RA 4, ask1_er rfl h, .inl rfl⟩
    · exact ⟨s'.toD, ask1_ok h, .inr ⟨s', g', f', rfl⟩⟩
  obtain ⟨d, ask, hd⟩ := told
  generalize A1 ++ ch ++ A2 = BT at *
  generalize A1 ++ ch = B1 at *
  have last : (kIf (sAndT (sTest (sBin gNe (sVar 8) (sTup (sCons (sC (.str [114, 97, 105, 115, 101, 100])) (sCons (sC (.int 4)) (sNil)))))) (sOrT (sTest (sBin gIsNot (sCall 1 m_is_style (sCons (sVar 8) (sNil))) (sC (.bl true)))) (sTest (sBin gNe (sCall 1 m__law_form (sCons (sVar 8) (sNil))) (sVar 7))))) (kRet (sC (.bl false))) (bNil)) [some (.scr ns), some (.ref 0), some s.toD, some (.str (form s)), some (.int k), some (.int a), some (.str ch), some (.str BT), some d, none, none] [tn t3] = .nx [some (.scr ns), some (.ref 0), some s.toD, some (.str (form s)), some (.int k), some (.int a), some (.str ch), some (.str BT), some d, none, none] [tn t3] := by
    rcases hd with rfl | ⟨s', g', f', rfl⟩
    · have gn : gNe (RA 4) (RA 4) [tn t3] = .ok (.bl false) [tn t3] := rfl
      unfold RA at gn ⊢
      generalize m_is_style = FI at *
      generalize m__law_form = FF at *
      simp [gn]
    · have gn := gNe_ra g' [tn t3]
      have is := m_is_style_eq (m := [tn t3]) g'
      have lf := law_form_e g' [tn t3]
      rw [f'] at lf
      unfold RA at gn
      generalize m_is_style = FI at *
      generalize m__law_form = FF at *
      generalize s'.toD = sd' at *
      simp [gn, is, lf]
  generalize form s = FM at *
  refine ⟨t3, some (.int a), some (.str ch), some (.str BT), some d, ?_⟩
  unfold wb_law_1
  generalize m__law_pick = FP at *
  generalize m__law_draw = FD at *
  generalize m__law_ask = FA at *
  rw [bcons_nx (e1 := [some (.scr ns), some (.ref 0), some s.toD, some (.str FM), some (.int k), some (.int a), x6, x7, x8, none, none]) (m1 := [tn t1]) (by simp [-gLen_s, gl, d1])]
  rw [bcons_nx (e1 := [some (.scr ns), some (.ref 0), some s.toD, some (.str FM), some (.int k), some (.int a), some (.str ch), x7, x8, none, none]) (m1 := [tn t2]) (by simp [pe])]
  rw [bcons_nx (e1 := [some (.scr ns), some (.ref 0), some s.toD, some (.str FM), some (.int k), some (.int a), some (.str ch), some (.str BT), x8, none, none]) (m1 := [tn t3]) (by simp [-gSl_s, -gAdd_s, s1, s2, g1, g2, d2])]
  rw [bcons_nx (e1 := [some (.scr ns), some (.ref 0), some s.toD, some (.str FM), some (.int k), some (.int a), some (.str ch), some (.str BT), some d, none, none]) (m1 := [tn t3]) (by simp [ask])]
  exact last
def BL1 : List D := [D.str [], D.str [49, 58], D.str [49, 58, 32, 49], D.str [49, 58, 32, 51, 32, 117, 112], D.str [49, 58, 32, 49, 32, 114, 111, 117, 110, 100], D.str [50, 58, 120, 32, 48, 32, 117, 112], D.str [49, 58, 44, 49, 58, 107, 32, 48, 32, 117, 112], D.str [49, 58, 44, 50, 48, 48, 49, 58, 107, 32, 48, 32, 117, 112]]
def BL2 : List D := [D.str [49, 58, 44, 49, 48, 58, 32, 48, 32, 117, 112], D.str [49, 58, 107, 105, 108, 111, 32, 48, 32, 117, 112], D.str [48, 49, 58, 32, 48, 32, 117, 112], D.non, D.int 5]
def BL3 : List D := [D.str [49, 58, 32, 48, 49, 32, 117, 112], D.str [49, 58, 32, 49, 32, 117, 112, 32, 112, 114, 111, 109, 111, 116, 101, 32, 116, 114, 105, 109], D.str [49, 58, 32, 49, 32, 117, 112, 32, 116, 114, 105, 109, 32, 116, 114, 105, 109], D.str [49, 58, 32, 49, 32, 117, 112, 32, 32, 116, 114, 105, 109], D.str [32, 49, 58, 32, 49, 32, 117, 112]]
def BL4 : List D := [D.str [49, 58, 32, 49, 32, 117, 112, 32], D.str [49, 32, 49, 32, 117, 112], D.str [49, 58, 44, 58, 32, 49, 32, 117, 112], D.str [120, 58, 32, 49, 32, 117, 112], D.lst [D.str [49, 58, 32, 49, 32, 117, 112]]]
def BL : List D := BL1 ++ BL2 ++ BL3 ++ BL4
theorem bl_len : BL.length = 23 := by kernel_rfl
theorem bl_parse (t : Tn) : (BL.map fun d => m_parse_style [d] [tn t, .lst BL]) = BL.map fun _ => .er 5 [tn t, .lst BL] := by kernel_rfl
def XS : Sty := ⟨[([], 1), ([107], 1000)], 2, EVEN, true, true⟩
theorem xs_parse (t : Tn) : m_parse_style [.str [49, 58, 44, 49, 48, 48, 48, 58, 107, 32, 50, 32, 101, 118, 101, 110, 32, 116, 114, 105, 109, 32, 112, 114, 111, 109, 111, 116, 101]] [tn t, .lst BL] = .ok XS.toD [tn t, .lst BL] := by kernel_rfl
theorem xs_ne (t : Tn) : gNe XS.toD XS.toD [tn t, .lst BL] = .ok (.bl false) [tn t, .lst BL] := by kernel_rfl
theorem bl_mb (t : Tn) : ([tn t, .lst BL] : Mem).all (belowO ([tn t, .lst BL] : Mem).length) = true := by
  have a : belowO 2 (tn t) = true := rfl
  have b : belowO 2 (.lst BL) = true := by kernel_rfl
  show (belowO 2 (tn t) && (belowO 2 (.lst BL) && true)) = true
  rw [a, b]
  rfl
theorem lcR_list {L : List D} {i : Nat} {g : Ev → D → Option Ev} {f : Ev → Mem → Out D} {e0 : Ev} {m : Mem} {R : D} (h : m[i]? = some (.lst L)) (hd : ∀ d ∈ L, ∃ e1, g e0 d = some e1 ∧ f e1 m = .ok R m) (hl : L.length < 1000) :
    ∀ (k p : Nat), p ≤ L.length → L.length < p + k → lcR i g f e0 k p (List.replicate p R) m = .ok (List.replicate L.length R) m
  | 0, p, h1, h2 => by omega
  | k + 1, p, h1, h2 => by
    unfold lcR
    rw [h]
    dsimp only
    by_cases q : p < L.length
    · rw [List.getElem?_eq_getElem q]
      dsimp only
      obtain ⟨e1, e2, e3⟩ := hd _ (List.getElem_mem q)
      rw [e2]
      dsimp only
      rw [e3]
      have ln : (List.replicate p R).length < 1000000 := by
        rw [List.length_replicate]
        omega
      have ih := lcR_list h hd hl k (p + 1) (by omega) (by omega)
      rw [List.replicate_succ'] at ih
      simp only [bind0_ok]
      rw [if_pos ln]
      exact ih
    · rw [List.getElem?_eq_none_iff.mpr (by omega)]
      dsimp only
      rw [show p = L.length by omega]
theorem non_styles {s : Sty} (m : Mem) : ∀ d ∈ [D.non, .tup [], .str (form s), .lst [.tup (s.sc.map unitD), .int (s.pl : Int), .str s.md, .bl s.tr, .bl s.pr], .tup [.tup (s.sc.map unitD), .int (s.pl : Int), .str s.md, .bl s.tr]], m_is_style [d] m = .ok (.bl false) m := fun d hd => by
  have no : ∀ d : D, gIsi "tuple" [d, .val (.ty "tuple")] m = .ok (.bl false) m → m_is_style [d] m = .ok (.bl false) m := fun d h => by simp [m_is_style, b_is_style, h]
  simp only [List.mem_cons, List.not_mem_nil, or_false] at hd
  rcases hd with rfl | rfl | rfl | rfl | rfl
  · exact no _ rfl
  · simp [m_is_style, b_is_style]
  · exact no _ rfl
  · exact no _ rfl
  · simp [m_is_style, b_is_style]
theorem law_main (ns : List Int) : ∃ m, m_law [.scr ns] [] = .ok (.bl true) m := by
  have st := style_e (ns := ns) (t := t0) (many := 5) (by decide) (by decide)
  have g : Good (sty ns t0 5) := sty_good (by decide) (by decide)
  rw [tn0] at st
  generalize sty ns t0 5 = s at *
  generalize stn ns t0 5 = t1 at *
  have lf := law_form_e g [tn t1]
  have a0 := ask0_ok g [tn t1]
  have a1 := ask1_ok (parse_form g [tn t1])
  have gn := gNe_sty g [tn t1]
  obtain ⟨e2, m2, fe, t, y4, y5, y6, y7, y8, rfl, rfl⟩ := for_range1 (g := gN 4) (body := wb_law_1) (fl := sCons (sC (.int 8)) (sNil)) (j := 8) (e := [some (.scr ns), some (.ref 0), some s.toD, some (.str (form s)), none, none, none, none, none, none, none]) (m := [tn t1]) (m1 := [tn t1])
    (P := fun k e m => ∃ t y4 y5 y6 y7 y8, m = [tn t] ∧ e = [some (.scr ns), some (.ref 0), some s.toD, some (.str (form s)), y4, y5, y6, y7, y8, none, none]) (by simp) (by decide)
    (fun k e m k0 k1 => by
      rintro ⟨t, y4, y5, y6, y7, y8, rfl, rfl⟩
      obtain ⟨t', z5, z6, z7, z8, e1⟩ := k11_turn g ns k y5 y6 y7 y8 t
      exact ⟨_, by simp, _, _, e1, t', some (.int k), z5, z6, z7, z8, rfl, rfl⟩) ⟨t1, none, none, none, none, none, rfl, rfl⟩
  have bp := List.map_inj_left.mp (bl_parse t)
  have mb := bl_mb t
  have asks : ∀ d ∈ BL, m__law_ask [.int 1, d] [tn t, .lst BL] = .ok (RA 4) [tn t, .lst BL] := fun d hd => ask1_er mb (bp d hd)
  have xa := ask1_ok (xs_parse t)
  have xn := xs_ne t
  have nst := fun d hd => ask0_er mb (non_styles (s := s) [tn t, .lst BL] d hd)
  have gl : gLen [.ref 1] [tn t, .lst BL] = .ok (.int 23) [tn t, .lst BL] := by kernel_rfl
  have gm : gMul (.lst [.tup [.str [114, 97, 105, 115, 101, 100], .int 4]]) (.int 23) [tn t, .lst BL] = .ok (.lst (List.replicate 23 (RA 4))) [tn t, .lst BL] := by kernel_rfl
  have gne : gNe (.lst (List.replicate 23 (RA 4))) (.lst (List.replicate 23 (RA 4))) [tn t, .lst BL] = .ok (.bl false) [tn t, .lst BL] := by kernel_rfl
  have gm5 : gMul (.lst [.tup [.str [114, 97, 105, 115, 101, 100], .int 0]]) (.int 5) [tn t, .lst BL] = .ok (.lst (List.replicate 5 (RA 0))) [tn t, .lst BL] := by kernel_rfl
  have gme : gEq (.lst (List.replicate 5 (RA 0))) (.lst (List.replicate 5 (RA 0))) [tn t, .lst BL] = .ok (.bl true) [tn t, .lst BL] := by kernel_rfl
  have lr := lcR_list (L := BL) (i := 1) (g := gN 10) (f := sCall 2 m__law_ask (sCons (sC (.int 1)) (sCons (sVar 10) (sNil)))) (e0 := [some (.scr ns), some (.ref 0), some s.toD, some (.str (form s)), y4, y5, y6, y7, y8, some (.ref 1), none]) (m := [tn t, .lst BL]) (R := RA 4) rfl (fun d hd => ⟨[some (.scr ns), some (.ref 0), some s.toD, some (.str (form s)), y4, y5, y6, y7, y8, some (.ref 1), some d], by simp, by simp [asks d hd]⟩) (by rw [bl_len]; decide) 1000 0 (by omega) (by rw [bl_len]; decide)
  rw [bl_len] at lr
  have lc5 := lc_pure (g := gN 10) (ft := tYesS) (f := sCall 2 m__law_ask (sCons (sC (.int 0)) (sCons (sVar 10) (sNil)))) (m := [tn t, .lst BL]) (e0 := [some (.scr ns), some (.ref 0), some s.toD, some (.str (form s)), y4, y5, y6, y7, y8, some (.ref 1), none]) (mk := id) (keep := fun _ => true) (val := fun _ => RA 0) [D.non, .tup [], .str (form s), .lst [.tup (s.sc.map unitD), .int (s.pl : Int), .str s.md, .bl s.tr, .bl s.pr], .tup [.tup (s.sc.map unitD), .int (s.pl : Int), .str s.md, .bl s.tr]] []
    (fun d hd => ⟨_, rfl, rfl, fun _ => by simp [nst d hd]⟩) (by simp)
  rw [List.filter_eq_self.mpr (fun _ _ => rfl), List.nil_append, List.map_id] at lc5
  have rep5 : ([D.non, .tup [], .str (form s), .lst [.tup (s.sc.map unitD), .int (s.pl : Int), .str s.md, .bl s.tr, .bl s.pr], .tup [.tup (s.sc.map unitD), .int (s.pl : Int), .str s.md, .bl s.tr]].map fun _ => RA 0) = List.replicate 5 (RA 0) := rfl
  rw [rep5] at lc5
  have gli : gList [s.toD] [tn t, .lst BL] = .ok (.lst [.tup (s.sc.map unitD), .int (s.pl : Int), .str s.md, .bl s.tr, .bl s.pr]) [tn t, .lst BL] := rfl
  have gsl : gSl s.toD none (some 4) [tn t, .lst BL] = .ok (.tup [.tup (s.sc.map unitD), .int (s.pl : Int), .str s.md, .bl s.tr]) [tn t, .lst BL] := rfl
  have eX : XS.toD = .tup [.tup [.tup [.str [], .int 1], .tup [.str [107], .int 1000]], .int 2, .str [101, 118, 101, 110], .bl true, .bl true] := rfl
  rw [eX] at xa xn
  have r4 : RA 4 = .tup [.str [114, 97, 105, 115, 101, 100], .int 4] := rfl
  have r0 : RA 0 = .tup [.str [114, 97, 105, 115, 101, 100], .int 0] := rfl
  refine ⟨[], def_eq rfl ?_⟩
  unfold b_law
  have k1 : (kSet 9 (sLstO (sCons (sC (.str [])) (sCons (sC (.str [49, 58])) (sCons (sC (.str [49, 58, 32, 49])) (sCons (sC (.str [49, 58, 32, 51, 32, 117, 112])) (sCons (sC (.str [49, 58, 32, 49, 32, 114, 111, 117, 110, 100])) (sCons (sC (.str [50, 58, 120, 32, 48, 32, 117, 112])) (sCons (sC (.str [49, 58, 44, 49, 58, 107, 32, 48, 32, 117, 112])) (sCons (sC (.str [49, 58, 44, 50, 48, 48, 49, 58, 107, 32, 48, 32, 117, 112])) (sNil))))))))))) [some (.scr ns), some (.ref 0), some s.toD, some (.str (form s)), y4, y5, y6, y7, y8, none, none] [tn t] = .nx [some (.scr ns), some (.ref 0), some s.toD, some (.str (form s)), y4, y5, y6, y7, y8, some (.ref 1), none] [tn t, .lst BL1] := by kernel_rfl
  have k2 : (kExpr (sBm "list" gExtend (sVar 9) (sCons (sLst (sCons (sC (.str [49, 58, 44, 49, 48, 58, 32, 48, 32, 117, 112])) (sCons (sC (.str [49, 58, 107, 105, 108, 111, 32, 48, 32, 117, 112])) (sCons (sC (.str [48, 49, 58, 32, 48, 32, 117, 112])) (sCons (sC .non) (sCons (sC (.int 5)) (sNil))))))) (sNil)))) [some (.scr ns), some (.ref 0), some s.toD, some (.str (form s)), y4, y5, y6, y7, y8, some (.ref 1), none] [tn t, .lst BL1] = .nx [some (.scr ns), some (.ref 0), some s.toD, some (.str (form s)), y4, y5, y6, y7, y8, some (.ref 1), none] [tn t, .lst (BL1 ++ BL2)] := by kernel_rfl
  have k3 : (kExpr (sBm "list" gExtend (sVar 9) (sCons (sLst (sCons (sC (.str [49, 58, 32, 48, 49, 32, 117, 112])) (sCons (sC (.str [49, 58, 32, 49, 32, 117, 112, 32, 112, 114, 111, 109, 111, 116, 101, 32, 116, 114, 105, 109])) (sCons (sC (.str [49, 58, 32, 49, 32, 117, 112, 32, 116, 114, 105, 109, 32, 116, 114, 105, 109])) (sCons (sC (.str [49, 58, 32, 49, 32, 117, 112, 32, 32, 116, 114, 105, 109])) (sCons (sC (.str [32, 49, 58, 32, 49, 32, 117, 112])) (sNil))))))) (sNil)))) [some (.scr ns), some (.ref 0), some s.toD, some (.str (form s)), y4, y5, y6, y7, y8, some (.ref 1), none] [tn t, .lst (BL1 ++ BL2)] = .nx [some (.scr ns), some (.ref 0), some s.toD, some (.str (form s)), y4, y5, y6, y7, y8, some (.ref 1), none] [tn t, .lst (BL1 ++ BL2 ++ BL3)] := by kernel_rfl
  have k4 : (kExpr (sBm "list" gExtend (sVar 9) (sCons (sLst (sCons (sC (.str [49, 58, 32, 49, 32, 117, 112, 32])) (sCons (sC (.str [49, 32, 49, 32, 117, 112])) (sCons (sC (.str [49, 58, 44, 58, 32, 49, 32, 117, 112])) (sCons (sC (.str [120, 58, 32, 49, 32, 117, 112])) (sCons (sLst (sCons (sC (.str [49, 58, 32, 49, 32, 117, 112])) (sNil))) (sNil))))))) (sNil)))) [some (.scr ns), some (.ref 0), some s.toD, some (.str (form s)), y4, y5, y6, y7, y8, some (.ref 1), none] [tn t, .lst (BL1 ++ BL2 ++ BL3)] = .nx [some (.scr ns), some (.ref 0), some s.toD, some (.str (form s)), y4, y5, y6, y7, y8, some (.ref 1), none] [tn t, .lst BL] := by kernel_rfl
  clear asks mb bp
  generalize hMM : [tn t, Ob.lst BL] = MM at *
  generalize m__law_style = FS at *
  generalize m__law_form = FF at *
  generalize m__law_ask = FA at *
  generalize wb_law_1 = WB at *
  rw [bcons_nx (e1 := [some (.scr ns), some (.ref 0), none, none, none, none, none, none, none, none, none]) (m1 := [.lst [.int 0, .int 0]]) (by simp)]
  rw [bcons_nx (e1 := [some (.scr ns), some (.ref 0), some s.toD, none, none, none, none, none, none, none, none]) (m1 := [tn t1]) (by simp [st])]
  rw [bcons_nx (e1 := [some (.scr ns), some (.ref 0), some s.toD, some (.str (form s)), none, none, none, none, none, none, none]) (m1 := [tn t1]) (by simp [lf])]
  rw [bcons_nx (e1 := [some (.scr ns), some (.ref 0), some s.toD, some (.str (form s)), none, none, none, none, none, none, none]) (m1 := [tn t1]) (by simp [a0, a1, gn])]
  rw [bcons_nx fe, bcons_nx k1, bcons_nx k2, bcons_nx k3, bcons_nx k4]
  clear k1 k2 k3 k4 fe
  have q1 : (sLcR 1000 [10] (sVar 9) (gN 10) (sCall 2 FA (sCons (sC (.int 1)) (sCons (sVar 10) (sNil))))) [some (.scr ns), some (.ref 0), some s.toD, some (.str (form s)), y4, y5, y6, y7, y8, some (.ref 1), none] MM = .ok (.lst (List.replicate 23 (RA 4))) MM := by
    unfold sLcR
    have w : wipeE [some (.scr ns), some (.ref 0), some s.toD, some (.str (form s)), y4, y5, y6, y7, y8, some (.ref 1), none] [10] = [some (.scr ns), some (.ref 0), some s.toD, some (.str (form s)), y4, y5, y6, y7, y8, some (.ref 1), none] := rfl
    rw [w]
    show ((lcR 1 (gN 10) _ [some (.scr ns), some (.ref 0), some s.toD, some (.str (form s)), y4, y5, y6, y7, y8, some (.ref 1), none] 1000 0 [] MM).bind0 fun l m2 => (Out.ok (D.lst l) m2 : Out D)) = _
    have lr' := lr
    simp only [List.replicate_zero] at lr'
    rw [lr']
    rfl
  rw [bcons_nx (e1 := [some (.scr ns), some (.ref 0), some s.toD, some (.str (form s)), y4, y5, y6, y7, y8, some (.ref 1), none]) (m1 := MM) (by
    generalize hZ : List.replicate 23 (RA 4) = ZZ at *
    generalize hq : sLcR 1000 [10] (sVar 9) (gN 10) (sCall 2 FA (sCons (sC (.int 1)) (sCons (sVar 10) (sNil)))) = QQ at *
    simp [q1, gl, gm, gne])]
  rw [bcons_nx (e1 := [some (.scr ns), some (.ref 0), some s.toD, some (.str (form s)), y4, y5, y6, y7, y8, some (.ref 1), none]) (m1 := MM) (by simp [xa, xn])]
  have fin : (kRet (sBin gEq (sLc [10] (iOf asT (sTup (sCons (sC .non) (sCons (sTup (sNil)) (sCons (sVar 3) (sCons (sCB gList (sCons (sVar 2) (sNil))) (sCons (sSl (sVar 2) (sNoP) (sPart (sC (.int 4)))) (sNil)))))))) (gN 10) (tYesS) (sCall 2 FA (sCons (sC (.int 0)) (sCons (sVar 10) (sNil))))) (sBin gMul (sLst (sCons (sTup (sCons (sC (.str [114, 97, 105, 115, 101, 100])) (sCons (sC (.int 0)) (sNil)))) (sNil))) (sC (.int 5))))) [some (.scr ns), some (.ref 0), some s.toD, some (.str (form s)), y4, y5, y6, y7, y8, some (.ref 1), none] MM = .rt (.bl true) MM := by
    generalize hZ : List.replicate 5 (RA 0) = ZZ at *
    generalize s.toD = sd at *
    simp [gli, gsl, lc5, gm5, gme]
  rw [fin]
  exact fin_bl (e := [])
end Sz

namespace Sz
open PySem PySem.Spec PyProof.Rows L2
/-! ## the derivations -/
structure Tx (c : Cn) (mg : Str → Option Value) : Prop where
  n_range : mg "range" = none
  n_len : mg "len" = none
  n_list : mg "list" = none
  n_tuple : mg "tuple" = none
  n_zip : mg "zip" = none
  n_str : mg "str" = none
  n_isinstance : mg "isinstance" = none
  n_bool : mg "bool" = none
  n_all : mg "all" = none
  n_set : mg "set" = none
  n_int : mg "int" = none
  n_ValueError : mg "ValueError" = none
  c_MODES : TupD c mg "MODES" [[100, 111, 119, 110], [117, 112], [104, 97, 108, 102], [101, 118, 101, 110]]
  c_UNITS : IntD mg "UNITS" 5
  c_RATIO : IntD mg "RATIO" 2000
  c_LETTERS : TxtD mg "LETTERS" [97, 98, 99, 100, 101, 102, 103, 104, 105, 106, 107, 108, 109, 110, 111, 112, 113, 114, 115, 116, 117, 118, 119, 120, 121, 122, 65, 66, 67, 68, 69, 70, 71, 72, 73, 74, 75, 76, 77, 78, 79, 80, 81, 82, 83, 84, 85, 86, 87, 88, 89, 90]
  c_DIGITS : TxtD mg "DIGITS" [48, 49, 50, 51, 52, 53, 54, 55, 56, 57]
  x_InvalidStyle : ExcD c mg 1 "InvalidStyle"
  x_InvalidFormat : ExcD c mg 5 "InvalidFormat"
section
variable {P : Program} {w : World} {c : Cn} {mg : Str → Option Value} {base : Heap}
abbrev s__law_draw : Stmt := topS 26
def sp__law_draw : {s : Scope // defScope s__law_draw = s} := ⟨_, by conv => lhs; whnf⟩
def bp__law_draw : {s : List Stmt // defBody s__law_draw = s} := ⟨_, by conv => lhs; whnf⟩
theorem sc__law_draw : FnScope ["_law_script", "_law_town", "_law_many", "_law_one", "_law_at", "_law_mixed"] ["_law_script", "_law_town", "_law_many"] sp__law_draw.1 := ⟨rfl, rfl, rfl, by decide +kernel, rfl, by decide +kernel, by decide +kernel⟩
theorem df__law_draw (T : Tx c mg) {f : Addr} {fd : FuncData} (F : Fun c.K "_law_draw" "_law_draw" s__law_draw f fd) (gm : mg "_law_draw" = some (.ref f)) (bs : Binds c.K fd ["_law_script", "_law_town", "_law_many"] [])
    : Df P w c mg base "_law_draw" 1 ["_law_script", "_law_town", "_law_many"] m__law_draw := by
  have nd := sc__law_draw.nd
  exact df_mk2 (g := b__law_draw) (np := 3) (nn := 6) F sp__law_draw.2 bp__law_draw.2 sc__law_draw gm bs fun cdv A outer s H E hr => (bx_cons (sx_if (tx_cmp op_gt os_gt (ex_ix rfl (ex_var 1 (pv 1)) ex_int) ex_int rfl) (bx_cons (sx_set 3 nd (by first | exact .inl rfl | exact .inr rfl) (ex_op op_mod os_mod (ex_ix rfl (ex_var 1 (pv 1)) ex_int) (ex_var 2 (pv 2)))) (bx_cons (sx_setIx (ex_op op_fdivW os_div (ex_ix rfl (ex_var 1 (pv 1)) ex_int) (ex_var 2 (pv 2))) (ex_var 1 (pv 1)) ex_int) (bx_one (sx_ret (ex_var 3 (pv 3)))))) bx_nil) (bx_cons (sx_set 4 nd (by first | exact .inl rfl | exact .inr rfl) (ex_ix rfl (ex_var 1 (pv 1)) ex_int)) (bx_cons (sx_augIx iop_add (ex_var 1 (pv 1)) ex_int ex_int) (bx_cons (sx_if (tx_cmp (op_eqA (room64 hr)) (os_eq rfl) (ex_var 0 (pv 0)) (ex_lst ax_nil) rfl) (bx_one (sx_ret (ex_op op_mod os_mod (ex_var 4 (pv 4)) (ex_var 2 (pv 2))))) bx_nil) (bx_cons (sx_if (wx_t (wx_and (tx_cmp op_lt os_ltI (ex_var 4 (pv 4)) (ex_cb call_len (cs_len rfl) rfl T.n_len boot_len (ax_cons (ex_var 0 (pv 0)) ax_nil)) rfl) (wx_and1 (tx_cmp op_ge os_ge (ex_ix rfl (ex_var 0 (pv 0)) (ex_var 4 (pv 4))) (ex_op op_pow os_pow ex_int ex_int) rfl)))) (bx_cons (sx_setIx (ex_op op_mod os_mod (ex_op op_fdivW os_div (ex_ix rfl (ex_var 0 (pv 0)) (ex_var 4 (pv 4))) (ex_var 2 (pv 2))) (ex_op op_mulAny os_mul (ex_op op_pow os_pow ex_int ex_int) (ex_op op_pow os_pow ex_int ex_int))) (ex_var 1 (pv 1)) ex_int) (bx_one (sx_ret (ex_op op_mod os_mod (ex_ix rfl (ex_var 0 (pv 0)) (ex_var 4 (pv 4))) (ex_var 2 (pv 2)))))) bx_nil) (bx_cons (sx_set 5 nd (by first | exact .inl rfl | exact .inr rfl) (ex_op op_mod os_mod (ex_op op_addAny os_add (ex_op op_addAny os_add (ex_op op_mulAny os_mul (ex_ix rfl (ex_var 0 (pv 0)) (ex_op op_mod os_mod (ex_var 4 (pv 4)) (ex_cb call_len (cs_len rfl) rfl T.n_len boot_len (ax_cons (ex_var 0 (pv 0)) ax_nil)))) ex_int) (ex_op op_mulAny os_mul ex_int (ex_var 4 (pv 4)))) ex_int) ex_int)) (bx_one (sx_ret (ex_op op_mod os_mod (ex_op op_mod os_mod (ex_op op_mod os_mod (ex_op op_pow os_pow (ex_var 5 (pv 5)) ex_int) ex_int) ex_int) (ex_var 2 (pv 2)))))))))))
abbrev s__law_pick : Stmt := topS 27
def sp__law_pick : {s : Scope // defScope s__law_pick = s} := ⟨_, by conv => lhs; whnf⟩
def bp__law_pick : {s : List Stmt // defBody s__law_pick = s} := ⟨_, by conv => lhs; whnf⟩
theorem sc__law_pick : FnScope ["_law_script", "_law_town", "_law_some"] ["_law_script", "_law_town", "_law_some"] sp__law_pick.1 := ⟨rfl, rfl, rfl, by decide +kernel, rfl, by decide +kernel, by decide +kernel⟩
theorem df__law_pick (T : Tx c mg) {f : Addr} {fd : FuncData} (F : Fun c.K "_law_pick" "_law_pick" s__law_pick f fd) (gm : mg "_law_pick" = some (.ref f)) (bs : Binds c.K fd ["_law_script", "_law_town", "_law_some"] [])
    (D__law_draw : Df P w c mg base "_law_draw" 1 ["_law_script", "_law_town", "_law_many"] m__law_draw)
    : Df P w c mg base "_law_pick" 2 ["_law_script", "_law_town", "_law_some"] m__law_pick := by
  have nd := sc__law_pick.nd
  exact df_mk2 (g := b__law_pick) (np := 3) (nn := 3) F sp__law_pick.2 bp__law_pick.2 sc__law_pick gm bs fun cdv A outer s H E hr => (bx_one (sx_ret (ex_ix rfl (ex_var 2 (pv 2)) (ex_callD (takes_of rfl rfl rfl rfl) rfl hr D__law_draw (by decide) (ax_cons (ex_var 0 (pv 0)) (ax_cons (ex_var 1 (pv 1)) (ax_cons (ex_cb call_len (cs_len rfl) rfl T.n_len boot_len (ax_cons (ex_var 2 (pv 2)) ax_nil)) ax_nil)))))))
abbrev s__law_style : Stmt := topS 28
def sp__law_style : {s : Scope // defScope s__law_style = s} := ⟨_, by conv => lhs; whnf⟩
def bp__law_style : {s : List Stmt // defBody s__law_style = s} := ⟨_, by conv => lhs; whnf⟩
theorem sc__law_style : FnScope ["_law_script", "_law_town", "_law_most", "_law_sizes", "_law_names", "_law_k", "_law_factor", "_law_more", "_law_turn", "_law_mode", "_law_trim", "_law_promote"] ["_law_script", "_law_town", "_law_most"] sp__law_style.1 := ⟨rfl, rfl, rfl, by decide +kernel, rfl, by decide +kernel, by decide +kernel⟩
theorem df__law_style (T : Tx c mg) {f : Addr} {fd : FuncData} (F : Fun c.K "_law_style" "_law_style" s__law_style f fd) (gm : mg "_law_style" = some (.ref f)) (bs : Binds c.K fd ["_law_script", "_law_town", "_law_most"] [])
    (D__law_draw : Df P w c mg base "_law_draw" 1 ["_law_script", "_law_town", "_law_many"] m__law_draw)
    (D__law_pick : Df P w c mg base "_law_pick" 2 ["_law_script", "_law_town", "_law_some"] m__law_pick)
    : Df P w c mg base "_law_style" 3 ["_law_script", "_law_town", "_law_most"] m__law_style := by
  have nd := sc__law_style.nd
  exact df_mk2 (g := b__law_style) (np := 3) (nn := 12) F sp__law_style.2 bp__law_style.2 sc__law_style gm bs fun cdv A outer s H E hr => (bx_cons (sx_par 3 4 rfl nd rfl rfl (ex_lstO (ax_cons ex_int ax_nil)) (ex_lst (ax_cons (ex_str [] rfl) (ax_cons (ex_str [107] rfl) (ax_cons (ex_str [77] rfl) (ax_cons (ex_str [71, 105] rfl) (ax_cons (ex_str [116] rfl) ax_nil))))))) (bx_cons (sx_for (passes_of rfl) rfl (ix_range1 rfl T.n_range (ax_cons (ex_callD (takes_of rfl rfl rfl rfl) rfl hr D__law_draw (by decide) (ax_cons (ex_var 0 (pv 0)) (ax_cons (ex_var 1 (pv 1)) (ax_cons (ex_var 2 (pv 2)) ax_nil)))) ax_nil)) (tg_name 5 nd (by first | exact .inl rfl | exact .inr rfl)) (bx_cons (sx_par 6 7 rfl nd rfl rfl (ex_callD (takes_of rfl rfl rfl rfl) rfl hr D__law_pick (by decide) (ax_cons (ex_var 0 (pv 0)) (ax_cons (ex_var 1 (pv 1)) (ax_cons (ex_lst (ax_cons ex_int (ax_cons ex_int (ax_cons ex_int (ax_cons ex_int (ax_cons ex_int (ax_cons ex_int (ax_cons ex_int (ax_cons ex_int (ax_cons ex_int ax_nil)))))))))) ax_nil)))) (ex_callD (takes_of rfl rfl rfl rfl) rfl hr D__law_draw (by decide) (ax_cons (ex_var 0 (pv 0)) (ax_cons (ex_var 1 (pv 1)) (ax_cons ex_int ax_nil))))) (bx_cons (sx_if (tx_cmp (op_eqA (room64 hr)) (os_eq rfl) (ex_callD (takes_of rfl rfl rfl rfl) rfl hr D__law_draw (by decide) (ax_cons (ex_var 0 (pv 0)) (ax_cons (ex_var 1 (pv 1)) (ax_cons ex_int ax_nil)))) ex_int rfl) (bx_one (sx_set 7 nd (by first | exact .inl rfl | exact .inr rfl) ex_int)) bx_nil) (bx_one (sx_if (tx_cmp op_gt os_gt (ex_op op_addAny os_add (ex_op op_mulAny os_mul (ex_ix rfl (ex_var 3 (pv 3)) (ex_neg ex_int)) (ex_var 6 (pv 6))) (ex_var 7 (pv 7))) (ex_ix rfl (ex_var 3 (pv 3)) (ex_neg ex_int)) rfl) (bx_one (sx_expr (ex_bm rfl PySem.F.plainAttrs_list PySem.F.slot_list_append PySem.F.type_list_append mt_append mS_append (ex_var 3 (pv 3)) (ax_cons (ex_op op_addAny os_add (ex_op op_mulAny os_mul (ex_ix rfl (ex_var 3 (pv 3)) (ex_neg ex_int)) (ex_var 6 (pv 6))) (ex_var 7 (pv 7))) ax_nil)))) bx_nil))))) (bx_cons (sx_set 8 nd (by first | exact .inl rfl | exact .inr rfl) (ex_callD (takes_of rfl rfl rfl rfl) rfl hr D__law_draw (by decide) (ax_cons (ex_var 0 (pv 0)) (ax_cons (ex_var 1 (pv 1)) (ax_cons ex_int ax_nil))))) (bx_cons (sx_set 4 nd (by first | exact .inl rfl | exact .inr rfl) (ex_op op_addAny os_add (ex_sl rfl (ex_var 4 (pv 4)) (ox_some (ex_var 8 (pv 8))) ox_none) (ex_sl rfl (ex_var 4 (pv 4)) ox_none (ox_some (ex_var 8 (pv 8)))))) (bx_cons (sx_set 9 nd (by first | exact .inl rfl | exact .inr rfl) (ex_callD (takes_of rfl rfl rfl rfl) rfl hr D__law_pick (by decide) (ax_cons (ex_var 0 (pv 0)) (ax_cons (ex_var 1 (pv 1)) (ax_cons (ex_lst (ax_cons (ex_str [100, 111, 119, 110] rfl) (ax_cons (ex_str [117, 112] rfl) (ax_cons (ex_str [104, 97, 108, 102] rfl) (ax_cons (ex_str [101, 118, 101, 110] rfl) ax_nil))))) ax_nil))))) (bx_cons (sx_par 10 11 rfl nd rfl rfl (ex_cmp (op_eqA (room64 hr)) (os_eq rfl) (ex_callD (takes_of rfl rfl rfl rfl) rfl hr D__law_draw (by decide) (ax_cons (ex_var 0 (pv 0)) (ax_cons (ex_var 1 (pv 1)) (ax_cons ex_int ax_nil)))) ex_int rfl) (ex_cmp (op_eqA (room64 hr)) (os_eq rfl) (ex_callD (takes_of rfl rfl rfl rfl) rfl hr D__law_draw (by decide) (ax_cons (ex_var 0 (pv 0)) (ax_cons (ex_var 1 (pv 1)) (ax_cons ex_int ax_nil)))) ex_int rfl)) (bx_one (sx_ret (ex_tup (ax_cons (ex_tupZip rfl rfl rfl T.n_tuple rfl T.n_zip (ax_cons (ex_var 4 (pv 4)) (ax_cons (ex_var 3 (pv 3)) ax_nil))) (ax_cons (ex_callD (takes_of rfl rfl rfl rfl) rfl hr D__law_draw (by decide) (ax_cons (ex_var 0 (pv 0)) (ax_cons (ex_var 1 (pv 1)) (ax_cons ex_int ax_nil)))) (ax_cons (ex_var 9 (pv 9)) (ax_cons (ex_var 10 (pv 10)) (ax_cons (ex_var 11 (pv 11)) ax_nil))))))))))))))
abbrev s__law_form : Stmt := topS 30
def sp__law_form : {s : Scope // defScope s__law_form = s} := ⟨_, by conv => lhs; whnf⟩
def bp__law_form : {s : List Stmt // defBody s__law_form = s} := ⟨_, by conv => lhs; whnf⟩
theorem sc__law_form : FnScope ["_law_style_here", "_law_text", "_law_name", "_law_size"] ["_law_style_here"] sp__law_form.1 := ⟨rfl, rfl, rfl, by decide +kernel, rfl, by decide +kernel, by decide +kernel⟩
theorem df__law_form (T : Tx c mg) {f : Addr} {fd : FuncData} (F : Fun c.K "_law_form" "_law_form" s__law_form f fd) (gm : mg "_law_form" = some (.ref f)) (bs : Binds c.K fd ["_law_style_here"] [])
    : Df P w c mg base "_law_form" 1 ["_law_style_here"] m__law_form := by
  have nd := sc__law_form.nd
  exact df_mk2 (g := b__law_form) (np := 1) (nn := 4) F sp__law_form.2 bp__law_form.2 sc__law_form gm bs fun cdv A outer s H E hr => (bx_cons (sx_set 1 nd (by first | exact .inl rfl | exact .inr rfl) (ex_str [] rfl)) (bx_cons (sx_for (passes_of rfl) rfl (ix_tup (ex_ix rfl (ex_var 0 (pv 0)) ex_int)) (tg_tup rfl (gx_cons 2 nd (by first | exact .inl rfl | exact .inr rfl) (gx_cons 3 nd (by first | exact .inl rfl | exact .inr rfl) gx_nil))) (bx_one (sx_set 1 nd (by first | exact .inl rfl | exact .inr rfl) (ex_op op_addAny os_add (ex_op op_addAny os_add (ex_op op_addAny os_add (ex_op op_addAny os_add (ex_var 1 (pv 1)) (ex_if (tx_cmp (op_neA (room64 hr)) (os_ne rfl) (ex_var 1 (pv 1)) (ex_str [] rfl) rfl) (ex_str [44] rfl) (ex_str [] rfl))) (ex_cty call_str_int cs_str rfl T.n_str boot_str (ax_cons (ex_var 3 (pv 3)) ax_nil))) (ex_str [58] rfl)) (ex_var 2 (pv 2)))))) (bx_cons (sx_set 1 nd (by first | exact .inl rfl | exact .inr rfl) (ex_op op_addAny os_add (ex_op op_addAny os_add (ex_op op_addAny os_add (ex_op op_addAny os_add (ex_var 1 (pv 1)) (ex_str [32] rfl)) (ex_cty call_str_int cs_str rfl T.n_str boot_str (ax_cons (ex_ix rfl (ex_var 0 (pv 0)) ex_int) ax_nil))) (ex_str [32] rfl)) (ex_ix rfl (ex_var 0 (pv 0)) ex_int))) (bx_one (sx_ret (ex_op op_addAny os_add (ex_op op_addAny os_add (ex_var 1 (pv 1)) (ex_if (tx_val (ex_ix rfl (ex_var 0 (pv 0)) ex_int)) (ex_str [32, 116, 114, 105, 109] rfl) (ex_str [] rfl))) (ex_if (tx_val (ex_ix rfl (ex_var 0 (pv 0)) ex_int)) (ex_str [32, 112, 114, 111, 109, 111, 116, 101] rfl) (ex_str [] rfl))))))))
abbrev s_is_name : Stmt := topS 13
def sp_is_name : {s : Scope // defScope s_is_name = s} := ⟨_, by conv => lhs; whnf⟩
def bp_is_name : {s : List Stmt // defBody s_is_name = s} := ⟨_, by conv => lhs; whnf⟩
theorem sc_is_name : FnScope ["value", "char"] ["value"] sp_is_name.1 := ⟨rfl, rfl, rfl, by decide +kernel, rfl, by decide +kernel, by decide +kernel⟩
theorem df_is_name (T : Tx c mg) {f : Addr} {fd : FuncData} (F : Fun c.K "is_name" "is_name" s_is_name f fd) (gm : mg "is_name" = some (.ref f)) (bs : Binds c.K fd ["value"] [])
    : Df P w c mg base "is_name" 1 ["value"] m_is_name := by
  have nd := sc_is_name.nd
  exact df_mk2 (g := b_is_name) (np := 1) (nn := 2) F sp_is_name.2 bp_is_name.2 sc_is_name gm bs fun cdv A outer s H E hr => (bx_one (sx_ret (ex_and (ex_cb call_isi cs_isi rfl T.n_isinstance boot_isinstance (ax_cons (ex_var 0 (pv 0)) (ax_cons (ex_ty rfl T.n_str boot_str) ax_nil))) (ex_and (ex_cmp op_le os_le (ex_cb call_len (cs_len rfl) rfl T.n_len boot_len (ax_cons (ex_var 0 (pv 0)) ax_nil)) ex_int rfl) (ex_one (ex_cb (cr_all rfl) (cs_all rfl) rfl T.n_all boot_all (ax_cons (ex_lc rfl nd (ix_str (ex_var 0 (pv 0))) (own := [("char", 1)]) (blkOk_by (N := ["value", "char"]) (sc := sp_is_name.1) (by decide +kernel)) (fun _ _ _ _ _ => (tg_name 1 nd (by first | exact .inl rfl | exact .inr rfl))) (fun _ _ _ _ _ => ts_nil) (fun _ _ _ _ _ => (ex_cmp op_inA (os_in rfl) (ex_var 1 (pv 1)) (ex_txtD T.c_LETTERS) rfl))) ax_nil)))))))
abbrev s_is_count : Stmt := topS 12
def sp_is_count : {s : Scope // defScope s_is_count = s} := ⟨_, by conv => lhs; whnf⟩
def bp_is_count : {s : List Stmt // defBody s_is_count = s} := ⟨_, by conv => lhs; whnf⟩
theorem sc_is_count : FnScope ["value", "least", "most"] ["value", "least", "most"] sp_is_count.1 := ⟨rfl, rfl, rfl, by decide +kernel, rfl, by decide +kernel, by decide +kernel⟩
theorem df_is_count (T : Tx c mg) {f : Addr} {fd : FuncData} (F : Fun c.K "is_count" "is_count" s_is_count f fd) (gm : mg "is_count" = some (.ref f)) (bs : Binds c.K fd ["value", "least", "most"] [])
    : Df P w c mg base "is_count" 1 ["value", "least", "most"] m_is_count := by
  have nd := sc_is_count.nd
  exact df_mk2 (g := b_is_count) (np := 3) (nn := 3) F sp_is_count.2 bp_is_count.2 sc_is_count gm bs fun cdv A outer s H E hr => (bx_one (sx_ret (ex_and (ex_cb call_isi cs_isi rfl T.n_isinstance boot_isinstance (ax_cons (ex_var 0 (pv 0)) (ax_cons (ex_ty rfl T.n_int boot_int) ax_nil))) (ex_and (ex_not (ex_cb call_isi cs_isi rfl T.n_isinstance boot_isinstance (ax_cons (ex_var 0 (pv 0)) (ax_cons (ex_ty rfl T.n_bool boot_bool) ax_nil)))) (ex_one (ex_chain op_le os_le op_le os_le (ex_var 1 (pv 1)) (ex_var 0 (pv 0)) (ex_var 2 (pv 2))))))))
abbrev s_is_scale : Stmt := topS 14
def sp_is_scale : {s : Scope // defScope s_is_scale = s} := ⟨_, by conv => lhs; whnf⟩
def bp_is_scale : {s : List Stmt // defBody s_is_scale = s} := ⟨_, by conv => lhs; whnf⟩
theorem sc_is_scale : FnScope ["value", "before", "name", "size", "unit"] ["value"] sp_is_scale.1 := ⟨rfl, rfl, rfl, by decide +kernel, rfl, by decide +kernel, by decide +kernel⟩
theorem df_is_scale (T : Tx c mg) {f : Addr} {fd : FuncData} (F : Fun c.K "is_scale" "is_scale" s_is_scale f fd) (gm : mg "is_scale" = some (.ref f)) (bs : Binds c.K fd ["value"] [])
    (D_is_name : Df P w c mg base "is_name" 1 ["value"] m_is_name)
    (D_is_count : Df P w c mg base "is_count" 1 ["value", "least", "most"] m_is_count)
    : Df P w c mg base "is_scale" 2 ["value"] m_is_scale := by
  have nd := sc_is_scale.nd
  exact df_mk2 (g := b_is_scale) (np := 1) (nn := 5) F sp_is_scale.2 bp_is_scale.2 sc_is_scale gm bs fun cdv A outer s H E hr => (bx_cons (sx_if (wx_t (wx_or (tx_not (tx_val (ex_cb call_isi cs_isi rfl T.n_isinstance boot_isinstance (ax_cons (ex_var 0 (pv 0)) (ax_cons (ex_ty rfl T.n_tuple boot_tuple) ax_nil))))) (wx_or1 (tx_not (tx_chain op_le os_le op_le os_le ex_int (ex_cb call_len (cs_len rfl) rfl T.n_len boot_len (ax_cons (ex_var 0 (pv 0)) ax_nil)) (ex_intD T.c_UNITS)))))) (bx_one (sx_ret ex_bl)) bx_nil) (bx_cons (sx_if (tx_not (tx_val (ex_cb (cr_all rfl) (cs_all rfl) rfl T.n_all boot_all (ax_cons (ex_lc rfl nd (ix_tup (ex_var 0 (pv 0))) (own := [("unit", 4)]) (blkOk_by (N := ["value", "before", "name", "size", "unit"]) (sc := sp_is_scale.1) (by decide +kernel)) (fun _ _ _ _ _ => (tg_name 4 nd (by first | exact .inl rfl | exact .inr rfl))) (fun _ _ _ _ _ => ts_nil) (fun _ _ _ _ _ => (ex_and (ex_cb call_isi cs_isi rfl T.n_isinstance boot_isinstance (ax_cons (ex_var 4 (pv 4)) (ax_cons (ex_ty rfl T.n_tuple boot_tuple) ax_nil))) (ex_and (ex_cmp (op_eqA (room64 hr)) (os_eq rfl) (ex_cb call_len (cs_len rfl) rfl T.n_len boot_len (ax_cons (ex_var 4 (pv 4)) ax_nil)) ex_int rfl) (ex_one (ex_callD takes0 rfl hr D_is_name (by decide) (ax_cons (ex_ix rfl (ex_var 4 (pv 4)) ex_int) ax_nil))))))) ax_nil)))) (bx_one (sx_ret ex_bl)) bx_nil) (bx_cons (sx_set 1 nd (by first | exact .inl rfl | exact .inr rfl) ex_non) (bx_cons (sx_for (passes_of rfl) rfl (ix_tup (ex_var 0 (pv 0))) (tg_tup rfl (gx_cons 2 nd (by first | exact .inl rfl | exact .inr rfl) (gx_cons 3 nd (by first | exact .inl rfl | exact .inr rfl) gx_nil))) (bx_cons (sx_if (tx_not (tx_val (ex_callD (takes_of rfl rfl rfl rfl) rfl hr D_is_count (by decide) (ax_cons (ex_var 3 (pv 3)) (ax_cons (ex_if (tx_cmp op_isA os_is (ex_var 1 (pv 1)) ex_non rfl) ex_int (ex_op op_addAny os_add (ex_var 1 (pv 1)) ex_int)) (ax_cons (ex_if (tx_cmp op_isA os_is (ex_var 1 (pv 1)) ex_non rfl) ex_int (ex_op op_mulAny os_mul (ex_var 1 (pv 1)) (ex_intD T.c_RATIO))) ax_nil)))))) (bx_one (sx_ret ex_bl)) bx_nil) (bx_one (sx_set 1 nd (by first | exact .inl rfl | exact .inr rfl) (ex_var 3 (pv 3)))))) (bx_one (sx_ret (ex_cmp (op_eqA (room64 hr)) (os_eq rfl) (ex_setLen rfl rfl rfl T.n_len rfl T.n_set (ex_lc rfl nd (ix_tup (ex_var 0 (pv 0))) (own := [("name", 2), ("size", 3)]) (blkOk_by (N := ["value", "before", "name", "size", "unit"]) (sc := sp_is_scale.1) (by decide +kernel)) (fun _ _ _ _ _ => (tg_tup rfl (gx_cons 2 nd (by first | exact .inl rfl | exact .inr rfl) (gx_cons 3 nd (by first | exact .inl rfl | exact .inr rfl) gx_nil)))) (fun _ _ _ _ _ => ts_nil) (fun _ _ _ _ _ => (ex_var 2 (pv 2))))) (ex_cb call_len (cs_len rfl) rfl T.n_len boot_len (ax_cons (ex_var 0 (pv 0)) ax_nil)) rfl)))))))
abbrev s_is_style : Stmt := topS 15
def sp_is_style : {s : Scope // defScope s_is_style = s} := ⟨_, by conv => lhs; whnf⟩
def bp_is_style : {s : List Stmt // defBody s_is_style = s} := ⟨_, by conv => lhs; whnf⟩
theorem sc_is_style : FnScope ["value"] ["value"] sp_is_style.1 := ⟨rfl, rfl, rfl, by decide +kernel, rfl, by decide +kernel, by decide +kernel⟩
theorem df_is_style (T : Tx c mg) {f : Addr} {fd : FuncData} (F : Fun c.K "is_style" "is_style" s_is_style f fd) (gm : mg "is_style" = some (.ref f)) (bs : Binds c.K fd ["value"] [])
    (D_is_scale : Df P w c mg base "is_scale" 2 ["value"] m_is_scale)
    (D_is_count : Df P w c mg base "is_count" 1 ["value", "least", "most"] m_is_count)
    : Df P w c mg base "is_style" 3 ["value"] m_is_style := by
  have nd := sc_is_style.nd
  exact df_mk2 (g := b_is_style) (np := 1) (nn := 1) F sp_is_style.2 bp_is_style.2 sc_is_style gm bs fun cdv A outer s H E hr => (bx_cons (sx_if (wx_t (wx_or (tx_not (tx_val (ex_cb call_isi cs_isi rfl T.n_isinstance boot_isinstance (ax_cons (ex_var 0 (pv 0)) (ax_cons (ex_ty rfl T.n_tuple boot_tuple) ax_nil))))) (wx_or (tx_cmp (op_neA (room64 hr)) (os_ne rfl) (ex_cb call_len (cs_len rfl) rfl T.n_len boot_len (ax_cons (ex_var 0 (pv 0)) ax_nil)) ex_int rfl) (wx_or (tx_not (tx_val (ex_callD (takes_of rfl rfl rfl rfl) rfl hr D_is_scale (by decide) (ax_cons (ex_ix rfl (ex_var 0 (pv 0)) ex_int) ax_nil)))) (wx_or1 (tx_not (tx_val (ex_callD (takes_of rfl rfl rfl rfl) rfl hr D_is_count (by decide) (ax_cons (ex_ix rfl (ex_var 0 (pv 0)) ex_int) (ax_cons ex_int (ax_cons ex_int ax_nil))))))))))) (bx_one (sx_ret ex_bl)) bx_nil) (bx_cons (sx_if (wx_t (wx_or (tx_not (tx_val (ex_cb call_isi cs_isi rfl T.n_isinstance boot_isinstance (ax_cons (ex_ix rfl (ex_var 0 (pv 0)) ex_int) (ax_cons (ex_ty rfl T.n_str boot_str) ax_nil))))) (wx_or1 (tx_notInD rfl T.c_MODES (ex_ix rfl (ex_var 0 (pv 0)) ex_int))))) (bx_one (sx_ret ex_bl)) bx_nil) (bx_one (sx_ret (ex_and (ex_cb call_isi cs_isi rfl T.n_isinstance boot_isinstance (ax_cons (ex_ix rfl (ex_var 0 (pv 0)) ex_int) (ax_cons (ex_ty rfl T.n_bool boot_bool) ax_nil))) (ex_one (ex_cb call_isi cs_isi rfl T.n_isinstance boot_isinstance (ax_cons (ex_ix rfl (ex_var 0 (pv 0)) ex_int) (ax_cons (ex_ty rfl T.n_bool boot_bool) ax_nil)))))))))
abbrev s_need_style : Stmt := topS 16
def sp_need_style : {s : Scope // defScope s_need_style = s} := ⟨_, by conv => lhs; whnf⟩
def bp_need_style : {s : List Stmt // defBody s_need_style = s} := ⟨_, by conv => lhs; whnf⟩
theorem sc_need_style : FnScope ["value"] ["value"] sp_need_style.1 := ⟨rfl, rfl, rfl, by decide +kernel, rfl, by decide +kernel, by decide +kernel⟩
theorem df_need_style (T : Tx c mg) {f : Addr} {fd : FuncData} (F : Fun c.K "need_style" "need_style" s_need_style f fd) (gm : mg "need_style" = some (.ref f)) (bs : Binds c.K fd ["value"] [])
    (D_is_style : Df P w c mg base "is_style" 3 ["value"] m_is_style)
    : Df P w c mg base "need_style" 4 ["value"] m_need_style := by
  have nd := sc_need_style.nd
  exact df_mk2 (g := b_need_style) (np := 1) (nn := 1) F sp_need_style.2 bp_need_style.2 sc_need_style gm bs fun cdv A outer s H E hr => (bx_one (sx_if (tx_not (tx_val (ex_callD (takes_of rfl rfl rfl rfl) rfl hr D_is_style (by decide) (ax_cons (ex_var 0 (pv 0)) ax_nil)))) (bx_one (sx_raiseD rfl (takes_of rfl rfl rfl rfl) rfl T.x_InvalidStyle)) bx_nil))
abbrev s_formatted : Stmt := topS 21
def sp_formatted : {s : Scope // defScope s_formatted = s} := ⟨_, by conv => lhs; whnf⟩
def bp_formatted : {s : List Stmt // defBody s_formatted = s} := ⟨_, by conv => lhs; whnf⟩
theorem sc_formatted : FnScope ["style", "scale", "places", "mode", "trim", "promote", "units", "name", "size"] ["style"] sp_formatted.1 := ⟨rfl, rfl, rfl, by decide +kernel, rfl, by decide +kernel, by decide +kernel⟩
theorem df_formatted (T : Tx c mg) {f : Addr} {fd : FuncData} (F : Fun c.K "formatted" "formatted" s_formatted f fd) (gm : mg "formatted" = some (.ref f)) (bs : Binds c.K fd ["style"] [])
    : Df P w c mg base "formatted" 1 ["style"] m_formatted := by
  have nd := sc_formatted.nd
  exact df_mk2 (g := b_formatted) (np := 1) (nn := 9) F sp_formatted.2 bp_formatted.2 sc_formatted gm bs fun cdv A outer s H E hr => (bx_cons (sx_unT rfl (ex_var 0 (pv 0)) (gx_cons 1 nd (by first | exact .inl rfl | exact .inr rfl) (gx_cons 2 nd (by first | exact .inl rfl | exact .inr rfl) (gx_cons 3 nd (by first | exact .inl rfl | exact .inr rfl) (gx_cons 4 nd (by first | exact .inl rfl | exact .inr rfl) (gx_cons 5 nd (by first | exact .inl rfl | exact .inr rfl) gx_nil)))))) (bx_cons (sx_set 6 nd (by first | exact .inl rfl | exact .inr rfl) (ex_bm rfl PySem.F.plainAttrs_str PySem.F.slot_str_join PySem.F.type_str_join mt_join (mS_join rfl) (ex_str [44] rfl) (ax_cons (ex_lc rfl nd (ix_tup (ex_var 1 (pv 1))) (own := [("name", 7), ("size", 8)]) (blkOk_by (N := ["style", "scale", "places", "mode", "trim", "promote", "units", "name", "size"]) (sc := sp_formatted.1) (by decide +kernel)) (fun _ _ _ _ _ => (tg_tup rfl (gx_cons 7 nd (by first | exact .inl rfl | exact .inr rfl) (gx_cons 8 nd (by first | exact .inl rfl | exact .inr rfl) gx_nil)))) (fun _ _ _ _ _ => ts_nil) (fun _ _ _ _ _ => (ex_op op_addAny os_add (ex_op op_addAny os_add (ex_cty call_str_int cs_str rfl T.n_str boot_str (ax_cons (ex_var 8 (pv 8)) ax_nil)) (ex_str [58] rfl)) (ex_var 7 (pv 7))))) ax_nil))) (bx_one (sx_ret (ex_op op_addAny os_add (ex_op op_addAny os_add (ex_op op_addAny os_add (ex_op op_addAny os_add (ex_op op_addAny os_add (ex_op op_addAny os_add (ex_var 6 (pv 6)) (ex_str [32] rfl)) (ex_cty call_str_int cs_str rfl T.n_str boot_str (ax_cons (ex_var 2 (pv 2)) ax_nil))) (ex_str [32] rfl)) (ex_var 3 (pv 3))) (ex_if (tx_val (ex_var 4 (pv 4))) (ex_str [32, 116, 114, 105, 109] rfl) (ex_str [] rfl))) (ex_if (tx_val (ex_var 5 (pv 5))) (ex_str [32, 112, 114, 111, 109, 111, 116, 101] rfl) (ex_str [] rfl)))))))
abbrev s_format_style : Stmt := topS 22
def sp_format_style : {s : Scope // defScope s_format_style = s} := ⟨_, by conv => lhs; whnf⟩
def bp_format_style : {s : List Stmt // defBody s_format_style = s} := ⟨_, by conv => lhs; whnf⟩
theorem sc_format_style : FnScope ["style"] ["style"] sp_format_style.1 := ⟨rfl, rfl, rfl, by decide +kernel, rfl, by decide +kernel, by decide +kernel⟩
theorem df_format_style (T : Tx c mg) {f : Addr} {fd : FuncData} (F : Fun c.K "format_style" "format_style" s_format_style f fd) (gm : mg "format_style" = some (.ref f)) (bs : Binds c.K fd ["style"] [])
    (D_need_style : Df P w c mg base "need_style" 4 ["value"] m_need_style)
    (D_formatted : Df P w c mg base "formatted" 1 ["style"] m_formatted)
    : Df P w c mg base "format_style" 5 ["style"] m_format_style := by
  have nd := sc_format_style.nd
  exact df_mk2 (g := b_format_style) (np := 1) (nn := 1) F sp_format_style.2 bp_format_style.2 sc_format_style gm bs fun cdv A outer s H E hr => (bx_cons (sx_expr (ex_callD (takes_of rfl rfl rfl rfl) rfl hr D_need_style (by decide) (ax_cons (ex_var 0 (pv 0)) ax_nil))) (bx_one (sx_ret (ex_callD (takes_of rfl rfl rfl rfl) rfl hr D_formatted (by decide) (ax_cons (ex_var 0 (pv 0)) ax_nil)))))
abbrev s_is_digits : Stmt := topS 19
def sp_is_digits : {s : Scope // defScope s_is_digits = s} := ⟨_, by conv => lhs; whnf⟩
def bp_is_digits : {s : List Stmt // defBody s_is_digits = s} := ⟨_, by conv => lhs; whnf⟩
theorem sc_is_digits : FnScope ["text", "char"] ["text"] sp_is_digits.1 := ⟨rfl, rfl, rfl, by decide +kernel, rfl, by decide +kernel, by decide +kernel⟩
theorem df_is_digits (T : Tx c mg) {f : Addr} {fd : FuncData} (F : Fun c.K "is_digits" "is_digits" s_is_digits f fd) (gm : mg "is_digits" = some (.ref f)) (bs : Binds c.K fd ["text"] [])
    : Df P w c mg base "is_digits" 1 ["text"] m_is_digits := by
  have nd := sc_is_digits.nd
  exact df_mk2 (g := b_is_digits) (np := 1) (nn := 2) F sp_is_digits.2 bp_is_digits.2 sc_is_digits gm bs fun cdv A outer s H E hr => (bx_one (sx_ret (ex_and (ex_chain op_le os_le op_le os_le ex_int (ex_cb call_len (cs_len rfl) rfl T.n_len boot_len (ax_cons (ex_var 0 (pv 0)) ax_nil)) ex_int) (ex_one (ex_cb (cr_all rfl) (cs_all rfl) rfl T.n_all boot_all (ax_cons (ex_lc rfl nd (ix_str (ex_var 0 (pv 0))) (own := [("char", 1)]) (blkOk_by (N := ["text", "char"]) (sc := sp_is_digits.1) (by decide +kernel)) (fun _ _ _ _ _ => (tg_name 1 nd (by first | exact .inl rfl | exact .inr rfl))) (fun _ _ _ _ _ => ts_nil) (fun _ _ _ _ _ => (ex_cmp op_inA (os_in rfl) (ex_var 1 (pv 1)) (ex_txtD T.c_DIGITS) rfl))) ax_nil))))))
abbrev s_parsed_unit : Stmt := topS 23
def sp_parsed_unit : {s : Scope // defScope s_parsed_unit = s} := ⟨_, by conv => lhs; whnf⟩
def bp_parsed_unit : {s : List Stmt // defBody s_parsed_unit = s} := ⟨_, by conv => lhs; whnf⟩
theorem sc_parsed_unit : FnScope ["text", "size", "found", "name"] ["text"] sp_parsed_unit.1 := ⟨rfl, rfl, rfl, by decide +kernel, rfl, by decide +kernel, by decide +kernel⟩
theorem df_parsed_unit (T : Tx c mg) {f : Addr} {fd : FuncData} (F : Fun c.K "parsed_unit" "parsed_unit" s_parsed_unit f fd) (gm : mg "parsed_unit" = some (.ref f)) (bs : Binds c.K fd ["text"] [])
    (D_is_digits : Df P w c mg base "is_digits" 1 ["text"] m_is_digits)
    : Df P w c mg base "parsed_unit" 2 ["text"] m_parsed_unit := by
  have nd := sc_parsed_unit.nd
  exact df_mk2 (g := b_parsed_unit) (np := 1) (nn := 4) F sp_parsed_unit.2 bp_parsed_unit.2 sc_parsed_unit gm bs fun cdv A outer s H E hr => (bx_cons (sx_unT rfl (ex_bm rfl PySem.F.plainAttrs_str PySem.F.slot_str_partition PySem.F.type_str_partition mt_partition mS_partition (ex_var 0 (pv 0)) (ax_cons (ex_str [58] rfl) ax_nil)) (gx_cons 1 nd (by first | exact .inl rfl | exact .inr rfl) (gx_cons 2 nd (by first | exact .inl rfl | exact .inr rfl) (gx_cons 3 nd (by first | exact .inl rfl | exact .inr rfl) gx_nil)))) (bx_one (sx_ret (ex_tup (ax_cons (ex_var 3 (pv 3)) (ax_cons (ex_if (tx_val (ex_callD (takes_of rfl rfl rfl rfl) rfl hr D_is_digits (by decide) (ax_cons (ex_var 1 (pv 1)) ax_nil))) (ex_cty call_int_str cs_int rfl T.n_int boot_int (ax_cons (ex_var 1 (pv 1)) ax_nil)) ex_non) ax_nil))))))
abbrev s_parse_style : Stmt := topS 24
def sp_parse_style : {s : Scope // defScope s_parse_style = s} := ⟨_, by conv => lhs; whnf⟩
def bp_parse_style : {s : List Stmt // defBody s_parse_style = s} := ⟨_, by conv => lhs; whnf⟩
theorem sc_parse_style : FnScope ["text", "words", "scale", "style", "unit"] ["text"] sp_parse_style.1 := ⟨rfl, rfl, rfl, by decide +kernel, rfl, by decide +kernel, by decide +kernel⟩
theorem df_parse_style (T : Tx c mg) {f : Addr} {fd : FuncData} (F : Fun c.K "parse_style" "parse_style" s_parse_style f fd) (gm : mg "parse_style" = some (.ref f)) (bs : Binds c.K fd ["text"] [])
    (D_is_digits : Df P w c mg base "is_digits" 1 ["text"] m_is_digits)
    (D_parsed_unit : Df P w c mg base "parsed_unit" 2 ["text"] m_parsed_unit)
    (D_is_style : Df P w c mg base "is_style" 3 ["value"] m_is_style)
    (D_formatted : Df P w c mg base "formatted" 1 ["style"] m_formatted)
    : Df P w c mg base "parse_style" 4 ["text"] m_parse_style := by
  have nd := sc_parse_style.nd
  exact df_mk2 (g := b_parse_style) (np := 1) (nn := 5) F sp_parse_style.2 bp_parse_style.2 sc_parse_style gm bs fun cdv A outer s H E hr => (bx_cons (sx_if (tx_not (tx_val (ex_cb call_isi cs_isi rfl T.n_isinstance boot_isinstance (ax_cons (ex_var 0 (pv 0)) (ax_cons (ex_ty rfl T.n_str boot_str) ax_nil))))) (bx_one (sx_raiseD rfl (takes_of rfl rfl rfl rfl) rfl T.x_InvalidFormat)) bx_nil) (bx_cons (sx_set 1 nd (by first | exact .inl rfl | exact .inr rfl) (ex_bm rfl PySem.F.plainAttrs_str PySem.F.slot_str_split PySem.F.type_str_split mt_split mS_split (ex_var 0 (pv 0)) (ax_cons (ex_str [32] rfl) ax_nil))) (bx_cons (sx_if (wx_t (wx_or (tx_cmp op_lt os_ltI (ex_cb call_len (cs_len rfl) rfl T.n_len boot_len (ax_cons (ex_var 1 (pv 1)) ax_nil)) ex_int rfl) (wx_or1 (tx_not (tx_val (ex_callD (takes_of rfl rfl rfl rfl) rfl hr D_is_digits (by decide) (ax_cons (ex_ix rfl (ex_var 1 (pv 1)) ex_int) ax_nil))))))) (bx_one (sx_raiseD rfl (takes_of rfl rfl rfl rfl) rfl T.x_InvalidFormat)) bx_nil) (bx_cons (sx_set 2 nd (by first | exact .inl rfl | exact .inr rfl) (ex_cty call_tuple_of (cs_tuple rfl) rfl T.n_tuple boot_tuple (ax_cons (ex_lc rfl nd (ix_lst (ex_bm rfl PySem.F.plainAttrs_str PySem.F.slot_str_split PySem.F.type_str_split mt_split mS_split (ex_ix rfl (ex_var 1 (pv 1)) ex_int) (ax_cons (ex_str [44] rfl) ax_nil))) (own := [("unit", 4)]) (blkOk_by (N := ["text", "words", "scale", "style", "unit"]) (sc := sp_parse_style.1) (by decide +kernel)) (fun _ _ _ _ _ => (tg_name 4 nd (by first | exact .inl rfl | exact .inr rfl))) (fun _ _ _ _ _ => ts_nil) (fun _ _ _ _ _ => (ex_callD takes0 rfl hr D_parsed_unit (by decide) (ax_cons (ex_var 4 (pv 4)) ax_nil)))) ax_nil))) (bx_cons (sx_set 3 nd (by first | exact .inl rfl | exact .inr rfl) (ex_tup (ax_cons (ex_var 2 (pv 2)) (ax_cons (ex_cty call_int_str cs_int rfl T.n_int boot_int (ax_cons (ex_ix rfl (ex_var 1 (pv 1)) ex_int) ax_nil)) (ax_cons (ex_ix rfl (ex_var 1 (pv 1)) ex_int) (ax_cons (ex_cmp op_inA (os_in rfl) (ex_str [116, 114, 105, 109] rfl) (ex_sl rfl (ex_var 1 (pv 1)) (ox_some ex_int) ox_none) rfl) (ax_cons (ex_cmp op_inA (os_in rfl) (ex_str [112, 114, 111, 109, 111, 116, 101] rfl) (ex_sl rfl (ex_var 1 (pv 1)) (ox_some ex_int) ox_none) rfl) ax_nil))))))) (bx_cons (sx_if (wx_t (wx_or (tx_not (tx_val (ex_callD (takes_of rfl rfl rfl rfl) rfl hr D_is_style (by decide) (ax_cons (ex_var 3 (pv 3)) ax_nil)))) (wx_or1 (tx_cmp (op_neA (room64 hr)) (os_ne rfl) (ex_callD (takes_of rfl rfl rfl rfl) rfl hr D_formatted (by decide) (ax_cons (ex_var 3 (pv 3)) ax_nil)) (ex_var 0 (pv 0)) rfl)))) (bx_one (sx_raiseD rfl (takes_of rfl rfl rfl rfl) rfl T.x_InvalidFormat)) bx_nil) (bx_one (sx_ret (ex_var 3 (pv 3))))))))))
abbrev s__law_which : Stmt := topS 29
def sp__law_which : {s : Scope // defScope s__law_which = s} := ⟨_, by conv => lhs; whnf⟩
def bp__law_which : {s : List Stmt // defBody s__law_which = s} := ⟨_, by conv => lhs; whnf⟩
theorem sc__law_which : FnScope ["_law_error", "_law_own"] ["_law_error"] sp__law_which.1 := ⟨rfl, rfl, rfl, by decide +kernel, rfl, by decide +kernel, by decide +kernel⟩
theorem df__law_which (T : Tx c mg) {f : Addr} {fd : FuncData} (F : Fun c.K "_law_which" "_law_which" s__law_which f fd) (gm : mg "_law_which" = some (.ref f)) (kp : PySem.W.keepIn c.K (.ref f) = true) (bs : Binds c.K fd ["_law_error"] []) (n : Nat) (hE : ExcE c n) (k_InvalidStyle : KitD c mg n "InvalidStyle" (n == 1)) (k_InvalidNumber : KitD c mg n "InvalidNumber" (n == 2)) (k_InvalidText : KitD c mg n "InvalidText" (n == 3)) (k_NothingThere : KitD c mg n "NothingThere" (n == 4)) (k_InvalidFormat : KitD c mg n "InvalidFormat" (n == 5)) (kt : KitT c n "ValueError" true)
    : DfZ P w c mg base "_law_which" 1 n (m__law_which n) := by
  have nd := sc__law_which.nd
  obtain ⟨D, e, hx⟩ := id hE
  refine ⟨D, ["_law_error"], e, rfl, fun a => ⟨f, fd, ?_, gm, kp, bs⟩⟩
  refine fnz_mk (g := b__law_which n a) (np := 1) (nn := 2) F sp__law_which.2 bp__law_which.2 sc__law_which fun cdv A outer s H E p zp hr => ?_
  have zn : Zn c n a p := ⟨D, e, zp⟩
  exact (bx_cons (sx_set 1 nd (by first | exact .inl rfl | exact .inr rfl) (ex_lstO (ax_cons (ex_isD 0 rfl zn (List.mem_cons_self) hE k_InvalidStyle rfl T.n_isinstance (pv 0)) (ax_cons (ex_isD 0 rfl zn (List.mem_cons_self) hE k_InvalidNumber rfl T.n_isinstance (pv 0)) ax_nil)))) (bx_cons (sx_expr (ex_bm rfl PySem.F.plainAttrs_list PySem.F.slot_list_extend PySem.F.type_list_extend mt_extend mS_extend (ex_var 1 (pv 1)) (ax_cons (ex_lst (ax_cons (ex_isD 0 rfl zn (List.mem_cons_self) hE k_InvalidText rfl T.n_isinstance (pv 0)) ax_nil)) ax_nil))) (bx_cons (sx_expr (ex_bm rfl PySem.F.plainAttrs_list PySem.F.slot_list_extend PySem.F.type_list_extend mt_extend mS_extend (ex_var 1 (pv 1)) (ax_cons (ex_lst (ax_cons (ex_isD 0 rfl zn (List.mem_cons_self) hE k_NothingThere rfl T.n_isinstance (pv 0)) (ax_cons (ex_isD 0 rfl zn (List.mem_cons_self) hE k_InvalidFormat rfl T.n_isinstance (pv 0)) ax_nil))) ax_nil))) (bx_cons (sx_if (wx_t (wx_or (tx_cmp (op_neA (room64H hr)) (os_ne rfl) (ex_bm rfl PySem.F.plainAttrs_list PySem.F.slot_list_count PySem.F.type_list_count mt_cntF (mS_count rfl) (ex_var 1 (pv 1)) (ax_cons ex_bl ax_nil)) ex_int rfl) (wx_or1 (tx_not (tx_val (ex_isB 0 rfl zn (List.mem_cons_self) hE kt rfl T.n_isinstance (pv 0) T.n_ValueError (by decide +kernel))))))) (bx_one (sx_ret (ex_tup (ax_cons (ex_str [114, 97, 105, 115, 101, 100] rfl) (ax_cons (ex_neg ex_int) ax_nil))))) bx_nil) (bx_one (sx_ret (ex_tup (ax_cons (ex_str [114, 97, 105, 115, 101, 100] rfl) (ax_cons (ex_bm rfl PySem.F.plainAttrs_list PySem.F.slot_list_index PySem.F.type_list_index mt_index (mS_index rfl) (ex_var 1 (pv 1)) (ax_cons ex_bl ax_nil)) ax_nil)))))))))
abbrev s__law_ask : Stmt := topS 31
def sp__law_ask : {s : Scope // defScope s__law_ask = s} := ⟨_, by conv => lhs; whnf⟩
def bp__law_ask : {s : List Stmt // defBody s__law_ask = s} := ⟨_, by conv => lhs; whnf⟩
theorem sc__law_ask : FnScope ["_law_what", "_law_value", "_law_error"] ["_law_what", "_law_value"] sp__law_ask.1 := ⟨rfl, rfl, rfl, by decide +kernel, rfl, by decide +kernel, by decide +kernel⟩
theorem df__law_ask (T : Tx c mg) {f : Addr} {fd : FuncData} (F : Fun c.K "_law_ask" "_law_ask" s__law_ask f fd) (gm : mg "_law_ask" = some (.ref f)) (bs : Binds c.K fd ["_law_what", "_law_value"] [])
    (D_format_style : Df P w c mg base "format_style" 5 ["style"] m_format_style)
    (D_parse_style : Df P w c mg base "parse_style" 4 ["text"] m_parse_style)
    (TW : WhD P w c mg base "SizeError" "_law_which" 1 ok_which m__law_which)
    : Df P w c mg base "_law_ask" 6 ["_law_what", "_law_value"] m__law_ask := by
  have nd := sc__law_ask.nd
  obtain ⟨cS, gS, hw⟩ := TW
  exact df_mk2 (g := b__law_ask) (np := 2) (nn := 3) F sp__law_ask.2 bp__law_ask.2 sc__law_ask gm bs fun cdv A outer s H E hr => (bx_one (sx_tryW (i := 2) (lv := 1) (gg := m__law_which) rfl rfl nd rfl rfl ⟨rfl, by decide, .inl gS⟩ (takes_of rfl rfl rfl rfl) rfl (hr.mono (by decide)) (fun W1 pn xe tk1 => (bx_one (sx_ret (ex_sel (lv := 5) tk1 rfl hr (sel_cons rfl D_format_style rfl (by decide) (sel_cons rfl D_parse_style rfl (by decide) sel_nil)) (ex_var 0 (pv 0)) (ax_cons (ex_var 1 (pv 1)) ax_nil))))) (fun a pn => pv 2) rfl hw))
abbrev s_law : Stmt := topS 32
def sp_law : {s : Scope // defScope s_law = s} := ⟨_, by conv => lhs; whnf⟩
def bp_law : {s : List Stmt // defBody s_law = s} := ⟨_, by conv => lhs; whnf⟩
theorem sc_law : FnScope ["_law_script", "_law_town", "_law_style_here", "_law_text", "_law_k", "_law_at", "_law_char", "_law_bent", "_law_told", "_law_bad", "_law_one"] ["_law_script"] sp_law.1 := ⟨rfl, rfl, rfl, by decide +kernel, rfl, by decide +kernel, by decide +kernel⟩
theorem fn_law (T : Tx c mg) {f : Addr} {fd : FuncData} (F : Fun c.K "law" "law" s_law f fd)
    (D__law_style : Df P w c mg base "_law_style" 3 ["_law_script", "_law_town", "_law_most"] m__law_style)
    (D__law_form : Df P w c mg base "_law_form" 1 ["_law_style_here"] m__law_form)
    (D__law_ask : Df P w c mg base "_law_ask" 6 ["_law_what", "_law_value"] m__law_ask)
    (D__law_draw : Df P w c mg base "_law_draw" 1 ["_law_script", "_law_town", "_law_many"] m__law_draw)
    (D__law_pick : Df P w c mg base "_law_pick" 2 ["_law_script", "_law_town", "_law_some"] m__law_pick)
    (D_is_style : Df P w c mg base "is_style" 3 ["value"] m_is_style)
    : FnOk P w c.K mg base (L2.CX P w) 7 f fd ["_law_script"] (spD c 1 m_law) := by
  have nd := sc_law.nd
  exact fn_mk2 (g := b_law) (np := 1) (nn := 11) F sp_law.2 bp_law.2 sc_law fun cdv A outer s H E hr => (bx_cons (sx_set 1 nd (by first | exact .inl rfl | exact .inr rfl) (ex_lstO (ax_cons ex_int (ax_cons ex_int ax_nil)))) (bx_cons (sx_set 2 nd (by first | exact .inl rfl | exact .inr rfl) (ex_callD (takes_of rfl rfl rfl rfl) rfl hr D__law_style (by decide) (ax_cons (ex_var 0 (pv 0)) (ax_cons (ex_var 1 (pv 1)) (ax_cons ex_int ax_nil))))) (bx_cons (sx_set 3 nd (by first | exact .inl rfl | exact .inr rfl) (ex_callD (takes_of rfl rfl rfl rfl) rfl hr D__law_form (by decide) (ax_cons (ex_var 2 (pv 2)) ax_nil))) (bx_cons (sx_if (wx_t (wx_or (tx_cmp (op_neA (room64 hr)) (os_ne rfl) (ex_callD (takes_of rfl rfl rfl rfl) rfl hr D__law_ask (by decide) (ax_cons ex_int (ax_cons (ex_var 2 (pv 2)) ax_nil))) (ex_var 3 (pv 3)) rfl) (wx_or1 (tx_cmp (op_neA (room64 hr)) (os_ne rfl) (ex_callD (takes_of rfl rfl rfl rfl) rfl hr D__law_ask (by decide) (ax_cons ex_int (ax_cons (ex_var 3 (pv 3)) ax_nil))) (ex_var 2 (pv 2)) rfl)))) (bx_one (sx_ret ex_bl)) bx_nil) (bx_cons (sx_for (passes_of rfl) rfl (ix_range1 rfl T.n_range (ax_cons ex_int ax_nil)) (tg_name 4 nd (by first | exact .inl rfl | exact .inr rfl)) (bx_cons (sx_set 5 nd (by first | exact .inl rfl | exact .inr rfl) (ex_callD (takes_of rfl rfl rfl rfl) rfl hr D__law_draw (by decide) (ax_cons (ex_var 0 (pv 0)) (ax_cons (ex_var 1 (pv 1)) (ax_cons (ex_op op_addAny os_add (ex_cb call_len (cs_len rfl) rfl T.n_len boot_len (ax_cons (ex_var 3 (pv 3)) ax_nil)) ex_int) ax_nil))))) (bx_cons (sx_set 6 nd (by first | exact .inl rfl | exact .inr rfl) (ex_callD (takes_of rfl rfl rfl rfl) rfl hr D__law_pick (by decide) (ax_cons (ex_var 0 (pv 0)) (ax_cons (ex_var 1 (pv 1)) (ax_cons (ex_lst (ax_cons (ex_str [] rfl) (ax_cons (ex_str [48] rfl) (ax_cons (ex_str [49] rfl) (ax_cons (ex_str [44] rfl) (ax_cons (ex_str [58] rfl) (ax_cons (ex_str [32] rfl) (ax_cons (ex_str [107] rfl) (ax_cons (ex_str [32, 116, 114, 105, 109] rfl) (ax_cons (ex_str [51] rfl) ax_nil)))))))))) ax_nil))))) (bx_cons (sx_set 7 nd (by first | exact .inl rfl | exact .inr rfl) (ex_op op_addAny os_add (ex_op op_addAny os_add (ex_sl rfl (ex_var 3 (pv 3)) ox_none (ox_some (ex_var 5 (pv 5)))) (ex_var 6 (pv 6))) (ex_sl rfl (ex_var 3 (pv 3)) (ox_some (ex_op op_addAny os_add (ex_var 5 (pv 5)) (ex_callD (takes_of rfl rfl rfl rfl) rfl hr D__law_draw (by decide) (ax_cons (ex_var 0 (pv 0)) (ax_cons (ex_var 1 (pv 1)) (ax_cons ex_int ax_nil)))))) ox_none))) (bx_cons (sx_set 8 nd (by first | exact .inl rfl | exact .inr rfl) (ex_callD (takes_of rfl rfl rfl rfl) rfl hr D__law_ask (by decide) (ax_cons ex_int (ax_cons (ex_var 7 (pv 7)) ax_nil)))) (bx_one (sx_if (wx_t (wx_and (tx_cmp (op_neA (room64 hr)) (os_ne rfl) (ex_var 8 (pv 8)) (ex_tup (ax_cons (ex_str [114, 97, 105, 115, 101, 100] rfl) (ax_cons ex_int ax_nil))) rfl) (wx_and1 (wx_t (wx_or (tx_cmp op_isNotA os_isNot (ex_callD (takes_of rfl rfl rfl rfl) rfl hr D_is_style (by decide) (ax_cons (ex_var 8 (pv 8)) ax_nil)) ex_bl rfl) (wx_or1 (tx_cmp (op_neA (room64 hr)) (os_ne rfl) (ex_callD (takes_of rfl rfl rfl rfl) rfl hr D__law_form (by decide) (ax_cons (ex_var 8 (pv 8)) ax_nil)) (ex_var 7 (pv 7)) rfl))))))) (bx_one (sx_ret ex_bl)) bx_nil))))))) (bx_cons (sx_set 9 nd (by first | exact .inl rfl | exact .inr rfl) (ex_lstO (ax_cons (ex_str [] rfl) (ax_cons (ex_str [49, 58] rfl) (ax_cons (ex_str [49, 58, 32, 49] rfl) (ax_cons (ex_str [49, 58, 32, 51, 32, 117, 112] rfl) (ax_cons (ex_str [49, 58, 32, 49, 32, 114, 111, 117, 110, 100] rfl) (ax_cons (ex_str [50, 58, 120, 32, 48, 32, 117, 112] rfl) (ax_cons (ex_str [49, 58, 44, 49, 58, 107, 32, 48, 32, 117, 112] rfl) (ax_cons (ex_str [49, 58, 44, 50, 48, 48, 49, 58, 107, 32, 48, 32, 117, 112] rfl) ax_nil)))))))))) (bx_cons (sx_expr (ex_bm rfl PySem.F.plainAttrs_list PySem.F.slot_list_extend PySem.F.type_list_extend mt_extend mS_extend (ex_var 9 (pv 9)) (ax_cons (ex_lst (ax_cons (ex_str [49, 58, 44, 49, 48, 58, 32, 48, 32, 117, 112] rfl) (ax_cons (ex_str [49, 58, 107, 105, 108, 111, 32, 48, 32, 117, 112] rfl) (ax_cons (ex_str [48, 49, 58, 32, 48, 32, 117, 112] rfl) (ax_cons ex_non (ax_cons ex_int ax_nil)))))) ax_nil))) (bx_cons (sx_expr (ex_bm rfl PySem.F.plainAttrs_list PySem.F.slot_list_extend PySem.F.type_list_extend mt_extend mS_extend (ex_var 9 (pv 9)) (ax_cons (ex_lst (ax_cons (ex_str [49, 58, 32, 48, 49, 32, 117, 112] rfl) (ax_cons (ex_str [49, 58, 32, 49, 32, 117, 112, 32, 112, 114, 111, 109, 111, 116, 101, 32, 116, 114, 105, 109] rfl) (ax_cons (ex_str [49, 58, 32, 49, 32, 117, 112, 32, 116, 114, 105, 109, 32, 116, 114, 105, 109] rfl) (ax_cons (ex_str [49, 58, 32, 49, 32, 117, 112, 32, 32, 116, 114, 105, 109] rfl) (ax_cons (ex_str [32, 49, 58, 32, 49, 32, 117, 112] rfl) ax_nil)))))) ax_nil))) (bx_cons (sx_expr (ex_bm rfl PySem.F.plainAttrs_list PySem.F.slot_list_extend PySem.F.type_list_extend mt_extend mS_extend (ex_var 9 (pv 9)) (ax_cons (ex_lst (ax_cons (ex_str [49, 58, 32, 49, 32, 117, 112, 32] rfl) (ax_cons (ex_str [49, 32, 49, 32, 117, 112] rfl) (ax_cons (ex_str [49, 58, 44, 58, 32, 49, 32, 117, 112] rfl) (ax_cons (ex_str [120, 58, 32, 49, 32, 117, 112] rfl) (ax_cons (ex_lst (ax_cons (ex_str [49, 58, 32, 49, 32, 117, 112] rfl) ax_nil)) ax_nil)))))) ax_nil))) (bx_cons (sx_if (tx_cmp (op_neA (room64 hr)) (os_ne rfl) (ex_lcR rfl rfl nd (ex_var 9 (pv 9)) (own := [("_law_one", 10)]) (blkOk_by (N := ["_law_script", "_law_town", "_law_style_here", "_law_text", "_law_k", "_law_at", "_law_char", "_law_bent", "_law_told", "_law_bad", "_law_one"]) (sc := sp_law.1) (by decide +kernel)) (fun _ _ _ _ _ => (tg_name 10 nd (by first | exact .inl rfl | exact .inr rfl))) (fun _ _ _ _ _ => (ex_callD takes0 rfl hr D__law_ask (by decide) (ax_cons ex_int (ax_cons (ex_var 10 (pv 10)) ax_nil))))) (ex_op op_mulAny os_mul (ex_lst (ax_cons (ex_tup (ax_cons (ex_str [114, 97, 105, 115, 101, 100] rfl) (ax_cons ex_int ax_nil))) ax_nil)) (ex_cb call_len (cs_len rfl) rfl T.n_len boot_len (ax_cons (ex_var 9 (pv 9)) ax_nil))) rfl) (bx_one (sx_ret ex_bl)) bx_nil) (bx_cons (sx_if (tx_cmp (op_neA (room64 hr)) (os_ne rfl) (ex_callD (takes_of rfl rfl rfl rfl) rfl hr D__law_ask (by decide) (ax_cons ex_int (ax_cons (ex_str [49, 58, 44, 49, 48, 48, 48, 58, 107, 32, 50, 32, 101, 118, 101, 110, 32, 116, 114, 105, 109, 32, 112, 114, 111, 109, 111, 116, 101] rfl) ax_nil))) (ex_tup (ax_cons (ex_tup (ax_cons (ex_tup (ax_cons (ex_str [] rfl) (ax_cons ex_int ax_nil))) (ax_cons (ex_tup (ax_cons (ex_str [107] rfl) (ax_cons ex_int ax_nil))) ax_nil))) (ax_cons ex_int (ax_cons (ex_str [101, 118, 101, 110] rfl) (ax_cons ex_bl (ax_cons ex_bl ax_nil)))))) rfl) (bx_one (sx_ret ex_bl)) bx_nil) (bx_one (sx_ret (ex_cmp (op_eqA (room64 hr)) (os_eq rfl) (ex_lc rfl nd (ix_tup (ex_tup (ax_cons ex_non (ax_cons (ex_tup ax_nil) (ax_cons (ex_var 3 (pv 3)) (ax_cons (ex_cty call_list_of (cs_list rfl) rfl T.n_list boot_list (ax_cons (ex_var 2 (pv 2)) ax_nil)) (ax_cons (ex_sl rfl (ex_var 2 (pv 2)) ox_none (ox_some ex_int)) ax_nil))))))) (own := [("_law_one", 10)]) (blkOk_by (N := ["_law_script", "_law_town", "_law_style_here", "_law_text", "_law_k", "_law_at", "_law_char", "_law_bent", "_law_told", "_law_bad", "_law_one"]) (sc := sp_law.1) (by decide +kernel)) (fun _ _ _ _ _ => (tg_name 10 nd (by first | exact .inl rfl | exact .inr rfl))) (fun _ _ _ _ _ => ts_nil) (fun _ _ _ _ _ => (ex_callD takes0 rfl hr D__law_ask (by decide) (ax_cons ex_int (ax_cons (ex_var 10 (pv 10)) ax_nil))))) (ex_op op_mulAny os_mul (ex_lst (ax_cons (ex_tup (ax_cons (ex_str [114, 97, 105, 115, 101, 100] rfl) (ax_cons ex_int ax_nil))) ax_nil)) ex_int) rfl))))))))))))))
end
end Sz

namespace Sz
open PySem PySem.Spec PyProof.Rows L2
theorem all_mk {l : PySem.W.OpenLaw} {w : World} {K : PySem.W.Frag} {h : Heap} {mg : Str → Option Value} {fa : Addr} {f0 f1 f2 f3 f4 f5 f6 f7 f8 f9 f10 f11 f12 f13 f14 f15 f16 : Addr} (X : K.In h) (G : h.Ns mainGlobals mg) (hfa : mg "law" = some (.ref fa))
    {od0 an0 od1 an1 od2 an2 od3 an3 od4 an4 od5 an5 od6 an6 od7 an7 od8 an8 od9 an9 od10 an10 od11 an11 od12 an12 od13 an13 od14 an14 od15 an15 od16 an16 : Option Addr} {sl0 sl1 sl2 sl3 sl4 sl5 sl6 sl7 sl8 sl9 sl10 sl11 sl12 sl13 sl14 sl15 sl16 : Array (Option Value)} {oc0 kV0 dc0 pm0 cd0 ct0 oc1 kV1 dc1 pm1 cd1 ct1 oc2 kV2 dc2 pm2 cd2 ct2 oc3 kV3 dc3 pm3 cd3 ct3 oc4 kV4 dc4 pm4 cd4 ct4 oc5 kV5 dc5 pm5 cd5 ct5 oc6 kV6 dc6 pm6 cd6 ct6 oc7 kV7 dc7 pm7 cd7 ct7 oc8 kV8 dc8 pm8 cd8 ct8 oc9 kV9 dc9 pm9 cd9 ct9 oc10 kV10 dc10 pm10 cd10 ct10 oc11 kV11 dc11 pm11 cd11 ct11 oc12 kV12 dc12 pm12 cd12 ct12 oc13 kV13 dc13 pm13 cd13 ct13 oc14 kV14 dc14 pm14 cd14 ct14 oc15 kV15 dc15 pm15 cd15 ct15 oc16 kV16 dc16 pm16 cd16 ct16 : Value}
    (a0 : PySem.W.nsIn K mainGlobals "_law_draw" = some (some (.ref f0)))
    (l0 : K.lookup f0 = some ⟨oc0, od0, .func (PySem.W.fnOf "_law_draw" "_law_draw" (defArgs s__law_draw) (defBody s__law_draw) (defScope s__law_draw) .none kV0 dc0 pm0 an0 cd0 ct0), sl0⟩)
    (c0 : PySem.W.codeIn K cd0 "_law_draw" = true)
    (k0 : PySem.W.keepIn K (.ref f0) = true)
    (a1 : PySem.W.nsIn K mainGlobals "_law_pick" = some (some (.ref f1)))
    (l1 : K.lookup f1 = some ⟨oc1, od1, .func (PySem.W.fnOf "_law_pick" "_law_pick" (defArgs s__law_pick) (defBody s__law_pick) (defScope s__law_pick) .none kV1 dc1 pm1 an1 cd1 ct1), sl1⟩)
    (c1 : PySem.W.codeIn K cd1 "_law_pick" = true)
    (k1 : PySem.W.keepIn K (.ref f1) = true)
    (a2 : PySem.W.nsIn K mainGlobals "_law_style" = some (some (.ref f2)))
    (l2 : K.lookup f2 = some ⟨oc2, od2, .func (PySem.W.fnOf "_law_style" "_law_style" (defArgs s__law_style) (defBody s__law_style) (defScope s__law_style) .none kV2 dc2 pm2 an2 cd2 ct2), sl2⟩)
    (c2 : PySem.W.codeIn K cd2 "_law_style" = true)
    (k2 : PySem.W.keepIn K (.ref f2) = true)
    (a3 : PySem.W.nsIn K mainGlobals "_law_form" = some (some (.ref f3)))
    (l3 : K.lookup f3 = some ⟨oc3, od3, .func (PySem.W.fnOf "_law_form" "_law_form" (defArgs s__law_form) (defBody s__law_form) (defScope s__law_form) .none kV3 dc3 pm3 an3 cd3 ct3), sl3⟩)
    (c3 : PySem.W.codeIn K cd3 "_law_form" = true)
    (k3 : PySem.W.keepIn K (.ref f3) = true)
    (a4 : PySem.W.nsIn K mainGlobals "is_name" = some (some (.ref f4)))
    (l4 : K.lookup f4 = some ⟨oc4, od4, .func (PySem.W.fnOf "is_name" "is_name" (defArgs s_is_name) (defBody s_is_name) (defScope s_is_name) .none kV4 dc4 pm4 an4 cd4 ct4), sl4⟩)
    (c4 : PySem.W.codeIn K cd4 "is_name" = true)
    (k4 : PySem.W.keepIn K (.ref f4) = true)
    (a5 : PySem.W.nsIn K mainGlobals "is_count" = some (some (.ref f5)))
    (l5 : K.lookup f5 = some ⟨oc5, od5, .func (PySem.W.fnOf "is_count" "is_count" (defArgs s_is_count) (defBody s_is_count) (defScope s_is_count) .none kV5 dc5 pm5 an5 cd5 ct5), sl5⟩)
    (c5 : PySem.W.codeIn K cd5 "is_count" = true)
    (k5 : PySem.W.keepIn K (.ref f5) = true)
    (a6 : PySem.W.nsIn K mainGlobals "is_scale" = some (some (.ref f6)))
    (l6 : K.lookup f6 = some ⟨oc6, od6, .func (PySem.W.fnOf "is_scale" "is_scale" (defArgs s_is_scale) (defBody s_is_scale) (defScope s_is_scale) .none kV6 dc6 pm6 an6 cd6 ct6), sl6⟩)
    (c6 : PySem.W.codeIn K cd6 "is_scale" = true)
    (k6 : PySem.W.keepIn K (.ref f6) = true)
    (a7 : PySem.W.nsIn K mainGlobals "is_style" = some (some (.ref f7)))
    (l7 : K.lookup f7 = some ⟨oc7, od7, .func (PySem.W.fnOf "is_style" "is_style" (defArgs s_is_style) (defBody s_is_style) (defScope s_is_style) .none kV7 dc7 pm7 an7 cd7 ct7), sl7⟩)
    (c7 : PySem.W.codeIn K cd7 "is_style" = true)
    (k7 : PySem.W.keepIn K (.ref f7) = true)
    (a8 : PySem.W.nsIn K mainGlobals "need_style" = some (some (.ref f8)))
    (l8 : K.lookup f8 = some ⟨oc8, od8, .func (PySem.W.fnOf "need_style" "need_style" (defArgs s_need_style) (defBody s_need_style) (defScope s_need_style) .none kV8 dc8 pm8 an8 cd8 ct8), sl8⟩)
    (c8 : PySem.W.codeIn K cd8 "need_style" = true)
    (k8 : PySem.W.keepIn K (.ref f8) = true)
    (a9 : PySem.W.nsIn K mainGlobals "formatted" = some (some (.ref f9)))
    (l9 : K.lookup f9 = some ⟨oc9, od9, .func (PySem.W.fnOf "formatted" "formatted" (defArgs s_formatted) (defBody s_formatted) (defScope s_formatted) .none kV9 dc9 pm9 an9 cd9 ct9), sl9⟩)
    (c9 : PySem.W.codeIn K cd9 "formatted" = true)
    (k9 : PySem.W.keepIn K (.ref f9) = true)
    (a10 : PySem.W.nsIn K mainGlobals "format_style" = some (some (.ref f10)))
    (l10 : K.lookup f10 = some ⟨oc10, od10, .func (PySem.W.fnOf "format_style" "format_style" (defArgs s_format_style) (defBody s_format_style) (defScope s_format_style) .none kV10 dc10 pm10 an10 cd10 ct10), sl10⟩)
    (c10 : PySem.W.codeIn K cd10 "format_style" = true)
    (k10 : PySem.W.keepIn K (.ref f10) = true)
    (a11 : PySem.W.nsIn K mainGlobals "is_digits" = some (some (.ref f11)))
    (l11 : K.lookup f11 = some ⟨oc11, od11, .func (PySem.W.fnOf "is_digits" "is_digits" (defArgs s_is_digits) (defBody s_is_digits) (defScope s_is_digits) .none kV11 dc11 pm11 an11 cd11 ct11), sl11⟩)
    (c11 : PySem.W.codeIn K cd11 "is_digits" = true)
    (k11 : PySem.W.keepIn K (.ref f11) = true)
    (a12 : PySem.W.nsIn K mainGlobals "parsed_unit" = some (some (.ref f12)))
    (l12 : K.lookup f12 = some ⟨oc12, od12, .func (PySem.W.fnOf "parsed_unit" "parsed_unit" (defArgs s_parsed_unit) (defBody s_parsed_unit) (defScope s_parsed_unit) .none kV12 dc12 pm12 an12 cd12 ct12), sl12⟩)
    (c12 : PySem.W.codeIn K cd12 "parsed_unit" = true)
    (k12 : PySem.W.keepIn K (.ref f12) = true)
    (a13 : PySem.W.nsIn K mainGlobals "parse_style" = some (some (.ref f13)))
    (l13 : K.lookup f13 = some ⟨oc13, od13, .func (PySem.W.fnOf "parse_style" "parse_style" (defArgs s_parse_style) (defBody s_parse_style) (defScope s_parse_style) .none kV13 dc13 pm13 an13 cd13 ct13), sl13⟩)
    (c13 : PySem.W.codeIn K cd13 "parse_style" = true)
    (k13 : PySem.W.keepIn K (.ref f13) = true)
    (a14 : PySem.W.nsIn K mainGlobals "_law_which" = some (some (.ref f14)))
    (l14 : K.lookup f14 = some ⟨oc14, od14, .func (PySem.W.fnOf "_law_which" "_law_which" (defArgs s__law_which) (defBody s__law_which) (defScope s__law_which) .none kV14 dc14 pm14 an14 cd14 ct14), sl14⟩)
    (c14 : PySem.W.codeIn K cd14 "_law_which" = true)
    (k14 : PySem.W.keepIn K (.ref f14) = true)
    (a15 : PySem.W.nsIn K mainGlobals "_law_ask" = some (some (.ref f15)))
    (l15 : K.lookup f15 = some ⟨oc15, od15, .func (PySem.W.fnOf "_law_ask" "_law_ask" (defArgs s__law_ask) (defBody s__law_ask) (defScope s__law_ask) .none kV15 dc15 pm15 an15 cd15 ct15), sl15⟩)
    (c15 : PySem.W.codeIn K cd15 "_law_ask" = true)
    (k15 : PySem.W.keepIn K (.ref f15) = true)
    (a16 : PySem.W.nsIn K mainGlobals "law" = some (some (.ref f16)))
    (l16 : K.lookup f16 = some ⟨oc16, od16, .func (PySem.W.fnOf "law" "law" (defArgs s_law) (defBody s_law) (defScope s_law) .none kV16 dc16 pm16 an16 cd16 ct16), sl16⟩)
    (c16 : PySem.W.codeIn K cd16 "law" = true)
    (k16 : PySem.W.keepIn K (.ref f16) = true)
    (z_range : PySem.W.nsIn K mainGlobals "range" = some none)
    (z_len : PySem.W.nsIn K mainGlobals "len" = some none)
    (z_list : PySem.W.nsIn K mainGlobals "list" = some none)
    (z_tuple : PySem.W.nsIn K mainGlobals "tuple" = some none)
    (z_zip : PySem.W.nsIn K mainGlobals "zip" = some none)
    (z_str : PySem.W.nsIn K mainGlobals "str" = some none)
    (z_isinstance : PySem.W.nsIn K mainGlobals "isinstance" = some none)
    (z_bool : PySem.W.nsIn K mainGlobals "bool" = some none)
    (z_all : PySem.W.nsIn K mainGlobals "all" = some none)
    (z_set : PySem.W.nsIn K mainGlobals "set" = some none)
    (z_int : PySem.W.nsIn K mainGlobals "int" = some none)
    (z_ValueError : PySem.W.nsIn K mainGlobals "ValueError" = some none)
    {t_MODES : Addr} {o_MODES : Obj} {i_MODES : Array Value} {n_MODES : Nat} (v_MODES : PySem.W.nsIn K mainGlobals "MODES" = some (some (.ref t_MODES))) (w_MODES : K.lookup t_MODES = some o_MODES) (y_MODES : o_MODES.cls = .type "tuple" ∧ o_MODES.data = .seq i_MODES n_MODES ∧ i_MODES.size ≤ sizeLine ∧ Vals (([[100, 111, 119, 110], [117, 112], [104, 97, 108, 102], [101, 118, 101, 110]] : List (List Nat)).map fun z => V.str ⟨z.toArray⟩) i_MODES.toList)
    {t_UNITS : Tok} (v_UNITS : PySem.W.nsIn K mainGlobals "UNITS" = some (some (.int 5 t_UNITS)))
    {t_RATIO : Tok} (v_RATIO : PySem.W.nsIn K mainGlobals "RATIO" = some (some (.int 2000 t_RATIO)))
    {t_LETTERS : Tok} (v_LETTERS : PySem.W.nsIn K mainGlobals "LETTERS" = some (some (.str "abcdefghijklmnopqrstuvwxyzABCDEFGHIJKLMNOPQRSTUVWXYZ" t_LETTERS)))
    {t_DIGITS : Tok} (v_DIGITS : PySem.W.nsIn K mainGlobals "DIGITS" = some (some (.str "0123456789" t_DIGITS)))
    {C_InvalidStyle : Addr}
    (gx_InvalidStyle : PySem.W.nsIn K mainGlobals "InvalidStyle" = some (some (.ref C_InvalidStyle)))
    {C_InvalidFormat : Addr}
    (gx_InvalidFormat : PySem.W.nsIn K mainGlobals "InvalidFormat" = some (some (.ref C_InvalidFormat)))
    {C_SizeError : Addr}
    (gx_SizeError : PySem.W.nsIn K mainGlobals "SizeError" = some (some (.ref C_SizeError)))
    {C_InvalidNumber : Addr}
    (gx_InvalidNumber : PySem.W.nsIn K mainGlobals "InvalidNumber" = some (some (.ref C_InvalidNumber)))
    {C_InvalidText : Addr}
    (gx_InvalidText : PySem.W.nsIn K mainGlobals "InvalidText" = some (some (.ref C_InvalidText)))
    {C_NothingThere : Addr}
    (gx_NothingThere : PySem.W.nsIn K mainGlobals "NothingThere" = some (some (.ref C_NothingThere)))
    (kx_InvalidStyle : PySem.W.keepIn K (.ref C_InvalidStyle) = true)
    (qx_InvalidStyle : PySem.W.excIn K C_InvalidStyle [.type "ValueError", .type "Exception", .type "BaseException", .type "object"] "ValueError.__new__" = true)
    (bx_InvalidStyle : PySem.W.subIn K (.ref C_InvalidStyle) (.type "BaseException") = some true)
    (tx_InvalidStyle : PySem.W.typeIn K (.ref C_InvalidStyle) = some (.type "type"))
    (kx_InvalidFormat : PySem.W.keepIn K (.ref C_InvalidFormat) = true)
    (qx_InvalidFormat : PySem.W.excIn K C_InvalidFormat [.type "ValueError", .type "Exception", .type "BaseException", .type "object"] "ValueError.__new__" = true)
    (bx_InvalidFormat : PySem.W.subIn K (.ref C_InvalidFormat) (.type "BaseException") = some true)
    (tx_InvalidFormat : PySem.W.typeIn K (.ref C_InvalidFormat) = some (.type "type"))
    (e1_0 : PySem.W.findIn K (.ref C_InvalidStyle) "__getattribute__" = some (some (.builtin "BaseException.__getattribute__")))
    (e1_1 : PySem.W.findIn K (.ref C_InvalidStyle) "__getattr__" = some none)
    (e1_2 : PySem.W.subIn K (.ref C_InvalidStyle) (.type "BaseException") = some true)
    (e1_3 : PySem.W.hasDictIn K C_InvalidStyle = true)
    (e1_4 : PySem.W.findIn K (.ref C_InvalidStyle) "__class__" = some (some (.builtin "object.__class__")))
    (e1_5 : PySem.W.mroIn K C_InvalidStyle (.type "object") = some true)
    (w1_InvalidStyle : PySem.W.kitOne K (.ref C_InvalidStyle) (.ref C_InvalidStyle) = some true)
    (w1_InvalidNumber : PySem.W.kitOne K (.ref C_InvalidStyle) (.ref C_InvalidNumber) = some false)
    (w1_InvalidText : PySem.W.kitOne K (.ref C_InvalidStyle) (.ref C_InvalidText) = some false)
    (w1_NothingThere : PySem.W.kitOne K (.ref C_InvalidStyle) (.ref C_NothingThere) = some false)
    (w1_InvalidFormat : PySem.W.kitOne K (.ref C_InvalidStyle) (.ref C_InvalidFormat) = some false)
    (w1_v : PySem.W.kitOne K (.ref C_InvalidStyle) (.type "ValueError") = some true)
    (w1_s : PySem.W.exmOne K (.ref C_InvalidStyle) (.ref C_SizeError) = some true)
    (e5_0 : PySem.W.findIn K (.ref C_InvalidFormat) "__getattribute__" = some (some (.builtin "BaseException.__getattribute__")))
    (e5_1 : PySem.W.findIn K (.ref C_InvalidFormat) "__getattr__" = some none)
    (e5_2 : PySem.W.subIn K (.ref C_InvalidFormat) (.type "BaseException") = some true)
    (e5_3 : PySem.W.hasDictIn K C_InvalidFormat = true)
    (e5_4 : PySem.W.findIn K (.ref C_InvalidFormat) "__class__" = some (some (.builtin "object.__class__")))
    (e5_5 : PySem.W.mroIn K C_InvalidFormat (.type "object") = some true)
    (w5_InvalidStyle : PySem.W.kitOne K (.ref C_InvalidFormat) (.ref C_InvalidStyle) = some false)
    (w5_InvalidNumber : PySem.W.kitOne K (.ref C_InvalidFormat) (.ref C_InvalidNumber) = some false)
    (w5_InvalidText : PySem.W.kitOne K (.ref C_InvalidFormat) (.ref C_InvalidText) = some false)
    (w5_NothingThere : PySem.W.kitOne K (.ref C_InvalidFormat) (.ref C_NothingThere) = some false)
    (w5_InvalidFormat : PySem.W.kitOne K (.ref C_InvalidFormat) (.ref C_InvalidFormat) = some true)
    (w5_v : PySem.W.kitOne K (.ref C_InvalidFormat) (.type "ValueError") = some true)
    (w5_s : PySem.W.exmOne K (.ref C_InvalidFormat) (.ref C_SizeError) = some true)
    (e_n : PySem.W.specialIn K (.builtin "object.__class__") "__get__" = some (some (.builtin "getset_descriptor.__get__")))
    (e_t : PySem.W.takesIn K (.builtin "object.__class__") = some true)
    (hm : ∀ ns : List Int, ns.length ≤ 63 → ∃ m, m_law [.scr ns] [] = .ok (.bl true) m) :
    ∃ fd : FuncData, (∀ (s : Shared) (v : Value), BindsTo s fd ⟨[v], []⟩ [("_law_script", v)]) ∧ ∀ base : Heap, K.In base → base.Ns mainGlobals mg → FnOk l.prog w K mg base (L2.CX l.prog w) 7 fa fd ["_law_script"] (spLaw K) := by
  have e := hfa.symm.trans (PySem.W.mg_of X G a16)
  cases e
  have T : Tx ⟨K, 0, fun n => if n = 1 then .ref C_InvalidStyle else if n = 5 then .ref C_InvalidFormat else .none⟩ mg := ⟨PySem.W.mg_none_of X G z_range, PySem.W.mg_none_of X G z_len, PySem.W.mg_none_of X G z_list, PySem.W.mg_none_of X G z_tuple, PySem.W.mg_none_of X G z_zip, PySem.W.mg_none_of X G z_str, PySem.W.mg_none_of X G z_isinstance, PySem.W.mg_none_of X G z_bool, PySem.W.mg_none_of X G z_all, PySem.W.mg_none_of X G z_set, PySem.W.mg_none_of X G z_int, PySem.W.mg_none_of X G z_ValueError, ⟨_, _, _, _, PySem.W.mg_of X G v_MODES, w_MODES, y_MODES⟩, ⟨_, PySem.W.mg_of X G v_UNITS⟩, ⟨_, PySem.W.mg_of X G v_RATIO⟩, ⟨_, PySem.W.mg_of X G v_LETTERS⟩, ⟨_, PySem.W.mg_of X G v_DIGITS⟩, ⟨_, by simp, PySem.W.mg_of X G gx_InvalidStyle, kx_InvalidStyle, qx_InvalidStyle, bx_InvalidStyle, tx_InvalidStyle⟩, ⟨_, by simp, PySem.W.mg_of X G gx_InvalidFormat, kx_InvalidFormat, qx_InvalidFormat, bx_InvalidFormat, tx_InvalidFormat⟩⟩
  have F0 := fun_mk (st := s__law_draw) l0 c0 k0
  have B0 := F0.binds (ps := ["_law_script", "_law_town", "_law_many"]) fun _ _ _ _ _ _ us hl => match us, hl with | [_, _, _], _ => rfl
  have F1 := fun_mk (st := s__law_pick) l1 c1 k1
  have B1 := F1.binds (ps := ["_law_script", "_law_town", "_law_some"]) fun _ _ _ _ _ _ us hl => match us, hl with | [_, _, _], _ => rfl
  have F2 := fun_mk (st := s__law_style) l2 c2 k2
  have B2 := F2.binds (ps := ["_law_script", "_law_town", "_law_most"]) fun _ _ _ _ _ _ us hl => match us, hl with | [_, _, _], _ => rfl
  have F3 := fun_mk (st := s__law_form) l3 c3 k3
  have B3 := F3.binds (ps := ["_law_style_here"]) fun _ _ _ _ _ _ us hl => match us, hl with | [_], _ => rfl
  have F4 := fun_mk (st := s_is_name) l4 c4 k4
  have B4 := F4.binds (ps := ["value"]) fun _ _ _ _ _ _ us hl => match us, hl with | [_], _ => rfl
  have F5 := fun_mk (st := s_is_count) l5 c5 k5
  have B5 := F5.binds (ps := ["value", "least", "most"]) fun _ _ _ _ _ _ us hl => match us, hl with | [_, _, _], _ => rfl
  have F6 := fun_mk (st := s_is_scale) l6 c6 k6
  have B6 := F6.binds (ps := ["value"]) fun _ _ _ _ _ _ us hl => match us, hl with | [_], _ => rfl
  have F7 := fun_mk (st := s_is_style) l7 c7 k7
  have B7 := F7.binds (ps := ["value"]) fun _ _ _ _ _ _ us hl => match us, hl with | [_], _ => rfl
  have F8 := fun_mk (st := s_need_style) l8 c8 k8
  have B8 := F8.binds (ps := ["value"]) fun _ _ _ _ _ _ us hl => match us, hl with | [_], _ => rfl
  have F9 := fun_mk (st := s_formatted) l9 c9 k9
  have B9 := F9.binds (ps := ["style"]) fun _ _ _ _ _ _ us hl => match us, hl with | [_], _ => rfl
  have F10 := fun_mk (st := s_format_style) l10 c10 k10
  have B10 := F10.binds (ps := ["style"]) fun _ _ _ _ _ _ us hl => match us, hl with | [_], _ => rfl
  have F11 := fun_mk (st := s_is_digits) l11 c11 k11
  have B11 := F11.binds (ps := ["text"]) fun _ _ _ _ _ _ us hl => match us, hl with | [_], _ => rfl
  have F12 := fun_mk (st := s_parsed_unit) l12 c12 k12
  have B12 := F12.binds (ps := ["text"]) fun _ _ _ _ _ _ us hl => match us, hl with | [_], _ => rfl
  have F13 := fun_mk (st := s_parse_style) l13 c13 k13
  have B13 := F13.binds (ps := ["text"]) fun _ _ _ _ _ _ us hl => match us, hl with | [_], _ => rfl
  have F14 := fun_mk (st := s__law_which) l14 c14 k14
  have B14 := F14.binds (ps := ["_law_error"]) fun _ _ _ _ _ _ us hl => match us, hl with | [_], _ => rfl
  have F15 := fun_mk (st := s__law_ask) l15 c15 k15
  have B15 := F15.binds (ps := ["_law_what", "_law_value"]) fun _ _ _ _ _ _ us hl => match us, hl with | [_, _], _ => rfl
  have F16 := fun_mk (st := s_law) l16 c16 k16
  refine ⟨PySem.W.fnOf "law" "law" (defArgs s_law) (defBody s_law) (defScope s_law) .none kV16 dc16 pm16 an16 cd16 ct16, fun s v => .of_eq rfl, fun base _ _ => law_ok (c := ⟨K, 0, fun n => if n = 1 then .ref C_InvalidStyle else if n = 5 then .ref C_InvalidFormat else .none⟩) (g := m_law) ?_ hm⟩
  have D0 := df__law_draw (P := l.prog) (w := w) (base := base) T F0 (PySem.W.mg_of X G a0) B0
  have D1 := df__law_pick (P := l.prog) (w := w) (base := base) T F1 (PySem.W.mg_of X G a1) B1 D0
  have D2 := df__law_style (P := l.prog) (w := w) (base := base) T F2 (PySem.W.mg_of X G a2) B2 D0 D1
  have D3 := df__law_form (P := l.prog) (w := w) (base := base) T F3 (PySem.W.mg_of X G a3) B3
  have D4 := df_is_name (P := l.prog) (w := w) (base := base) T F4 (PySem.W.mg_of X G a4) B4
  have D5 := df_is_count (P := l.prog) (w := w) (base := base) T F5 (PySem.W.mg_of X G a5) B5
  have D6 := df_is_scale (P := l.prog) (w := w) (base := base) T F6 (PySem.W.mg_of X G a6) B6 D4 D5
  have D7 := df_is_style (P := l.prog) (w := w) (base := base) T F7 (PySem.W.mg_of X G a7) B7 D6 D5
  have D8 := df_need_style (P := l.prog) (w := w) (base := base) T F8 (PySem.W.mg_of X G a8) B8 D7
  have D9 := df_formatted (P := l.prog) (w := w) (base := base) T F9 (PySem.W.mg_of X G a9) B9
  have D10 := df_format_style (P := l.prog) (w := w) (base := base) T F10 (PySem.W.mg_of X G a10) B10 D8 D9
  have D11 := df_is_digits (P := l.prog) (w := w) (base := base) T F11 (PySem.W.mg_of X G a11) B11
  have D12 := df_parsed_unit (P := l.prog) (w := w) (base := base) T F12 (PySem.W.mg_of X G a12) B12 D11
  have D13 := df_parse_style (P := l.prog) (w := w) (base := base) T F13 (PySem.W.mg_of X G a13) B13 D11 D12 D7 D9
  have Z1 := df__law_which (P := l.prog) (w := w) (base := base) T F14 (PySem.W.mg_of X G a14) k14 B14 1 ⟨_, rfl, ⟨e1_0, e1_1, e1_2, e1_3, e1_4, e_n, e_t, e1_5⟩⟩ ⟨_, _, rfl, PySem.W.mg_of X G gx_InvalidStyle, w1_InvalidStyle⟩ ⟨_, _, rfl, PySem.W.mg_of X G gx_InvalidNumber, w1_InvalidNumber⟩ ⟨_, _, rfl, PySem.W.mg_of X G gx_InvalidText, w1_InvalidText⟩ ⟨_, _, rfl, PySem.W.mg_of X G gx_NothingThere, w1_NothingThere⟩ ⟨_, _, rfl, PySem.W.mg_of X G gx_InvalidFormat, w1_InvalidFormat⟩ ⟨_, rfl, w1_v⟩
  have Z5 := df__law_which (P := l.prog) (w := w) (base := base) T F14 (PySem.W.mg_of X G a14) k14 B14 5 ⟨_, rfl, ⟨e5_0, e5_1, e5_2, e5_3, e5_4, e_n, e_t, e5_5⟩⟩ ⟨_, _, rfl, PySem.W.mg_of X G gx_InvalidStyle, w5_InvalidStyle⟩ ⟨_, _, rfl, PySem.W.mg_of X G gx_InvalidNumber, w5_InvalidNumber⟩ ⟨_, _, rfl, PySem.W.mg_of X G gx_InvalidText, w5_InvalidText⟩ ⟨_, _, rfl, PySem.W.mg_of X G gx_NothingThere, w5_NothingThere⟩ ⟨_, _, rfl, PySem.W.mg_of X G gx_InvalidFormat, w5_InvalidFormat⟩ ⟨_, rfl, w5_v⟩
  have TW : WhD l.prog w ⟨K, 0, fun n => if n = 1 then .ref C_InvalidStyle else if n = 5 then .ref C_InvalidFormat else .none⟩ mg base "SizeError" "_law_which" 1 ok_which m__law_which := ⟨_, PySem.W.mg_of X G gx_SizeError, which_of fun k hk => by
    rcases hk with rfl | rfl
    · exact ⟨_, rfl, w1_s, Z1, fun a m mb => which_e (by simp) mb⟩
    · exact ⟨_, rfl, w5_s, Z5, fun a m mb => which_e (by simp) mb⟩⟩
  have D15 := df__law_ask (P := l.prog) (w := w) (base := base) T F15 (PySem.W.mg_of X G a15) B15 D10 D13 TW
  exact fn_law (P := l.prog) (w := w) (base := base) T F16 D2 D3 D15 D0 D1 D7
end Sz

namespace Sz
open PySem PySem.Spec PyProof.Rows L2
theorem law_true : ∀ ns : List Int, ns.length ≤ 63 → ∃ m, m_law [.scr ns] [] = .ok (.bl true) m := fun ns _ => law_main ns
end Sz
open PySem PySem.W PyProof.Rows
set_option maxRecDepth 100000 in
set_option maxHeartbeats 0 in
theorem PySem.Challenge.cw_sizewords_k11_whole_formats_holds : PySem.Challenge.rw_sizewords_k11_whole_formats.Holds := by
  w_on; o_law; k_head; (case hw => w_witness2)
  k_fill
  refine Sz.walk_ofX (l := PySem.Challenge.rw_sizewords_k11_whole_formats) (n := 63) (k := 7) (x := "_law_script") rfl rfl ⟨rfl, by decide, by decide⟩ (fun w h Y => PySem.W.kIn_of Y) ?F
  case F =>
    intro w mg fa h KX G LX hmg
    refine' Sz.all_mk KX G hmg ?a0 ?l0 ?c0 ?k0 ?a1 ?l1 ?c1 ?k1 ?a2 ?l2 ?c2 ?k2 ?a3 ?l3 ?c3 ?k3 ?a4 ?l4 ?c4 ?k4 ?a5 ?l5 ?c5 ?k5 ?a6 ?l6 ?c6 ?k6 ?a7 ?l7 ?c7 ?k7 ?a8 ?l8 ?c8 ?k8 ?a9 ?l9 ?c9 ?k9 ?a10 ?l10 ?c10 ?k10 ?a11 ?l11 ?c11 ?k11 ?a12 ?l12 ?c12 ?k12 ?a13 ?l13 ?c13 ?k13 ?a14 ?l14 ?c14 ?k14 ?a15 ?l15 ?c15 ?k15 ?a16 ?l16 ?c16 ?k16 ?z_range ?z_len ?z_list ?z_tuple ?z_zip ?z_str ?z_isinstance ?z_bool ?z_all ?z_set ?z_int ?z_ValueError ?v_MODES ?w_MODES ?y_MODES ?v_UNITS ?v_RATIO ?v_LETTERS ?v_DIGITS ?gx_InvalidStyle ?gx_InvalidFormat ?gx_SizeError ?gx_InvalidNumber ?gx_InvalidText ?gx_NothingThere ?kx_InvalidStyle ?qx_InvalidStyle ?bx_InvalidStyle ?tx_InvalidStyle ?kx_InvalidFormat ?qx_InvalidFormat ?bx_InvalidFormat ?tx_InvalidFormat ?e1_0 ?e1_1 ?e1_2 ?e1_3 ?e1_4 ?e1_5 ?w1_InvalidStyle ?w1_InvalidNumber ?w1_InvalidText ?w1_NothingThere ?w1_InvalidFormat ?w1_v ?w1_s ?e5_0 ?e5_1 ?e5_2 ?e5_3 ?e5_4 ?e5_5 ?w5_InvalidStyle ?w5_InvalidNumber ?w5_InvalidText ?w5_NothingThere ?w5_InvalidFormat ?w5_v ?w5_s ?e_n ?e_t Sz.law_true
    (case a0 => k_is)
    (case l0 => k_is)
    (case c0 => k_is)
    (case k0 => k_is)
    (case a1 => k_is)
    (case l1 => k_is)
    (case c1 => k_is)
    (case k1 => k_is)
    (case a2 => k_is)
    (case l2 => k_is)
    (case c2 => k_is)
    (case k2 => k_is)
    (case a3 => k_is)
    (case l3 => k_is)
    (case c3 => k_is)
    (case k3 => k_is)
    (case a4 => k_is)
    (case l4 => k_is)
    (case c4 => k_is)
    (case k4 => k_is)
    (case a5 => k_is)
    (case l5 => k_is)
    (case c5 => k_is)
    (case k5 => k_is)
    (case a6 => k_is)
    (case l6 => k_is)
    (case c6 => k_is)
    (case k6 => k_is)
    (case a7 => k_is)
    (case l7 => k_is)
    (case c7 => k_is)
    (case k7 => k_is)
    (case a8 => k_is)
    (case l8 => k_is)
    (case c8 => k_is)
    (case k8 => k_is)
    (case a9 => k_is)
    (case l9 => k_is)
    (case c9 => k_is)
    (case k9 => k_is)
    (case a10 => k_is)
    (case l10 => k_is)
    (case c10 => k_is)
    (case k10 => k_is)
    (case a11 => k_is)
    (case l11 => k_is)
    (case c11 => k_is)
    (case k11 => k_is)
    (case a12 => k_is)
    (case l12 => k_is)
    (case c12 => k_is)
    (case k12 => k_is)
    (case a13 => k_is)
    (case l13 => k_is)
    (case c13 => k_is)
    (case k13 => k_is)
    (case a14 => k_is)
    (case l14 => k_is)
    (case c14 => k_is)
    (case k14 => k_is)
    (case a15 => k_is)
    (case l15 => k_is)
    (case c15 => k_is)
    (case k15 => k_is)
    (case a16 => k_is)
    (case l16 => k_is)
    (case c16 => k_is)
    (case k16 => k_is)
    (case z_range => k_is)
    (case z_len => k_is)
    (case z_list => k_is)
    (case z_tuple => k_is)
    (case z_zip => k_is)
    (case z_str => k_is)
    (case z_isinstance => k_is)
    (case z_bool => k_is)
    (case z_all => k_is)
    (case z_set => k_is)
    (case z_int => k_is)
    (case z_ValueError => k_is)
    (case v_MODES => k_is)
    (case w_MODES => k_is)
    (case y_MODES => exact ⟨rfl, rfl, by decide, .cons ⟨_, rfl⟩ (.cons ⟨_, rfl⟩ (.cons ⟨_, rfl⟩ (.cons ⟨_, rfl⟩ (.nil))))⟩)
    (case v_UNITS => k_is)
    (case v_RATIO => k_is)
    (case v_LETTERS => k_is)
    (case v_DIGITS => k_is)
    (case gx_InvalidStyle => k_is)
    (case gx_InvalidFormat => k_is)
    (case gx_SizeError => k_is)
    (case gx_InvalidNumber => k_is)
    (case gx_InvalidText => k_is)
    (case gx_NothingThere => k_is)
    (case kx_InvalidStyle => k_is)
    (case qx_InvalidStyle => k_exc)
    (case bx_InvalidStyle => k_is)
    (case tx_InvalidStyle => k_is)
    (case kx_InvalidFormat => k_is)
    (case qx_InvalidFormat => k_exc)
    (case bx_InvalidFormat => k_is)
    (case tx_InvalidFormat => k_is)
    (case e1_0 => k_is)
    (case e1_1 => k_is)
    (case e1_2 => k_is)
    (case e1_3 => k_is)
    (case e1_4 => k_is)
    (case e1_5 => k_is)
    (case w1_InvalidStyle => kit_is)
    (case w1_InvalidNumber => kit_is)
    (case w1_InvalidText => kit_is)
    (case w1_NothingThere => kit_is)
    (case w1_InvalidFormat => kit_is)
    (case w1_v => kit_is)
    (case w1_s => kts_exm)
    (case e5_0 => k_is)
    (case e5_1 => k_is)
    (case e5_2 => k_is)
    (case e5_3 => k_is)
    (case e5_4 => k_is)
    (case e5_5 => k_is)
    (case w5_InvalidStyle => kit_is)
    (case w5_InvalidNumber => kit_is)
    (case w5_InvalidText => kit_is)
    (case w5_NothingThere => kit_is)
    (case w5_InvalidFormat => kit_is)
    (case w5_v => kit_is)
    (case w5_s => kts_exm)
    (case e_n => k_is)
    (case e_t => k_is)
